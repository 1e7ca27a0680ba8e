import PyProof.Rows.All
import Wide.All
import OpenK.AllK
import Wide.FinOn
import HandS.ForMost
import HandS.ForExc
import HandS.Codes
import HandS.More
import HandS.Conv
import HandS.SortInts
import HandS.RevRange
import HandS.TupAny
import HandS.Deep
import HandS.IsInst
import KE.DataMinMax
import HandS.ExcIs
import HandS.TryOnly
import HandS.TryMany
import HandS.Nested
import HandS.EndTab
import KE.KDflt
import KE.KNestM
import HandS.SortKw
import KE.SortKeyHeap
import HandS.SetFor
import HandS.Strs
import HandS.Walk
import PyProof.Rows.TupDisplay
import HandS.TupSets
import KE.SortData
import KE.RegKIsAll
import PySem.Challenge.RW_insidecount_k07_whole_all_stories
set_option Elab.async false
set_option linter.all false
set_option maxRecDepth 100000
set_option maxHeartbeats 4000000
namespace IC
open PySem L2

/-! ### heaps -/
/-- all that was tracked, but what lies at fp, is as it was -/
def Keeps (fp : List Addr) (H H' : Hp) : Prop := ∀ a o, H a = some o → a ∉ fp → H' a = some o
theorem Keeps.refl (fp : List Addr) (H : Hp) : Keeps fp H H := fun _ _ h _ => h
theorem Keeps.trans {fp : List Addr} {H H1 H2 : Hp} (a : Keeps fp H H1) (b : Keeps fp H1 H2) : Keeps fp H H2 := fun c o h n => b c o (a c o h n) n
theorem Keeps.of_same {fp : List Addr} {H H' : Hp} (s : Same H H') : Keeps fp H H' := fun a o h _ => s a o h
theorem Keeps.mono {fp fq : List Addr} {H H' : Hp} (k : Keeps fp H H') (h : ∀ a ∈ fp, a ∈ fq) : Keeps fq H H' := fun a o e n => k a o e fun z => n (h a z)
theorem Keeps.upd {fp : List Addr} {H H' : Hp} {p : Addr} {o : HO} (k : Keeps fp H H') (h : p ∈ fp) : Keeps fp H (L2.upd H' p o) := fun a u e n => by
  rw [upd_ne (fun z => n (by rw [z]; exact h))]
  exact k a u e n
theorem Keeps.updNew {fp : List Addr} {H H' : Hp} {p : Addr} {o : HO} (k : Keeps fp H H') (h : H p = none) : Keeps fp H (L2.upd H' p o) := fun a u e n => by
  rw [upd_ne (ne_of_none e h)]
  exact k a u e n
theorem Keeps.free {fp : List Addr} {H H' : Hp} (k : Keeps fp H H') {p : Addr} (hp : p ∉ fp) (h : H' p = none) : H p = none := by
  cases q : H p with
  | none => rfl
  | some o =>
    rw [k p o q hp] at h
    cases h
theorem Keeps.nil {H H' : Hp} (k : Keeps [] H H') : Same H H' := fun a o h => k a o h (by simp)
theorem Same.new {H : Hp} {p : Addr} {o : HO} (h : H p = none) : Same H (L2.upd H p o) := fun a u e => by
  rw [upd_ne (ne_of_none e h)]
  exact e
/-- an object that H does not know may change -/
theorem Same.mut {H H' : Hp} {p : Addr} {o : HO} (e : Same H H') (h : H p = none) : Same H (L2.upd H' p o) := fun a u ha => by
  rw [upd_ne (ne_of_none ha h)]
  exact e a u ha
theorem Same.rd {H H' : Hp} {a : Addr} {u : HO} (e : Same H H') (h : Rd H a u) : Rd H' a u := by
  rcases h with h | ⟨o, h⟩
  · exact Or.inl (e a _ h)
  · exact Or.inr ⟨o, e a _ h⟩
theorem Same.tp {K : PySem.W.Frag} {H H' : Hp} {a : Addr} {xs : List V} (e : Same H H') (h : SqT K H a xs) : SqT K H' a xs := by
  rcases h with h | h
  · exact Or.inl (Same.rd e h)
  · exact Or.inr h
/-- tuples stay -/
def TupS (H H' : Hp) : Prop := ∀ a xs, H a = some (.tup xs) → H' a = some (.tup xs)
theorem TupS.refl (H : Hp) : TupS H H := fun _ _ h => h
theorem TupS.trans {H H1 H2 : Hp} (a : TupS H H1) (b : TupS H1 H2) : TupS H H2 := fun c o h => b c o (a c o h)
theorem TupS.of_same {H H' : Hp} (s : Same H H') : TupS H H' := fun a xs h => s a _ h
theorem TupS.upd {H H' : Hp} {p : Addr} {o : HO} (t : TupS H H') (h : ∀ xs, H' p ≠ some (.tup xs)) : TupS H (L2.upd H' p o) := fun a xs e => by
  by_cases hp : a = p
  · subst hp
    exact absurd (t a xs e) (h xs)
  · rw [upd_ne hp]
    exact t a xs e
theorem sz {n : Nat} (h : n ≤ 1000000) : n ≤ sizeLine := Nat.le_trans h (by decide)
theorem szl {n : Nat} (h : n < 1000000) : n < sizeLine := Nat.lt_of_lt_of_le h (by decide)

/-! ### lists of things told one by one -/
section
variable {α β γ : Type} {R S : α → β → Prop}
theorem Paired.get : ∀ {xs : List α} {ys : List β} {i : Nat} {y : β}, Paired R xs ys → ys[i]? = some y → ∃ x, xs[i]? = some x ∧ R x y
  | _, _, _, _, .nil, e => by simp at e
  | _, _, 0, _, .cons r _, e => by simp at e; subst e; exact ⟨_, rfl, r⟩
  | _, _, i + 1, y, .cons _ t, e => by
    obtain ⟨u, h1, h2⟩ := Paired.get (i := i) (y := y) t (by simpa using e)
    exact ⟨u, by simpa using h1, h2⟩
theorem Paired.getL : ∀ {xs : List α} {ys : List β} {i : Nat} {x : α}, Paired R xs ys → xs[i]? = some x → ∃ y, ys[i]? = some y ∧ R x y
  | _, _, _, _, .nil, e => by simp at e
  | _, _, 0, _, .cons r _, e => by simp at e; subst e; exact ⟨_, rfl, r⟩
  | _, _, i + 1, y, .cons _ t, e => by
    obtain ⟨u, h1, h2⟩ := Paired.getL (i := i) (x := y) t (by simpa using e)
    exact ⟨u, by simpa using h1, h2⟩
theorem Paired.append : ∀ {xs : List α} {ys : List β} {zs : List α} {ws : List β}, Paired R xs ys → Paired R zs ws → Paired R (xs ++ zs) (ys ++ ws)
  | _, _, _, _, .nil, h => h
  | _, _, _, _, .cons r t, h => .cons r (Paired.append t h)
end
/-- refs to tuples -/
def IsTupV (H : Hp) (v : V) (d : List V) : Prop := ∃ a, v = .ref a ∧ H a = some (.tup d)
theorem IsTupV.mono {H H' : Hp} {v : V} {d : List V} (t : TupS H H') (h : IsTupV H v d) : IsTupV H' v d := by
  obtain ⟨a, e, h⟩ := h
  exact ⟨a, e, t a d h⟩
abbrev TupsAt (H : Hp) (xs : List V) (ds : List (List V)) : Prop := Paired (IsTupV H) xs ds
theorem TupsAt.mono {H H' : Hp} {xs : List V} {ds : List (List V)} (t : TupS H H') (h : TupsAt H xs ds) : TupsAt H' xs ds := Paired.mapP h fun _ _ r => r.mono t

/-! ### rules that name the written part, with that part told (within a comprehension) -/
section
variable {X : Cx} {K : PySem.W.Frag} {w : World}
theorem ix_listK (hK : X.K = K := by rfl) : IxR X (rIxL K) := by subst hK; exact ix_list
theorem ix_tupK (hK : X.K = K := by rfl) : IxR X (rIxT K) := by subst hK; exact ix_tup
theorem pg_tupK {es : List Expr} {k : Nat} {t : TGs} {n : Nat} {pos : Pos} (hc : X.calm = true) (h : PGs X es t) (hK : X.K = K := by rfl)
    (hn : (assignEach es X.env).length = n := by rfl) (hst : (assignEach es X.env).findIdx? (·.1) = none := by rfl) : PG X (.Tuple es k pos) (gTup K n t) := by subst hK; exact pg_tup hc h hn hst
theorem ix_seqK (hK : X.K = K := by rfl) : IxR X (rIx K) := by subst hK; exact ix_seq
theorem call_isi1K (hK : X.K = K := by rfl) : CallR X (.builtin "isinstance") (rIsi K) := by subst hK; exact call_isi
theorem call_isiTK (hK : X.K = K := by rfl) : CallR X (.builtin "isinstance") (rIsiT K) := by subst hK; exact call_isiT
theorem ix_kdictK (hK : X.K = K := by rfl) (hw : X.w = w := by rfl) : IxR X (rIxD K w) := by subst hK; subst hw; exact ix_kdict
theorem pe_fldK {e : Expr} {ta : TE} {f : Str} {pos : Pos} (he : PE X e ta) (hb : attributeBase e f X.env (eval e X.env) = eval e X.env) (hK : X.K = K := by rfl) : PE X (.Attribute e f pos) (tFld K ta f) := by subst hK; exact pe_fld he hb
def rLenK (K : PySem.W.Frag) : List V → Hp → VK → Prop := fun xs H Q => ∃ p ys, xs = [.ref p] ∧ (SqL K H p ys ∨ SqT K H p ys) ∧ Q (.int ys.length) H
theorem call_lenK (hK : X.K = K := by rfl) : CallR X (.builtin "len") (rLenK K) := by subst hK; exact call_len_seq
theorem op_eqDK (hu : X.A.units + 64 < cLine) (hK : X.K = K := by rfl) : OpR X (compareOp .Eq) (rEqD K) := by subst hK; exact op_eqD hu
theorem op_neDK (hu : X.A.units + 64 < cLine) (hK : X.K = K := by rfl) : OpR X (compareOp .NotEq) (rNeD K) := by subst hK; exact op_neD hu
theorem op_in_seqK (hK : X.K = K := by rfl) : OpR X (compareOp .In) (rIn K false) := by subst hK; exact op_in_seq
theorem op_notIn_seqK (hK : X.K = K := by rfl) : OpR X (compareOp .NotIn) (rIn K true) := by subst hK; exact op_notIn_seq
theorem cr_minK (hc : X.calm = true) (hK : X.K = K := by rfl) : CallR X (.builtin "min") (rMin K) := by subst hK; exact cr_min hc
theorem cr_maxK (hc : X.calm = true) (hK : X.K = K := by rfl) : CallR X (.builtin "max") (rMax K) := by subst hK; exact cr_max hc
theorem sl_tupK (hK : X.K = K := by rfl) : SlR X (rSlA K) := by subst hK; exact sl_tupA
theorem sl_listK (hK : X.K = K := by rfl) : SlR X (rSlL K) := by subst hK; exact sl_list
theorem op_catK (hK : X.K = K := by rfl) : OpR X (binaryOp .Add) (rCatA K) := by subst hK; exact op_catA
theorem pi_listK {tg l : Expr} {tl : TE} (hl : PE X l tl) (hK : X.K = K := by rfl) : PI X tg l (iList K tl) := by subst hK; exact pi_list hl
theorem pi_tupK {tg l : Expr} {tl : TE} (hl : PE X l tl) (hK : X.K = K := by rfl) : PI X tg l (iTup K tl) := by subst hK; exact pi_tup hl
def rListK (K : PySem.W.Frag) : List V → Hp → VK → Prop := fun xs H Q => ∃ p ys, xs = [.ref p] ∧ (SqL K H p ys ∨ SqT K H p ys) ∧ ∀ l, H l = none → Q (.ref l) (upd H l (.lst ys))
theorem call_listK (hK : X.K = K := by rfl) : CallR X (.type "list") (rListK K) := by subst hK; exact call_list_of
def rTupleK (K : PySem.W.Frag) : List V → Hp → VK → Prop := fun xs H Q => ∃ p ys, xs = [.ref p] ∧ ((SqL K H p ys ∧ ∀ l, H l = none → Q (.ref l) (upd H l (.tup ys))) ∨ (SqT K H p ys ∧ Q (.ref p) H))
theorem call_tupleK (hK : X.K = K := by rfl) : CallR X (.type "tuple") (rTupleK K) := by subst hK; exact call_tuple_of
theorem cr_sortedK (hK : X.K = K := by rfl) : CallR X (.builtin "sorted") (rSortedI K) := by subst hK; exact cr_sortedI
theorem cr_sumK (hc : X.calm = true) (hK : X.K = K := by rfl) : CallR X (.builtin "sum") (rSum K) := by subst hK; exact cr_sum hc
end
theorem ifF {b : Bool} {A B : Prop} (h : b = false) (q : B) : if b = true then A else B := by
  rw [if_neg (by rw [h]; decide)]
  exact q
theorem ifT {b : Bool} {A B : Prop} (h : b = true) (q : A) : if b = true then A else B := by
  rw [if_pos h]
  exact q
section
variable {X : Cx} {d : Addr}
theorem op_in_kdE (D : ∃ es n, KDict X.K X.w d es n) : OpR X (compareOp .In) (fun x y H Q => ∃ (z : Str) (r : Option Value), x = .str z ∧ y = .ref d ∧ PySem.W.nsIn X.K d z = some r ∧ Q (.bl r.isSome) H) := by
  obtain ⟨es, n, D⟩ := D
  exact op_in_kd D
theorem op_notIn_kdE (D : ∃ es n, KDict X.K X.w d es n) : OpR X (compareOp .NotIn) (fun x y H Q => ∃ (z : Str) (r : Option Value), x = .str z ∧ y = .ref d ∧ PySem.W.nsIn X.K d z = some r ∧ Q (.bl (!r.isSome)) H) := by
  obtain ⟨es, n, D⟩ := D
  exact op_notIn_kd D
end
/-! ### range(n), the item the turn's number -/
theorem for_range0 {n : Nat} {g : TG} {tb : TS} {D : Ends} {σ : St} {H : Hp} (Pv : Nat → St → Hp → Prop) (h0 : Pv 0 σ H)
    (hs : ∀ (i : Nat) σ H, i < n → Pv i σ H → g (.int (i : Int)) σ H fun σ2 H2 => tb { D with nx := Pv (i + 1), ct := Pv (i + 1), bk := D.nx } σ2 H2) (hd : ∀ σ H, Pv n σ H → D.nx σ H) :
    ∃ W : Nat → Nat → St → Hp → Prop, (∃ m, W 0 m σ H) ∧ ∀ i m σ H, W i m σ H →
      ((Itr 0 n).stop i H ∧ D.nx σ H) ∨ ((Itr 0 n).go i H ∧ ∃ N : St → Hp → Prop, (∀ σ' H', N σ' H' → ∃ m', m' < m ∧ W (i + 1) m' σ' H') ∧ ∀ x H', (Itr 0 n).yld i H x H' → g x σ H' fun σ2 H2 => tb { D with nx := N, ct := N, bk := D.nx } σ2 H2) :=
  for_range (lo := 0) (n := n) Pv h0 (fun i σ H hi p => by rw [Int.zero_add]; exact hs i σ H hi p) hd
theorem lc_range0 {n : Nat} {g : TG} {tt : TT} {te : TE} {vs : List Nat} {σ : St} {H1 : Hp} {D : Addr} {Qd : Hp → Prop} (Pv : Nat → Hp → Prop) (h0 : Pv 0 (upd H1 D (.lst [])))
    (hs : ∀ (i : Nat) H, i < n → Pv i H → g (.int (i : Int)) (wipe σ vs) H fun σ2 H2 => wipe σ2 vs = wipe σ vs ∧ tt σ2 H2 fun b H3 =>
      if b = true then te σ2 H3 fun y H4 => ∃ acc, H4 D = some (.lst acc) ∧ acc.length < sizeLine ∧ Pv (i + 1) (upd H4 D (.lst (acc ++ [y]))) else Pv (i + 1) H3) (hd : ∀ H, Pv n H → Qd H) :
    ∃ W : Nat → Nat → Hp → Prop, (∃ m, W 0 m (upd H1 D (.lst []))) ∧ ∀ i m H, W i m H →
      ((Itr 0 n).stop i H ∧ Qd H) ∨ ((Itr 0 n).go i H ∧ ∃ Nx : Hp → Prop, (∀ H', Nx H' → ∃ m', m' < m ∧ W (i + 1) m' H') ∧ ∀ x H', (Itr 0 n).yld i H x H' → g x (wipe σ vs) H' fun σ2 H2 => wipe σ2 vs = wipe σ vs ∧ tt σ2 H2 fun b H3 =>
        if b = true then te σ2 H3 fun y H4 => ∃ acc, H4 D = some (.lst acc) ∧ acc.length < sizeLine ∧ Nx (upd H4 D (.lst (acc ++ [y]))) else Nx H3) :=
  lc_range (lo := 0) (n := n) Pv h0 (fun i H hi p => by rw [Int.zero_add]; exact hs i H hi p) hd
/-- [{} for x in range(n)] -/
theorem lc_dicts {n j : Nat} {vs : List Nat} {σ : St} {H1 : Hp} {D : Addr} {Qd : Hp → Prop} (nD : H1 D = none) (hn : n ≤ 1000) (hw : ∀ x, wipe ((wipe σ vs).set j (some x)) vs = wipe σ vs)
    (k : ∀ (ds : List Addr) (H' : Hp), ds.length = n → ds.Nodup → (∀ d ∈ ds, H1 d = none ∧ H' d = some (.dK [])) → H' D = some (.lst (ds.map V.ref)) → Same H1 H' → Qd H') :
    ∃ W : Nat → Nat → Hp → Prop, (∃ m, W 0 m (upd H1 D (.lst []))) ∧ ∀ i m H, W i m H →
      ((Itr 0 n).stop i H ∧ Qd H) ∨ ((Itr 0 n).go i H ∧ ∃ Nx : Hp → Prop, (∀ H', Nx H' → ∃ m', m' < m ∧ W (i + 1) m' H') ∧ ∀ x H', (Itr 0 n).yld i H x H' → gName j x (wipe σ vs) H' fun σ2 H2 => wipe σ2 vs = wipe σ vs ∧ tYes σ2 H2 fun b H3 =>
        if b = true then tDNewK σ2 H3 fun y H4 => ∃ acc, H4 D = some (.lst acc) ∧ acc.length < sizeLine ∧ Nx (upd H4 D (.lst (acc ++ [y]))) else Nx H3) := by
  refine lc_range0 (n := n) (fun i H2 => ∃ ds : List Addr, ds.length = i ∧ ds.Nodup ∧ (∀ d ∈ ds, H1 d = none ∧ H2 d = some (.dK [])) ∧ H2 D = some (.lst (ds.map V.ref)) ∧ Same H1 H2)
    ⟨[], rfl, List.nodup_nil, by simp, upd_same, Same.new nD⟩ ?_ (fun H2 ⟨ds, h1, h2, h3, h4, h5⟩ => k ds H2 h1 h2 h3 h4 h5)
  rintro i H2 hi ⟨ds, hl, nd, hds, hD, k2⟩
  refine ⟨hw _, fun a na => ⟨ds.map V.ref, ?_, szl (by rw [List.length_map]; omega), ds ++ [a], by simp [hl], ?_, ?_, ?_, ?_⟩⟩
  · rw [upd_ne (ne_of_none hD na)]
    exact hD
  · refine List.nodup_append.mpr ⟨nd, by simp, fun x hx y hy e => ?_⟩
    simp at hy
    subst hy
    subst e
    rw [(hds _ hx).2] at na
    cases na
  · have naD : a ≠ D := fun z => by rw [z, hD] at na; cases na
    intro d hd
    rcases List.mem_append.mp hd with z | z
    · refine ⟨(hds d z).1, ?_⟩
      have h2 := (hds d z).2
      rw [upd_ne (fun e => by rw [e, hD] at h2; cases h2), upd_ne (ne_of_none h2 na)]
      exact h2
    · simp at z
      subst z
      exact ⟨k2.free na, by rw [upd_ne naD, upd_same]⟩
  · rw [upd_same, List.map_append]
    rfl
  · exact Same.mut (Same.mut k2 (k2.free na)) nD
/-- [x for x in xs if ..], xs a list of tuples that are told one by one -/
theorem lc_filt {K : PySem.W.Frag} {α : Type} {enc : α → List V} {l : List α} {f : α → Bool} {a j : Nat} {xs : List V} {tt : TT} {vs : List Nat} {σ : St} {H1 : Hp} {D : Addr} {Qd : Hp → Prop} (hx : TupsAt H1 xs (l.map enc)) (ha : H1 a = some (.lst xs)) (nD : H1 D = none) (hl : l.length ≤ 100000)
    (hw : ∀ x, wipe ((wipe σ vs).set j (some x)) vs = wipe σ vs) (hj : ∀ x, ((wipe σ vs).set j (some x))[j]? = some (some x))
    (ht : ∀ (i : Nat) (x : α) (tA : Addr) (H2 : Hp), l[i]? = some x → Same H1 H2 → H2 tA = some (.tup (enc x)) → ∀ Q : Bool → Hp → Prop, Q (f x) H2 → tt ((wipe σ vs).set j (some (.ref tA))) H2 Q)
    (k : ∀ (ys : List V) (H' : Hp), Same H1 H' → H' D = some (.lst ys) → TupsAt H' ys ((l.filter f).map enc) → Qd H') :
    ∃ W : Nat → Nat → Hp → Prop, (∃ m, W 0 m (upd H1 D (.lst []))) ∧ ∀ i m H, W i m H →
      ((Itl K a).stop i H ∧ Qd H) ∨ ((Itl K a).go i H ∧ ∃ Nx : Hp → Prop, (∀ H', Nx H' → ∃ m', m' < m ∧ W (i + 1) m' H') ∧ ∀ x H', (Itl K a).yld i H x H' → gName j x (wipe σ vs) H' fun σ2 H2 => wipe σ2 vs = wipe σ vs ∧ tt σ2 H2 fun b H3 =>
        if b = true then tVar j σ2 H3 fun y H4 => ∃ acc, H4 D = some (.lst acc) ∧ acc.length < sizeLine ∧ Nx (upd H4 D (.lst (acc ++ [y]))) else Nx H3) := by
  have hxl : xs.length = l.length := by have := hx.length; rw [List.length_map] at this; exact this
  refine lc_list (K := K) (a := a) (xs := xs) (fun i H2 => ∃ ys, Same H1 H2 ∧ H2 D = some (.lst ys) ∧ TupsAt H2 ys (((l.take i).filter f).map enc)) ⟨[], Same.new nD, upd_same, .nil⟩
    (fun i H2 _ ⟨_, sH, _⟩ => SqL.of (sH _ _ ha)) ?_ ?_
  · rintro i x H2 hi ⟨ys, sH, hD, hy⟩
    obtain ⟨d, hd, tA, rfl, hta⟩ := Paired.getL hx hi
    rw [List.getElem?_map] at hd
    obtain ⟨e, he, rfl⟩ := Option.map_eq_some_iff.mp hd
    have hil : i < l.length := (List.getElem?_eq_some_iff.mp he).1
    have hyl : ys.length ≤ 100000 := by
      have h1 := hy.length
      have h2 := List.length_filter_le f (l.take i)
      rw [List.length_map] at h1
      rw [List.length_take] at h2
      omega
    have etk : l.take (i + 1) = l.take i ++ [e] := by rw [List.take_succ, he]; rfl
    refine ⟨hw _, ht i e tA H2 he sH (sH _ _ hta) _ ?_⟩
    refine ite2 (fun h => ?_) (fun h => ?_)
    · have tS : TupS H2 (upd H2 D (.lst (ys ++ [.ref tA]))) := TupS.upd (TupS.refl _) (by rw [hD]; intro xs z; cases z)
      refine ⟨_, hj _, ys, hD, szl (by omega), ys ++ [.ref tA], Same.mut sH nD, upd_same, ?_⟩
      rw [etk, List.filter_append, List.map_append]
      refine Paired.append (hy.mono tS) ?_
      rw [List.filter_cons, if_pos h]
      exact .cons ⟨tA, rfl, tS _ _ (sH _ _ hta)⟩ .nil
    · refine ⟨ys, sH, hD, ?_⟩
      rw [etk, List.filter_append, List.filter_cons, if_neg h]
      simpa using hy
  · rintro H2 ⟨ys, sH, hD, hy⟩
    rw [hxl, List.take_length] at hy
    exact k ys H2 sH hD hy
/-! ### data of flat values, of tuples of them -/
def fdat : V → PyData
  | .bl b => .bool b
  | .int i => .int i
  | .str x => .str x
  | _ => .none
def okV : V → Bool
  | .non => true
  | .bl _ => true
  | .int _ => true
  | .str x => PyData.strOk x
  | _ => false
theorem dp_flat {K : PySem.W.Frag} {H : Hp} : ∀ {v : V}, okV v = true → Dp K H v (fdat v)
  | .non, _ => .non
  | .bl b, _ => .bl b
  | .int i, _ => .int i
  | .str x, _ => .str x
theorem dp_flats {K : PySem.W.Frag} {H : Hp} : ∀ {vs : List V}, (∀ v ∈ vs, okV v = true) → DpAll K H vs (vs.map fdat)
  | [], _ => .nil
  | v :: vs, h => .cons (dp_flat (h v List.mem_cons_self)) (dp_flats fun u hu => h u (List.mem_cons_of_mem _ hu))
theorem lay_flat : ∀ {v : V}, okV v = true → (fdat v).canLay0 = true
  | .non, _ => by simp [fdat, PyData.canLay0]
  | .bl b, _ => by simp [fdat, PyData.canLay0]
  | .int i, _ => by simp [fdat, PyData.canLay0]
  | .str x, h => by
    show (PyData.str x).canLay0 = true
    rw [PyData.canLay0]
    exact h
theorem lay_flats : ∀ {vs : List V}, (∀ v ∈ vs, okV v = true) → PyData.canLayAll0 (vs.map fdat) = true
  | [], _ => by simp [PyData.canLayAll0]
  | v :: vs, h => by
    rw [List.map_cons, PyData.canLayAll0, lay_flat (h v List.mem_cons_self), lay_flats fun u hu => h u (List.mem_cons_of_mem _ hu)]
    rfl
theorem dep_flat (v : V) : (fdat v).depth = 0 := by cases v <;> simp [fdat, PyData.depth]
theorem dep_flats : ∀ vs : List V, PyData.depthAll (vs.map fdat) = 0
  | [] => by simp [PyData.depthAll]
  | v :: vs => by rw [List.map_cons, PyData.depthAll, dep_flat, dep_flats vs]; rfl
def tupD (d : List V) : PyData := .tuple (d.map fdat)
theorem dp_tups {K : PySem.W.Frag} {H : Hp} : ∀ {xs : List V} {ds : List (List V)}, TupsAt H xs ds → (∀ d ∈ ds, ∀ v ∈ d, okV v = true) → DpAll K H xs (ds.map tupD)
  | _, _, .nil, _ => .nil
  | _, _, .cons ⟨a, e, h⟩ t, k => .cons (by subst e; exact .tup (SqT.of h) (dp_flats (k _ List.mem_cons_self))) (dp_tups t fun d hd => k d (List.mem_cons_of_mem _ hd))
theorem lay_tups : ∀ {ds : List (List V)}, (∀ d ∈ ds, ∀ v ∈ d, okV v = true) → PyData.canLayAll0 (ds.map tupD) = true
  | [], _ => by simp [PyData.canLayAll0]
  | d :: ds, h => by
    rw [List.map_cons, PyData.canLayAll0, lay_tups fun u hu => h u (List.mem_cons_of_mem _ hu), Bool.and_true]
    unfold tupD
    rw [PyData.canLay0]
    exact lay_flats (h d List.mem_cons_self)
theorem dep_tups : ∀ ds : List (List V), PyData.depthAll (ds.map tupD) ≤ 1
  | [] => by simp [PyData.depthAll]
  | d :: ds => by
    rw [List.map_cons, PyData.depthAll]
    have := dep_tups ds
    have e : (tupD d).depth = 1 := by
      unfold tupD
      rw [PyData.depth, dep_flats]
    omega
theorem shaped_tups {ds : List (List V)} (h : ∀ d ∈ ds, ∀ v ∈ d, okV v = true) : SeqAt.shaped (.list (ds.map tupD)) = true := by
  unfold SeqAt.shaped
  have := dep_tups ds
  rw [PyData.canLay0, lay_tups h, PyData.depth, Bool.true_and, decide_eq_true_eq]
  omega
theorem shaped_nil : SeqAt.shaped (.list []) = true := by decide +kernel
theorem eqv_nil (ds : List PyData) : PyData.eqv (.list ds) (.list []) = ds.isEmpty := by
  rw [PyData.eqv]
  cases ds <;> simp [PyData.eqvAll]
theorem dp_nil {K : PySem.W.Frag} {H : Hp} {p : Addr} (h : H p = some (.lst [])) : Dp K H (.ref p) (.list []) := .lst (SqL.of h) .nil
end IC
namespace IC
open PySem L2
def top (i : Nat) : Stmt := PySem.Challenge.pw_insidecount_k07_whole_all_stories.main.body.getD i (.Pass ⟨0, 0, 0, 0⟩)
abbrev s__wall : Stmt := top 0
abbrev s_is_lost : Stmt := top 11
abbrev s_wants_of : Stmt := top 12
abbrev s_all_wants : Stmt := top 13
abbrev s_are_borne : Stmt := top 14
abbrev s_wants : Stmt := top 18
abbrev s_is_sound : Stmt := top 19
abbrev s_need_sound : Stmt := top 20
abbrev s_need_badge : Stmt := top 21
abbrev s_turn_price : Stmt := top 22
abbrev s_step_price : Stmt := top 23
abbrev s_prices_ahead : Stmt := top 24
abbrev s_prices_behind : Stmt := top 25
abbrev s_spare_rows : Stmt := top 26
abbrev s_least_price : Stmt := top 27
abbrev s_stories : Stmt := top 28
abbrev s_House___init__ : Stmt := inClass (top 34) 0
abbrev s_House_is_time : Stmt := inClass (top 34) 1
abbrev s_House_gone_on : Stmt := inClass (top 34) 2
abbrev s_House_come : Stmt := inClass (top 34) 3
abbrev s_House_tick : Stmt := inClass (top 34) 4
abbrev s_House_time : Stmt := inClass (top 34) 5
abbrev s_House_rows : Stmt := inClass (top 34) 6
abbrev s_House_broken : Stmt := inClass (top 34) 7
abbrev s__law_taken : Stmt := top 36
abbrev s__law_alike : Stmt := top 37
abbrev s__law_deeds : Stmt := top 38
abbrev s__law_fresh : Stmt := top 39
abbrev s__law_do : Stmt := top 40
abbrev s__law_wants : Stmt := top 41
abbrev s__law_is_sound : Stmt := top 42
abbrev s__law_built : Stmt := top 43
abbrev s__law_price : Stmt := top 44
abbrev s__law_stories : Stmt := top 45
abbrev s__law_spare : Stmt := top 46
abbrev s__law_standing : Stmt := top 47
abbrev s__law_many : Stmt := top 48
abbrev s__law_told : Stmt := top 49
abbrev s__law_are_good : Stmt := top 50
abbrev s_law : Stmt := top 51
end IC
namespace IC
open PySem L2

/-! ### the data -/
abbrev Kn := List (Int × Str)
def encK (kn : Kn) : List (Key × V) := kn.map fun p => (Sum.inl p.1, V.str p.2)
/-- the module's names as far as they are asked -/
structure Glb (K : PySem.W.Frag) (w : World) (mg : Str → Option Value) (dI : Addr) : Prop where
  len : mg "len" = none
  range : mg "range" = none
  sorted : mg "sorted" = none
  int : mg "int" = none
  min : mg "min" = none
  max : mg "max" = none
  reversed : mg "reversed" = none
  list : mg "list" = none
  tuple : mg "tuple" = none
  isinstance : mg "isinstance" = none
  bool : mg "bool" = none
  str : mg "str" = none
  sum : mg "sum" = none
  set : mg "set" = none
  INSIDE : mg "INSIDE" = some (.ref dI)
  MOST_TIME : ∃ u, mg "MOST_TIME" = some u ∧ RelV (.int 60) u
  MOST_BADGES : ∃ u, mg "MOST_BADGES" = some u ∧ RelV (.int 6) u
  MOST_LATE : ∃ u, mg "MOST_LATE" = some u ∧ RelV (.int 9) u
  MOST_LOST : ∃ u, mg "MOST_LOST" = some u ∧ RelV (.int 6) u
  KI : ∃ es n, KDict K w dI es n
  kin : KDct K w dI "in" (.int 1)
  kout : KDct K w dI "out" (.int 0)

structure GlbW (mg : Str → Option Value) : Prop where
  NEVER : ∃ u, mg "NEVER" = some u ∧ RelV (.int 1000000) u
structure GlbS (mg : Str → Option Value) : Prop where
  MOST_STORIES : ∃ u, mg "MOST_STORIES" = some u ∧ RelV (.int 200) u
structure GlbM (mg : Str → Option Value) : Prop where
  MOST_MOMENTS : ∃ u, mg "MOST_MOMENTS" = some u ∧ RelV (.int 8) u
/-- a word that there is -/
def Wd (z : Str) : Prop := z = "in" ∨ z = "out"
def insOf (z : Str) : Int := if z = "in" then 1 else 0
theorem Glb.at {K : PySem.W.Frag} {w : World} {mg : Str → Option Value} {dI : Addr} (G : Glb K w mg dI) {z : Str} (h : Wd z) : KDct K w dI z (.int (insOf z)) := by
  rcases h with rfl | rfl
  · exact G.kin
  · exact G.kout

theorem Glb.ns {K : PySem.W.Frag} {w : World} {mg : Str → Option Value} {dI : Addr} (G : Glb K w mg dI) {z : Str} (h : Wd z) : ∃ u, PySem.W.nsIn K dI z = some (some u) := by
  obtain ⟨_, _, u, _, _, e, _⟩ := G.at h
  exact ⟨u, e⟩
/-! ### what rows want -/
structure Want where
  badge : Int
  lo : Int
  hi : Int
  word : Str
def Want.vs (x : Want) : List V := [.int x.badge, .int x.lo, .int x.hi, .str x.word]
def lookK (kn : Kn) (m : Int) : Option Str := (kn.find? fun p => decide (p.1 = m)).map (·.2)
structure WSt where
  found : List Want
  ahead : Int
  state : Int
def isLost (moment late time : Int) : Bool := decide (moment + late < time)
def wstep (badge : Int) (kn : Kn) (late time : Int) (s : WSt) (m : Int) : WSt :=
  let x := insOf ((lookK kn m).getD "")
  { found := if x = s.state then (if m - s.ahead = 1 then s.found ++ [⟨badge, s.ahead, m, "twice"⟩] else if isLost (m - 1) late time then s.found ++ [⟨badge, s.ahead, m, "lost"⟩] else s.found) else s.found
    ahead := m, state := x }
def wfold (badge : Int) (kn : Kn) (late time : Int) (ms : List Int) : WSt := ms.foldl (wstep badge kn late time) ⟨[], 0, 0⟩
/-- the dict's keys, rising -/
def keysOf (kn : Kn) : List Int := (kn.map (·.1)).mergeSort (fun a b => decide (a ≤ b))
def wantsOf (badge : Int) (kn : Kn) (late time : Int) : List Want := (wfold badge kn late time (keysOf kn)).found
theorem sort_uniq {ys : List Int} {kn : Kn} (p : ys.Perm (kn.map (·.1))) (s : ys.Pairwise (· ≤ ·)) : ys = keysOf kn := by
  have h2 : (keysOf kn).Perm (kn.map (·.1)) := List.mergeSort_perm ..
  have h3 : (keysOf kn).Pairwise (· ≤ ·) := by
    have := List.pairwise_mergeSort (le := fun a b : Int => decide (a ≤ b)) (fun a b c h1 h2 => by simp at *; omega) (fun a b => by simp; omega) (kn.map (·.1))
    exact this.imp fun h => by simpa using h
  exact (p.trans h2.symm).eq_of_pairwise (fun a b _ _ h1 h2 => by omega) s h3
/-- a badge's dict as it may be: moments once each, words that there are -/
structure KnOk (kn : Kn) : Prop where
  nd : (kn.map (·.1)).Nodup
  wd : ∀ p ∈ kn, Wd p.2
  rg : ∀ p ∈ kn, 1 ≤ p.1 ∧ p.1 ≤ 60
theorem nd_len : ∀ (n : Nat) (l : List Int), l.Nodup → (∀ x ∈ l, 1 ≤ x ∧ x ≤ (n : Int)) → l.length ≤ n
  | 0, l, _, h => by
    cases l with
    | nil => simp
    | cons x l => have := h x List.mem_cons_self; omega
  | n + 1, l, nd, h => by
    by_cases hm : ((n + 1 : Nat) : Int) ∈ l
    · have ih := nd_len n (l.erase ((n + 1 : Nat) : Int)) (nd.erase _) (fun x hx => by
        have h1 := (List.Nodup.mem_erase_iff nd).mp hx
        have h2 := h x h1.2
        have h3 : x ≠ ((n + 1 : Nat) : Int) := h1.1
        omega)
      rw [List.length_erase_of_mem hm] at ih
      omega
    · have ih := nd_len n l nd (fun x hx => by
        have h2 := h x hx
        have h3 : x ≠ ((n + 1 : Nat) : Int) := fun z => hm (z ▸ hx)
        omega)
      omega
theorem KnOk.sm {kn : Kn} (k : KnOk kn) : kn.length < 64 := by
  have h := nd_len 60 (kn.map (·.1)) k.nd (fun x hx => by
    obtain ⟨p, hp, rfl⟩ := List.mem_map.mp hx
    exact k.rg p hp)
  rw [List.length_map] at h
  omega
theorem valV_enc (kn : Kn) (m : Int) : valV (encK kn) (Sum.inl m) = (lookK kn m).map V.str := by
  unfold valV encK lookK
  induction kn with
  | nil => rfl
  | cons p kn ih =>
    rw [List.map_cons, List.find?_cons, List.find?_cons]
    by_cases h : p.1 = m
    · rw [show decide ((Sum.inl p.1 : Key) = Sum.inl m) = true from decide_eq_true (by rw [h]), show decide (p.1 = m) = true from decide_eq_true h]
      rfl
    · rw [show decide ((Sum.inl p.1 : Key) = Sum.inl m) = false from decide_eq_false (fun z => h (Sum.inl.inj z)), show decide (p.1 = m) = false from decide_eq_false h]
      exact ih
theorem lookK_mem {kn : Kn} {m : Int} (h : m ∈ kn.map (·.1)) : ∃ z, lookK kn m = some z ∧ ∃ p ∈ kn, p.2 = z := by
  unfold lookK
  induction kn with
  | nil => simp at h
  | cons p kn ih =>
    rw [List.find?_cons]
    by_cases e : p.1 = m
    · rw [show decide (p.1 = m) = true from decide_eq_true e]
      exact ⟨p.2, rfl, p, List.mem_cons_self, rfl⟩
    · rw [show decide (p.1 = m) = false from decide_eq_false e]
      rw [List.map_cons, List.mem_cons] at h
      rcases h with h | h
      · exact absurd h.symm e
      · obtain ⟨z, h1, q, h2, h3⟩ := ih h
        exact ⟨z, h1, q, List.mem_cons_of_mem _ h2, h3⟩
theorem KnOk.look {kn : Kn} (k : KnOk kn) {m : Int} (h : m ∈ kn.map (·.1)) : ∃ z, lookK kn m = some z ∧ Wd z := by
  obtain ⟨z, h1, p, h2, rfl⟩ := lookK_mem h
  exact ⟨p.2, h1, k.wd p h2⟩
theorem wfold_len (badge : Int) (kn : Kn) (late time : Int) (ms : List Int) : ∀ s : WSt, (ms.foldl (wstep badge kn late time) s).found.length ≤ s.found.length + ms.length := by
  induction ms with
  | nil => intro s; simp
  | cons m ms ih =>
    intro s
    rw [List.foldl_cons]
    refine Nat.le_trans (ih _) ?_
    have : (wstep badge kn late time s m).found.length ≤ s.found.length + 1 := by
      unfold wstep
      simp only
      split
      · split
        · simp
        · split <;> simp
      · simp
    rw [List.length_cons]
    omega

theorem wantsOf_len {kn : Kn} (k : KnOk kn) (badge late time : Int) : (wantsOf badge kn late time).length < 64 := by
  have h := wfold_len badge kn late time (keysOf kn) ⟨[], 0, 0⟩
  have h2 : (keysOf kn).length = kn.length := by
    unfold keysOf
    rw [List.length_mergeSort, List.length_map]
  have := k.sm
  unfold wantsOf wfold
  simp at h
  omega
/-- the wants of the first n badges -/
def awTo (kns : List Kn) (late time : Int) : Nat → List Want
  | 0 => []
  | n + 1 => awTo kns late time n ++ wantsOf n (kns.getD n []) late time
def allWants (kns : List Kn) (late time : Int) : List Want := awTo kns late time kns.length
theorem awTo_len {kns : List Kn} (k : ∀ kn ∈ kns, KnOk kn) (late time : Int) : ∀ n, n ≤ kns.length → (awTo kns late time n).length ≤ 64 * n
  | 0, _ => by simp [awTo]
  | n + 1, h => by
    have ih := awTo_len k late time n (by omega)
    have hm : kns.getD n [] ∈ kns := by
      rw [List.getD_eq_getElem?_getD, List.getElem?_eq_getElem (by omega)]
      exact List.getElem_mem _
    have := wantsOf_len (k _ hm) n late time
    unfold awTo
    rw [List.length_append]
    omega
/-- nobody passed twice, and no more rows are lost than may be -/
def borne (ws : List Want) (lost : Int) : Bool := (ws.filter fun x => decide (x.word = ("twice" : Str))).isEmpty && decide ((ws.length : Int) ≤ lost)
theorem wfold_wd (badge : Int) (kn : Kn) (late time : Int) (ms : List Int) : ∀ s : WSt, (∀ x ∈ s.found, x.word = "twice" ∨ x.word = "lost") → ∀ x ∈ (ms.foldl (wstep badge kn late time) s).found, x.word = "twice" ∨ x.word = "lost" := by
  induction ms with
  | nil => intro s h; exact h
  | cons m ms ih =>
    intro s h
    rw [List.foldl_cons]
    refine ih _ ?_
    unfold wstep
    simp only
    intro x hx
    split at hx
    · split at hx
      · rcases List.mem_append.mp hx with z | z
        · exact h x z
        · simp at z; subst z; exact .inl rfl
      · split at hx
        · rcases List.mem_append.mp hx with z | z
          · exact h x z
          · simp at z; subst z; exact .inr rfl
        · exact h x hx
    · exact h x hx
theorem awTo_wd (kns : List Kn) (late time : Int) : ∀ n, ∀ x ∈ awTo kns late time n, x.word = "twice" ∨ x.word = "lost"
  | 0 => by simp [awTo]
  | n + 1 => fun x hx => by
    rcases List.mem_append.mp hx with z | z
    · exact awTo_wd kns late time n x z
    · exact wfold_wd _ _ _ _ _ _ (by simp) x z
/-- the list of dicts at L -/
structure KnAt (H : Hp) (L : Addr) (ds : List Addr) (kns : List Kn) : Prop where
  lst : H L = some (.lst (ds.map V.ref))
  nd : ds.Nodup
  at_ : Paired (fun d k => H d = some (.dK (encK k))) ds kns
  ok : ∀ k ∈ kns, KnOk k
  few : kns.length ≤ 6
theorem KnAt.len {H : Hp} {L : Addr} {ds : List Addr} {kns : List Kn} (k : KnAt H L ds kns) : ds.length = kns.length := k.at_.length
theorem KnAt.same {H H' : Hp} {L : Addr} {ds : List Addr} {kns : List Kn} (k : KnAt H L ds kns) (s : Same H H') : KnAt H' L ds kns :=
  ⟨s _ _ k.lst, k.nd, Paired.mapP k.at_ fun _ _ h => s _ _ h, k.ok, k.few⟩
theorem KnAt.keeps {H H' : Hp} {L : Addr} {ds : List Addr} {kns : List Kn} {fp : List Addr} (k : KnAt H L ds kns) (s : Keeps fp H H') (hL : L ∉ fp) (hd : ∀ d ∈ ds, d ∉ fp) : KnAt H' L ds kns := by
  refine ⟨s _ _ k.lst hL, k.nd, ?_, k.ok, k.few⟩
  have all : ∀ {ds : List Addr} {kns : List Kn}, Paired (fun d k => H d = some (.dK (encK k))) ds kns → (∀ d ∈ ds, d ∉ fp) → Paired (fun d k => H' d = some (.dK (encK k))) ds kns := by
    intro ds kns h
    induction h with
    | nil => intro _; exact .nil
    | cons r t ih => intro hd; exact .cons (s _ _ r (hd _ List.mem_cons_self)) (ih fun d h => hd d (List.mem_cons_of_mem _ h))
  exact all k.at_ hd

section
variable {P : Program} {w : World} {K : PySem.W.Frag} {mg : Str → Option Value} {base : Heap} {dI : Addr}
/-! ### is_lost -/
def sp_is_lost : Sp := fun vs H Q _ => ∃ (m l t : Int), vs = [.int m, .int l, .int t] ∧ Q (.bl (isLost m l t)) H
theorem sc_is_lost : FnScope ["moment", "late", "time"] ["moment", "late", "time"] (defScope s_is_lost) := ⟨rfl, rfl, rfl, by decide +kernel, rfl, by decide +kernel, by decide +kernel⟩
theorem ok_is_lost {f : Addr} {fd : FuncData} (F : Fun K "is_lost" "is_lost" s_is_lost f fd) : FnOk P w K mg base CX0 1 f fd ["moment", "late", "time"] sp_is_lost := by
  refine F.ok sc_is_lost (fun vs H Q E h => ?_) (fun cdv A outer s H vs Q E hr h => ?_)
  · obtain ⟨m, l, t, rfl, _⟩ := h
    rfl
  · obtain ⟨m, l, t, rfl, q⟩ := h
    refine ⟨_, (pss_one (ps_ret (pe_cmpR op_lt (pe_op op_add (pv 0) (pv 1)) (pv 2) (nomark _)))), ?_⟩
    exact ⟨_, rfl, _, rfl, _, _, rfl, rfl, _, rfl, _, _, rfl, rfl, q⟩
/-! ### wants_of -/
def sp_wants_of : Sp := fun vs H Q _ => ∃ (b : Int) (d : Addr) (kn : Kn) (l t : Int), vs = [.int b, .ref d, .int l, .int t] ∧ H d = some (.dK (encK kn)) ∧ KnOk kn ∧
  ∀ (p : Addr) (xs : List V) (H' : Hp), Same H H' → H p = none → H' p = some (.lst xs) → TupsAt H' xs ((wantsOf b kn l t).map Want.vs) → Q (.ref p) H'
theorem sc_wants_of : FnScope ["badge", "known", "late", "time", "found", "ahead", "state", "moment"] ["badge", "known", "late", "time"] (defScope s_wants_of) := ⟨rfl, rfl, rfl, by decide +kernel, rfl, by decide +kernel, by decide +kernel⟩
theorem ok_wants_of {f : Addr} {fd : FuncData} (F : Fun K "wants_of" "wants_of" s_wants_of f fd) (G : Glb K w mg dI) (c_is_lost : C8.Cal P w K mg base 1 "is_lost" sp_is_lost []) :
    FnOk P w K mg base CX0 2 f fd ["badge", "known", "late", "time"] sp_wants_of := by
  refine F.ok sc_wants_of (fun vs H Q E h => ?_) (fun cdv A outer s H vs Q E hr h => ?_)
  · obtain ⟨b, d, kn, l, t, rfl, _⟩ := h
    rfl
  · obtain ⟨b, d, kn, l, t, rfl, hd, ko, q⟩ := h
    have hu := hu_of hr
    refine ⟨_, (pss_cons (ps_set (i := 4) sc_wants_of.nd rfl (Or.inl rfl) (pe_lst pa_nil))
      (pss_cons (ps_set (i := 5) sc_wants_of.nd rfl (Or.inl rfl) pe_int)
      (pss_cons (ps_set (i := 6) sc_wants_of.nd rfl (Or.inl rfl) pe_int)
      (pss_cons (ps_for PassesOwn.never rfl (pi_list (pe_callB (call_sortedDI rfl) (by rfl) G.sorted (by decide +kernel) (pa_cons (pv 1) pa_nil))) (pg_name (i := 7) sc_wants_of.nd rfl (Or.inl rfl))
        (C8.pss_cut (ps_if (pt_cmpR op_eq (pe_ix ix_kdict (pe_glob (v := .ref dI) rfl G.INSIDE rfl) (pe_dget hu (pv 1) (pv 7) (fun _ _ => rfl)) (fun _ _ => rfl)) (pv 6) (nomark _))
            (pss_one (ps_if (pt_cmpR op_eq (pe_op op_sub (pv 7) (pv 5)) pe_int (nomark _))
                (pss_one (ps_expr (pe_bm PySem.F.plainAttrs_list PySem.F.slot_list_append PySem.F.type_list_append mt_append (pv 4) (pa_cons (pe_tup (pa_cons (pv 0) (pa_cons (pv 5) (pa_cons (pv 7) (pa_cons pe_str pa_nil))))) pa_nil))))
                (pss_one (ps_if (pt_val (C8.pe_c c_is_lost hr (by decide) rfl (pa_cons (pe_op op_sub (pv 7) pe_int) (pa_cons (pv 2) (pa_cons (pv 3) pa_nil)))))
                    (pss_one (ps_expr (pe_bm PySem.F.plainAttrs_list PySem.F.slot_list_append PySem.F.type_list_append mt_append (pv 4) (pa_cons (pe_tup (pa_cons (pv 0) (pa_cons (pv 5) (pa_cons (pv 7) (pa_cons pe_str pa_nil))))) pa_nil))))
                    pss_nil))))
            pss_nil)
          (pss_cons (ps_set (i := 5) sc_wants_of.nd rfl (Or.inl rfl) (pv 7))
          (pss_one (ps_set (i := 6) sc_wants_of.nd rfl (Or.inl rfl) (pe_ix ix_kdict (pe_glob (v := .ref dI) rfl G.INSIDE rfl) (pe_dget hu (pv 1) (pv 7) (fun _ _ => rfl)) (fun _ _ => rfl)))))))
      (pss_one (ps_ret (pv 4))))))), ?_⟩
    refine ⟨by decide, fun p np => ?_⟩
    have npd : d ≠ p := ne_of_none hd np
    have s1 : Same H (upd H p (.lst [])) := Same.new np
    -- sorted(known)
    refine ⟨_, rfl, d, encK kn, kn.map (·.1), rfl, .inl (by rw [upd_ne npd]; exact hd), by unfold encK; rw [List.map_map, List.map_map]; rfl, by rw [List.length_map]; exact ko.sm, fun ms q0 pm ps nq => ?_⟩
    have nqp : q0 ≠ p := fun z => by rw [z, upd_same] at nq; cases nq
    have nqd : H q0 = none := by rw [upd_ne nqp] at nq; exact nq
    have ems : ms = keysOf kn := sort_uniq pm ps
    have hmem : ∀ m ∈ ms, m ∈ kn.map (·.1) := fun m hm => pm.mem_iff.mp hm
    have hlen : ms.length < 64 := by rw [pm.length_eq, List.length_map]; exact ko.sm
    have s2 : Same H (upd (upd H p (.lst [])) q0 (.lst (ms.map V.int))) := Same.mut s1 nqd
    refine ⟨q0, rfl, ⟨_, SqL.of upd_same⟩, for_list (K := K) (a := q0) (xs := ms.map V.int)
      (fun i σ H2 => ∃ (xs : List V) (v : Option V), σ = [some (.int b), some (.ref d), some (.int l), some (.int t), some (.ref p), some (.int (wfold b kn l t (ms.take i)).ahead), some (.int (wfold b kn l t (ms.take i)).state), v] ∧
        Same H H2 ∧ H2 q0 = some (.lst (ms.map V.int)) ∧ H2 p = some (.lst xs) ∧ TupsAt H2 xs ((wfold b kn l t (ms.take i)).found.map Want.vs))
      ⟨[], none, rfl, s2, upd_same, by rw [upd_ne nqp.symm, upd_same], .nil⟩ (fun i σ H2 _ ⟨_, _, _, _, h, _⟩ => SqL.of h) ?_ ?_⟩
    · rintro i y σ H2 hi ⟨xs, v, rfl, sH, hq, hp, hx⟩
      rw [List.getElem?_map] at hi
      obtain ⟨m, hm, rfl⟩ := Option.map_eq_some_iff.mp hi
      have hmm : m ∈ kn.map (·.1) := hmem m (List.mem_of_getElem? hm)
      obtain ⟨z, hz, wz⟩ := ko.look hmm
      have hil : i < ms.length := (List.getElem?_eq_some_iff.mp hm).1
      have stp : wfold b kn l t (ms.take (i + 1)) = wstep b kn l t (wfold b kn l t (ms.take i)) m := by
        unfold wfold
        rw [List.take_succ, hm, Option.toList_some, List.foldl_append]
        rfl
      generalize hS : wfold b kn l t (ms.take i) = S at *
      have hfl : S.found.length ≤ i := by
        have := wfold_len b kn l t (ms.take i) ⟨[], 0, 0⟩
        rw [← hS]
        unfold wfold
        rw [List.length_take] at this
        simp at this
        omega
      have hxl : xs.length = S.found.length := by have := hx.length; rw [List.length_map] at this; exact this
      have hd2 : H2 d = some (.dK (encK kn)) := sH _ _ hd
      have hg : DGet H2 d (.int m) (some (.str z)) := by
        have e : DGet H2 d (kV (Sum.inl m)) (valV (encK kn) (Sum.inl m)) := DGet.k hd2
        rw [valV_enc, hz] at e
        exact e
      have hK : KDct K w dI z (.int (insOf z)) := G.at wz
      have hx' : insOf ((lookK kn m).getD "") = insOf z := by rw [hz]; rfl
      have pq : p ≠ q0 := nqp.symm
      -- the if, and what holds behind it
      refine ⟨fun σ H3 => ∃ xs' : List V, σ = [some (.int b), some (.ref d), some (.int l), some (.int t), some (.ref p), some (.int S.ahead), some (.int S.state), some (.int m)] ∧
        Same H H3 ∧ H3 q0 = some (.lst (ms.map V.int)) ∧ H3 p = some (.lst xs') ∧ TupsAt H3 xs' ((wstep b kn l t S m).found.map Want.vs), ?_, ?_⟩
      · -- a want is told
        have app : ∀ (wd : Str) (H3 : Hp) (a : Addr), H3 a = none → H3 = H2 → (wstep b kn l t S m).found = S.found ++ [⟨b, S.ahead, m, wd⟩] →
            ∃ xs' : List V, Same H (upd (upd H3 a (.tup [.int b, .int S.ahead, .int m, .str wd])) p (.lst (xs ++ [.ref a]))) ∧ upd (upd H3 a (.tup [.int b, .int S.ahead, .int m, .str wd])) p (.lst (xs ++ [.ref a])) q0 = some (.lst (ms.map V.int)) ∧
              upd (upd H3 a (.tup [.int b, .int S.ahead, .int m, .str wd])) p (.lst (xs ++ [.ref a])) p = some (.lst xs') ∧ TupsAt (upd (upd H3 a (.tup [.int b, .int S.ahead, .int m, .str wd])) p (.lst (xs ++ [.ref a]))) xs' ((wstep b kn l t S m).found.map Want.vs) := by
          intro wd H3 a na e3 ef
          subst e3
          have nap : a ≠ p := fun z => by rw [z, hp] at na; cases na
          have naq : q0 ≠ a := fun z => by rw [← z, hq] at na; cases na
          have t3 : TupS H3 (upd (upd H3 a (.tup [.int b, .int S.ahead, .int m, .str wd])) p (.lst (xs ++ [.ref a]))) :=
            TupS.upd (TupS.of_same (Same.new na)) (by rw [upd_ne nap.symm, hp]; intro xs z; cases z)
          refine ⟨_, Same.mut (sH.trans (Same.new na)) np, by rw [upd_ne nqp, upd_ne naq]; exact hq, upd_same, ?_⟩
          rw [ef, List.map_append]
          exact Paired.append (hx.mono t3) (.cons ⟨a, rfl, by rw [upd_ne nap, upd_same]; rfl⟩ .nil)
        refine ⟨_, rfl, _, rfl, d, _, rfl, hg, dI, z, _, rfl, rfl, hK, _, rfl, rfl, _, rfl, ?_⟩
        refine ite2 (fun h1 => ?_) (fun h1 => ?_)
        · have h1' : insOf z = S.state := by simpa using h1
          refine ⟨_, rfl, _, rfl, _, _, rfl, rfl, rfl, _, rfl, ?_⟩
          refine ite2 (fun h2 => ?_) (fun h2 => ?_)
          · have h2' : m - S.ahead = 1 := by simpa using h2
            refine ⟨_, rfl, .inl ⟨rfl, _, SqL.of hp⟩, _, rfl, _, rfl, _, rfl, sz (by simp), fun a na => ⟨p, xs, _, rfl, rfl, ?_, szl (by omega), ?_⟩⟩
            · rw [upd_ne (fun z => by rw [← z, hp] at na; cases na)]; exact hp
            · obtain ⟨xs', r⟩ := app "twice" H2 a na rfl (by unfold wstep; simp only; rw [hx', if_pos h1', if_pos h2'])
              exact ⟨xs', rfl, r⟩
          · have h2' : ¬ m - S.ahead = 1 := by simpa using h2
            refine ⟨_, rfl, _, _, rfl, rfl, _, rfl, _, rfl, m - 1, l, t, rfl, _, rfl, ?_⟩
            refine ite2 (fun h3 => ?_) (fun h3 => ?_)
            · refine ⟨_, rfl, .inl ⟨rfl, _, SqL.of hp⟩, _, rfl, _, rfl, _, rfl, sz (by simp), fun a na => ⟨p, xs, _, rfl, rfl, ?_, szl (by omega), ?_⟩⟩
              · rw [upd_ne (fun z => by rw [← z, hp] at na; cases na)]; exact hp
              · obtain ⟨xs', r⟩ := app "lost" H2 a na rfl (by unfold wstep; simp only; rw [hx', if_pos h1', if_neg h2', if_pos h3])
                exact ⟨xs', rfl, r⟩
            · refine ⟨xs, rfl, sH, hq, hp, ?_⟩
              rw [show (wstep b kn l t S m).found = S.found by unfold wstep; simp only; rw [hx', if_pos h1', if_neg h2', if_neg h3]]
              exact hx
        · have h1' : ¬ insOf z = S.state := by simpa using h1
          refine ⟨xs, rfl, sH, hq, hp, ?_⟩
          rw [show (wstep b kn l t S m).found = S.found by unfold wstep; simp only; rw [hx', if_neg h1']]
          exact hx
      · rintro σ H3 ⟨xs', rfl, sH3, hq3, hp3, hx3⟩
        have hg3 : DGet H3 d (.int m) (some (.str z)) := by
          have e : DGet H3 d (kV (Sum.inl m)) (valV (encK kn) (Sum.inl m)) := DGet.k (sH3 _ _ hd)
          rw [valV_enc, hz] at e
          exact e
        refine ⟨_, rfl, _, rfl, _, rfl, d, _, rfl, hg3, dI, z, _, rfl, rfl, hK, ?_⟩
        refine ⟨xs', some (.int m), ?_, sH3, hq3, hp3, by rw [stp]; exact hx3⟩
        rw [stp]
        show _ = [some (V.int b), some (V.ref d), some (V.int l), some (V.int t), some (V.ref p), some (V.int m), some (V.int (insOf ((lookK kn m).getD ""))), some (V.int m)]
        rw [hx']
        rfl
    · rintro σ H2 ⟨xs, v, rfl, sH, hq, hp, hx⟩
      refine ⟨_, rfl, ?_⟩
      rw [List.length_map, List.take_length, ems] at hx
      exact q p xs H2 sH np hp hx
/-! ### all_wants -/
def sp_all_wants : Sp := fun vs H Q _ => ∃ (L : Addr) (ds : List Addr) (kns : List Kn) (l t : Int), vs = [.ref L, .int l, .int t] ∧ KnAt H L ds kns ∧
  ∀ (p : Addr) (xs : List V) (H' : Hp), Same H H' → H p = none → H' p = some (.lst xs) → TupsAt H' xs ((allWants kns l t).map Want.vs) → Q (.ref p) H'
theorem sc_all_wants : FnScope ["known", "late", "time", "found", "badge"] ["known", "late", "time"] (defScope s_all_wants) := ⟨rfl, rfl, rfl, by decide +kernel, rfl, by decide +kernel, by decide +kernel⟩
theorem ok_all_wants {f : Addr} {fd : FuncData} (F : Fun K "all_wants" "all_wants" s_all_wants f fd) (G : Glb K w mg dI) (c_wants_of : C8.Cal P w K mg base 2 "wants_of" sp_wants_of []) :
    FnOk P w K mg base CX0 3 f fd ["known", "late", "time"] sp_all_wants := by
  refine F.ok sc_all_wants (fun vs H Q E h => ?_) (fun cdv A outer s H vs Q E hr h => ?_)
  · obtain ⟨L, ds, kns, l, t, rfl, _⟩ := h
    rfl
  · obtain ⟨L, ds, kns, l, t, rfl, ka, q⟩ := h
    refine ⟨_, (pss_cons (ps_set (i := 3) sc_all_wants.nd rfl (Or.inl rfl) (pe_lst pa_nil))
      (pss_cons (ps_for PassesOwn.never rfl (pi_range1 rfl G.range (pa_cons (pe_callB call_len_seq (by rfl) G.len (by decide +kernel) (pa_cons (pv 0) pa_nil)) pa_nil)) (pg_name (i := 4) sc_all_wants.nd rfl (Or.inl rfl))
        (pss_one (ps_expr (pe_bm PySem.F.plainAttrs_list PySem.F.slot_list_extend PySem.F.type_list_extend mt_extend (pv 3) (pa_cons (C8.pe_c c_wants_of hr (by decide) rfl (pa_cons (pv 4) (pa_cons (pe_ix ix_list (pv 0) (pv 4) (fun _ _ => rfl)) (pa_cons (pv 1) (pa_cons (pv 2) pa_nil))))) pa_nil)))))
      (pss_one (ps_ret (pv 3))))), ?_⟩
    refine ⟨by decide, fun p np => ?_⟩
    have s1 : Same H (upd H p (.lst [])) := Same.new np
    refine ⟨_, rfl, L, _, rfl, .inl (SqL.of (s1 _ _ ka.lst)), _, rfl, by omega, by simp; have := ka.few; have := ka.len; omega, ?_⟩
    rw [List.length_map, ka.len, Int.toNat_natCast]
    refine for_range0 (n := kns.length) (fun i σ H2 => ∃ (xs : List V) (v : Option V), σ = [some (.ref L), some (.int l), some (.int t), some (.ref p), v] ∧
        Same H H2 ∧ H2 p = some (.lst xs) ∧ TupsAt H2 xs ((awTo kns l t i).map Want.vs)) ⟨[], none, rfl, s1, upd_same, .nil⟩ ?_ ?_
    · rintro i σ H2 hi ⟨xs, v, rfl, sH, hp, hx⟩
      have ek : kns[i]? = some (kns.getD i []) := by rw [List.getD_eq_getElem?_getD, List.getElem?_eq_getElem hi]; rfl
      obtain ⟨d, hd, hdk⟩ := Paired.get ka.at_ ek
      have hko : KnOk (kns.getD i []) := ka.ok _ (List.mem_of_getElem? ek)
      have hlen := awTo_len ka.ok l t i (by omega)
      have hw := wantsOf_len hko i l t
      have hxl : xs.length = (awTo kns l t i).length := by have := hx.length; rw [List.length_map] at this; exact this
      have hf := ka.few
      refine ⟨_, rfl, .inl ⟨rfl, _, SqL.of hp⟩, _, rfl, _, rfl, _, rfl, L, _, _, .ref d, rfl, rfl, SqL.of (sH _ _ ka.lst), atI_nat (by rw [List.getElem?_map, hd]; rfl), _, rfl, _, rfl, i, d, kns.getD i [], l, t, rfl, sH _ _ hdk, hko, fun p2 ys H3 s3 n3 h3 t3 => ⟨p, p2, xs, ys, rfl, rfl, s3 _ _ hp, h3, sz ?_, ?_⟩⟩
      · have := t3.length
        rw [List.length_map] at this
        omega
      · have tS : TupS H3 (upd H3 p (.lst (xs ++ ys))) := TupS.upd (TupS.refl _) (by rw [s3 _ _ hp]; intro xs z; cases z)
        refine ⟨_, some (.int i), rfl, Same.mut (sH.trans s3) np, upd_same, ?_⟩
        · show TupsAt _ _ ((awTo kns l t i ++ wantsOf i (kns.getD i []) l t).map Want.vs)
          rw [List.map_append]
          exact Paired.append ((hx.mono (TupS.of_same s3)).mono tS) (t3.mono tS)
    · rintro σ H2 ⟨xs, v, rfl, sH, hp, hx⟩
      exact ⟨_, rfl, q p xs H2 sH np hp hx⟩
/-! ### are_borne -/
def sp_are_borne : Sp := fun vs H Q _ => ∃ (p : Addr) (xs : List V) (ws : List Want) (lost : Int), vs = [.ref p, .int lost] ∧ H p = some (.lst xs) ∧ TupsAt H xs (ws.map Want.vs) ∧ ws.length ≤ 1000 ∧ (∀ x ∈ ws, x.word = "twice" ∨ x.word = "lost") ∧
  ∀ (H' : Hp), Same H H' → Q (.bl (borne ws lost)) H'
theorem sc_are_borne : FnScope ["wants", "lost", "want"] ["wants", "lost"] (defScope s_are_borne) := ⟨rfl, rfl, rfl, by decide +kernel, rfl, by decide +kernel, by decide +kernel⟩
theorem vs_ok {x : Want} (h : x.word = "twice" ∨ x.word = "lost") : ∀ v ∈ x.vs, okV v = true := by
  intro v hv
  unfold Want.vs at hv
  simp only [List.mem_cons, List.not_mem_nil, or_false] at hv
  rcases hv with rfl | rfl | rfl | rfl
  · rfl
  · rfl
  · rfl
  · rcases h with e | e <;> rw [e] <;> decide +kernel
theorem ok_are_borne {f : Addr} {fd : FuncData} (F : Fun K "are_borne" "are_borne" s_are_borne f fd) (G : Glb K w mg dI) :
    FnOk P w K mg base CX0 1 f fd ["wants", "lost"] sp_are_borne := by
  refine F.ok sc_are_borne (fun vs H Q E h => ?_) (fun cdv A outer s H vs Q E hr h => ?_)
  · obtain ⟨p, xs, ws, lost, rfl, _⟩ := h
    rfl
  · obtain ⟨p, xs, ws, lost, rfl, hp, hx, hl, hw, q⟩ := h
    have hxl : xs.length = ws.length := by have := hx.length; rw [List.length_map] at this; exact this
    refine ⟨_, (pss_one (ps_ret (pe_and (pe_cmpR (op_eqD hr.units) (pe_lc (own := [("want", 2)]) (g := gName 2) rfl sc_are_borne.nd (pi_list (pv 0)) (blkOk_by (own := [("want", 2)]) (N := ["wants", "lost", "want"]) (sc := defScope s_are_borne) (by decide +kernel)) (fun _ _ _ _ _ => (pg_name (i := 2) sc_are_borne.nd rfl (Or.inl rfl))) (fun _ _ _ _ _ => (pts_one (pt_cmpR op_eq (pe_ix (ix_tupK (K := K)) (pv 2) pe_int (fun _ _ => rfl)) pe_str (nomark _)))) (fun _ _ _ _ _ => (pv 2))) (pe_lst pa_nil) (nomark _)) (pe_one (pe_cmpR op_le (pe_callB call_len_seq (by rfl) G.len (by decide +kernel) (pa_cons (pv 0) pa_nil)) (pv 1) (nomark _)))))), ?_⟩
    refine ⟨_, rfl, p, rfl, ⟨_, SqL.of hp⟩, fun D nD => ?_⟩
    have s1 : Same H (upd H D (.lst [])) := Same.new nD
    refine lc_list (K := K) (a := p) (xs := xs) (fun i H2 => ∃ ys, Same H H2 ∧ H2 D = some (.lst ys) ∧ TupsAt H2 ys (((ws.take i).filter fun x => decide (x.word = ("twice" : Str))).map Want.vs)) ⟨[], s1, upd_same, .nil⟩
      (fun i H2 _ ⟨_, sH, _⟩ => SqL.of (sH _ _ hp)) ?_ ?_
    · rintro i x H2 hi ⟨ys, sH, hD, hy⟩
      obtain ⟨d, hd, a, rfl, ha⟩ := Paired.getL hx hi
      rw [List.getElem?_map] at hd
      obtain ⟨wt, hwt, rfl⟩ := Option.map_eq_some_iff.mp hd
      have hil : i < ws.length := (List.getElem?_eq_some_iff.mp hwt).1
      have hyl : ys.length ≤ 1000 := by
        have h1 := hy.length
        have h2 := List.length_filter_le (fun x : Want => decide (x.word = ("twice" : Str))) (ws.take i)
        rw [List.length_map] at h1
        rw [List.length_take] at h2
        omega
      have etk : ws.take (i + 1) = ws.take i ++ [wt] := by rw [List.take_succ, hwt]; rfl
      refine ⟨rfl, _, rfl, a, wt.vs, 3, .str wt.word, rfl, rfl, SqT.of (sH _ _ ha), rfl, rfl, _, rfl, ?_⟩
      refine ite2 (fun h => ?_) (fun h => ?_)
      · have h' : wt.word = "twice" := by simpa using h
        have tS : TupS H2 (upd H2 D (.lst (ys ++ [.ref a]))) := TupS.upd (TupS.refl _) (by rw [hD]; intro xs z; cases z)
        refine ⟨_, rfl, ys, hD, szl (by omega), ys ++ [.ref a], Same.mut sH nD, upd_same, ?_⟩
        rw [etk, List.filter_append, List.map_append]
        refine Paired.append (hy.mono tS) ?_
        rw [List.filter_cons, if_pos (by simpa using h')]
        exact .cons ⟨a, rfl, tS _ _ (sH _ _ ha)⟩ .nil
      · have h' : ¬ wt.word = "twice" := by simpa using h
        refine ⟨ys, sH, hD, ?_⟩
        rw [etk, List.filter_append, List.filter_cons, if_neg (by simpa using h')]
        simpa using hy
    · rintro H2 ⟨ys, sH, hD, hy⟩
      rw [hxl, List.take_length] at hy
      have okT : ∀ d ∈ ((ws.filter fun x => decide (x.word = ("twice" : Str))).map Want.vs), ∀ v ∈ d, okV v = true := by
        intro d hd
        obtain ⟨x, hx, rfl⟩ := List.mem_map.mp hd
        exact vs_ok (hw x (List.mem_filter.mp hx).1)
      refine ⟨by decide, fun e ne => ?_⟩
      have s3 : Same H2 (upd H2 e (.lst [])) := Same.new ne
      refine ⟨.list (((ws.filter fun x => decide (x.word = ("twice" : Str))).map Want.vs).map tupD), .list [], .lst (SqL.of (s3 _ _ hD)) (dp_tups (hy.mono (TupS.of_same s3)) okT), dp_nil upd_same, shaped_tups okT, shaped_nil, _, rfl, ?_⟩
      rw [eqv_nil, List.isEmpty_map, List.isEmpty_map]
      refine ite2 (fun h => ?_) (fun h => ?_)
      · refine ⟨_, rfl, p, _, rfl, .inl (SqL.of (s3 _ _ (sH _ _ hp))), _, rfl, _, _, rfl, rfl, ?_⟩
        have := q _ (sH.trans s3)
        unfold borne at this
        rw [h, Bool.true_and] at this
        rw [hxl]
        exact this
      · have := q _ (sH.trans s3)
        unfold borne at this
        rw [Bool.eq_false_iff.mpr h, Bool.false_and] at this
        exact this
end
end IC
namespace IC
open PySem L2
/-! ### a house as it stands -/
structure Hs where
  late : Int
  lost : Int
  now : Int
  kns : List Kn
  many : Int
  fault : V
def flds (L : Addr) (h : Hs) : List (Str × V) := [("late", .int h.late), ("lost", .int h.lost), ("now", .int h.now), ("known", .ref L), ("many", .int h.many), ("fault", h.fault)]
theorem lk_ne {k k' : Str} {v : V} {l : List (Str × V)} (h : (k == k') = false) : List.lookup k ((k', v) :: l) = List.lookup k l := by simp [List.lookup, h]
theorem lk_eq {k : Str} {v : V} {l : List (Str × V)} : List.lookup k ((k, v) :: l) = some v := by simp [List.lookup]
theorem fl_late (L : Addr) (h : Hs) : (flds L h).lookup ("late" : Str) = some (.int h.late) := lk_eq
theorem fl_lost (L : Addr) (h : Hs) : (flds L h).lookup ("lost" : Str) = some (.int h.lost) := (lk_ne (by decide +kernel)).trans lk_eq
theorem fl_now (L : Addr) (h : Hs) : (flds L h).lookup ("now" : Str) = some (.int h.now) := (lk_ne (by decide +kernel)).trans ((lk_ne (by decide +kernel)).trans lk_eq)
theorem fl_known (L : Addr) (h : Hs) : (flds L h).lookup ("known" : Str) = some (.ref L) := (lk_ne (by decide +kernel)).trans ((lk_ne (by decide +kernel)).trans ((lk_ne (by decide +kernel)).trans lk_eq))
theorem fl_many (L : Addr) (h : Hs) : (flds L h).lookup ("many" : Str) = some (.int h.many) := (lk_ne (by decide +kernel)).trans ((lk_ne (by decide +kernel)).trans ((lk_ne (by decide +kernel)).trans ((lk_ne (by decide +kernel)).trans lk_eq)))
theorem fl_fault (L : Addr) (h : Hs) : (flds L h).lookup ("fault" : Str) = some h.fault := (lk_ne (by decide +kernel)).trans ((lk_ne (by decide +kernel)).trans ((lk_ne (by decide +kernel)).trans ((lk_ne (by decide +kernel)).trans ((lk_ne (by decide +kernel)).trans lk_eq))))
/-- the names of its methods are no attributes -/
theorem fl_no (L : Addr) (h : Hs) {m : Str} (hm : [("late" : Str), "lost", "now", "known", "many", "fault"].all (fun k => !(m == k)) = true) : (flds L h).lookup m = none := by
  simp only [List.all_cons, List.all_nil, Bool.and_true, Bool.and_eq_true, Bool.not_eq_true'] at hm
  obtain ⟨h1, h2, h3, h4, h5, h6⟩ := hm
  exact (lk_ne h1).trans ((lk_ne h2).trans ((lk_ne h3).trans ((lk_ne h4).trans ((lk_ne h5).trans ((lk_ne h6).trans rfl)))))
theorem pf_eq {k : Str} {u v : V} {l : List (Str × V)} : putF k v ((k, u) :: l) = (k, v) :: l := by
  show (if k = k then _ else _) = _
  rw [if_pos rfl]
theorem pf_ne {k k' : Str} {u v : V} {l : List (Str × V)} (h : ¬ k' = k) : putF k v ((k', u) :: l) = (k', u) :: putF k v l := by
  show (if k' = k then _ else _) = _
  rw [if_neg h]
theorem pf_now (L : Addr) (h : Hs) (t : Int) : putF "now" (.int t) (flds L h) = flds L { h with now := t } := by
  unfold flds
  rw [pf_ne (by decide +kernel), pf_ne (by decide +kernel), pf_eq]
theorem pf_many (L : Addr) (h : Hs) (t : Int) : putF "many" (.int t) (flds L h) = flds L { h with many := t } := by
  unfold flds
  rw [pf_ne (by decide +kernel), pf_ne (by decide +kernel), pf_ne (by decide +kernel), pf_ne (by decide +kernel), pf_eq]
theorem pf_fault (L : Addr) (h : Hs) (v : V) : putF "fault" v (flds L h) = flds L { h with fault := v } := by
  unfold flds
  rw [pf_ne (by decide +kernel), pf_ne (by decide +kernel), pf_ne (by decide +kernel), pf_ne (by decide +kernel), pf_ne (by decide +kernel), pf_eq]
/-- what is asked of the class -/
structure HTxt (K : PySem.W.Frag) (C : Addr) : Prop where
  cl : Cls K C
  n_late : NoAttr K C "late"
  n_lost : NoAttr K C "lost"
  n_now : NoAttr K C "now"
  n_known : NoAttr K C "known"
  n_many : NoAttr K C "many"
  n_fault : NoAttr K C "fault"
structure HouseAt (C : Addr) (H : Hp) (p L : Addr) (ds : List Addr) (h : Hs) : Prop where
  ob : ∃ dx, H p = some (.ins C dx (flds L h))
  kn : KnAt H L ds h.kns
section
variable {C : Addr} {H H' : Hp} {p L : Addr} {ds : List Addr} {h h' : Hs} {K : PySem.W.Frag} {f : Str} {v : V} {Q : VK}
theorem HouseAt.same (a : HouseAt C H p L ds h) (s : Same H H') : HouseAt C H' p L ds h := ⟨let ⟨dx, e⟩ := a.ob; ⟨dx, s _ _ e⟩, a.kn.same s⟩
theorem HouseAt.keeps {fp : List Addr} (a : HouseAt C H p L ds h) (s : Keeps fp H H') (h0 : p ∉ fp) (h1 : L ∉ fp) (h2 : ∀ d ∈ ds, d ∉ fp) : HouseAt C H' p L ds h := ⟨let ⟨dx, e⟩ := a.ob; ⟨dx, s _ _ e h0⟩, a.kn.keeps s h1 h2⟩
theorem KnAt.mem {kns : List Kn} (k : KnAt H L ds kns) {d : Addr} (hd : d ∈ ds) : ∃ kvs, H d = some (.dK kvs) := by
  obtain ⟨i, hi, rfl⟩ := List.getElem_of_mem hd
  obtain ⟨kn, _, e⟩ := Paired.getL k.at_ (List.getElem?_eq_getElem hi)
  exact ⟨_, e⟩
theorem HouseAt.pL (a : HouseAt C H p L ds h) : p ≠ L := by
  obtain ⟨dx, e⟩ := a.ob
  exact ne_of e a.kn.lst (by intro z; cases z)
theorem HouseAt.pd (a : HouseAt C H p L ds h) : p ∉ ds := fun hm => by
  obtain ⟨dx, e⟩ := a.ob
  obtain ⟨kvs, e2⟩ := a.kn.mem hm
  rw [e] at e2
  cases e2
theorem KnAt.Ld {kns : List Kn} (k : KnAt H L ds kns) : L ∉ ds := fun hm => by
  obtain ⟨kvs, e2⟩ := k.mem hm
  rw [k.lst] at e2
  cases e2
/-- an attribute is stored -/
theorem HouseAt.w {dx : Addr} (a : HouseAt C H p L ds h) (eo : H p = some (.ins C dx (flds L h))) (e : putF f v (flds L h) = flds L h') (hk : h'.kns = h.kns) :
    HouseAt C (upd H p (.ins C dx (putF f v (flds L h)))) p L ds h' ∧ Keeps [p] H (upd H p (.ins C dx (putF f v (flds L h)))) := by
  refine ⟨⟨⟨dx, by rw [upd_same, e]⟩, ?_⟩, ((Keeps.refl _ _).upd (by simp))⟩
  rw [hk]
  exact a.kn.keeps ((Keeps.refl [p] H).upd (by simp)) (by simpa using a.pL.symm) fun d hd hm => a.pd (by simp at hm; rw [← hm]; exact hd)
theorem six (L : Addr) (h : Hs) : (flds L h).length < 1000 := by show 6 < 1000; decide
end
/-- it is a time -/
def goneOn (h : Hs) (t : Int) : Hs :=
  { h with now := t, many := h.many + 1, fault := if h.fault = .non ∧ borne (allWants h.kns h.late t) h.lost = false then .int h.many else h.fault }
/-- a row has come -/
def putRow (h : Hs) (b : Nat) (m : Int) (z : Str) : Hs := { h with kns := h.kns.set b (h.kns.getD b [] ++ [(m, z)]) }
section
variable {P : Program} {w : World} {K : PySem.W.Frag} {mg : Str → Option Value} {base : Heap} {dI C : Addr}
/-! ### is_time -/
def sp_is_time (C : Addr) : Sp := fun vs H Q _ => ∃ (p L : Addr) (ds : List Addr) (h : Hs) (t : Int), vs = [.ref p, .int t] ∧ HouseAt C H p L ds h ∧ Q (.bl (decide (h.now ≤ t) && decide (t ≤ 60))) H
theorem sc_House_is_time : FnScope ["self", "time"] ["self", "time"] (defScope s_House_is_time) := ⟨rfl, rfl, rfl, by decide +kernel, rfl, by decide +kernel, by decide +kernel⟩
theorem ok_is_time {f : Addr} {fd : FuncData} (F : Fun K "is_time" "House.is_time" s_House_is_time f fd) (G : Glb K w mg dI) (T : HTxt K C) : FnOk P w K mg base CX0 1 f fd ["self", "time"] (sp_is_time C) := by
  refine F.ok sc_House_is_time (fun vs H Q E h => ?_) (fun cdv A outer s H vs Q E hr h => ?_)
  · obtain ⟨p, L, ds, h, t, rfl, _⟩ := h
    rfl
  · obtain ⟨p, L, ds, h, t, rfl, ha, q⟩ := h
    refine ⟨_, (pss_one (ps_ret (pe_chain op_le op_le (pe_fld (pv 0) rfl) (pv 1) (C8.pe_gc rfl G.MOST_TIME)))), ?_⟩
    obtain ⟨dx, eo⟩ := ha.ob
    refine ⟨_, rfl, p, C, dx, _, _, rfl, eo, T.cl, T.n_now, fl_now _ _, _, rfl, _, _, rfl, rfl, _, rfl, ?_⟩
    refine ite2 (fun h1 => ?_) (fun h1 => ?_)
    · refine ⟨_, _, rfl, rfl, ?_⟩
      rw [h1] at q
      simpa using q
    · rw [Bool.eq_false_iff.mpr h1] at q
      simpa using q
/-! ### gone_on -/
def sp_gone_on (C : Addr) : Sp := fun vs H Q _ => ∃ (p L : Addr) (ds : List Addr) (h : Hs) (t : Int), vs = [.ref p, .int t] ∧ HouseAt C H p L ds h ∧ (h.fault = .non ∨ ∃ i, h.fault = .int i) ∧
  ∀ H', HouseAt C H' p L ds (goneOn h t) → Keeps [p] H H' → Q .non H'
theorem sc_House_gone_on : FnScope ["self", "time"] ["self", "time"] (defScope s_House_gone_on) := ⟨rfl, rfl, rfl, by decide +kernel, rfl, by decide +kernel, by decide +kernel⟩
theorem ok_gone_on {f : Addr} {fd : FuncData} (F : Fun K "gone_on" "House.gone_on" s_House_gone_on f fd) (G : Glb K w mg dI) (T : HTxt K C) (c_all_wants : C8.Cal P w K mg base 3 "all_wants" sp_all_wants []) (c_are_borne : C8.Cal P w K mg base 1 "are_borne" sp_are_borne []) :
    FnOk P w K mg base CX0 4 f fd ["self", "time"] (sp_gone_on C) := by
  refine F.ok sc_House_gone_on (fun vs H Q E h => ?_) (fun cdv A outer s H vs Q E hr h => ?_)
  · obtain ⟨p, L, ds, h, t, rfl, _⟩ := h
    rfl
  · obtain ⟨p, L, ds, h, t, rfl, ha, hf, q⟩ := h
    refine ⟨_, (pss_cons (ps_fld (pv 0) (pv 1) rfl)
      (C8.pss_cut (ps_if (PW.pt (pw_and (pt_cmpR op_isN (pe_fld (pv 0) rfl) pe_non (nomark _)) (pw_and1 (pt_not (pt_val (C8.pe_c c_are_borne hr (by decide) rfl (pa_cons (C8.pe_c c_all_wants hr (by decide) rfl (pa_cons (pe_fld (pv 0) rfl) (pa_cons (pe_fld (pv 0) rfl) (pa_cons (pe_fld (pv 0) rfl) pa_nil)))) (pa_cons (pe_fld (pv 0) rfl) pa_nil))))))))
        (pss_one (ps_fld (pv 0) (pe_fld (pv 0) rfl) rfl))
        pss_nil)
      (pss_one (ps_fld (pv 0) (pe_op op_add (pe_fld (pv 0) rfl) pe_int) rfl)))), ?_⟩
    -- self.now = time
    obtain ⟨dx, eo⟩ := ha.ob
    refine ⟨_, rfl, _, rfl, p, C, dx, _, rfl, eo, T.cl, T.n_now, six _ _, ?_⟩
    obtain ⟨h1, k1⟩ := ha.w eo (pf_now L h t) rfl
    generalize upd H p (.ins C dx (putF "now" (.int t) (flds L h))) = H1 at *
    refine ⟨fun σ H2 => σ = [some (.ref p), some (.int t)] ∧ HouseAt C H2 p L ds { goneOn h t with many := h.many } ∧ Keeps [p] H H2, ?_, ?_⟩
    · obtain ⟨dx1, e1⟩ := h1.ob
      refine ⟨_, rfl, p, C, dx1, _, _, rfl, e1, T.cl, T.n_fault, fl_fault _ _, rfl, _, rfl, ?_⟩
      refine ite2 (fun e0 => ?_) (fun e0 => ?_)
      · have e0' : h.fault = .non := by simpa using e0
        refine ⟨_, rfl, p, C, dx1, _, _, rfl, e1, T.cl, T.n_known, fl_known _ _, _, rfl, p, C, dx1, _, _, rfl, e1, T.cl, T.n_late, fl_late _ _, _, rfl, p, C, dx1, _, _, rfl, e1, T.cl, T.n_now, fl_now _ _, L, ds, h.kns, h.late, t, rfl, h1.kn, fun a xs H2 s2 na ha2 t2 => ?_⟩
        have h2 := h1.same s2
        refine ⟨_, rfl, p, C, dx1, _, _, rfl, s2 _ _ e1, T.cl, T.n_lost, fl_lost _ _, a, xs, allWants h.kns h.late t, h.lost, rfl, ha2, t2, ?_, awTo_wd _ _ _ _, fun H3 s3 => ?_⟩
        · have := awTo_len ha.kn.ok h.late t h.kns.length (Nat.le_refl _)
          have := ha.kn.few
          unfold allWants
          omega
        · have h3 := h2.same s3
          have e3 := s3 _ _ (s2 _ _ e1)
          have k3 : Keeps [p] H H3 := k1.trans (.of_same (s2.trans s3))
          refine ⟨_, rfl, ?_⟩
          refine ite2 (fun e1 => ?_) (fun e1 => ?_)
          · have e1' : borne (allWants h.kns h.late t) h.lost = false := by simpa using e1
            refine ⟨_, rfl, p, C, dx1, _, _, rfl, e3, T.cl, T.n_many, fl_many _ _, _, rfl, p, C, dx1, _, rfl, e3, T.cl, T.n_fault, six _ _, rfl, ?_⟩
            obtain ⟨h4, k4⟩ := h3.w e3 (pf_fault L _ (.int h.many)) rfl
            refine ⟨?_, k3.trans k4⟩
            unfold goneOn
            rw [if_pos ⟨e0', e1'⟩]
            exact h4
          · have e1' : ¬ borne (allWants h.kns h.late t) h.lost = false := by simpa using e1
            refine ⟨rfl, ?_, k3⟩
            unfold goneOn
            rw [if_neg fun z => e1' z.2]
            exact h3
      · have e0' : ¬ h.fault = .non := by simpa using e0
        refine iteF ⟨rfl, ?_, k1⟩
        unfold goneOn
        rw [if_neg fun z => e0' z.1]
        exact h1
    · rintro σ H2 ⟨rfl, h2, k2⟩
      obtain ⟨dx2, e2⟩ := h2.ob
      refine ⟨_, rfl, p, C, dx2, _, _, rfl, e2, T.cl, T.n_many, fl_many _ _, _, _, rfl, rfl, _, rfl, p, C, dx2, _, rfl, e2, T.cl, T.n_many, six _ _, ?_⟩
      obtain ⟨h3, k3⟩ := h2.w e2 (pf_many L _ (h.many + 1)) rfl
      exact q _ h3 (k2.trans k3)
/-! ### a row comes: the dict -/
theorem Paired.setL {α β : Type} {R R' : α → β → Prop} : ∀ {xs : List α} {ys : List β} {b : Nat} {x : α} {y : β}, Paired R xs ys → xs.Nodup → xs[b]? = some x → (∀ u v, u ≠ x → R u v → R' u v) → R' x y → Paired R' xs (ys.set b y)
  | _, _, _, _, _, .nil, _, h, _, _ => by simp at h
  | x0 :: xs, y0 :: ys, 0, x, y, .cons r t, nd, h, k, q => by
    have e : x0 = x := by simpa using h
    subst e
    refine .cons q ?_
    have all : ∀ {xs : List α} {ys : List β}, Paired R xs ys → (∀ u ∈ xs, u ≠ x0) → Paired R' xs ys := by
      intro xs ys h
      induction h with
      | nil => intro _; exact .nil
      | cons r t ih => intro hd; exact .cons (k _ _ (hd _ List.mem_cons_self) r) (ih fun d h => hd d (List.mem_cons_of_mem _ h))
    exact all t fun u hu e => (List.nodup_cons.mp nd).1 (e ▸ hu)
  | x0 :: xs, y0 :: ys, b + 1, x, y, .cons r t, nd, h, k, q => by
    have h' : xs[b]? = some x := by simpa using h
    refine .cons (k _ _ (fun e => (List.nodup_cons.mp nd).1 (e ▸ List.mem_of_getElem? h')) r) (Paired.setL t (List.nodup_cons.mp nd).2 h' k q)
theorem encK_put {kn : Kn} {m : Int} {z : Str} (h : lookK kn m = none) : putK (encK kn) (Sum.inl m) (.str z) = encK (kn ++ [(m, z)]) := by
  have e : valV (encK kn) (Sum.inl m) = none := by rw [valV_enc, h]; rfl
  rw [putK_new _ e]
  unfold encK
  rw [List.map_append]
  rfl
theorem KnAt.put {H : Hp} {L : Addr} {ds : List Addr} {kns : List Kn} {b : Nat} {d : Addr} {kn : Kn} (k : KnAt H L ds kns) (hb : ds[b]? = some d) (ok : KnOk kn) : KnAt (upd H d (.dK (encK kn))) L ds (kns.set b kn) := by
  have hd : d ∈ ds := List.mem_of_getElem? hb
  have hL : L ≠ d := fun z => k.Ld (z ▸ hd)
  refine ⟨by rw [upd_ne hL]; exact k.lst, k.nd, Paired.setL k.at_ k.nd hb (fun u v hu r => by rw [upd_ne hu]; exact r) upd_same, fun x hx => ?_, by rw [List.length_set]; exact k.few⟩
  rcases List.mem_or_eq_of_mem_set hx with z | z
  · exact k.ok x z
  · rw [z]; exact ok
theorem HouseAt.put {H : Hp} {p L : Addr} {ds : List Addr} {h : Hs} {b : Nat} {d : Addr} {m : Int} {z : Str} (a : HouseAt C H p L ds h) (hb : ds[b]? = some d) (ok : KnOk (h.kns.getD b [] ++ [(m, z)])) :
    HouseAt C (upd H d (.dK (encK (h.kns.getD b [] ++ [(m, z)])))) p L ds (putRow h b m z) := by
  refine ⟨?_, a.kn.put hb ok⟩
  obtain ⟨dx, e⟩ := a.ob
  exact ⟨dx, by rw [upd_ne (fun z => a.pd (by rw [z]; exact List.mem_of_getElem? hb))]; exact e⟩
theorem lookK_none {kn : Kn} {m : Int} (h : lookK kn m = none) : m ∉ kn.map (·.1) := fun hm => by
  obtain ⟨z, e, _⟩ := lookK_mem hm
  rw [h] at e
  cases e
theorem KnOk.snoc {kn : Kn} (k : KnOk kn) {m : Int} {z : Str} (h : lookK kn m = none) (hz : Wd z) (h1 : 1 ≤ m) (h2 : m ≤ 60) : KnOk (kn ++ [(m, z)]) := by
  refine ⟨?_, fun p hp => ?_, fun p hp => ?_⟩
  · rw [List.map_append]
    refine List.nodup_append.mpr ⟨k.nd, by simp, fun a ha b hb => ?_⟩
    simp at hb
    subst hb
    intro e
    exact lookK_none h (e ▸ ha)
  · rcases List.mem_append.mp hp with q | q
    · exact k.wd p q
    · simp at q; subst q; exact hz
  · rcases List.mem_append.mp hp with q | q
    · exact k.rg p q
    · simp at q; subst q; exact ⟨h1, h2⟩
/-- a row that can come -/
structure Comes (h : Hs) (t : Int) (b : Nat) (m : Int) (z : Str) : Prop where
  t0 : h.now ≤ t
  t1 : t ≤ 60
  b1 : b < h.kns.length
  wd : Wd z
  m0 : 1 ≤ m
  m1 : m ≤ t
  lt : t - m ≤ h.late
  new : lookK (h.kns.getD b []) m = none
theorem getD_mem {kns : List Kn} {b : Nat} (h : b < kns.length) : kns[b]? = some (kns.getD b []) ∧ kns.getD b [] ∈ kns := by
  have e : kns[b]? = some (kns.getD b []) := by rw [List.getD_eq_getElem?_getD, List.getElem?_eq_getElem h]; rfl
  exact ⟨e, List.mem_of_getElem? e⟩
def FaultOk (h : Hs) : Prop := h.fault = .non ∨ ∃ i, h.fault = .int i
def sp_come (C : Addr) : Sp := fun vs H Q _ => ∃ (p L : Addr) (ds : List Addr) (h : Hs) (t : Int) (b : Nat) (m : Int) (z : Str), vs = [.ref p, .int t, .int b, .int m, .str z] ∧ HouseAt C H p L ds h ∧ FaultOk h ∧ Comes h t b m z ∧
  ∀ H', HouseAt C H' p L ds (goneOn (putRow h b m z) t) → Keeps (p :: ds) H H' → Q .non H'
theorem sc_House_come : FnScope ["self", "time", "badge", "moment", "word"] ["self", "time", "badge", "moment", "word"] (defScope s_House_come) := ⟨rfl, rfl, rfl, by decide +kernel, rfl, by decide +kernel, by decide +kernel⟩
theorem ok_come {f : Addr} {fd : FuncData} (F : Fun K "come" "House.come" s_House_come f fd) (G : Glb K w mg dI) (T : HTxt K C) (c_is_time : C8.Met P w K mg base 1 C "is_time" (sp_is_time C) []) (c_gone_on : C8.Met P w K mg base 4 C "gone_on" (sp_gone_on C) []) :
    FnOk P w K mg base CX0 5 f fd ["self", "time", "badge", "moment", "word"] (sp_come C) := by
  refine F.ok sc_House_come (fun vs H Q E h => ?_) (fun cdv A outer s H vs Q E hr h => ?_)
  · obtain ⟨p, L, ds, h, t, b, m, z, rfl, _⟩ := h
    rfl
  · obtain ⟨p, L, ds, h, t, b, m, z, rfl, ha, hf, hc, q⟩ := h
    have hu := hu_of hr
    obtain ⟨dx, eo⟩ := ha.ob
    obtain ⟨ek, hkm⟩ := getD_mem hc.b1
    obtain ⟨d, hd, hdk⟩ := Paired.get ha.kn.at_ ek
    obtain ⟨u, hns⟩ := G.ns hc.wd
    have hlen : ds.length = h.kns.length := ha.kn.len
    have hb1 := hc.b1
    have ht0 := hc.t0
    have ht1 := hc.t1
    have hm0 := hc.m0
    have hm1 := hc.m1
    have hlt := hc.lt
    have hg : DGet H d (.int m) none := by
      have e : DGet H d (kV (Sum.inl m)) (valV (encK (h.kns.getD b [])) (Sum.inl m)) := DGet.k hdk
      rw [valV_enc, hc.new] at e
      exact e
    refine ⟨_, (pss_cons (ps_if (PW.pt (pw_or (pt_not (pt_val (C8.pe_mt c_is_time hr (by decide) (pv 0) (pa_cons (pv 1) pa_nil)))) (pw_or (pt_not (pt_chain op_le op_lt pe_int (pv 2) (pe_callB call_len_seq (by rfl) G.len (by decide +kernel) (pa_cons (pe_fld (pv 0) rfl) pa_nil)))) (pw_or1 (pt_cmpR (op_notIn_kdE G.KI) (pv 4) (pe_glob (v := .ref dI) rfl G.INSIDE rfl) (by rfl))))))
        (pss_one ps_never)
        pss_nil)
      (pss_cons (ps_if (PW.pt (pw_or (pt_not (pt_chain op_le op_le pe_int (pv 3) (pv 1))) (pw_or (pt_cmpR op_gt (pe_op op_sub (pv 1) (pv 3)) (pe_fld (pv 0) rfl) (nomark _)) (pw_or1 (pt_cmp (pc_din hu (pv 3) (pe_ix ix_list (pe_fld (pv 0) rfl) (pv 2) (fun _ _ => rfl))))))))
        (pss_one ps_never)
        pss_nil)
      (pss_cons (ps_dput hu (pe_ix ix_list (pe_fld (pv 0) rfl) (pv 2) (fun _ _ => rfl)) (pv 3) (pv 4) rfl)
      (pss_one (ps_expr (C8.pe_mt c_gone_on hr (by decide) (pv 0) (pa_cons (pv 1) pa_nil))))))), ?_⟩
    refine ⟨_, rfl, p, dx, _, rfl, eo, fl_no _ _ (by decide +kernel), _, rfl, p, L, ds, h, t, rfl, ha, _, rfl, ifF (by simp [ht0, ht1]) ?_⟩
    refine ⟨_, rfl, _, _, rfl, rfl, _, rfl, ifT (by simp) ?_⟩
    refine ⟨_, rfl, p, C, dx, _, _, rfl, eo, T.cl, T.n_known, fl_known _ _, L, _, rfl, .inl (SqL.of ha.kn.lst), _, _, rfl, rfl, _, rfl, ifF (by simp; omega) ?_⟩
    refine ⟨_, rfl, z, _, rfl, rfl, hns, _, rfl, ifF (by simp) ?_⟩
    refine ⟨_, rfl, _, _, rfl, rfl, _, rfl, ifT (by simp; omega) ?_⟩
    refine ⟨_, rfl, _, _, rfl, rfl, _, rfl, ifF (by simp; omega) ?_⟩
    refine ⟨_, rfl, _, rfl, _, _, rfl, rfl, _, rfl, p, C, dx, _, _, rfl, eo, T.cl, T.n_late, fl_late _ _, _, _, rfl, rfl, _, rfl, ifF (by simp; omega) ?_⟩
    refine ⟨_, rfl, _, rfl, p, C, dx, _, _, rfl, eo, T.cl, T.n_known, fl_known _ _, _, rfl, L, _, _, .ref d, rfl, rfl, SqL.of ha.kn.lst, atI_nat (by rw [List.getElem?_map, hd]; rfl), d, _, rfl, hg, _, rfl, ifF (by simp) ?_⟩
    have ok := (ha.kn.ok _ hkm).snoc hc.new hc.wd hm0 (by omega : m ≤ 60)
    have sm := (ha.kn.ok _ hkm).sm
    refine ⟨_, rfl, _, rfl, p, C, dx, _, _, rfl, eo, T.cl, T.n_known, fl_known _ _, _, rfl, L, _, _, .ref d, rfl, rfl, SqL.of ha.kn.lst, atI_nat (by rw [List.getElem?_map, hd]; rfl), _, rfl, d, _, rfl, DPut.k (k := Sum.inl m) hdk (szl (by unfold encK; rw [List.length_map]; omega)), ?_⟩
    rw [encK_put hc.new]
    have h1 := ha.put hd ok
    have k1 : Keeps (p :: ds) H (upd H d (.dK (encK (h.kns.getD b [] ++ [(m, z)])))) := (Keeps.refl _ _).upd (List.mem_cons_of_mem _ (List.mem_of_getElem? hd))
    generalize upd H d (.dK (encK (h.kns.getD b [] ++ [(m, z)]))) = H1 at *
    obtain ⟨dx1, e1⟩ := h1.ob
    refine ⟨_, rfl, p, dx1, _, rfl, e1, fl_no _ _ (by decide +kernel), _, rfl, p, L, ds, putRow h b m z, t, rfl, h1, hf, fun H2 h2 k2 => ?_⟩
    exact q H2 h2 (k1.trans (k2.mono (by simp)))
/-! ### tick -/
def sp_tick (C : Addr) : Sp := fun vs H Q _ => ∃ (p L : Addr) (ds : List Addr) (h : Hs) (t : Int), vs = [.ref p, .int t] ∧ HouseAt C H p L ds h ∧ FaultOk h ∧ h.now ≤ t ∧ t ≤ 60 ∧
  ∀ H', HouseAt C H' p L ds (goneOn h t) → Keeps (p :: ds) H H' → Q .non H'
theorem sc_House_tick : FnScope ["self", "time"] ["self", "time"] (defScope s_House_tick) := ⟨rfl, rfl, rfl, by decide +kernel, rfl, by decide +kernel, by decide +kernel⟩
theorem ok_tick {f : Addr} {fd : FuncData} (F : Fun K "tick" "House.tick" s_House_tick f fd) (G : Glb K w mg dI) (T : HTxt K C) (c_is_time : C8.Met P w K mg base 1 C "is_time" (sp_is_time C) []) (c_gone_on : C8.Met P w K mg base 4 C "gone_on" (sp_gone_on C) []) :
    FnOk P w K mg base CX0 5 f fd ["self", "time"] (sp_tick C) := by
  refine F.ok sc_House_tick (fun vs H Q E h => ?_) (fun cdv A outer s H vs Q E hr h => ?_)
  · obtain ⟨p, L, ds, h, t, rfl, _⟩ := h
    rfl
  · obtain ⟨p, L, ds, h, t, rfl, ha, hf, ht0, ht1, q⟩ := h
    obtain ⟨dx, eo⟩ := ha.ob
    refine ⟨_, (pss_cons (ps_if (pt_not (pt_val (C8.pe_mt c_is_time hr (by decide) (pv 0) (pa_cons (pv 1) pa_nil))))
        (pss_one ps_never)
        pss_nil)
      (pss_one (ps_expr (C8.pe_mt c_gone_on hr (by decide) (pv 0) (pa_cons (pv 1) pa_nil))))), ?_⟩
    refine ⟨_, rfl, p, dx, _, rfl, eo, fl_no _ _ (by decide +kernel), _, rfl, p, L, ds, h, t, rfl, ha, _, rfl, ifF (by simp [ht0, ht1]) ?_⟩
    exact ⟨_, rfl, p, dx, _, rfl, eo, fl_no _ _ (by decide +kernel), _, rfl, p, L, ds, h, t, rfl, ha, hf, fun H2 h2 k2 => q H2 h2 (k2.mono (by simp))⟩
/-! ### time -/
def sp_time (C : Addr) : Sp := fun vs H Q _ => ∃ (p L : Addr) (ds : List Addr) (h : Hs), vs = [.ref p] ∧ HouseAt C H p L ds h ∧ Q (.int h.now) H
theorem sc_House_time : FnScope ["self"] ["self"] (defScope s_House_time) := ⟨rfl, rfl, rfl, by decide +kernel, rfl, by decide +kernel, by decide +kernel⟩
theorem ok_time {f : Addr} {fd : FuncData} (F : Fun K "time" "House.time" s_House_time f fd) (T : HTxt K C) : FnOk P w K mg base CX0 1 f fd ["self"] (sp_time C) := by
  refine F.ok sc_House_time (fun vs H Q E h => ?_) (fun cdv A outer s H vs Q E hr h => ?_)
  · obtain ⟨p, L, ds, h, rfl, _⟩ := h
    rfl
  · obtain ⟨p, L, ds, h, rfl, ha, q⟩ := h
    obtain ⟨dx, eo⟩ := ha.ob
    refine ⟨_, (pss_one (ps_ret (pe_fld (pv 0) rfl))), ?_⟩
    exact ⟨_, rfl, p, C, dx, _, _, rfl, eo, T.cl, T.n_now, fl_now _ _, q⟩
/-! ### __init__ -/
def newHs (n : Nat) (late lost : Int) : Hs := ⟨late, lost, 0, List.replicate n [], 0, .non⟩
def sp_init (C : Addr) : Sp := fun vs H Q _ => ∃ (p dx : Addr) (n : Nat) (late lost : Int), vs = [.ref p, .int n, .int late, .int lost] ∧ H p = some (.ins C dx []) ∧ 1 ≤ n ∧ n ≤ 6 ∧ 0 ≤ late ∧ late ≤ 9 ∧ 0 ≤ lost ∧ lost ≤ 6 ∧
  ∀ (L : Addr) (ds : List Addr) (H' : Hp), H L = none → (∀ d ∈ ds, H d = none) → HouseAt C H' p L ds (newHs n late lost) → Keeps [p] H H' → Q .non H'
theorem sc_House___init__ : FnScope ["self", "badges", "late", "lost", "good", "badge"] ["self", "badges", "late", "lost"] (defScope s_House___init__) := ⟨rfl, rfl, rfl, by decide +kernel, rfl, by decide +kernel, by decide +kernel⟩
theorem pf_nil {k : Str} {v : V} : putF k v [] = [(k, v)] := rfl
theorem ok_init {f : Addr} {fd : FuncData} (F : Fun K "__init__" "House.__init__" s_House___init__ f fd) (G : Glb K w mg dI) (T : HTxt K C) : FnOk P w K mg base CX0 1 f fd ["self", "badges", "late", "lost"] (sp_init C) := by
  refine F.ok sc_House___init__ (fun vs H Q E h => ?_) (fun cdv A outer s H vs Q E hr h => ?_)
  · obtain ⟨p, dx, n, late, lost, rfl, _⟩ := h
    rfl
  · obtain ⟨p, dx, n, late, lost, rfl, hp, n1, n6, l0, l9, o0, o6, q⟩ := h
    refine ⟨_, (pss_cons (ps_set (i := 4) sc_House___init__.nd rfl (Or.inl rfl) (pe_and (pe_chain op_le op_le pe_int (pv 1) (C8.pe_gc rfl G.MOST_BADGES)) (pe_and (pe_chain op_le op_le pe_int (pv 2) (C8.pe_gc rfl G.MOST_LATE)) (pe_one (pe_chain op_le op_le pe_int (pv 3) (C8.pe_gc rfl G.MOST_LOST))))))
      (pss_cons (ps_if (pt_not (pt_val (pv 4)))
        (pss_one ps_never)
        pss_nil)
      (pss_cons (ps_fld (pv 0) (pv 2) rfl)
      (pss_cons (ps_fld (pv 0) (pv 3) rfl)
      (pss_cons (ps_fld (pv 0) pe_int rfl)
      (pss_cons (ps_fld (pv 0) (pe_lc (own := [("badge", 5)]) (g := gName 5) (tt := tYes) rfl sc_House___init__.nd (pi_range1 rfl G.range (pa_cons (pv 1) pa_nil)) (blkOk_by (own := [("badge", 5)]) (N := ["self", "badges", "late", "lost", "good", "badge"]) (sc := defScope s_House___init__) (by decide +kernel)) (fun _ _ _ _ _ => (pg_name (i := 5) sc_House___init__.nd rfl (Or.inl rfl))) (fun _ _ _ _ _ => pts_nil) (fun _ _ _ _ _ => pe_dnewK)) rfl)
      (pss_cons (ps_fld (pv 0) pe_int rfl)
      (pss_one (ps_fld (pv 0) pe_non rfl))))))))), ?_⟩
    refine ⟨_, rfl, _, _, rfl, rfl, _, rfl, ifT (by simp; omega) ⟨_, _, rfl, rfl, _, rfl, ifT (by simp; omega) ?_⟩⟩
    refine ⟨_, rfl, _, _, rfl, rfl, _, rfl, ifT (by simp; omega) ⟨_, _, rfl, rfl, _, rfl, ifT (by simp; omega) ?_⟩⟩
    refine ⟨_, rfl, _, _, rfl, rfl, _, rfl, ifT (by simp; omega) ⟨_, _, rfl, rfl, ?_⟩⟩
    refine ⟨_, rfl, _, rfl, ifF (by simp; omega) ?_⟩
    refine ⟨_, rfl, _, rfl, p, C, dx, _, rfl, hp, T.cl, T.n_late, by decide, ?_⟩
    refine ⟨_, rfl, _, rfl, p, C, dx, _, rfl, upd_same, T.cl, T.n_lost, by show 1 < 1000; decide, ?_⟩
    rw [show putF "late" (V.int late) [] = [(("late" : Str), V.int late)] from rfl, upd_upd, pf_ne (by decide +kernel), pf_nil]
    refine ⟨_, rfl, p, C, dx, _, rfl, upd_same, T.cl, T.n_now, by show 2 < 1000; decide, ?_⟩
    rw [upd_upd, pf_ne (by decide +kernel), pf_ne (by decide +kernel), pf_nil]
    have k0 : Keeps [p] H (upd H p (.ins C dx [("late", .int late), ("lost", .int lost), ("now", .int 0)])) := (Keeps.refl _ _).upd (by simp)
    have hp0 : upd H p (.ins C dx [("late", .int late), ("lost", .int lost), ("now", .int 0)]) p = some (.ins C dx [("late", .int late), ("lost", .int lost), ("now", .int 0)]) := upd_same
    generalize upd H p (.ins C dx [("late", .int late), ("lost", .int lost), ("now", .int 0)]) = H0 at *
    refine ⟨_, rfl, n, rfl, by omega, by omega, fun D nD => ?_⟩
    rw [Int.toNat_natCast]
    have npD : p ≠ D := ne_of_none hp0 nD
    have nDH : H D = none := k0.free (by simp; exact npD.symm) nD
    refine lc_range0 (n := n) (fun i H2 => ∃ ds : List Addr, ds.length = i ∧ ds.Nodup ∧ (∀ d ∈ ds, H d = none ∧ H2 d = some (.dK [])) ∧ H2 D = some (.lst (ds.map V.ref)) ∧ Keeps [p] H H2 ∧ H2 p = some (.ins C dx [("late", .int late), ("lost", .int lost), ("now", .int 0)]))
      ⟨[], rfl, List.nodup_nil, by simp, upd_same, k0.updNew nDH, by rw [upd_ne npD]; exact hp0⟩ ?_ ?_
    · rintro i H2 hi ⟨ds, hl, nd, hds, hD, k2, hp2⟩
      refine ⟨rfl, fun a na => ⟨ds.map V.ref, ?_, szl (by rw [List.length_map]; omega), ds ++ [a], by simp [hl], ?_, ?_, ?_, ?_, ?_⟩⟩
      · rw [upd_ne (ne_of_none hD na)]
        exact hD
      · refine List.nodup_append.mpr ⟨nd, by simp, fun x hx y hy e => ?_⟩
        simp at hy
        subst hy
        subst e
        rw [(hds _ hx).2] at na
        cases na
      · have nap : a ≠ p := fun z => by rw [z, hp2] at na; cases na
        have naD : a ≠ D := fun z => by rw [z, hD] at na; cases na
        intro d hd
        rcases List.mem_append.mp hd with z | z
        · refine ⟨(hds d z).1, ?_⟩
          have h2 := (hds d z).2
          rw [upd_ne (fun e => by rw [e, hD] at h2; cases h2), upd_ne (ne_of_none h2 na)]
          exact h2
        · simp at z
          subst z
          exact ⟨k2.free (by simp; exact nap) na, by rw [upd_ne naD, upd_same]⟩
      · rw [upd_same, List.map_append]
        rfl
      · have nap : a ≠ p := fun z => by rw [z, hp2] at na; cases na
        exact (k2.updNew (k2.free (by simp; exact nap) na)).updNew nDH
      · rw [upd_ne npD, upd_ne (ne_of_none hp2 na)]
        exact hp2
    · rintro H2 ⟨ds, hl, nd, hds, hD, k2, hp2⟩
      refine ⟨_, rfl, p, C, dx, _, rfl, hp2, T.cl, T.n_known, by show 3 < 1000; decide, ?_⟩
      rw [pf_ne (by decide +kernel), pf_ne (by decide +kernel), pf_ne (by decide +kernel), pf_nil]
      refine ⟨_, rfl, p, C, dx, _, rfl, upd_same, T.cl, T.n_many, by show 4 < 1000; decide, ?_⟩
      rw [upd_upd, pf_ne (by decide +kernel), pf_ne (by decide +kernel), pf_ne (by decide +kernel), pf_ne (by decide +kernel), pf_nil]
      refine ⟨_, rfl, p, C, dx, _, rfl, upd_same, T.cl, T.n_fault, by show 5 < 1000; decide, ?_⟩
      rw [upd_upd, pf_ne (by decide +kernel), pf_ne (by decide +kernel), pf_ne (by decide +kernel), pf_ne (by decide +kernel), pf_ne (by decide +kernel), pf_nil]
      refine q D ds _ nDH (fun d hd => (hds d hd).1) ⟨⟨dx, upd_same⟩, ?_⟩ (k2.upd (by simp))
      refine ⟨by rw [upd_ne npD.symm]; exact hD, nd, ?_, fun k hk => ?_, by show (List.replicate n _).length ≤ 6; rw [List.length_replicate]; exact n6⟩
      · have all : ∀ (ds : List Addr) (n : Nat), ds.length = n → (∀ d ∈ ds, H d = none ∧ H2 d = some (.dK [])) → Paired (fun d k => upd H2 p (.ins C dx [("late", .int late), ("lost", .int lost), ("now", .int 0), ("known", .ref D), ("many", .int 0), ("fault", .non)]) d = some (.dK (encK k))) ds (List.replicate n []) := by
          intro ds
          induction ds with
          | nil => intro n e _; subst e; exact .nil
          | cons d ds ih =>
            intro n e hd
            subst e
            rw [List.length_cons, List.replicate_succ]
            refine .cons ?_ (ih _ rfl fun x hx => hd x (List.mem_cons_of_mem _ hx))
            have h2 := (hd d List.mem_cons_self).2
            rw [upd_ne (fun z => by rw [z, hp2] at h2; cases h2)]
            exact h2
        exact all ds n hl hds
      · have hk' : k ∈ List.replicate n ([] : Kn) := hk
        rw [List.eq_of_mem_replicate hk']
        exact ⟨by simp, by simp, by simp⟩
end
end IC
namespace IC
open PySem L2
/-! ### the row of cells -/
def RowAt (K : PySem.W.Frag) (H : Hp) (r a : Addr) (ns : List Int) : Prop := ∃ i m x : Int, H r = some (.lst [.ref a, .int i, .int m, .int x]) ∧ 0 ≤ i ∧ SqL K H a (ns.map V.int)
theorem sq_upd {K : PySem.W.Frag} {H : Hp} {r a : Addr} {ns : List Int} {x : Addr} {l : List V} {o : HO} (h : SqL K H a (ns.map V.int)) (hr : H r = some (.lst (.ref x :: l))) : SqL K (upd H r o) a (ns.map V.int) := by
  rcases h with (h | ⟨u, h⟩) | h
  · refine .inl (.inl ?_)
    rw [upd_ne]
    · exact h
    · rintro rfl
      rw [h] at hr
      cases ns with
      | nil => cases hr
      | cons n ns => injection hr with e; injection e with e; injection e with e; cases e
  · refine .inl (.inr ⟨u, ?_⟩)
    rw [upd_ne (ne_of h hr (by intro z; cases z))]
    exact h
  · exact .inr h
theorem RowAt.ne {K : PySem.W.Frag} {H : Hp} {r a : Addr} {ns : List Int} (h : RowAt K H r a ns) : ∃ l x, H r = some (.lst (.ref x :: l)) := by
  obtain ⟨i, m, x, e, _⟩ := h
  exact ⟨_, _, e⟩
theorem sq_keeps {K : PySem.W.Frag} {H H' : Hp} {a : Addr} {xs : List V} {fp : List Addr} (h : SqL K H a xs) (k : Keeps fp H H') (n : a ∉ fp) : SqL K H' a xs := by
  rcases h with (h | ⟨u, h⟩) | h
  · exact .inl (.inl (k _ _ h n))
  · exact .inl (.inr ⟨u, k _ _ h n⟩)
  · exact .inr h
theorem RowAt.keeps {K : PySem.W.Frag} {H H' : Hp} {r a : Addr} {ns : List Int} {fp : List Addr} (h : RowAt K H r a ns) (k : Keeps fp H H') (n : r ∉ fp) (na : a ∉ fp) : RowAt K H' r a ns := by
  obtain ⟨i, m, x, e, hi, hs⟩ := h
  exact ⟨i, m, x, k _ _ e n, hi, sq_keeps hs k na⟩
theorem RowAt.same {K : PySem.W.Frag} {H H' : Hp} {r a : Addr} {ns : List Int} (h : RowAt K H r a ns) (s : Same H H') : RowAt K H' r a ns := by
  obtain ⟨i, m, x, e, hi, hs⟩ := h
  exact ⟨i, m, x, s _ _ e, hi, s.seq hs⟩
theorem at_int {ns : List Int} {i : Int} (h0 : 0 ≤ i) (h1 : i < ns.length) : ∃ v, atI (ns.map V.int) i = some (.int v) := by
  obtain ⟨j, rfl⟩ := Int.eq_ofNat_of_zero_le h0
  have hj : j < ns.length := by omega
  exact ⟨ns[j], atI_nat (by rw [List.getElem?_map, List.getElem?_eq_getElem hj]; rfl)⟩
/-! ### what there is of a house, in the law's own dict -/
structure Ms where
  late : Int
  lost : Int
  time : Int
  kns : List Kn
  brk : Option Bool
/-- a law may keep there, too, whether it broke -/
def brkP : Option Bool → List (Key × V)
  | none => []
  | some b => [(Sum.inr "broken", .bl b)]
def mPairs (L : Addr) (m : Ms) : List (Key × V) := (Sum.inr "late", .int m.late) :: (Sum.inr "lost", .int m.lost) :: (Sum.inr "time", .int m.time) :: (Sum.inr "known", .ref L) :: brkP m.brk
theorem vv_ne {k k' : Key} {v : V} {l : List (Key × V)} (h : ¬ k' = k) : valV ((k', v) :: l) k = valV l k := by
  unfold valV
  rw [List.find?_cons, show decide (k' = k) = false from decide_eq_false h]
theorem vv_eq {k : Key} {v : V} {l : List (Key × V)} : valV ((k, v) :: l) k = some v := by
  unfold valV
  rw [List.find?_cons, show decide (k = k) = true from decide_eq_true rfl]
  rfl
theorem mp_late (L : Addr) (m : Ms) : valV (mPairs L m) (Sum.inr "late") = some (.int m.late) := vv_eq
theorem mp_lost (L : Addr) (m : Ms) : valV (mPairs L m) (Sum.inr "lost") = some (.int m.lost) := (vv_ne (by decide +kernel)).trans vv_eq
theorem mp_time (L : Addr) (m : Ms) : valV (mPairs L m) (Sum.inr "time") = some (.int m.time) := (vv_ne (by decide +kernel)).trans ((vv_ne (by decide +kernel)).trans vv_eq)
theorem mp_known (L : Addr) (m : Ms) : valV (mPairs L m) (Sum.inr "known") = some (.ref L) := (vv_ne (by decide +kernel)).trans ((vv_ne (by decide +kernel)).trans ((vv_ne (by decide +kernel)).trans vv_eq))
structure MAt (H : Hp) (q L : Addr) (ds : List Addr) (m : Ms) : Prop where
  ob : H q = some (.dK (mPairs L m))
  kn : KnAt H L ds m.kns
section
variable {H H' : Hp} {q L : Addr} {ds : List Addr} {m : Ms}
theorem MAt.same (a : MAt H q L ds m) (s : Same H H') : MAt H' q L ds m := ⟨s _ _ a.ob, a.kn.same s⟩
theorem MAt.keeps {fp : List Addr} (a : MAt H q L ds m) (s : Keeps fp H H') (h0 : q ∉ fp) (h1 : L ∉ fp) (h2 : ∀ d ∈ ds, d ∉ fp) : MAt H' q L ds m := ⟨s _ _ a.ob h0, a.kn.keeps s h1 h2⟩
theorem MAt.g_late (a : MAt H q L ds m) : DGet H q (.str "late") (some (.int m.late)) := by
  have e : DGet H q (kV (Sum.inr "late")) (valV (mPairs L m) (Sum.inr "late")) := DGet.k a.ob
  rw [mp_late] at e
  exact e
theorem MAt.g_lost (a : MAt H q L ds m) : DGet H q (.str "lost") (some (.int m.lost)) := by
  have e : DGet H q (kV (Sum.inr "lost")) (valV (mPairs L m) (Sum.inr "lost")) := DGet.k a.ob
  rw [mp_lost] at e
  exact e
theorem MAt.g_time (a : MAt H q L ds m) : DGet H q (.str "time") (some (.int m.time)) := by
  have e : DGet H q (kV (Sum.inr "time")) (valV (mPairs L m) (Sum.inr "time")) := DGet.k a.ob
  rw [mp_time] at e
  exact e
theorem MAt.g_known (a : MAt H q L ds m) : DGet H q (.str "known") (some (.ref L)) := by
  have e : DGet H q (kV (Sum.inr "known")) (valV (mPairs L m) (Sum.inr "known")) := DGet.k a.ob
  rw [mp_known] at e
  exact e
theorem MAt.qd (a : MAt H q L ds m) {ds' : List Addr} {L' : Addr} {kns : List Kn} (k : KnAt H L' ds' kns) : q ∉ ds' := fun hm => by
  obtain ⟨i, hi, rfl⟩ := List.getElem_of_mem hm
  obtain ⟨kn, _, e⟩ := Paired.getL k.at_ (List.getElem?_eq_getElem hi)
  rw [a.ob] at e
  injection e with e
  injection e with e
  unfold mPairs encK at e
  cases kn with
  | nil => cases e
  | cons x kn =>
    rw [List.map_cons] at e
    injection e with e1 e2
    injection e1 with e1
    cases e1
end
section
variable {P : Program} {w : World} {K : PySem.W.Frag} {mg : Str → Option Value} {base : Heap} {dI C : Addr}
/-! ### _law_taken -/
def sp_taken (K : PySem.W.Frag) : Sp := fun vs H Q _ => ∃ (r a : Addr) (ns : List Int) (n : Int), vs = [.ref r, .int n] ∧ RowAt K H r a ns ∧ 0 < n ∧ n < 1073741824 ∧
  ∀ v H', 0 ≤ v → v < n → RowAt K H' r a ns → Keeps [r] H H' → Q (.int v) H'
theorem sc__law_taken : FnScope ["_law_row", "_law_many_here", "_law_found", "_law_cell"] ["_law_row", "_law_many_here"] (defScope s__law_taken) := ⟨rfl, rfl, rfl, by decide +kernel, rfl, by decide +kernel, by decide +kernel⟩
theorem ok_taken {f : Addr} {fd : FuncData} (F : Fun K "_law_taken" "_law_taken" s__law_taken f fd) (G : Glb K w mg dI) : FnOk P w K mg base CX0 1 f fd ["_law_row", "_law_many_here"] (sp_taken K) := by
  refine F.ok sc__law_taken (fun vs H Q E h => ?_) (fun cdv A outer s H vs Q E hr h => ?_)
  · obtain ⟨r, a, ns, n, rfl, _⟩ := h
    rfl
  · obtain ⟨r, a, ns, n, rfl, ⟨i, m, x, e, hi, hs⟩, n0, n1, q⟩ := h
    refine ⟨_, (pss_cons (ps_if (pt_cmpR op_gt (pe_ix ix_list (pv 0) pe_int (fun _ _ => rfl)) pe_int (nomark _))
        (pss_cons (ps_set (i := 2) sc__law_taken.nd rfl (Or.inl rfl) (pe_op op_mod (pe_ix ix_list (pv 0) pe_int (fun _ _ => rfl)) (pv 1)))
          (pss_cons (ps_asg (pe_op op_fdiv (pe_ix ix_list (pv 0) pe_int (fun _ _ => rfl)) (pv 1)) (pg_sub (pv 0) pe_int set_list))
          (pss_one (ps_ret (pv 2)))))
        pss_nil)
      (pss_cons (ps_asg (pe_op op_add (pe_ix ix_list (pv 0) pe_int (fun _ _ => rfl)) pe_int) (pg_sub (pv 0) pe_int set_list))
      (pss_cons (ps_if (pt_cmpR op_gt (pe_ix ix_list (pv 0) pe_int (fun _ _ => rfl)) (pe_callB call_len_seq (by rfl) G.len (by decide +kernel) (pa_cons (pe_ix ix_list (pv 0) pe_int (fun _ _ => rfl)) pa_nil)) (nomark _))
        (pss_cons (ps_asg (pe_op op_mod (pe_op op_add (pe_op op_mul (pe_ix ix_list (pv 0) pe_int (fun _ _ => rfl)) pe_int) pe_int) pe_int) (pg_sub (pv 0) pe_int set_list))
          (pss_one (ps_ret (pe_op op_mod (pe_op op_fdiv (pe_ix ix_list (pv 0) pe_int (fun _ _ => rfl)) pe_int) (pv 1)))))
        pss_nil)
      (pss_cons (ps_set (i := 3) sc__law_taken.nd rfl (Or.inl rfl) (pe_ix ix_list (pe_ix ix_list (pv 0) pe_int (fun _ _ => rfl)) (pe_op op_sub (pe_ix ix_list (pv 0) pe_int (fun _ _ => rfl)) pe_int) (fun _ _ => rfl)))
      (pss_cons (ps_asg (pe_op op_mod (pe_op op_add (pe_op op_add (pe_op op_mul (pe_ix ix_list (pv 0) pe_int (fun _ _ => rfl)) pe_int) (pv 3)) pe_int) pe_int) (pg_sub (pv 0) pe_int set_list))
      (C8.pss_cut (ps_if (pt_cmpR op_ge (pv 3) (pe_op op_pow pe_int pe_int) (nomark _))
        (pss_one (ps_asg (pe_op op_fdiv (pv 3) (pv 1)) (pg_sub (pv 0) pe_int set_list)))
        pss_nil)
      (pss_one (ps_ret (pe_op op_mod (pv 3) (pv 1)))))))))), ?_⟩
    refine ⟨_, rfl, r, _, _, _, rfl, rfl, SqL.of e, rfl, _, _, rfl, rfl, _, rfl, ite2 (fun hx => ?_) (fun hx => ?_)⟩
    · -- a great cell's digits
      refine ⟨_, rfl, r, _, _, _, rfl, rfl, SqL.of e, rfl, _, rfl, _, _, rfl, rfl, n0, ?_⟩
      refine ⟨_, rfl, r, _, _, _, rfl, rfl, SqL.of e, rfl, _, rfl, _, _, rfl, rfl, ⟨n0, n1⟩, _, rfl, r, _, _, 3, rfl, rfl, e, rfl, ?_⟩
      exact ⟨_, rfl, q _ _ (Int.emod_nonneg _ (by omega)) (Int.emod_lt_of_pos _ n0) ⟨i, m, x / n, upd_same, hi, sq_upd hs e⟩ ((Keeps.refl _ _).upd (by simp))⟩
    · refine ⟨_, rfl, r, _, _, _, rfl, rfl, SqL.of e, rfl, _, _, rfl, rfl, _, rfl, r, _, _, 1, rfl, rfl, e, rfl, ?_⟩
      have e1 : upd H r (.lst ([V.ref a, .int i, .int m, .int x].set 1 (.int (i + 1)))) r = some (.lst [.ref a, .int (i + 1), .int m, .int x]) := upd_same
      have hs1 := sq_upd (o := .lst ([V.ref a, .int i, .int m, .int x].set 1 (.int (i + 1)))) hs e
      have k1 : Keeps [r] H (upd H r (.lst ([V.ref a, .int i, .int m, .int x].set 1 (.int (i + 1))))) := (Keeps.refl _ _).upd (by simp)
      generalize upd H r (.lst ([V.ref a, .int i, .int m, .int x].set 1 (.int (i + 1)))) = H1 at *
      refine ⟨_, rfl, r, _, _, _, rfl, rfl, SqL.of e1, rfl, _, rfl, r, _, _, _, rfl, rfl, SqL.of e1, rfl, a, _, rfl, .inl hs1, _, _, rfl, rfl, _, rfl, ite2 (fun hy => ?_) (fun hy => ?_)⟩
      · -- behind the script
        refine ⟨_, rfl, r, _, _, _, rfl, rfl, SqL.of e1, rfl, _, _, rfl, rfl, .inr ⟨by decide, by decide⟩, _, _, rfl, rfl, _, _, rfl, rfl, (by show (0 : Int) < 2147483647; decide), _, rfl, r, _, _, 2, rfl, rfl, e1, rfl, ?_⟩
        refine ⟨_, rfl, r, _, _, _, rfl, rfl, SqL.of upd_same, rfl, _, _, rfl, rfl, ⟨by decide, by decide⟩, _, rfl, _, _, rfl, rfl, n0, ?_⟩
        exact q _ _ (Int.emod_nonneg _ (by omega)) (Int.emod_lt_of_pos _ n0) ⟨i + 1, _, x, upd_same, by omega, sq_upd hs1 e1⟩ (k1.upd (by simp))
      · have hy' : i < ns.length := by
          simp at hy
          omega
        obtain ⟨c, hc⟩ := at_int hi hy'
        refine ⟨_, rfl, r, _, _, _, rfl, rfl, SqL.of e1, rfl, _, rfl, r, _, _, _, rfl, rfl, SqL.of e1, rfl, _, _, rfl, rfl, a, _, _, .int c, rfl, rfl, hs1, (by rw [show i + 1 - 1 = i by omega]; exact hc), ?_⟩
        refine ⟨_, rfl, r, _, _, _, rfl, rfl, SqL.of e1, rfl, _, _, rfl, rfl, .inr ⟨by decide, by decide⟩, _, rfl, _, _, rfl, rfl, _, _, rfl, rfl, _, _, rfl, rfl, (by show (0 : Int) < 2147483647; decide), _, rfl, r, _, _, 2, rfl, rfl, e1, rfl, ?_⟩
        have e2 : upd H1 r (.lst ([V.ref a, .int (i + 1), .int m, .int x].set 2 (.int ((m * 48271 + c + 11) % 2147483647)))) r = some (.lst [.ref a, .int (i + 1), .int ((m * 48271 + c + 11) % 2147483647), .int x]) := upd_same
        have hs2 := sq_upd (o := .lst ([V.ref a, .int (i + 1), .int m, .int x].set 2 (.int ((m * 48271 + c + 11) % 2147483647)))) hs1 e1
        have k2 : Keeps [r] H (upd H1 r (.lst ([V.ref a, .int (i + 1), .int m, .int x].set 2 (.int ((m * 48271 + c + 11) % 2147483647))))) := k1.upd (by simp)
        generalize upd H1 r (.lst ([V.ref a, .int (i + 1), .int m, .int x].set 2 (.int ((m * 48271 + c + 11) % 2147483647)))) = H2 at *
        refine ⟨fun σ H3 => (∃ o, σ = [some (.ref r), some (.int n), o, some (.int c)]) ∧ RowAt K H3 r a ns ∧ Keeps [r] H H3, ?_, ?_⟩
        · refine ⟨_, rfl, _, _, rfl, rfl, ⟨by decide, by decide, by decide⟩, _, _, rfl, rfl, _, rfl, ite2 (fun hz => ?_) (fun hz => ?_)⟩
          · exact ⟨_, rfl, _, rfl, _, _, rfl, rfl, ⟨n0, n1⟩, _, rfl, r, _, _, 3, rfl, rfl, e2, rfl, ⟨_, rfl⟩, ⟨i + 1, _, _, upd_same, by omega, sq_upd hs2 e2⟩, k2.upd (by simp)⟩
          · exact ⟨⟨_, rfl⟩, ⟨i + 1, _, _, e2, by omega, hs2⟩, k2⟩
        · rintro σ H3 ⟨⟨o, rfl⟩, r3, k3⟩
          exact ⟨_, rfl, _, rfl, _, _, rfl, rfl, n0, q _ _ (Int.emod_nonneg _ (by omega)) (Int.emod_lt_of_pos _ n0) r3 k3⟩
/-! ### _law_do -/
inductive Deed where
  | tk (t : Int)
  | cm (t : Int) (b : Nat) (m : Int) (z : Str)
def Deed.time : Deed → Int
  | .tk t => t
  | .cm t _ _ _ => t
def Deed.vs : Deed → List V
  | .tk t => [.int t]
  | .cm t b m z => [.int t, .int b, .int m, .str z]
def CanDo (h : Hs) : Deed → Prop
  | .tk t => h.now ≤ t ∧ t ≤ 60
  | .cm t b m z => Comes h t b m z
def doH (h : Hs) : Deed → Hs
  | .tk t => goneOn h t
  | .cm t b m z => goneOn (putRow h b m z) t
def doM (m : Ms) : Deed → Ms
  | .tk t => { m with time := t }
  | .cm t b x z => { m with time := t, kns := m.kns.set b (m.kns.getD b [] ++ [(x, z)]) }
theorem mp_few (L : Addr) (m : Ms) : (mPairs L m).length < sizeLine := by
  unfold mPairs
  cases m.brk with
  | none => show 4 < sizeLine; decide
  | some b => show 5 < sizeLine; decide
theorem mp_put (L : Addr) (m : Ms) (t : Int) : putK (mPairs L m) (Sum.inr ("time" : Str) : Key) (.int t) = mPairs L { m with time := t } := by
  have n1 : ¬ ((Sum.inr ("late" : Str) : Key) = Sum.inr ("time" : Str)) := by decide +kernel
  have n2 : ¬ ((Sum.inr ("lost" : Str) : Key) = Sum.inr ("time" : Str)) := by decide +kernel
  have n3 : ¬ ((Sum.inr ("known" : Str) : Key) = Sum.inr ("time" : Str)) := by decide +kernel
  have e : ((mPairs L m).any fun kv => decide (kv.1 = (Sum.inr ("time" : Str) : Key))) = true := by
    unfold mPairs
    rw [List.any_cons, List.any_cons, List.any_cons]
    rw [show decide (((Sum.inr ("time" : Str) : Key), V.int m.time).1 = (Sum.inr ("time" : Str) : Key)) = true from decide_eq_true rfl]
    simp
  unfold putK
  rw [if_pos e]
  unfold mPairs
  have n4 : ¬ ((Sum.inr ("broken" : Str) : Key) = Sum.inr ("time" : Str)) := by decide +kernel
  rw [List.map_cons, List.map_cons, List.map_cons, List.map_cons, if_neg n1, if_neg n2, if_pos rfl, if_neg n3]
  cases m.brk with
  | none => rfl
  | some b =>
    unfold brkP
    rw [List.map_cons, List.map_nil, if_neg n4]
def fps (p : Addr) (ds : List Addr) (q : Addr) (ds' : List Addr) : List Addr := p :: ds ++ q :: ds'
/-- a house and the law's dict of it, apart from one another, telling the same rows -/
structure Both (C : Addr) (H : Hp) (p L : Addr) (ds : List Addr) (h : Hs) (q L' : Addr) (ds' : List Addr) (m : Ms) : Prop where
  ha : HouseAt C H p L ds h
  ma : MAt H q L' ds' m
  dj : ∀ d ∈ ds, d ∉ ds'
  kn : m.kns = h.kns
  late : m.late = h.late
  lost : m.lost = h.lost
  time : m.time = h.now
  fa : FaultOk h
  mn : h.kns.length = h.kns.length
theorem Both.same {H H' : Hp} {p L : Addr} {ds : List Addr} {h : Hs} {q L' : Addr} {ds' : List Addr} {m : Ms} (b : Both C H p L ds h q L' ds' m) (s : Same H H') : Both C H' p L ds h q L' ds' m :=
  ⟨b.ha.same s, b.ma.same s, b.dj, b.kn, b.late, b.lost, b.time, b.fa, rfl⟩
theorem Both.keeps {H H' : Hp} {p L : Addr} {ds : List Addr} {h : Hs} {q L' : Addr} {ds' : List Addr} {m : Ms} {r : Addr} (b : Both C H p L ds h q L' ds' m) (s : Keeps [r] H H') {l : List V} {x : Addr} (hr : H r = some (.lst (.ref x :: l))) (hx : H x = none ∨ ∃ v, l = .int v :: l.tail) (nL : L ≠ r) (nL' : L' ≠ r) : Both C H' p L ds h q L' ds' m := by
  have nd : ∀ {ds : List Addr} {L : Addr} {kns : List Kn}, KnAt H L ds kns → ∀ d ∈ ds, d ∉ [r] := fun k d hd z => by
    simp at z
    obtain ⟨kvs, e⟩ := k.mem hd
    rw [z, hr] at e
    cases e
  obtain ⟨dx, eo⟩ := b.ha.ob
  refine ⟨b.ha.keeps s (by simp; intro z; rw [z, hr] at eo; cases eo) (by simpa using nL) (nd b.ha.kn), b.ma.keeps s (by simp; intro z; have := b.ma.ob; rw [z, hr] at this; cases this) (by simpa using nL') (nd b.ma.kn), b.dj, b.kn, b.late, b.lost, b.time, b.fa, rfl⟩
theorem goneOn_fault (h : Hs) (t : Int) (f : FaultOk h) : FaultOk (goneOn h t) := by
  unfold FaultOk goneOn
  simp only
  split
  · exact .inr ⟨_, rfl⟩
  · exact f
def sp_do (C : Addr) : Sp := fun vs H Q _ => ∃ (p L : Addr) (ds : List Addr) (h : Hs) (q L' : Addr) (ds' : List Addr) (m : Ms) (a : Addr) (d : Deed), vs = [.ref p, .ref q, .ref a] ∧ Both C H p L ds h q L' ds' m ∧ H a = some (.tup d.vs) ∧ CanDo h d ∧
  ∀ H', Both C H' p L ds (doH h d) q L' ds' (doM m d) → Keeps (fps p ds q ds') H H' → Q (.bl true) H'
theorem sc__law_do : FnScope ["_law_house", "_law_m", "_law_deed"] ["_law_house", "_law_m", "_law_deed"] (defScope s__law_do) := ⟨rfl, rfl, rfl, by decide +kernel, rfl, by decide +kernel, by decide +kernel⟩
theorem ok_do {f : Addr} {fd : FuncData} (F : Fun K "_law_do" "_law_do" s__law_do f fd) (G : Glb K w mg dI) (c_tick : C8.Met P w K mg base 5 C "tick" (sp_tick C) []) (c_come : C8.Met P w K mg base 5 C "come" (sp_come C) []) :
    FnOk P w K mg base CX0 6 f fd ["_law_house", "_law_m", "_law_deed"] (sp_do C) := by
  refine F.ok sc__law_do (fun vs H Q E h => ?_) (fun cdv A outer s H vs Q E hr h => ?_)
  · obtain ⟨p, L, ds, h, q, L', ds', m, a, d, rfl, _⟩ := h
    rfl
  · obtain ⟨p, L, ds, h, q0, L', ds', m, a, d, rfl, b, ht, can, q⟩ := h
    have hu := hu_of hr
    refine ⟨_, (pss_cons (ps_dput hu (pv 1) pe_str (pe_ix ix_tup (pv 2) pe_int (fun _ _ => rfl)) rfl)
      (pss_cons (ps_if (pt_cmpR op_eq (pe_callB call_len_seq (by rfl) G.len (by decide +kernel) (pa_cons (pv 2) pa_nil)) pe_int (nomark _))
        (pss_one (ps_ret (pe_cmpR op_isN (C8.pe_mt c_tick hr (by decide) (pv 0) (pa_cons (pe_ix ix_tup (pv 2) pe_int (fun _ _ => rfl)) pa_nil)) pe_non (nomark _))))
        pss_nil)
      (pss_cons (ps_dput hu (pe_ix ix_list (pe_dget hu (pv 1) pe_str (fun _ _ => rfl)) (pe_ix ix_tup (pv 2) pe_int (fun _ _ => rfl)) (fun _ _ => rfl)) (pe_ix ix_tup (pv 2) pe_int (fun _ _ => rfl)) (pe_ix ix_tup (pv 2) pe_int (fun _ _ => rfl)) rfl)
      (pss_one (ps_ret (pe_cmpR op_isN (C8.pe_mt c_come hr (by decide) (pv 0) (pa_cons (pe_ix ix_tup (pv 2) pe_int (fun _ _ => rfl)) (pa_cons (pe_ix ix_tup (pv 2) pe_int (fun _ _ => rfl)) (pa_cons (pe_ix ix_tup (pv 2) pe_int (fun _ _ => rfl)) (pa_cons (pe_ix ix_tup (pv 2) pe_int (fun _ _ => rfl)) pa_nil))))) pe_non (nomark _))))))), ?_⟩
    obtain ⟨dx, eo⟩ := b.ha.ob
    have nqp : q0 ≠ p := ne_of b.ma.ob eo (by intro z; cases z)
    have nqL : q0 ≠ L := ne_of b.ma.ob b.ha.kn.lst (by intro z; cases z)
    have nqL' : q0 ≠ L' := ne_of b.ma.ob b.ma.kn.lst (by intro z; cases z)
    have nqa : a ≠ q0 := ne_of ht b.ma.ob (by intro z; cases z)
    have nqd : q0 ∉ ds := b.ma.qd b.ha.kn
    have nqd' : q0 ∉ ds' := b.ma.qd b.ma.kn
    cases d with
    | tk t =>
      obtain ⟨t0, t1⟩ := can
      refine ⟨_, rfl, a, _, _, _, rfl, rfl, SqT.of ht, rfl, _, rfl, q0, _, rfl, DPut.k (k := Sum.inr ("time" : Str)) b.ma.ob (by exact mp_few L' m), ?_⟩
      rw [mp_put]
      have kk : Keeps [q0] H (upd H q0 (.dK (mPairs L' { m with time := t }))) := (Keeps.refl _ _).upd (by simp)
      have h1 : HouseAt C (upd H q0 (.dK (mPairs L' { m with time := t }))) p L ds h := b.ha.keeps kk (by simpa using nqp.symm) (by simpa using nqL.symm) (fun d hd z => nqd (by simp at z; rw [← z]; exact hd))
      have m1 : MAt (upd H q0 (.dK (mPairs L' { m with time := t }))) q0 L' ds' { m with time := t } := ⟨upd_same, b.ma.kn.keeps kk (by simpa using nqL'.symm) (fun d hd z => nqd' (by simp at z; rw [← z]; exact hd))⟩
      have t1' := kk _ _ ht (by simpa using nqa)
      generalize upd H q0 (.dK (mPairs L' { m with time := t })) = H1 at *
      obtain ⟨dx1, e1⟩ := h1.ob
      refine ⟨_, rfl, a, _, rfl, .inr (SqT.of t1'), rfl, _, rfl, iteT ?_⟩
      refine ⟨_, rfl, p, dx1, _, rfl, e1, fl_no _ _ (by decide +kernel), _, rfl, a, _, _, _, rfl, rfl, SqT.of t1', rfl, p, L, ds, h, t, rfl, h1, b.fa, t0, t1, fun H2 h2 k2 => ⟨rfl, ?_⟩⟩
      refine q H2 ⟨h2, m1.keeps k2 ?_ ?_ ?_, b.dj, b.kn, b.late, b.lost, rfl, goneOn_fault _ _ b.fa, rfl⟩ ((kk.mono (by simp [fps])).trans (k2.mono ?_))
      · simp only [List.mem_cons, not_or]
        exact ⟨nqp, nqd⟩
      · simp only [List.mem_cons, not_or]
        exact ⟨ne_of m1.kn.lst e1 (by intro z; cases z), fun hm => by
          obtain ⟨kvs, e⟩ := h1.kn.mem hm
          rw [m1.kn.lst] at e
          cases e⟩
      · intro d hd
        simp only [List.mem_cons, not_or]
        refine ⟨fun z => ?_, fun z => b.dj d z hd⟩
        obtain ⟨kvs, e⟩ := m1.kn.mem hd
        rw [z, e1] at e
        cases e
      · intro x hx
        unfold fps
        exact List.mem_append_left _ hx
    | cm t bb mm z =>
      have hb1 := can.b1
      have bk : bb < m.kns.length := by rw [b.kn]; exact hb1
      obtain ⟨ek, hkm⟩ := getD_mem bk
      obtain ⟨d', hd', hdk'⟩ := Paired.get b.ma.kn.at_ ek
      have new' : lookK (m.kns.getD bb []) mm = none := by rw [b.kn]; exact can.new
      have d'm : d' ∈ ds' := List.mem_of_getElem? hd'
      refine ⟨_, rfl, a, _, _, _, rfl, rfl, SqT.of ht, rfl, _, rfl, q0, _, rfl, DPut.k (k := Sum.inr ("time" : Str)) b.ma.ob (by exact mp_few L' m), ?_⟩
      rw [mp_put]
      have kk : Keeps [q0] H (upd H q0 (.dK (mPairs L' { m with time := t }))) := (Keeps.refl _ _).upd (by simp)
      have h1 : HouseAt C (upd H q0 (.dK (mPairs L' { m with time := t }))) p L ds h := b.ha.keeps kk (by simpa using nqp.symm) (by simpa using nqL.symm) (fun d hd z => nqd (by simp at z; rw [← z]; exact hd))
      have m1 : MAt (upd H q0 (.dK (mPairs L' { m with time := t }))) q0 L' ds' { m with time := t } := ⟨upd_same, b.ma.kn.keeps kk (by simpa using nqL'.symm) (fun d hd z => nqd' (by simp at z; rw [← z]; exact hd))⟩
      have t1' := kk _ _ ht (by simpa using nqa)
      have dk1 := kk _ _ hdk' (by simp; intro z; exact nqd' (z ▸ d'm))
      generalize upd H q0 (.dK (mPairs L' { m with time := t })) = H1 at *
      refine ⟨_, rfl, a, _, rfl, .inr (SqT.of t1'), rfl, _, rfl, ifF (by show decide (V.int 4 = V.int 1) = false; decide) ?_⟩
      have ok' := (b.ma.kn.ok _ hkm).snoc new' can.wd can.m0 (by have := can.m1; have := can.t1; omega)
      have sm' := (b.ma.kn.ok _ hkm).sm
      refine ⟨_, rfl, a, _, _, _, rfl, rfl, SqT.of t1', rfl, _, rfl, q0, .ref L', rfl, m1.g_known, _, rfl, a, _, _, _, rfl, rfl, SqT.of t1', rfl, L', _, _, .ref d', rfl, rfl, SqL.of m1.kn.lst, atI_nat (by rw [List.getElem?_map, hd']; rfl), _, rfl, a, _, _, _, rfl, rfl, SqT.of t1', rfl, d', _, rfl, DPut.k (k := Sum.inl mm) dk1 (szl (by unfold encK; rw [List.length_map]; omega)), ?_⟩
      rw [encK_put new']
      have k2 : Keeps [d'] H1 (upd H1 d' (.dK (encK (m.kns.getD bb [] ++ [(mm, z)])))) := (Keeps.refl _ _).upd (by simp)
      have npd' : p ≠ d' := fun e => by
        obtain ⟨dx1, e1⟩ := h1.ob
        rw [e, dk1] at e1
        cases e1
      have nLd' : L ≠ d' := fun e => by have e1 := h1.kn.lst; rw [e, dk1] at e1; cases e1
      have h2 : HouseAt C (upd H1 d' (.dK (encK (m.kns.getD bb [] ++ [(mm, z)])))) p L ds h := h1.keeps k2 (by simpa using npd') (by simpa using nLd') (fun d hd e => b.dj d hd (by simp at e; rw [e]; exact d'm))
      have m2 : MAt (upd H1 d' (.dK (encK (m.kns.getD bb [] ++ [(mm, z)])))) q0 L' ds' (doM m (.cm t bb mm z)) := ⟨by rw [upd_ne (fun e => nqd' (by rw [e]; exact d'm))]; exact m1.ob, m1.kn.put hd' ok'⟩
      have t2 := k2 _ _ t1' (by simp; intro e; rw [e, dk1] at t1'; cases t1')
      generalize upd H1 d' (.dK (encK (m.kns.getD bb [] ++ [(mm, z)]))) = H2 at *
      obtain ⟨dx2, e2⟩ := h2.ob
      refine ⟨_, rfl, p, dx2, _, rfl, e2, fl_no _ _ (by decide +kernel), _, rfl, a, _, _, _, rfl, rfl, SqT.of t2, rfl, _, rfl, a, _, _, _, rfl, rfl, SqT.of t2, rfl, _, rfl, a, _, _, _, rfl, rfl, SqT.of t2, rfl, _, rfl, a, _, _, _, rfl, rfl, SqT.of t2, rfl,
        p, L, ds, h, t, bb, mm, z, rfl, h2, b.fa, can, fun H3 h3 k3 => ⟨rfl, ?_⟩⟩
      refine q H3 ⟨h3, m2.keeps k3 ?_ ?_ ?_, b.dj, ?_, b.late, b.lost, rfl, goneOn_fault _ _ b.fa, rfl⟩ (((kk.mono (by simp [fps])).trans (k2.mono (by intro x hx; simp at hx; rw [hx]; unfold fps; exact List.mem_append_right _ (List.mem_cons_of_mem _ d'm)))).trans (k3.mono ?_))
      · simp only [List.mem_cons, not_or]
        exact ⟨nqp, nqd⟩
      · simp only [List.mem_cons, not_or]
        exact ⟨ne_of m2.kn.lst e2 (by intro z; cases z), fun hm => by
          obtain ⟨kvs, e⟩ := h2.kn.mem hm
          rw [m2.kn.lst] at e
          cases e⟩
      · intro d hd
        simp only [List.mem_cons, not_or]
        refine ⟨fun z => ?_, fun z => b.dj d z hd⟩
        obtain ⟨kvs, e⟩ := m2.kn.mem hd
        rw [z, e2] at e
        cases e
      · show m.kns.set bb (m.kns.getD bb [] ++ [(mm, z)]) = h.kns.set bb (h.kns.getD bb [] ++ [(mm, z)])
        rw [b.kn]
      · intro x hx
        unfold fps
        exact List.mem_append_left _ hx
end
end IC
namespace IC
open PySem L2
section
variable {P : Program} {w : World} {K : PySem.W.Frag} {mg : Str → Option Value} {base : Heap} {dI C : Addr}
/-! ### _law_fresh -/
theorem RowAt.upd {H : Hp} {r a p : Addr} {ns : List Int} {o : HO} (h : RowAt K H r a ns) (n : H p = none) : RowAt K (upd H p o) r a ns := h.same (Same.new n)
theorem mp_disp (L : Addr) (late lost : Int) : mergeK [] [((Sum.inr ("late" : Str) : Key), V.int late), (Sum.inr ("lost" : Str), V.int lost), (Sum.inr ("time" : Str), V.int 0), (Sum.inr ("known" : Str), V.ref L)] = mPairs L ⟨late, lost, 0, [], none⟩ := by
  unfold mergeK
  rw [List.foldl_cons, List.foldl_cons, List.foldl_cons, List.foldl_cons, List.foldl_nil]
  rw [putK_new (kvs := []) _ rfl, List.nil_append]
  rw [putK_new (kvs := [_]) _ ((vv_ne (show ¬ ((Sum.inr ("late" : Str) : Key) = Sum.inr ("lost" : Str)) by decide +kernel)).trans rfl)]
  show putK (putK [_, _] _ _) _ _ = _
  rw [putK_new (kvs := [_, _]) _ ((vv_ne (show ¬ ((Sum.inr ("late" : Str) : Key) = Sum.inr ("time" : Str)) by decide +kernel)).trans ((vv_ne (show ¬ ((Sum.inr ("lost" : Str) : Key) = Sum.inr ("time" : Str)) by decide +kernel)).trans rfl))]
  show putK [_, _, _] _ _ = _
  rw [putK_new (kvs := [_, _, _]) _ ((vv_ne (show ¬ ((Sum.inr ("late" : Str) : Key) = Sum.inr ("known" : Str)) by decide +kernel)).trans ((vv_ne (show ¬ ((Sum.inr ("lost" : Str) : Key) = Sum.inr ("known" : Str)) by decide +kernel)).trans ((vv_ne (show ¬ ((Sum.inr ("time" : Str) : Key) = Sum.inr ("known" : Str)) by decide +kernel)).trans rfl)))]
  rfl
theorem sq_updD {H : Hp} {p a : Addr} {xs : List V} {kv : List (Key × V)} {o : HO} (h : SqL K H a xs) (hp : H p = some (.dK kv)) : SqL K (upd H p o) a xs := by
  rcases h with (h | ⟨u, h⟩) | h
  · exact .inl (.inl (by rw [upd_ne (ne_of h hp (by intro z; cases z))]; exact h))
  · exact .inl (.inr ⟨u, by rw [upd_ne (ne_of h hp (by intro z; cases z))]; exact h⟩)
  · exact .inr h
def sp_fresh (K : PySem.W.Frag) : Sp := fun vs H Q _ => ∃ (r a : Addr) (ns : List Int) (most : Int), vs = [.ref r, .int most] ∧ RowAt K H r a ns ∧ 1 ≤ most ∧ most ≤ 6 ∧
  ∀ (q L : Addr) (ds : List Addr) (m : Ms) (n : Nat) (H' : Hp), m.time = 0 → m.kns = List.replicate n [] → 1 ≤ n → (n : Int) ≤ most → 0 ≤ m.late → m.late ≤ 9 → 0 ≤ m.lost → m.lost ≤ 6 → MAt H' q L ds m → RowAt K H' r a ns → Keeps [r] H H' →
    H q = none → H L = none → (∀ d ∈ ds, H d = none) → Q (.ref q) H'
theorem sc__law_fresh : FnScope ["_law_row", "_law_most", "_law_late", "_law_lost", "_law_badge"] ["_law_row", "_law_most"] (defScope s__law_fresh) := ⟨rfl, rfl, rfl, by decide +kernel, rfl, by decide +kernel, by decide +kernel⟩
theorem ok_fresh {f : Addr} {fd : FuncData} (F : Fun K "_law_fresh" "_law_fresh" s__law_fresh f fd) (G : Glb K w mg dI) (c__law_taken : C8.Cal P w K mg base 1 "_law_taken" (sp_taken K) []) : FnOk P w K mg base CX0 2 f fd ["_law_row", "_law_most"] (sp_fresh K) := by
  refine F.ok sc__law_fresh (fun vs H Q E h => ?_) (fun cdv A outer s H vs Q E hr h => ?_)
  · obtain ⟨r, a, ns, most, rfl, _⟩ := h
    rfl
  · obtain ⟨r, a, ns, most, rfl, hrow, m1, m6, q⟩ := h
    refine ⟨_, (C8.pss_cut (ps_set (i := 2) sc__law_fresh.nd rfl (Or.inl rfl) (pe_ix ix_list (pe_lst (pa_cons pe_int (pa_cons pe_int (pa_cons pe_int (pa_cons (C8.pe_c c__law_taken hr (by decide) rfl (pa_cons (pv 0) (pa_cons pe_int pa_nil))) pa_nil))))) (C8.pe_c c__law_taken hr (by decide) rfl (pa_cons (pv 0) (pa_cons pe_int pa_nil))) (fun _ _ => rfl)))
      (C8.pss_cut (ps_set (i := 3) sc__law_fresh.nd rfl (Or.inl rfl) (pe_ix ix_list (pe_lst (pa_cons pe_int (pa_cons pe_int (pa_cons pe_int (pa_cons (C8.pe_c c__law_taken hr (by decide) rfl (pa_cons (pv 0) (pa_cons pe_int pa_nil))) pa_nil))))) (C8.pe_c c__law_taken hr (by decide) rfl (pa_cons (pv 0) (pa_cons pe_int pa_nil))) (fun _ _ => rfl)))
      (pss_one (ps_ret (pe_disp (pps_cons pe_str (pv 2) (pps_cons pe_str (pv 3) (pps_cons pe_str pe_int (pps_cons pe_str (pe_lc (own := [("_law_badge", 4)]) (g := gName 4) (tt := tYes) rfl sc__law_fresh.nd (pi_range1 rfl G.range (pa_cons (pe_op op_add pe_int (C8.pe_c c__law_taken hr (by decide) rfl (pa_cons (pv 0) (pa_cons (pv 1) pa_nil)))) pa_nil)) (blkOk_by (own := [("_law_badge", 4)]) (N := ["_law_row", "_law_most", "_law_late", "_law_lost", "_law_badge"]) (sc := defScope s__law_fresh) (by decide +kernel)) (fun _ _ _ _ _ => (pg_name (i := 4) sc__law_fresh.nd rfl (Or.inl rfl))) (fun _ _ _ _ _ => pts_nil) (fun _ _ _ _ _ => pe_dnewK)) pps_nil)))) (by rfl) (by rfl) (fun z => by cases z) (by decide)))))), ?_⟩
    refine ⟨fun σ H3 => ∃ late, 0 ≤ late ∧ late ≤ 9 ∧ σ = [some (.ref r), some (.int most), some (.int late), none, none] ∧ RowAt K H3 r a ns ∧ Keeps [r] H H3, ?_, ?_⟩
    · refine ⟨_, rfl, r, a, ns, 10, rfl, hrow, by decide, by decide, fun v1 H1 h1 h1' r1 k1 => ⟨sz (by simp), fun p np => ⟨_, rfl, r, a, ns, 4, rfl, r1.upd np, by decide, by decide, fun v2 H2 h2 h2' r2 k2 => ?_⟩⟩⟩
      obtain ⟨l0, x0, hr0⟩ := r1.ne
      have npr : p ≠ r := fun z => by rw [z, hr0] at np; cases np
      have hp := k2 p _ upd_same (by simpa using npr)
      have kk : Keeps [r] H H2 := (k1.updNew (k1.free (by simpa using npr) np)).trans k2
      have hv : v2 = 0 ∨ v2 = 1 ∨ v2 = 2 ∨ v2 = 3 := by omega
      rcases hv with rfl | rfl | rfl | rfl
      · exact ⟨p, _, _, _, rfl, rfl, SqL.of hp, rfl, _, by omega, by omega, rfl, r2, kk⟩
      · exact ⟨p, _, _, _, rfl, rfl, SqL.of hp, rfl, _, by omega, by omega, rfl, r2, kk⟩
      · exact ⟨p, _, _, _, rfl, rfl, SqL.of hp, rfl, _, by omega, by omega, rfl, r2, kk⟩
      · exact ⟨p, _, _, _, rfl, rfl, SqL.of hp, rfl, _, h1, by omega, rfl, r2, kk⟩
    · rintro σ Ha ⟨late, la0, la9, rfl, ra, ka⟩
      refine ⟨fun σ H3 => ∃ lost, 0 ≤ lost ∧ lost ≤ 6 ∧ σ = [some (.ref r), some (.int most), some (.int late), some (.int lost), none] ∧ RowAt K H3 r a ns ∧ Keeps [r] H H3, ?_, ?_⟩
      · refine ⟨_, rfl, r, a, ns, 7, rfl, ra, by decide, by decide, fun v1 H1 h1 h1' r1 k1 => ⟨sz (by simp), fun p np => ⟨_, rfl, r, a, ns, 4, rfl, r1.upd np, by decide, by decide, fun v2 H2 h2 h2' r2 k2 => ?_⟩⟩⟩
        obtain ⟨l0, x0, hr0⟩ := r1.ne
        have npr : p ≠ r := fun z => by rw [z, hr0] at np; cases np
        have hp := k2 p _ upd_same (by simpa using npr)
        have kk : Keeps [r] H H2 := ((ka.trans k1).updNew ((ka.trans k1).free (by simpa using npr) np)).trans k2
        have hv : v2 = 0 ∨ v2 = 1 ∨ v2 = 2 ∨ v2 = 3 := by omega
        rcases hv with rfl | rfl | rfl | rfl
        · exact ⟨p, _, _, _, rfl, rfl, SqL.of hp, rfl, _, by omega, by omega, rfl, r2, kk⟩
        · exact ⟨p, _, _, _, rfl, rfl, SqL.of hp, rfl, _, by omega, by omega, rfl, r2, kk⟩
        · exact ⟨p, _, _, _, rfl, rfl, SqL.of hp, rfl, _, by omega, by omega, rfl, r2, kk⟩
        · exact ⟨p, _, _, _, rfl, rfl, SqL.of hp, rfl, _, h1, by omega, rfl, r2, kk⟩
      · rintro σ Hb ⟨lost, lo0, lo6, rfl, rb, kb⟩
        obtain ⟨l0, x0, hr0⟩ := rb.ne
        refine fun p np => ⟨_, rfl, _, rfl, _, rfl, _, rfl, r, a, ns, most, rfl, rb.upd np, by omega, by omega, fun v H1 h1 h1' r1 k1 => ⟨_, _, rfl, rfl, _, rfl, by omega, by omega, fun D nD => ?_⟩⟩
        obtain ⟨n, hn⟩ := Int.eq_ofNat_of_zero_le (show 0 ≤ 1 + v by omega)
        rw [hn, show ((n : Int)).toNat = n from Int.toNat_natCast n]
        have npr : p ≠ r := fun z => by rw [z, hr0] at np; cases np
        have npH : H p = none := kb.free (by simpa using npr) np
        have hp1 := k1 p _ upd_same (by simpa using npr)
        have nDr : D ≠ r := fun z => by
          obtain ⟨l1, x1, hr1⟩ := r1.ne
          rw [z, hr1] at nD
          cases nD
        have kk1 : Keeps [r] H H1 := (kb.updNew npH).trans k1
        have nDH : H D = none := kk1.free (by simpa using nDr) nD
        refine lc_dicts nD (by omega) (fun _ => rfl) fun ds H2 hl nd hds hD s2 => ?_
        refine ⟨s2 _ _ hp1, [(Sum.inr ("late" : Str), .int late), (Sum.inr ("lost" : Str), .int lost), (Sum.inr ("time" : Str), .int 0), (Sum.inr ("known" : Str), .ref D)], rfl, by show 4 ≤ 15; decide, ?_⟩
        rw [mp_disp]
        have npD : p ≠ D := ne_of_none hp1 nD
        have hdn : ∀ d ∈ ds, H d = none := fun d hd => kk1.free (by
          simp
          intro z
          obtain ⟨l1, x1, hr1⟩ := r1.ne
          have := (hds d hd).1
          rw [z, hr1] at this
          cases this) (hds d hd).1
        have npd : ∀ d ∈ ds, d ≠ p := fun d hd z => by
          have := (hds d hd).1
          rw [z, hp1] at this
          cases this
        refine q p D ds ⟨late, lost, 0, List.replicate n [], none⟩ n _ rfl rfl (by omega) (by omega) la0 la9 lo0 lo6 ⟨upd_same, by rw [upd_ne npD.symm]; exact hD, nd, ?_, fun k hk => ?_, by show (List.replicate n _).length ≤ 6; rw [List.length_replicate]; omega⟩ ?_ ?_ npH nDH hdn
        · have all : ∀ (ds : List Addr) (n : Nat), ds.length = n → (∀ d ∈ ds, d ≠ p ∧ H2 d = some (.dK [])) → Paired (fun d k => upd H2 p (.dK (mPairs D ⟨late, lost, 0, [], none⟩)) d = some (.dK (encK k))) ds (List.replicate n []) := by
            intro ds
            induction ds with
            | nil => intro n e _; subst e; exact .nil
            | cons d ds ih =>
              intro n e hd
              subst e
              rw [List.length_cons, List.replicate_succ]
              refine .cons ?_ (ih _ rfl fun x hx => hd x (List.mem_cons_of_mem _ hx))
              rw [upd_ne (hd d List.mem_cons_self).1]
              exact (hd d List.mem_cons_self).2
          exact all ds n hl fun d hd => ⟨npd d hd, (hds d hd).2⟩
        · have hk' : k ∈ List.replicate n ([] : Kn) := hk
          rw [List.eq_of_mem_replicate hk']
          exact ⟨by simp, by simp, by simp⟩
        · obtain ⟨i, m, x, e, hi, hs⟩ := r1.same s2
          exact ⟨i, m, x, by rw [upd_ne npr.symm]; exact e, hi, sq_updD hs (s2 _ _ hp1)⟩
        · exact (kk1.trans (Keeps.of_same s2)).updNew npH
end
end IC
namespace IC
open PySem L2
/-! ### rows that wait, and what is told of them -/
structure Wt where
  due : Int
  b : Nat
  m : Int
  z : Str
def Wt.vs (e : Wt) : List V := [.int e.due, .int e.b, .int e.m, .str e.z]
def Wt.key (e : Wt) : Nat × Int := (e.b, e.m)
def Deed.key : Deed → Option (Nat × Int)
  | .tk _ => none
  | .cm _ b m _ => some (b, m)
/-- a deed that can be, by itself -/
def DOk (n : Nat) (late : Int) : Deed → Prop
  | .tk t => 1 ≤ t
  | .cm t b m z => 1 ≤ m ∧ m ≤ t ∧ t - m ≤ late ∧ b < n ∧ Wd z
structure WOk (n : Nat) (late : Int) (i : Nat) (e : Wt) : Prop where
  du : (i : Int) < e.due
  md : e.m ≤ e.due
  ml : e.due ≤ e.m + late
  m1 : 1 ≤ e.m
  bn : e.b < n
  wd : Wd e.z
structure DInv (n : Nat) (late : Int) (i j : Nat) (wl : List Wt) (fl : List Deed) : Prop where
  w : ∀ e ∈ wl, WOk n late i e ∧ (e.m ≤ i ∨ (e.m = (i : Int) + 1 ∧ e.b < j))
  f : ∀ d ∈ fl, DOk n late d ∧ d.time ≤ i
  fk : ∀ k ∈ fl.filterMap Deed.key, k.2 ≤ (i : Int)
  srt : fl.Pairwise (fun a b => a.time ≤ b.time)
  nd : (wl.map Wt.key ++ fl.filterMap Deed.key).Nodup
  len : wl.length + fl.length ≤ 7 * i + j
theorem DInv.start (n : Nat) (late : Int) : DInv n late 0 0 [] [] := ⟨by simp, by simp, by simp, by simp, by simp, by simp⟩
theorem DInv.skip {n : Nat} {late : Int} {i j : Nat} {wl : List Wt} {fl : List Deed} (h : DInv n late i j wl fl) : DInv n late i (j + 1) wl fl :=
  ⟨fun e he => ⟨(h.w e he).1, (h.w e he).2.imp id fun z => ⟨z.1, by omega⟩⟩, h.f, h.fk, h.srt, h.nd, by have := h.len; omega⟩
theorem ins_perm {α : Type} (l : List α) (k : Nat) (x : α) : (l.take k ++ [x] ++ l.drop k).Perm (x :: l) := by
  have h : (l.take k ++ [x] ++ l.drop k).Perm ([x] ++ l.take k ++ l.drop k) := List.Perm.append_right _ List.perm_append_comm
  refine h.trans ?_
  rw [List.append_assoc, List.take_append_drop]
  exact List.Perm.refl _
theorem DInv.ins {n : Nat} {late : Int} {i j : Nat} {wl : List Wt} {fl : List Deed} (h : DInv n late i j wl fl) (hj : j < n) {v : Int} (v0 : 0 ≤ v) (v1 : v ≤ late) {z : Str} (hz : Wd z) (k : Nat) :
    DInv n late i (j + 1) (wl.take k ++ [⟨(i : Int) + 1 + v, j, (i : Int) + 1, z⟩] ++ wl.drop k) fl := by
  have p := ins_perm wl k (⟨(i : Int) + 1 + v, j, (i : Int) + 1, z⟩ : Wt)
  refine ⟨fun e he => ?_, h.f, h.fk, h.srt, ?_, ?_⟩
  · rcases List.mem_cons.mp (p.mem_iff.mp he) with rfl | he
    · exact ⟨⟨by show (i : Int) < (i : Int) + 1 + v; omega, by show (i : Int) + 1 ≤ (i : Int) + 1 + v; omega, by show (i : Int) + 1 + v ≤ (i : Int) + 1 + late; omega, by show (1 : Int) ≤ (i : Int) + 1; omega, hj, hz⟩, .inr ⟨rfl, by show j < j + 1; omega⟩⟩
    · exact ⟨(h.w e he).1, (h.w e he).2.imp id fun z => ⟨z.1, by omega⟩⟩
  · have p2 := (p.map Wt.key).append_right (fl.filterMap Deed.key)
    refine p2.nodup_iff.mpr ?_
    rw [List.map_cons, List.cons_append, List.nodup_cons]
    refine ⟨fun hm => ?_, h.nd⟩
    rcases List.mem_append.mp hm with hm | hm
    · obtain ⟨e, he, e2⟩ := List.mem_map.mp hm
      have e2 : (e.b, e.m) = (j, (i : Int) + 1) := e2
      injection e2 with e3 e4
      have := (h.w e he).2
      omega
    · have := h.fk _ hm
      have : (i : Int) + 1 ≤ i := this
      omega
  · have := h.len
    have := p.length_eq
    rw [this, List.length_cons]
    omega
def dueOf (t : Int) (wl : List Wt) : List Wt := wl.filter fun e => decide (e.due ≤ t)
def restOf (t : Int) (wl : List Wt) : List Wt := wl.filter fun e => decide (t < e.due)
def comesOf (t : Int) (wl : List Wt) : List Deed := (dueOf t wl).map fun e => .cm t e.b e.m e.z
theorem split_perm (t : Int) (wl : List Wt) : (restOf t wl ++ dueOf t wl).Perm wl := by
  have h := List.filter_append_perm (fun e : Wt => decide (t < e.due)) wl
  have e : (fun e : Wt => !decide (t < e.due)) = fun e : Wt => decide (e.due ≤ t) := by
    funext e
    by_cases hh : t < e.due
    · rw [decide_eq_true hh, decide_eq_false (by omega)]; rfl
    · rw [decide_eq_false hh, decide_eq_true (by omega)]; rfl
  rw [e] at h
  exact h
theorem comes_keys (t : Int) (wl : List Wt) : (comesOf t wl).filterMap Deed.key = (dueOf t wl).map Wt.key := by
  unfold comesOf
  rw [List.filterMap_map]
  generalize dueOf t wl = l
  induction l with
  | nil => rfl
  | cons x l ih =>
    rw [List.map_cons, ← ih]
    rfl
theorem DInv.turn {n : Nat} {late : Int} {i : Nat} {wl : List Wt} {fl : List Deed} (h : DInv n late i n wl fl) (hn : n ≤ 6) : DInv n late (i + 1) 0 (restOf ((i : Int) + 1) wl) (fl ++ comesOf ((i : Int) + 1) wl) := by
  have p := split_perm ((i : Int) + 1) wl
  have hm : ∀ e ∈ wl, e.m ≤ (i : Int) + 1 := fun e he => by have := (h.w e he).2; omega
  refine ⟨fun e he => ?_, fun d hd => ?_, fun k hk => ?_, ?_, ?_, ?_⟩
  · obtain ⟨h1, h2⟩ := List.mem_filter.mp he
    have h2 : (i : Int) + 1 < e.due := by simpa using h2
    have := (h.w e h1).1
    exact ⟨⟨by push_cast; omega, this.md, this.ml, this.m1, this.bn, this.wd⟩, .inl (by have := hm e h1; push_cast; omega)⟩
  · rcases List.mem_append.mp hd with hd | hd
    · have := h.f d hd
      exact ⟨this.1, by push_cast; omega⟩
    · unfold comesOf at hd
      obtain ⟨e, he, rfl⟩ := List.mem_map.mp hd
      obtain ⟨h1, h2⟩ := List.mem_filter.mp he
      have h2 : e.due ≤ (i : Int) + 1 := by simpa using h2
      have h3 := (h.w e h1).1
      have h4 := h3.du
      have h5 := h3.md
      have h6 := h3.ml
      exact ⟨⟨h3.m1, by omega, by omega, h3.bn, h3.wd⟩, by show (i : Int) + 1 ≤ ((i + 1 : Nat) : Int); push_cast; omega⟩
  · rw [List.filterMap_append, comes_keys] at hk
    rcases List.mem_append.mp hk with hk | hk
    · have := h.fk k hk
      push_cast
      omega
    · obtain ⟨e, he, rfl⟩ := List.mem_map.mp hk
      have := hm e (List.mem_filter.mp he).1
      show e.m ≤ _
      push_cast
      omega
  · refine List.pairwise_append.mpr ⟨h.srt, ?_, fun a ha b hb => ?_⟩
    · unfold comesOf
      rw [List.pairwise_map]
      exact List.pairwise_of_forall fun _ _ => Int.le_refl _
    · unfold comesOf at hb
      obtain ⟨e, he, rfl⟩ := List.mem_map.mp hb
      have := (h.f a ha).2
      show a.time ≤ (i : Int) + 1
      omega
  · rw [List.filterMap_append, comes_keys]
    have p2 : (restOf ((i : Int) + 1) wl).map Wt.key ++ (fl.filterMap Deed.key ++ (dueOf ((i : Int) + 1) wl).map Wt.key) |>.Perm (wl.map Wt.key ++ fl.filterMap Deed.key) := by
      refine (List.Perm.append_left _ List.perm_append_comm).trans ?_
      rw [← List.append_assoc, ← List.map_append]
      exact (p.map Wt.key).append_right _
    exact p2.nodup_iff.mpr h.nd
  · have h1 := h.len
    have h2 := p.length_eq
    rw [List.length_append] at h2
    rw [List.length_append]
    unfold comesOf
    rw [List.length_map]
    omega
theorem DInv.tick {n : Nat} {late : Int} {i : Nat} {wl : List Wt} {fl : List Deed} (h : DInv n late i n wl fl) (hn : n ≤ 6) : DInv n late (i + 1) 0 (restOf ((i : Int) + 1) wl) (fl ++ comesOf ((i : Int) + 1) wl ++ [.tk ((i : Int) + 1)]) := by
  have t := h.turn hn
  have p := split_perm ((i : Int) + 1) wl
  refine ⟨t.w, fun d hd => ?_, ?_, ?_, ?_, ?_⟩
  · rcases List.mem_append.mp hd with hd | hd
    · exact t.f d hd
    · simp at hd
      subst hd
      exact ⟨by show (1 : Int) ≤ (i : Int) + 1; omega, by show (i : Int) + 1 ≤ ((i + 1 : Nat) : Int); push_cast; omega⟩
  · rw [List.filterMap_append]
    intro k hk
    rcases List.mem_append.mp hk with hk | hk
    · exact t.fk k hk
    · simp [Deed.key] at hk
  · refine List.pairwise_append.mpr ⟨t.srt, by simp, fun a ha b hb => ?_⟩
    simp at hb
    subst hb
    have := (t.f a ha).2
    show a.time ≤ (i : Int) + 1
    push_cast at this
    omega
  · rw [List.filterMap_append]
    have e : [Deed.tk ((i : Int) + 1)].filterMap Deed.key = [] := rfl
    rw [e, List.append_nil]
    exact t.nd
  · have h1 := h.len
    have h2 := p.length_eq
    rw [List.length_append] at h2
    rw [List.length_append, List.length_append]
    unfold comesOf
    rw [List.length_map]
    simp only [List.length_cons, List.length_nil]
    omega
/-- what the law plays: deeds in the order of their times, each such that it can be, no row twice -/
structure DeedsOk (n : Nat) (late : Int) (most : Int) (fl : List Deed) : Prop where
  ok : ∀ d ∈ fl, DOk n late d ∧ d.time ≤ most
  srt : fl.Pairwise (fun a b => a.time ≤ b.time)
  nd : (fl.filterMap Deed.key).Nodup
  len : fl.length ≤ 1000
theorem DInv.done {n : Nat} {late : Int} {i : Nat} {wl : List Wt} {fl : List Deed} (h : DInv n late i 0 wl fl) {most : Int} (hi : (i : Int) ≤ most) (hm : i ≤ 100) : DeedsOk n late most fl :=
  ⟨fun d hd => ⟨(h.f d hd).1, by have := (h.f d hd).2; omega⟩, h.srt, (List.nodup_append.mp h.nd).2.1, by have := h.len; omega⟩
end IC
namespace IC
open PySem L2
section
variable {P : Program} {w : World} {K : PySem.W.Frag} {mg : Str → Option Value} {base : Heap} {dI C : Addr}
theorem TupS.of_keeps {H H' : Hp} {r : Addr} {xs : List V} (k : Keeps [r] H H') (h : H r = some (.lst xs)) : TupS H H' := fun a ys e => k a _ e (by simp; intro z; rw [z, h] at e; cases e)
/-- the state of _law_deeds between two steps -/
structure DSt (K : PySem.W.Frag) (H : Hp) (r a : Addr) (ns : List Int) (p S : Addr) (n : Nat) (late : Int) (i j : Nat) (H2 : Hp) (st : List Int) (wA : Addr) (ws : List V) (wl : List Wt) (xs : List V) (fl : List Deed) : Prop where
  k : Keeps [r] H H2
  row : RowAt K H2 r a ns
  hp : H2 p = some (.lst xs)
  hx : TupsAt H2 xs (fl.map Deed.vs)
  hS : H2 S = some (.lst (st.map V.int))
  stl : st.length = n
  hw : H2 wA = some (.lst ws)
  tw : TupsAt H2 ws (wl.map Wt.vs)
  nw : H wA = none
  wp : wA ≠ p
  wS : wA ≠ S
  inv : DInv n late i j wl fl
structure DFx (H : Hp) (r p S : Addr) : Prop where
  np : H p = none
  nS : H S = none
  pS : p ≠ S
  hr : H r ≠ none
section
variable {H : Hp} {r a : Addr} {ns : List Int} {p S : Addr} {n : Nat} {late : Int} {i j : Nat} {H2 H3 : Hp} {st : List Int} {wA : Addr} {ws : List V} {wl : List Wt} {xs : List V} {fl : List Deed}
theorem DFx.pr (x : DFx H r p S) : p ≠ r := fun z => x.hr (z ▸ x.np)
theorem DFx.Sr (x : DFx H r p S) : S ≠ r := fun z => x.hr (z ▸ x.nS)
theorem DSt.wr (d : DSt K H r a ns p S n late i j H2 st wA ws wl xs fl) (x : DFx H r p S) : wA ≠ r := fun z => x.hr (z ▸ d.nw)
theorem DSt.taken (d : DSt K H r a ns p S n late i j H2 st wA ws wl xs fl) (x : DFx H r p S) (row : RowAt K H3 r a ns) (k : Keeps [r] H2 H3) : DSt K H r a ns p S n late i j H3 st wA ws wl xs fl := by
  obtain ⟨l, y, e⟩ := d.row.ne
  have t := TupS.of_keeps k e
  exact ⟨d.k.trans k, row, k _ _ d.hp (by simpa using x.pr), d.hx.mono t, k _ _ d.hS (by simpa using x.Sr), d.stl, k _ _ d.hw (by simpa using d.wr x), d.tw.mono t, d.nw, d.wp, d.wS, d.inv⟩
theorem DSt.same (d : DSt K H r a ns p S n late i j H2 st wA ws wl xs fl) (s : Same H2 H3) : DSt K H r a ns p S n late i j H3 st wA ws wl xs fl :=
  ⟨d.k.trans (.of_same s), d.row.same s, s _ _ d.hp, d.hx.mono (.of_same s), s _ _ d.hS, d.stl, s _ _ d.hw, d.tw.mono (.of_same s), d.nw, d.wp, d.wS, d.inv⟩
theorem DSt.skip (d : DSt K H r a ns p S n late i j H2 st wA ws wl xs fl) : DSt K H r a ns p S n late i (j + 1) H2 st wA ws wl xs fl := { d with inv := d.inv.skip }
/-- the row's list stays where an object that is younger than it is written -/
theorem RowAt.put {H H0 : Hp} {r a b : Addr} {ns : List Int} {o : HO} (h : RowAt K H r a ns) (h0 : RowAt K H0 r a ns) (nb : H0 b = none) (nr : b ≠ r) : RowAt K (L2.upd H b o) r a ns := by
  obtain ⟨i, m, x, e, hi, hs⟩ := h
  obtain ⟨_, _, _, _, _, hs0⟩ := h0
  refine ⟨i, m, x, by rw [upd_ne nr.symm]; exact e, hi, ?_⟩
  rcases hs0 with (h' | ⟨u, h'⟩) | h'
  · exact sq_keeps hs ((Keeps.refl [b] H).upd (by simp)) (by simp; intro z; rw [z, nb] at h'; cases h')
  · exact sq_keeps hs ((Keeps.refl [b] H).upd (by simp)) (by simp; intro z; rw [z, nb] at h'; cases h')
  · exact .inr h'
theorem Wt.okVs {e : Wt} (h : Wd e.z) : ∀ v ∈ e.vs, okV v = true := by
  intro v hv
  unfold Wt.vs at hv
  simp only [List.mem_cons, List.not_mem_nil, or_false] at hv
  rcases hv with rfl | rfl | rfl | rfl
  · rfl
  · rfl
  · rfl
  · rcases h with e | e <;> rw [e] <;> decide +kernel
theorem at_pair {x : Int} : ∃ z, Wd z ∧ atI [V.str "out", V.str "in"] (x % 2) = some (.str z) := by
  have h : x % 2 = 0 ∨ x % 2 = 1 := by omega
  rcases h with h | h
  · exact ⟨"out", .inr rfl, by rw [h]; rfl⟩
  · exact ⟨"in", .inl rfl, by rw [h]; rfl⟩
end
def sp_deeds (K : PySem.W.Frag) : Sp := fun vs H Q _ => ∃ (r a : Addr) (ns : List Int) (q L : Addr) (ds : List Addr) (m : Ms) (most : Int), vs = [.ref r, .ref q, .int most] ∧ RowAt K H r a ns ∧ MAt H q L ds m ∧ L ≠ r ∧ 0 ≤ m.late ∧ m.late ≤ 9 ∧ 1 ≤ most ∧ most ≤ 40 ∧
  ∀ (p : Addr) (xs : List V) (fl : List Deed) (H' : Hp), DeedsOk m.kns.length m.late most fl → H p = none → H' p = some (.lst xs) → TupsAt H' xs (fl.map Deed.vs) → RowAt K H' r a ns → Keeps [r] H H' → Q (.ref p) H'
theorem sc__law_deeds : FnScope ["_law_row", "_law_m", "_law_most", "_law_found", "_law_state", "_law_badge", "_law_often", "_law_waiting", "_law_time", "_law_word", "_law_at", "_law_due", "_law_one"] ["_law_row", "_law_m", "_law_most"] (defScope s__law_deeds) := ⟨rfl, rfl, rfl, by decide +kernel, rfl, by decide +kernel, by decide +kernel⟩
theorem ok_deeds {f : Addr} {fd : FuncData} (F : Fun K "_law_deeds" "_law_deeds" s__law_deeds f fd) (G : Glb K w mg dI) (c__law_taken : C8.Cal P w K mg base 1 "_law_taken" (sp_taken K) []) : FnOk P w K mg base CX0 2 f fd ["_law_row", "_law_m", "_law_most"] (sp_deeds K) := by
  refine F.ok sc__law_deeds (fun vs H Q E h => ?_) (fun cdv A outer s H vs Q E hr h => ?_)
  · obtain ⟨r, a, ns, q, L, ds, m, most, rfl, _⟩ := h
    rfl
  · obtain ⟨r, a, ns, q0, L, ds, m, most, rfl, hrow, ma, nLr, la0, la9, m1, m40, q⟩ := h
    have hu := hu_of hr
    refine ⟨_, (pss_cons (ps_set (i := 3) sc__law_deeds.nd rfl (Or.inl rfl) (pe_lst pa_nil))
      (pss_cons (ps_setLc (i := 4) (own := [("_law_badge", 5)]) (g := gName 5) (tt := tYes) rfl sc__law_deeds.nd rfl rfl (sw_true rfl rfl rfl (by decide +kernel)) (pi_list (pe_dget hu (pv 1) pe_str (fun _ _ => rfl))) (blkOk_by (own := [("_law_badge", 5)]) (N := ["_law_row", "_law_m", "_law_most", "_law_found", "_law_state", "_law_badge", "_law_often", "_law_waiting", "_law_time", "_law_word", "_law_at", "_law_due", "_law_one"]) (sc := defScope s__law_deeds) (by decide +kernel)) (fun _ _ _ _ _ => (pg_name (i := 5) sc__law_deeds.nd rfl (Or.inl rfl))) (fun _ _ _ _ _ => pts_nil) (fun _ _ _ _ _ => pe_int))
      (pss_cons (ps_set (i := 6) sc__law_deeds.nd rfl (Or.inl rfl) (pe_op op_add pe_int (C8.pe_c c__law_taken hr (by decide) rfl (pa_cons (pv 0) (pa_cons pe_int pa_nil)))))
      (pss_cons (ps_set (i := 7) sc__law_deeds.nd rfl (Or.inl rfl) (pe_lst pa_nil))
      (pss_cons (ps_for PassesOwn.never rfl (pi_range2 rfl G.range (pa_cons pe_int (pa_cons (pe_op op_add pe_int (C8.pe_c c__law_taken hr (by decide) rfl (pa_cons (pv 0) (pa_cons (pv 2) pa_nil)))) pa_nil))) (pg_name (i := 8) sc__law_deeds.nd rfl (Or.inr rfl))
        (pss_cons (ps_for PassesOwn.never rfl (pi_range1 rfl G.range (pa_cons (pe_callB call_len_seq (by rfl) G.len (by decide +kernel) (pa_cons (pv 4) pa_nil)) pa_nil)) (pg_name (i := 5) sc__law_deeds.nd rfl (Or.inl rfl))
            (pss_one (ps_if (pt_cmpR op_eq (C8.pe_c c__law_taken hr (by decide) rfl (pa_cons (pv 0) (pa_cons (pv 6) pa_nil))) pe_int (nomark _))
                (pss_cons (ps_asg (pe_op op_sub pe_int (pe_ix ix_list (pv 4) (pv 5) (fun _ _ => rfl))) (pg_sub (pv 4) (pv 5) set_list))
                  (C8.pss_cut (ps_set (i := 9) sc__law_deeds.nd rfl (Or.inl rfl) (pe_ix ix_list (pe_lst (pa_cons pe_str (pa_cons pe_str pa_nil))) (pe_op op_mod (pe_op op_add (pe_ix ix_list (pv 4) (pv 5) (fun _ _ => rfl)) (pe_callTy call_int1 (by rfl) G.int (by decide +kernel) (pa_cons (pe_cmpR op_eq (C8.pe_c c__law_taken hr (by decide) rfl (pa_cons (pv 0) (pa_cons pe_int pa_nil))) pe_int (nomark _)) pa_nil))) pe_int) (fun _ _ => rfl)))
                  (pss_cons (ps_set (i := 10) sc__law_deeds.nd rfl (Or.inl rfl) (C8.pe_c c__law_taken hr (by decide) rfl (pa_cons (pv 0) (pa_cons (pe_op op_add (pe_callB call_len_seq (by rfl) G.len (by decide +kernel) (pa_cons (pv 7) pa_nil)) pe_int) pa_nil))))
                  (pss_one (ps_if (pt_cmpR op_gt (C8.pe_c c__law_taken hr (by decide) rfl (pa_cons (pv 0) (pa_cons pe_int pa_nil))) pe_int (nomark _))
                    (pss_one (ps_expr (pe_bm PySem.F.plainAttrs_list PySem.F.slot_list_insert PySem.F.type_list_insert mt_insert (pv 7) (pa_cons (pv 10) (pa_cons (pe_tup (pa_cons (pe_op op_add (pv 8) (C8.pe_c c__law_taken hr (by decide) rfl (pa_cons (pv 0) (pa_cons (pe_op op_add (pe_dget hu (pv 1) pe_str (fun _ _ => rfl)) pe_int) pa_nil)))) (pa_cons (pv 5) (pa_cons (pv 8) (pa_cons (pv 9) pa_nil))))) pa_nil)))))
                    pss_nil)))))
                pss_nil)))
          (pss_cons (ps_setLc (i := 11) (own := [("_law_one", 12)]) (g := gName 12) rfl sc__law_deeds.nd rfl rfl (sw_true rfl rfl rfl (by decide +kernel)) (pi_list (pv 7)) (blkOk_by (own := [("_law_one", 12)]) (N := ["_law_row", "_law_m", "_law_most", "_law_found", "_law_state", "_law_badge", "_law_often", "_law_waiting", "_law_time", "_law_word", "_law_at", "_law_due", "_law_one"]) (sc := defScope s__law_deeds) (by decide +kernel)) (fun _ _ _ _ _ => (pg_name (i := 12) sc__law_deeds.nd rfl (Or.inl rfl))) (fun _ _ _ _ _ => (pts_one (pt_cmpR op_le (pe_ix (ix_tupK (K := K)) (pv 12) pe_int (fun _ _ => rfl)) (pv 8) (nomark _)))) (fun _ _ _ _ _ => (pv 12)))
          (pss_cons (ps_setLc (i := 7) (own := [("_law_one", 12)]) (g := gName 12) rfl sc__law_deeds.nd rfl rfl (sw_true rfl rfl rfl (by decide +kernel)) (pi_list (pv 7)) (blkOk_by (own := [("_law_one", 12)]) (N := ["_law_row", "_law_m", "_law_most", "_law_found", "_law_state", "_law_badge", "_law_often", "_law_waiting", "_law_time", "_law_word", "_law_at", "_law_due", "_law_one"]) (sc := defScope s__law_deeds) (by decide +kernel)) (fun _ _ _ _ _ => (pg_name (i := 12) sc__law_deeds.nd rfl (Or.inl rfl))) (fun _ _ _ _ _ => (pts_one (pt_cmpR op_gt (pe_ix (ix_tupK (K := K)) (pv 12) pe_int (fun _ _ => rfl)) (pv 8) (nomark _)))) (fun _ _ _ _ _ => (pv 12)))
          (pss_cons (ps_expr (pe_bm PySem.F.plainAttrs_list PySem.F.slot_list_extend PySem.F.type_list_extend mt_extend (pv 3) (pa_cons (pe_lc (own := [("_law_one", 12)]) (g := gName 12) (tt := tYes) rfl sc__law_deeds.nd (pi_list (pv 11)) (blkOk_by (own := [("_law_one", 12)]) (N := ["_law_row", "_law_m", "_law_most", "_law_found", "_law_state", "_law_badge", "_law_often", "_law_waiting", "_law_time", "_law_word", "_law_at", "_law_due", "_law_one"]) (sc := defScope s__law_deeds) (by decide +kernel)) (fun _ _ _ _ _ => (pg_name (i := 12) sc__law_deeds.nd rfl (Or.inl rfl))) (fun _ _ _ _ _ => pts_nil) (fun _ _ _ _ _ => (pe_op (op_catK (K := K)) (pe_tup (pa_cons (pv 8) pa_nil)) (pe_slice (sl_tupK (K := K)) (pv 12) (po_some pe_int) po_none)))) pa_nil)))
          (pss_one (ps_if (PW.pt (pw_and (pt_cmpR (op_eqD hr.units) (pv 11) (pe_lst pa_nil) (nomark _)) (pw_and1 (pt_cmpR op_eq (C8.pe_c c__law_taken hr (by decide) rfl (pa_cons (pv 0) (pa_cons pe_int pa_nil))) pe_int (nomark _)))))
            (pss_one (ps_expr (pe_bm PySem.F.plainAttrs_list PySem.F.slot_list_append PySem.F.type_list_append mt_append (pv 3) (pa_cons (pe_tup (pa_cons (pv 8) pa_nil)) pa_nil))))
            pss_nil)))))))
      (pss_one (ps_ret (pv 3)))))))), ?_⟩
    obtain ⟨l0, x0, hr0⟩ := hrow.ne
    have nqr : q0 ≠ r := fun z => by have := ma.ob; rw [z, hr0] at this; cases this
    have ndr : ∀ d ∈ ds, d ∉ [r] := fun d hd z => by
      simp at z
      obtain ⟨kvs, e⟩ := ma.kn.mem hd
      rw [z, hr0] at e
      cases e
    have few := ma.kn.few
    -- found = []; state = [0 for ..]
    refine ⟨sz (by simp), fun p np => ?_⟩
    have m0 : MAt (upd H p (.lst [])) q0 L ds m := ma.same (Same.new np)
    refine ⟨_, rfl, q0, .ref L, rfl, m0.g_known, L, rfl, ⟨_, SqL.of m0.kn.lst⟩, fun S nS => ?_⟩
    have npS : p ≠ S := fun z => by rw [← z, upd_same] at nS; cases nS
    have nSH : H S = none := by rw [upd_ne npS.symm] at nS; exact nS
    have s1 : Same H (upd H p (.lst [])) := Same.new np
    refine lc_list (K := K) (a := L) (xs := ds.map V.ref) (fun i H2 => Same H H2 ∧ H2 p = some (.lst []) ∧ H2 S = some (.lst ((List.replicate i (0 : Int)).map V.int))) ⟨Same.mut s1 nSH, by rw [upd_ne npS, upd_same], upd_same⟩
      (fun i H2 _ ⟨sH, _⟩ => SqL.of (sH _ _ ma.kn.lst)) ?_ ?_
    · rintro i x H2 hi ⟨sH, hp, hS⟩
      have hil : i < ds.length := by have := (List.getElem?_eq_some_iff.mp hi).1; rwa [List.length_map] at this
      have hdl : ds.length = m.kns.length := ma.kn.len
      refine ⟨rfl, _, hS, szl (by rw [List.length_map, List.length_replicate]; omega), Same.mut sH nSH, by rw [upd_ne npS]; exact hp, ?_⟩
      rw [upd_same, List.replicate_succ', List.map_append]
      rfl
    · rintro H2 ⟨sH, hp, hS⟩
      rw [List.length_map, ma.kn.len] at hS
      generalize hn : m.kns.length = n at *
      have fx : DFx H r p S := ⟨np, nSH, npS, by rw [hr0]; simp⟩
      -- often, waiting
      refine ⟨_, rfl, r, a, ns, 3, rfl, hrow.same sH, by decide, by decide, fun v1 H3 h1 h1' r3 k3 => ⟨_, _, rfl, rfl, sz (by simp), fun wA nw => ?_⟩⟩
      have k03 : Keeps [r] H H3 := (Keeps.of_same sH).trans k3
      have nwr : wA ≠ r := fun z => by
        obtain ⟨l1, x1, e1⟩ := r3.ne
        rw [z, e1] at nw
        cases nw
      have hp3 := k3 _ _ hp (by simpa using fx.pr)
      have hS3 := k3 _ _ hS (by simpa using fx.Sr)
      have d0 : DSt K H r a ns p S n m.late 0 0 (upd H3 wA (.lst [])) (List.replicate n 0) wA [] [] [] [] :=
        ⟨k03.updNew (k03.free (by simpa using nwr) nw), r3.upd nw, by rw [upd_ne (ne_of_none hp3 nw)]; exact hp3, .nil, by rw [upd_ne (ne_of_none hS3 nw)]; exact hS3, List.length_replicate, upd_same, .nil, k03.free (by simpa using nwr) nw, (fun z => by rw [z, hp3] at nw; cases nw), (fun z => by rw [z, hS3] at nw; cases nw), DInv.start n m.late⟩
      generalize upd H3 wA (.lst []) = H4 at *
      -- for time in range(1, 2 + taken(most))
      refine ⟨_, rfl, _, rfl, r, a, ns, most, rfl, d0.row, by omega, by omega, fun T H5 hT hT' r5 k5 => ⟨_, _, rfl, rfl, 1, 2 + T, rfl, ⟨by omega, by omega, by omega, by omega⟩, ?_⟩⟩
      have d1 := d0.taken fx r5 k5
      refine for_range (lo := 1) (n := (2 + T - 1).toNat) (fun i σ H6 => ∃ (st : List Int) (wA : Addr) (ws : List V) (wl : List Wt) (xs : List V) (fl : List Deed) (o5 o8 o9 o10 o11 o12 : Option V),
        σ = [some (.ref r), some (.ref q0), some (.int most), some (.ref p), some (.ref S), o5, some (.int (2 + v1)), some (.ref wA), o8, o9, o10, o11, o12] ∧ DSt K H r a ns p S n m.late i 0 H6 st wA ws wl xs fl)
        ⟨_, _, _, _, _, _, none, none, none, none, none, none, rfl, d1⟩ ?_ ?_
      · rintro i σ H6 hi ⟨st, wA, ws, wl, xs, fl, o5, o8, o9, o10, o11, o12, rfl, d⟩
        have hT40 : i < 40 := by omega
        rw [show (1 : Int) + (i : Int) = (i : Int) + 1 by omega]
        -- for badge in range(len(state))
        refine ⟨_, rfl, S, _, rfl, .inl (SqL.of d.hS), _, rfl, by omega, by rw [List.length_map, d.stl]; omega, ?_⟩
        rw [List.length_map, d.stl, Int.toNat_natCast]
        refine for_range0 (n := n) (fun j σ H7 => ∃ (st : List Int) (ws : List V) (wl : List Wt) (o5 o9 o10 : Option V),
          σ = [some (.ref r), some (.ref q0), some (.int most), some (.ref p), some (.ref S), o5, some (.int (2 + v1)), some (.ref wA), some (.int ((i : Int) + 1)), o9, o10, o11, o12] ∧ DSt K H r a ns p S n m.late i j H7 st wA ws wl xs fl)
          ⟨_, _, _, o5, o9, o10, rfl, d⟩ ?_ ?_
        · rintro j σ H7 hj ⟨st, ws, wl, o5, o9, o10, rfl, d⟩
          have hwl : wl.length ≤ 1000 := by have := d.inv.len; omega
          have hws : ws.length = wl.length := by have := d.tw.length; rw [List.length_map] at this; exact this
          refine ⟨_, rfl, _, rfl, r, a, ns, 2 + v1, rfl, d.row, by omega, by omega, fun v H8 _ _ r8 k8 => ⟨rfl, _, rfl, ite2 (fun _ => ?_) (fun _ => ⟨_, _, _, _, _, _, rfl, (d.taken fx r8 k8).skip⟩)⟩⟩
          have d8 := d.taken fx r8 k8
          -- state[badge] = 1 - state[badge]
          have hjs : j < st.length := by rw [d.stl]; exact hj
          have hat : atI (st.map V.int) (j : Int) = some (.int st[j]) := atI_nat (by rw [List.getElem?_map, List.getElem?_eq_getElem hjs]; rfl)
          refine ⟨_, rfl, _, rfl, S, _, _, _, rfl, rfl, SqL.of d8.hS, hat, _, _, rfl, rfl, _, rfl, _, rfl, S, _, _, j, rfl, rfl, d8.hS, (by unfold ixN; rw [if_pos (by omega), if_pos (by rw [List.length_map]; omega)]; rfl), ?_⟩
          rw [← List.map_set]
          have d9 : DSt K H r a ns p S n m.late i j (upd H8 S (.lst ((st.set j (1 - st[j])).map V.int))) (st.set j (1 - st[j])) wA ws wl xs fl := by
            have tS : TupS H8 (upd H8 S (.lst ((st.set j (1 - st[j])).map V.int))) := TupS.upd (TupS.refl _) (by rw [d8.hS]; intro xs z; cases z)
            exact ⟨d8.k.updNew fx.nS, d8.row.put hrow fx.nS fx.Sr, by rw [upd_ne fx.pS]; exact d8.hp, d8.hx.mono tS, upd_same, by rw [List.length_set]; exact d8.stl, by rw [upd_ne d8.wS]; exact d8.hw, d8.tw.mono tS, d8.nw, d8.wp, d8.wS, d8.inv⟩
          generalize upd H8 S (.lst ((st.set j (1 - st[j])).map V.int)) = H9 at *
          generalize st.set j (1 - st[j]) = st' at *
          have hjs' : j < st'.length := by rw [d9.stl]; exact hj
          have hat' : atI (st'.map V.int) (j : Int) = some (.int st'[j]) := atI_nat (by rw [List.getElem?_map, List.getElem?_eq_getElem hjs']; rfl)
          -- the word
          refine ⟨fun σ Ha => ∃ (z : Str), Wd z ∧ σ = [some (.ref r), some (.ref q0), some (.int most), some (.ref p), some (.ref S), some (.int (j : Int)), some (.int (2 + v1)), some (.ref wA), some (.int ((i : Int) + 1)), some (.str z), o10, o11, o12] ∧ DSt K H r a ns p S n m.late i j Ha st' wA ws wl xs fl, ?_, ?_⟩
          · refine ⟨sz (by simp), fun pl npl => ?_⟩
            have dl := d9.same (Same.new (o := .lst [.str "out", .str "in"]) npl)
            have hpl : upd H9 pl (.lst [.str "out", .str "in"]) pl = some (.lst [.str "out", .str "in"]) := upd_same
            have npr : pl ≠ r := fun z => by
              obtain ⟨l1, x1, e1⟩ := d9.row.ne
              rw [z, e1] at npl
              cases npl
            refine ⟨_, rfl, _, rfl, S, _, _, _, rfl, rfl, SqL.of dl.hS, hat', _, rfl, r, a, ns, 30, rfl, dl.row, by decide, by decide, fun v Ha _ _ ra ka => ⟨rfl, .inr ⟨_, rfl, _, _, rfl, rfl, _, _, rfl, rfl, (by show (0 : Int) < 2; decide), ?_⟩⟩⟩
            generalize st'[j] + (if decide (V.int v = V.int 29) = true then (1 : Int) else 0) = y
            obtain ⟨z, wz, hz⟩ := at_pair (x := y)
            exact ⟨pl, _, _, .str z, rfl, rfl, SqL.of (ka _ _ hpl (by simpa using npr)), hz, z, wz, rfl, dl.taken fx ra ka⟩
          · rintro σ Ha ⟨z, wz, rfl, da⟩
            -- at = taken(len(waiting) + 1)
            refine ⟨_, rfl, _, rfl, wA, _, rfl, .inl (SqL.of da.hw), _, _, rfl, rfl, r, a, ns, _, rfl, da.row, by omega, by omega, fun v Hb v0 v1' rb kb => ?_⟩
            have db := da.taken fx rb kb
            refine ⟨_, rfl, r, a, ns, 6, rfl, db.row, by decide, by decide, fun v6 Hc _ _ rc kc => ⟨_, _, rfl, rfl, _, rfl, ite2 (fun _ => ?_) (fun _ => ⟨_, _, _, _, _, _, rfl, (db.taken fx rc kc).skip⟩)⟩⟩
            have dc := db.taken fx rc kc
            have mc := ma.keeps dc.k (by simpa using nqr) (by simpa using nLr) ndr
            refine ⟨_, rfl, .inl ⟨rfl, _, SqL.of dc.hw⟩, _, rfl, _, rfl, _, rfl, _, rfl, q0, _, rfl, mc.g_late, _, _, rfl, rfl, r, a, ns, m.late + 1, rfl, dc.row, by omega, by omega, fun vl Hd vl0 vl1 rd kd => ⟨_, _, rfl, rfl, _, rfl, _, rfl, _, rfl, sz (by simp), fun tA ntA => ?_⟩⟩
            have dd := (dc.taken fx rd kd).same (Same.new (o := .tup [.int ((i : Int) + 1 + vl), .int (j : Int), .int ((i : Int) + 1), .str z]) ntA)
            have htA : upd Hd tA (.tup [.int ((i : Int) + 1 + vl), .int (j : Int), .int ((i : Int) + 1), .str z]) tA = some (.tup [.int ((i : Int) + 1 + vl), .int (j : Int), .int ((i : Int) + 1), .str z]) := upd_same
            generalize upd Hd tA (.tup [.int ((i : Int) + 1 + vl), .int (j : Int), .int ((i : Int) + 1), .str z]) = He at *
            refine ⟨wA, ws, v, .ref tA, rfl, rfl, dd.hw, szl (by omega), v0, by omega, ?_⟩
            have tS : TupS He (upd He wA (.lst (ws.take v.toNat ++ [.ref tA] ++ ws.drop v.toNat))) := TupS.upd (TupS.refl _) (by rw [dd.hw]; intro xs z; cases z)
            have cut : ∀ {A : List V} {B : List (List V)} (kx : Nat), TupsAt He A B → TupsAt He (A.take kx) (B.take kx) ∧ TupsAt He (A.drop kx) (B.drop kx) := by
              intro A B kx h
              induction h generalizing kx with
              | nil => cases kx <;> exact ⟨.nil, .nil⟩
              | cons rr tt ih =>
                cases kx with
                | zero => exact ⟨.nil, .cons rr tt⟩
                | succ kx => exact ⟨.cons rr (ih kx).1, (ih kx).2⟩
            obtain ⟨c1, c2⟩ := cut v.toNat dd.tw
            refine ⟨st', ws.take v.toNat ++ [.ref tA] ++ ws.drop v.toNat, wl.take v.toNat ++ [⟨(i : Int) + 1 + vl, j, (i : Int) + 1, z⟩] ++ wl.drop v.toNat, _, _, _, rfl, ?_⟩
            refine ⟨dd.k.updNew dd.nw, dd.row.put hrow dd.nw (dd.wr fx), by rw [upd_ne dd.wp.symm]; exact dd.hp, dd.hx.mono tS, by rw [upd_ne dd.wS.symm]; exact dd.hS, dd.stl, upd_same, ?_, dd.nw, dd.wp, dd.wS, dd.inv.ins hj vl0 (by omega) wz v.toNat⟩
            rw [List.map_append, List.map_append, List.map_take, List.map_drop]
            exact Paired.append (Paired.append (c1.mono tS) (.cons ⟨tA, rfl, tS _ _ htA⟩ .nil)) (c2.mono tS)
        · rintro σ H7 ⟨st, ws, wl, o5, o9, o10, rfl, d⟩
          have hwl : wl.length ≤ 1000 := by have := d.inv.len; omega
          have hfl : fl.length ≤ 1000 := by have := d.inv.len; omega
          have hxl : xs.length = fl.length := by have := d.hx.length; rw [List.length_map] at this; exact this
          -- due = [one for one in waiting if one[0] <= time]
          refine ⟨_, rfl, wA, rfl, ⟨_, SqL.of d.hw⟩, fun D1 nD1 => lc_filt (K := K) (enc := Wt.vs) (l := wl) (f := fun e => decide (e.due ≤ (i : Int) + 1)) d.tw d.hw nD1 (by omega) (fun _ => rfl) (fun _ => rfl)
            (fun i' x tA H2 _ _ hta Q qq => ⟨_, rfl, tA, _, _, _, rfl, rfl, SqT.of hta, rfl, _, rfl, _, _, rfl, rfl, _, rfl, qq⟩) fun ys H8 s8 hD1 ty => ?_⟩
          have d8 := d.same s8
          -- waiting = [one for one in waiting if one[0] > time]
          refine ⟨_, rfl, wA, rfl, ⟨_, SqL.of d8.hw⟩, fun D2 nD2 => lc_filt (K := K) (enc := Wt.vs) (l := wl) (f := fun e => decide ((i : Int) + 1 < e.due)) d8.tw d8.hw nD2 (by omega) (fun _ => rfl) (fun _ => rfl)
            (fun i' x tA H2 _ _ hta Q qq => ⟨_, rfl, tA, _, _, _, rfl, rfl, SqT.of hta, rfl, _, rfl, _, _, rfl, rfl, _, rfl, qq⟩) fun zs H9 s9 hD2 tz => ?_⟩
          have d9 := d8.same s9
          have hD1' := s9 _ _ hD1
          have ty' := ty.mono (TupS.of_same s9)
          have nD2r : D2 ≠ r := fun z => by
            obtain ⟨l1, x1, e1⟩ := d8.row.ne
            rw [z, e1] at nD2
            cases nD2
          have nD2H : H D2 = none := d8.k.free (by simpa using nD2r) nD2
          have nD2p : D2 ≠ p := fun z => by rw [z, d8.hp] at nD2; cases nD2
          have nD2S : D2 ≠ S := fun z => by rw [z, d8.hS] at nD2; cases nD2
          have hyl : ys.length ≤ 1000 := by
            have h1 := ty.length
            have h2 := List.length_filter_le (fun e : Wt => decide (e.due ≤ (i : Int) + 1)) wl
            rw [List.length_map] at h1
            omega
          -- found.extend(..)
          refine ⟨_, rfl, .inl ⟨rfl, _, SqL.of d9.hp⟩, _, rfl, D1, rfl, ⟨_, SqL.of hD1'⟩, fun D3 nD3 => ?_⟩
          refine lc_list (K := K) (a := D1) (xs := ys) (fun k Ha => ∃ us, Same H9 Ha ∧ Ha D3 = some (.lst us) ∧ TupsAt Ha us ((((dueOf ((i : Int) + 1) wl).take k).map fun e => Deed.cm ((i : Int) + 1) e.b e.m e.z).map Deed.vs)) ⟨[], Same.new nD3, upd_same, .nil⟩
            (fun k Ha _ ⟨_, sH, _⟩ => SqL.of (sH _ _ hD1')) ?_ ?_
          · rintro k x Ha hk ⟨us, sA, hD3, hus⟩
            obtain ⟨dv, hdv, tA, rfl, hta⟩ := Paired.getL ty' hk
            rw [List.getElem?_map] at hdv
            obtain ⟨e, he, rfl⟩ := Option.map_eq_some_iff.mp hdv
            have hkl : k < ys.length := (List.getElem?_eq_some_iff.mp hk).1
            have hul : us.length ≤ 1000 := by
              have h1 := hus.length
              rw [List.length_map, List.length_map, List.length_take] at h1
              omega
            have etk : (dueOf ((i : Int) + 1) wl).take (k + 1) = (dueOf ((i : Int) + 1) wl).take k ++ [e] := by
              rw [List.take_succ]
              have he' : (dueOf ((i : Int) + 1) wl)[k]? = some e := he
              rw [he']
              rfl
            refine ⟨rfl, _, rfl, sz (by simp), fun t1 n1 => ⟨_, rfl, _, rfl, tA, e.vs, rfl, SqT.of ((Same.new n1) _ _ (sA _ _ hta)), fun z => absurd z.1 (by show ¬ HT.sIx 4 0 (some 1) = 0; decide), fun _ t2 n2 => ?_⟩⟩
            have s12 : Same Ha (upd (upd Ha t1 (.tup [.int ((i : Int) + 1)])) t2 (.tup (cutV e.vs (some 1) none))) := (Same.new n1).trans (Same.new n2)
            have ht1 : upd (upd Ha t1 (.tup [.int ((i : Int) + 1)])) t2 (.tup (cutV e.vs (some 1) none)) t1 = some (.tup [.int ((i : Int) + 1)]) := (Same.new n2) _ _ upd_same
            have ht2 : upd (upd Ha t1 (.tup [.int ((i : Int) + 1)])) t2 (.tup (cutV e.vs (some 1) none)) t2 = some (.tup [.int e.b, .int e.m, .str e.z]) := upd_same
            generalize upd (upd Ha t1 (.tup [.int ((i : Int) + 1)])) t2 (.tup (cutV e.vs (some 1) none)) = Hb at *
            refine ⟨t1, t2, _, _, rfl, rfl, SqT.of ht1, SqT.of ht2, sz (by simp), (fun z => by cases z), (fun _ z => by cases z), fun _ _ t3 n3 => ?_⟩
            have s3 : Same Ha (upd Hb t3 (.tup ([.int ((i : Int) + 1)] ++ [.int e.b, .int e.m, .str e.z]))) := s12.trans (Same.new n3)
            have ht3 : upd Hb t3 (.tup ([.int ((i : Int) + 1)] ++ [.int e.b, .int e.m, .str e.z])) t3 = some (.tup (Deed.cm ((i : Int) + 1) e.b e.m e.z).vs) := upd_same
            generalize upd Hb t3 (.tup ([.int ((i : Int) + 1)] ++ [.int e.b, .int e.m, .str e.z])) = Hc at *
            have tS : TupS Hc (upd Hc D3 (.lst (us ++ [.ref t3]))) := TupS.upd (TupS.refl _) (by rw [s3 _ _ hD3]; intro xs z; cases z)
            refine ⟨us, s3 _ _ hD3, szl (by omega), us ++ [.ref t3], Same.mut (sA.trans s3) nD3, upd_same, ?_⟩
            rw [etk, List.map_append, List.map_append]
            exact Paired.append ((hus.mono (TupS.of_same s3)).mono tS) (.cons ⟨t3, rfl, tS _ _ ht3⟩ .nil)
          · rintro Ha ⟨us, sA, hD3, hus⟩
            have elen : ys.length = (dueOf ((i : Int) + 1) wl).length := by
              have h1 := ty.length
              rw [List.length_map] at h1
              exact h1
            rw [elen, List.take_length] at hus
            have da := d9.same sA
            have hul : us.length ≤ 1000 := by
              have h1 := hus.length
              rw [List.length_map, List.length_map, ← elen] at h1
              omega
            refine ⟨p, D3, xs, us, rfl, rfl, da.hp, hD3, sz (by omega), ?_⟩
            have tS : TupS Ha (upd Ha p (.lst (xs ++ us))) := TupS.upd (TupS.refl _) (by rw [da.hp]; intro xs z; cases z)
            have hpD1 : p ≠ D1 := fun z => by rw [← z, d.hp] at nD1; cases nD1
            have hx1 : TupsAt (upd Ha p (.lst (xs ++ us))) (xs ++ us) ((fl ++ comesOf ((i : Int) + 1) wl).map Deed.vs) := by
              rw [List.map_append]
              exact Paired.append (da.hx.mono tS) (hus.mono tS)
            have kb : Keeps [r] H (upd Ha p (.lst (xs ++ us))) := da.k.updNew np
            have rb : RowAt K (upd Ha p (.lst (xs ++ us))) r a ns := da.row.put hrow np fx.pr
            have hpb : upd Ha p (.lst (xs ++ us)) p = some (.lst (xs ++ us)) := upd_same
            have hSb : upd Ha p (.lst (xs ++ us)) S = some (.lst (st.map V.int)) := by rw [upd_ne npS.symm]; exact da.hS
            have hD2b : upd Ha p (.lst (xs ++ us)) D2 = some (.lst zs) := by rw [upd_ne nD2p]; exact sA _ _ hD2
            have hD1b : upd Ha p (.lst (xs ++ us)) D1 = some (.lst ys) := by rw [upd_ne hpD1.symm]; exact sA _ _ hD1'
            have tzb : TupsAt (upd Ha p (.lst (xs ++ us))) zs ((restOf ((i : Int) + 1) wl).map Wt.vs) := (tz.mono (TupS.of_same sA)).mono tS
            have tyb : TupsAt (upd Ha p (.lst (xs ++ us))) ys ((dueOf ((i : Int) + 1) wl).map Wt.vs) := (ty'.mono (TupS.of_same sA)).mono tS
            generalize upd Ha p (.lst (xs ++ us)) = Hb at *
            have db : DSt K H r a ns p S n m.late (i + 1) 0 Hb st D2 zs (restOf ((i : Int) + 1) wl) (xs ++ us) (fl ++ comesOf ((i : Int) + 1) wl) :=
              ⟨kb, rb, hpb, hx1, hSb, d.stl, hD2b, tzb, nD2H, nD2p, nD2S, d.inv.turn few⟩
            have okT : ∀ dv ∈ (dueOf ((i : Int) + 1) wl).map Wt.vs, ∀ v ∈ dv, okV v = true := by
              intro dv hdv
              obtain ⟨e, he, rfl⟩ := List.mem_map.mp hdv
              exact Wt.okVs (d.inv.w e (List.mem_filter.mp he).1).1.wd
            -- if due == [] and taken(3) == 2
            refine ⟨_, rfl, sz (by simp), fun e ne => ?_⟩
            have se : Same Hb (upd Hb e (.lst [])) := Same.new ne
            refine ⟨.list (((dueOf ((i : Int) + 1) wl).map Wt.vs).map tupD), .list [], .lst (SqL.of (se _ _ hD1b)) (dp_tups (tyb.mono (TupS.of_same se)) okT), dp_nil upd_same, shaped_tups okT, shaped_nil, _, rfl, ite2 (fun _ => ?_) (fun _ => iteF ⟨_, _, _, _, _, _, _, _, _, _, _, _, rfl, db.same se⟩)⟩
            have de := db.same se
            refine ⟨_, rfl, r, a, ns, 3, rfl, de.row, by decide, by decide, fun v3 Hf _ _ rf kf => ⟨rfl, _, rfl, ite2 (fun _ => ?_) (fun _ => ⟨_, _, _, _, _, _, _, _, _, _, _, _, rfl, de.taken fx rf kf⟩)⟩⟩
            have df := de.taken fx rf kf
            refine ⟨_, rfl, .inl ⟨rfl, _, SqL.of df.hp⟩, _, rfl, sz (by simp), fun tA ntA => ?_⟩
            have dg := df.same (Same.new (o := .tup [.int ((i : Int) + 1)]) ntA)
            have htA : upd Hf tA (.tup [.int ((i : Int) + 1)]) tA = some (.tup (Deed.tk ((i : Int) + 1)).vs) := upd_same
            generalize upd Hf tA (.tup [.int ((i : Int) + 1)]) = Hg at *
            refine ⟨p, xs ++ us, .ref tA, rfl, rfl, dg.hp, szl (by rw [List.length_append]; omega), ?_⟩
            have tG : TupS Hg (upd Hg p (.lst (xs ++ us ++ [.ref tA]))) := TupS.upd (TupS.refl _) (by rw [dg.hp]; intro xs z; cases z)
            refine ⟨st, D2, zs, restOf ((i : Int) + 1) wl, xs ++ us ++ [.ref tA], fl ++ comesOf ((i : Int) + 1) wl ++ [.tk ((i : Int) + 1)], _, _, _, _, _, _, rfl, dg.k.updNew np, dg.row.put hrow np fx.pr, upd_same, ?_, by rw [upd_ne npS.symm]; exact dg.hS, d.stl, by rw [upd_ne nD2p]; exact dg.hw, dg.tw.mono tG, nD2H, nD2p, nD2S, d.inv.tick few⟩
            rw [List.map_append]
            exact Paired.append (dg.hx.mono tG) (.cons ⟨tA, rfl, tG _ _ htA⟩ .nil)
      · rintro σ H6 ⟨st, wA, ws, wl, xs, fl, o5, o8, o9, o10, o11, o12, rfl, d⟩
        exact ⟨_, rfl, q p xs fl H6 (d.inv.done (by omega) (by omega)) np d.hp d.hx d.row d.k⟩
end
end IC
namespace IC
open PySem L2
/-- a part's value, whatever the heap has grown to -/
def GivesV (te : TE) (σ : St) (H : Hp) (v : V) : Prop := ∀ H2, Same H H2 → ∀ Q : VK, (∀ H3, Same H2 H3 → Q v H3) → te σ H2 Q
def GivesB (tt : TT) (σ : St) (H : Hp) (b : Bool) : Prop := ∀ H2, Same H H2 → ∀ Q : Bool → Hp → Prop, (∀ H3, Same H2 H3 → Q b H3) → tt σ H2 Q
theorem GivesB.yes {σ : St} {H : Hp} : GivesB tYes σ H true := fun H2 _ Q q => q H2 (Same.refl H2)
theorem GivesV.var {i : Nat} {σ : St} {H : Hp} {v : V} (h : σ[i]? = some (some v)) : GivesV (tVar i) σ H v := fun H2 _ Q q => ⟨v, h, q H2 (Same.refl H2)⟩
/-- [e for x in range(n) if t] -/
theorem lc_vals {n j : Nat} {tt : TT} {te : TE} {vs : List Nat} {σ : St} {H1 : Hp} {D : Addr} {Qd : Hp → Prop} (f : Nat → Bool) (v : Nat → V) (nD : H1 D = none) (hn : n ≤ 100000) (hw : ∀ x, wipe ((wipe σ vs).set j (some x)) vs = wipe σ vs)
    (ht : ∀ i, i < n → GivesB tt ((wipe σ vs).set j (some (.int (i : Int)))) H1 (f i)) (he : ∀ i, i < n → f i = true → GivesV te ((wipe σ vs).set j (some (.int (i : Int)))) H1 (v i))
    (k : ∀ H', Same H1 H' → H' D = some (.lst (((List.range n).filter f).map v)) → Qd H') :
    ∃ W : Nat → Nat → Hp → Prop, (∃ m, W 0 m (upd H1 D (.lst []))) ∧ ∀ i m H, W i m H →
      ((Itr 0 n).stop i H ∧ Qd H) ∨ ((Itr 0 n).go i H ∧ ∃ Nx : Hp → Prop, (∀ H', Nx H' → ∃ m', m' < m ∧ W (i + 1) m' H') ∧ ∀ x H', (Itr 0 n).yld i H x H' → gName j x (wipe σ vs) H' fun σ2 H2 => wipe σ2 vs = wipe σ vs ∧ tt σ2 H2 fun b H3 =>
        if b = true then te σ2 H3 fun y H4 => ∃ acc, H4 D = some (.lst acc) ∧ acc.length < sizeLine ∧ Nx (upd H4 D (.lst (acc ++ [y]))) else Nx H3) := by
  refine lc_range0 (n := n) (fun i H2 => Same H1 H2 ∧ H2 D = some (.lst (((List.range i).filter f).map v))) ⟨Same.new nD, upd_same⟩ ?_ (fun H2 ⟨h1, h2⟩ => k H2 h1 h2)
  rintro i H2 hi ⟨sH, hD⟩
  have hl : (((List.range i).filter f).map v).length ≤ i := by
    rw [List.length_map]
    have := List.length_filter_le f (List.range i)
    rw [List.length_range] at this
    exact this
  refine ⟨hw _, ht i hi H2 sH _ fun H3 s3 => ?_⟩
  refine ite2 (fun h => ?_) (fun h => ?_)
  · refine he i hi h H3 (sH.trans s3) _ fun H4 s4 => ⟨_, s4 _ _ (s3 _ _ hD), szl (by omega), Same.mut ((sH.trans s3).trans s4) nD, ?_⟩
    rw [upd_same, List.range_succ, List.filter_append, List.map_append, List.filter_cons, if_pos h]
    rfl
  · refine ⟨sH.trans s3, ?_⟩
    rw [List.range_succ, List.filter_append, List.map_append, List.filter_cons, if_neg h]
    simpa using s3 _ _ hD
/-- [e for x in range(n)] -/
theorem lc_all {n j : Nat} {te : TE} {vs : List Nat} {σ : St} {H1 : Hp} {D : Addr} {Qd : Hp → Prop} (v : Nat → V) (nD : H1 D = none) (hn : n ≤ 100000) (hw : ∀ x, wipe ((wipe σ vs).set j (some x)) vs = wipe σ vs)
    (he : ∀ i, i < n → GivesV te ((wipe σ vs).set j (some (.int (i : Int)))) H1 (v i)) (k : ∀ H', Same H1 H' → H' D = some (.lst ((List.range n).map v)) → Qd H') :
    ∃ W : Nat → Nat → Hp → Prop, (∃ m, W 0 m (upd H1 D (.lst []))) ∧ ∀ i m H, W i m H →
      ((Itr 0 n).stop i H ∧ Qd H) ∨ ((Itr 0 n).go i H ∧ ∃ Nx : Hp → Prop, (∀ H', Nx H' → ∃ m', m' < m ∧ W (i + 1) m' H') ∧ ∀ x H', (Itr 0 n).yld i H x H' → gName j x (wipe σ vs) H' fun σ2 H2 => wipe σ2 vs = wipe σ vs ∧ tYes σ2 H2 fun b H3 =>
        if b = true then te σ2 H3 fun y H4 => ∃ acc, H4 D = some (.lst acc) ∧ acc.length < sizeLine ∧ Nx (upd H4 D (.lst (acc ++ [y]))) else Nx H3) :=
  lc_vals (fun _ => true) v nD hn hw (fun _ _ => GivesB.yes) (fun i hi _ => he i hi) fun H' s h => k H' s (by rw [List.filter_eq_self.mpr (fun _ _ => rfl)] at h; exact h)
/-- [e for x in xs if t], xs a list -/
theorem lc_over {K : PySem.W.Frag} {α : Type} {enc : α → V} {l : List α} {a j : Nat} {tt : TT} {te : TE} {vs : List Nat} {σ : St} {H1 : Hp} {D : Addr} {Qd : Hp → Prop} (f : α → Bool) (v : α → V) (ha : SqL K H1 a (l.map enc)) (nD : H1 D = none) (hl : l.length ≤ 100000) (hw : ∀ x, wipe ((wipe σ vs).set j (some x)) vs = wipe σ vs)
    (ht : ∀ x ∈ l, GivesB tt ((wipe σ vs).set j (some (enc x))) H1 (f x)) (he : ∀ x ∈ l, f x = true → GivesV te ((wipe σ vs).set j (some (enc x))) H1 (v x))
    (k : ∀ H', Same H1 H' → H' D = some (.lst ((l.filter f).map v)) → Qd H') :
    ∃ W : Nat → Nat → Hp → Prop, (∃ m, W 0 m (upd H1 D (.lst []))) ∧ ∀ i m H, W i m H →
      ((Itl K a).stop i H ∧ Qd H) ∨ ((Itl K a).go i H ∧ ∃ Nx : Hp → Prop, (∀ H', Nx H' → ∃ m', m' < m ∧ W (i + 1) m' H') ∧ ∀ x H', (Itl K a).yld i H x H' → gName j x (wipe σ vs) H' fun σ2 H2 => wipe σ2 vs = wipe σ vs ∧ tt σ2 H2 fun b H3 =>
        if b = true then te σ2 H3 fun y H4 => ∃ acc, H4 D = some (.lst acc) ∧ acc.length < sizeLine ∧ Nx (upd H4 D (.lst (acc ++ [y]))) else Nx H3) := by
  refine lc_list (K := K) (a := a) (xs := l.map enc) (fun i H2 => Same H1 H2 ∧ H2 D = some (.lst (((l.take i).filter f).map v))) ⟨Same.new nD, upd_same⟩ (fun i H2 _ ⟨sH, _⟩ => sH.seq ha) ?_ ?_
  · rintro i y H2 hi ⟨sH, hD⟩
    rw [List.getElem?_map] at hi
    obtain ⟨x, hx, rfl⟩ := Option.map_eq_some_iff.mp hi
    have hm : x ∈ l := List.mem_of_getElem? hx
    have hil : i < l.length := (List.getElem?_eq_some_iff.mp hx).1
    have etk : l.take (i + 1) = l.take i ++ [x] := by rw [List.take_succ, hx]; rfl
    have hll : (((l.take i).filter f).map v).length ≤ i := by
      rw [List.length_map]
      have := List.length_filter_le f (l.take i)
      rw [List.length_take] at this
      omega
    refine ⟨hw _, ht x hm H2 sH _ fun H3 s3 => ite2 (fun h => ?_) (fun h => ?_)⟩
    · refine he x hm h H3 (sH.trans s3) _ fun H4 s4 => ⟨_, s4 _ _ (s3 _ _ hD), szl (by omega), Same.mut ((sH.trans s3).trans s4) nD, ?_⟩
      rw [upd_same, etk, List.filter_append, List.map_append, List.filter_cons, if_pos h]
      rfl
    · refine ⟨sH.trans s3, ?_⟩
      rw [etk, List.filter_append, List.map_append, List.filter_cons, if_neg h]
      simpa using s3 _ _ hD
  · rintro H2 ⟨sH, hD⟩
    rw [List.length_map, List.take_length] at hD
    exact k H2 sH hD
/-- .. xs a list of tuples -/
theorem lc_tups {K : PySem.W.Frag} {α : Type} {enc : α → List V} {l : List α} {xs : List V} {a j : Nat} {tt : TT} {te : TE} {vs : List Nat} {σ : St} {H1 : Hp} {D : Addr} {Qd : Hp → Prop} (f : α → Bool) (v : α → V) (hx : TupsAt H1 xs (l.map enc)) (ha : SqL K H1 a xs) (nD : H1 D = none) (hl : l.length ≤ 100000) (hw : ∀ x, wipe ((wipe σ vs).set j (some x)) vs = wipe σ vs)
    (ht : ∀ x tA, x ∈ l → H1 tA = some (.tup (enc x)) → GivesB tt ((wipe σ vs).set j (some (.ref tA))) H1 (f x)) (he : ∀ x tA, x ∈ l → H1 tA = some (.tup (enc x)) → f x = true → GivesV te ((wipe σ vs).set j (some (.ref tA))) H1 (v x))
    (k : ∀ H', Same H1 H' → H' D = some (.lst ((l.filter f).map v)) → Qd H') :
    ∃ W : Nat → Nat → Hp → Prop, (∃ m, W 0 m (upd H1 D (.lst []))) ∧ ∀ i m H, W i m H →
      ((Itl K a).stop i H ∧ Qd H) ∨ ((Itl K a).go i H ∧ ∃ Nx : Hp → Prop, (∀ H', Nx H' → ∃ m', m' < m ∧ W (i + 1) m' H') ∧ ∀ x H', (Itl K a).yld i H x H' → gName j x (wipe σ vs) H' fun σ2 H2 => wipe σ2 vs = wipe σ vs ∧ tt σ2 H2 fun b H3 =>
        if b = true then te σ2 H3 fun y H4 => ∃ acc, H4 D = some (.lst acc) ∧ acc.length < sizeLine ∧ Nx (upd H4 D (.lst (acc ++ [y]))) else Nx H3) := by
  have hxl : xs.length = l.length := by have := hx.length; rw [List.length_map] at this; exact this
  refine lc_list (K := K) (a := a) (xs := xs) (fun i H2 => Same H1 H2 ∧ H2 D = some (.lst (((l.take i).filter f).map v))) ⟨Same.new nD, upd_same⟩ (fun i H2 _ ⟨sH, _⟩ => sH.seq ha) ?_ ?_
  · rintro i y H2 hi ⟨sH, hD⟩
    obtain ⟨d, hd, tA, rfl, hta⟩ := Paired.getL hx hi
    rw [List.getElem?_map] at hd
    obtain ⟨x, hx', rfl⟩ := Option.map_eq_some_iff.mp hd
    have hm : x ∈ l := List.mem_of_getElem? hx'
    have hil : i < l.length := (List.getElem?_eq_some_iff.mp hx').1
    have etk : l.take (i + 1) = l.take i ++ [x] := by rw [List.take_succ, hx']; rfl
    have hll : (((l.take i).filter f).map v).length ≤ i := by
      rw [List.length_map]
      have := List.length_filter_le f (l.take i)
      rw [List.length_take] at this
      omega
    refine ⟨hw _, ht x tA hm hta H2 sH _ fun H3 s3 => ite2 (fun h => ?_) (fun h => ?_)⟩
    · refine he x tA hm hta h H3 (sH.trans s3) _ fun H4 s4 => ⟨_, s4 _ _ (s3 _ _ hD), szl (by omega), Same.mut ((sH.trans s3).trans s4) nD, ?_⟩
      rw [upd_same, etk, List.filter_append, List.map_append, List.filter_cons, if_pos h]
      rfl
    · refine ⟨sH.trans s3, ?_⟩
      rw [etk, List.filter_append, List.map_append, List.filter_cons, if_neg h]
      simpa using s3 _ _ hD
  · rintro H2 ⟨sH, hD⟩
    rw [hxl, List.take_length] at hD
    exact k H2 sH hD
/-- a part that makes a new tuple -/
def MakesT (te : TE) (σ : St) (H : Hp) (d : List V) : Prop := ∀ H2, Same H H2 → ∀ Q : VK, (∀ t H3, Same H2 H3 → H2 t = none → H3 t = some (.tup d) → Q (.ref t) H3) → te σ H2 Q
/-- [(..) for x in range(n)] -/
theorem lc_mk {n j : Nat} {te : TE} {vs : List Nat} {σ : St} {H1 : Hp} {D : Addr} {Qd : Hp → Prop} (d : Nat → List V) (nD : H1 D = none) (hn : n ≤ 100000) (hw : ∀ x, wipe ((wipe σ vs).set j (some x)) vs = wipe σ vs)
    (he : ∀ i, i < n → MakesT te ((wipe σ vs).set j (some (.int (i : Int)))) H1 (d i)) (k : ∀ ys H', Same H1 H' → H' D = some (.lst ys) → TupsAt H' ys ((List.range n).map d) → Qd H') :
    ∃ W : Nat → Nat → Hp → Prop, (∃ m, W 0 m (upd H1 D (.lst []))) ∧ ∀ i m H, W i m H →
      ((Itr 0 n).stop i H ∧ Qd H) ∨ ((Itr 0 n).go i H ∧ ∃ Nx : Hp → Prop, (∀ H', Nx H' → ∃ m', m' < m ∧ W (i + 1) m' H') ∧ ∀ x H', (Itr 0 n).yld i H x H' → gName j x (wipe σ vs) H' fun σ2 H2 => wipe σ2 vs = wipe σ vs ∧ tYes σ2 H2 fun b H3 =>
        if b = true then te σ2 H3 fun y H4 => ∃ acc, H4 D = some (.lst acc) ∧ acc.length < sizeLine ∧ Nx (upd H4 D (.lst (acc ++ [y]))) else Nx H3) := by
  refine lc_range0 (n := n) (fun i H2 => ∃ ys, Same H1 H2 ∧ H2 D = some (.lst ys) ∧ TupsAt H2 ys ((List.range i).map d)) ⟨[], Same.new nD, upd_same, .nil⟩ ?_ (fun H2 ⟨ys, h1, h2, h3⟩ => k ys H2 h1 h2 h3)
  rintro i H2 hi ⟨ys, sH, hD, hy⟩
  have hl : ys.length = i := by have := hy.length; rw [List.length_map, List.length_range] at this; exact this
  refine ⟨hw _, ?_⟩
  show te _ H2 _
  refine he i hi H2 sH _ fun t H3 s3 nt ht => ⟨ys, s3 _ _ hD, szl (by omega), ys ++ [.ref t], Same.mut (sH.trans s3) nD, upd_same, ?_⟩
  have tS : TupS H2 (upd H3 D (.lst (ys ++ [.ref t]))) := TupS.upd (TupS.of_same s3) (by rw [s3 _ _ hD]; intro xs z; cases z)
  have ntD : t ≠ D := fun z => by rw [z, hD] at nt; cases nt
  rw [List.range_succ, List.map_append]
  exact Paired.append (hy.mono tS) (.cons ⟨t, rfl, by rw [upd_ne ntD]; exact ht⟩ .nil)
/-- [(..) for x in xs] -/
theorem lc_mkL {K : PySem.W.Frag} {α : Type} {enc : α → V} {l : List α} {a j : Nat} {te : TE} {vs : List Nat} {σ : St} {H1 : Hp} {D : Addr} {Qd : Hp → Prop} (d : α → List V) (ha : SqL K H1 a (l.map enc)) (nD : H1 D = none) (hl : l.length ≤ 100000) (hw : ∀ x, wipe ((wipe σ vs).set j (some x)) vs = wipe σ vs)
    (he : ∀ x ∈ l, MakesT te ((wipe σ vs).set j (some (enc x))) H1 (d x)) (k : ∀ ys H', Same H1 H' → H' D = some (.lst ys) → TupsAt H' ys (l.map d) → Qd H') :
    ∃ W : Nat → Nat → Hp → Prop, (∃ m, W 0 m (upd H1 D (.lst []))) ∧ ∀ i m H, W i m H →
      ((Itl K a).stop i H ∧ Qd H) ∨ ((Itl K a).go i H ∧ ∃ Nx : Hp → Prop, (∀ H', Nx H' → ∃ m', m' < m ∧ W (i + 1) m' H') ∧ ∀ x H', (Itl K a).yld i H x H' → gName j x (wipe σ vs) H' fun σ2 H2 => wipe σ2 vs = wipe σ vs ∧ tYes σ2 H2 fun b H3 =>
        if b = true then te σ2 H3 fun y H4 => ∃ acc, H4 D = some (.lst acc) ∧ acc.length < sizeLine ∧ Nx (upd H4 D (.lst (acc ++ [y]))) else Nx H3) := by
  refine lc_list (K := K) (a := a) (xs := l.map enc) (fun i H2 => ∃ ys, Same H1 H2 ∧ H2 D = some (.lst ys) ∧ TupsAt H2 ys ((l.take i).map d)) ⟨[], Same.new nD, upd_same, .nil⟩ (fun i H2 _ ⟨_, sH, _⟩ => sH.seq ha) ?_ ?_
  · rintro i y H2 hi ⟨ys, sH, hD, hy⟩
    rw [List.getElem?_map] at hi
    obtain ⟨x, hx, rfl⟩ := Option.map_eq_some_iff.mp hi
    have hm : x ∈ l := List.mem_of_getElem? hx
    have hil : i < l.length := (List.getElem?_eq_some_iff.mp hx).1
    have etk : l.take (i + 1) = l.take i ++ [x] := by rw [List.take_succ, hx]; rfl
    have hll : ys.length ≤ i := by have := hy.length; rw [List.length_map, List.length_take] at this; omega
    refine ⟨hw _, ?_⟩
    show te _ H2 _
    refine he x hm H2 sH _ fun t H3 s3 nt ht => ⟨ys, s3 _ _ hD, szl (by omega), ys ++ [.ref t], Same.mut (sH.trans s3) nD, upd_same, ?_⟩
    have tS : TupS H2 (upd H3 D (.lst (ys ++ [.ref t]))) := TupS.upd (TupS.of_same s3) (by rw [s3 _ _ hD]; intro xs z; cases z)
    have ntD : t ≠ D := fun z => by rw [z, hD] at nt; cases nt
    rw [etk, List.map_append]
    exact Paired.append (hy.mono tS) (.cons ⟨t, rfl, by rw [upd_ne ntD]; exact ht⟩ .nil)
  · rintro H2 ⟨ys, sH, hD, hy⟩
    rw [List.length_map, List.take_length] at hy
    exact k ys H2 sH hD hy
end IC
namespace IC
open PySem L2
/-! ### prices -/
def NEV : Int := 1000000
def turnP (o : Option Str) (gone turns : Bool) : Int := match o with
  | some _ => if turns then 0 else NEV
  | none => if turns && gone then 1 else 0
def stepP (kn : Kn) (late now m a b : Int) : Int := match lookK kn m with
  | some z => if insOf z = b then turnP (some z) (isLost m late now) (!decide (a = b)) else NEV
  | none => turnP none (isLost m late now) (!decide (a = b))
/-- the least price up to a moment, for both states behind it -/
def aheadP (kn : Kn) (late now : Int) : Nat → Int × Int
  | 0 => (0, NEV)
  | m + 1 =>
    let p := aheadP kn late now m
    (min (p.1 + stepP kn late now (m + 1 : Nat) 0 0) (p.2 + stepP kn late now (m + 1 : Nat) 1 0), min (p.1 + stepP kn late now (m + 1 : Nat) 0 1) (p.2 + stepP kn late now (m + 1 : Nat) 1 1))
/-- the least price of the last k moments, for both states ahead of them -/
def behindP (kn : Kn) (late : Int) (T : Nat) : Nat → Int × Int
  | 0 => (0, 0)
  | k + 1 =>
    let p := behindP kn late T k
    (min (p.1 + stepP kn late T ((T : Int) - k) 0 0) (p.2 + stepP kn late T ((T : Int) - k) 0 1), min (p.1 + stepP kn late T ((T : Int) - k) 1 0) (p.2 + stepP kn late T ((T : Int) - k) 1 1))
def leastP (kn : Kn) (late : Int) (T : Nat) : Int := min (aheadP kn late T T).1 (aheadP kn late T T).2
def moreP (kn : Kn) (late : Int) (T m : Nat) : Int × Int := ((aheadP kn late T m).1 + (behindP kn late T (T - m)).1 - leastP kn late T, (aheadP kn late T m).2 + (behindP kn late T (T - m)).2 - leastP kn late T)
/-- the house's time as a natural number -/
structure TimeOk (h : Hs) (T : Nat) : Prop where
  now : h.now = T
  le : T ≤ 60
def soundH (h : Hs) : Bool := borne (allWants h.kns h.late h.now) h.lost
def spareH (h : Hs) : Int := h.lost - ((allWants h.kns h.late h.now).length : Int)
theorem nd_int (a b : Int) : (!decide (V.int a = V.int b)) = !decide (a = b) := by
  by_cases h : a = b
  · rw [decide_eq_true (by rw [h]), decide_eq_true h]
  · rw [decide_eq_false (fun z => h (V.int.inj z)), decide_eq_false h]
theorem dd_int (a b : Int) : decide (V.int a = V.int b) = decide (a = b) := by
  by_cases h : a = b
  · rw [decide_eq_true (by rw [h]), decide_eq_true h]
  · rw [decide_eq_false (fun z => h (V.int.inj z)), decide_eq_false h]
section
variable {P : Program} {w : World} {K : PySem.W.Frag} {mg : Str → Option Value} {base : Heap} {dI C : Addr}
/-! ### wants -/
theorem aw_few {H : Hp} {L : Addr} {ds : List Addr} {kns : List Kn} (k : KnAt H L ds kns) (late now : Int) : (allWants kns late now).length ≤ 400 := by
  have := awTo_len k.ok late now kns.length (Nat.le_refl _)
  have := k.few
  unfold allWants
  omega
def sp_wants (C : Addr) : Sp := fun vs H Q _ => ∃ (p L : Addr) (ds : List Addr) (h : Hs), vs = [.ref p] ∧ HouseAt C H p L ds h ∧
  ∀ (a : Addr) (xs : List V) (H' : Hp), Same H H' → H a = none → H' a = some (.lst xs) → TupsAt H' xs ((allWants h.kns h.late h.now).map Want.vs) → Q (.ref a) H'
theorem sc_wants : FnScope ["house"] ["house"] (defScope s_wants) := ⟨rfl, rfl, rfl, by decide +kernel, rfl, by decide +kernel, by decide +kernel⟩
theorem ok_wants {f : Addr} {fd : FuncData} (F : Fun K "wants" "wants" s_wants f fd) (T : HTxt K C) (c_all_wants : C8.Cal P w K mg base 3 "all_wants" sp_all_wants []) : FnOk P w K mg base CX0 4 f fd ["house"] (sp_wants C) := by
  refine F.ok sc_wants (fun vs H Q E h => ?_) (fun cdv A outer s H vs Q E hr h => ?_)
  · obtain ⟨p, L, ds, h, rfl, _⟩ := h
    rfl
  · obtain ⟨p, L, ds, h, rfl, ha, q⟩ := h
    obtain ⟨dx, eo⟩ := ha.ob
    refine ⟨_, (pss_one (ps_ret (C8.pe_c c_all_wants hr (by decide) rfl (pa_cons (pe_fld (pv 0) rfl) (pa_cons (pe_fld (pv 0) rfl) (pa_cons (pe_fld (pv 0) rfl) pa_nil)))))), ?_⟩
    exact ⟨_, rfl, p, C, dx, _, _, rfl, eo, T.cl, T.n_known, fl_known _ _, _, rfl, p, C, dx, _, _, rfl, eo, T.cl, T.n_late, fl_late _ _, _, rfl, p, C, dx, _, _, rfl, eo, T.cl, T.n_now, fl_now _ _, L, ds, h.kns, h.late, h.now, rfl, ha.kn, fun a xs H' s na hx t => q a xs H' s na hx t⟩
/-! ### is_sound -/
def sp_is_sound (C : Addr) : Sp := fun vs H Q _ => ∃ (p L : Addr) (ds : List Addr) (h : Hs), vs = [.ref p] ∧ HouseAt C H p L ds h ∧ ∀ H', Same H H' → Q (.bl (soundH h)) H'
theorem sc_is_sound : FnScope ["house"] ["house"] (defScope s_is_sound) := ⟨rfl, rfl, rfl, by decide +kernel, rfl, by decide +kernel, by decide +kernel⟩
theorem ok_is_sound {f : Addr} {fd : FuncData} (F : Fun K "is_sound" "is_sound" s_is_sound f fd) (T : HTxt K C) (c_wants : C8.Cal P w K mg base 4 "wants" (sp_wants C) []) (c_are_borne : C8.Cal P w K mg base 1 "are_borne" sp_are_borne []) :
    FnOk P w K mg base CX0 5 f fd ["house"] (sp_is_sound C) := by
  refine F.ok sc_is_sound (fun vs H Q E h => ?_) (fun cdv A outer s H vs Q E hr h => ?_)
  · obtain ⟨p, L, ds, h, rfl, _⟩ := h
    rfl
  · obtain ⟨p, L, ds, h, rfl, ha, q⟩ := h
    obtain ⟨dx, eo⟩ := ha.ob
    refine ⟨_, (pss_one (ps_ret (C8.pe_c c_are_borne hr (by decide) rfl (pa_cons (C8.pe_c c_wants hr (by decide) rfl (pa_cons (pv 0) pa_nil)) (pa_cons (pe_fld (pv 0) rfl) pa_nil))))), ?_⟩
    refine ⟨_, rfl, p, L, ds, h, rfl, ha, fun a xs H1 s1 na hx t => ?_⟩
    exact ⟨_, rfl, p, C, dx, _, _, rfl, s1 _ _ eo, T.cl, T.n_lost, fl_lost _ _, a, xs, allWants h.kns h.late h.now, h.lost, rfl, hx, t, by have := aw_few ha.kn h.late h.now; omega, awTo_wd _ _ _ _, fun H2 s2 => q H2 (s1.trans s2)⟩
/-! ### need_sound, need_badge, need_moment, need_ask: where nothing is refused -/
def sp_need_sound (C : Addr) : Sp := fun vs H Q _ => ∃ (p L : Addr) (ds : List Addr) (h : Hs), vs = [.ref p] ∧ HouseAt C H p L ds h ∧ soundH h = true ∧ ∀ H', Same H H' → Q .non H'
theorem sc_need_sound : FnScope ["house"] ["house"] (defScope s_need_sound) := ⟨rfl, rfl, rfl, by decide +kernel, rfl, by decide +kernel, by decide +kernel⟩
theorem ok_need_sound {f : Addr} {fd : FuncData} (F : Fun K "need_sound" "need_sound" s_need_sound f fd) (c_is_sound : C8.Cal P w K mg base 5 "is_sound" (sp_is_sound C) []) : FnOk P w K mg base CX0 6 f fd ["house"] (sp_need_sound C) := by
  refine F.ok sc_need_sound (fun vs H Q E h => ?_) (fun cdv A outer s H vs Q E hr h => ?_)
  · obtain ⟨p, L, ds, h, rfl, _⟩ := h
    rfl
  · obtain ⟨p, L, ds, h, rfl, ha, hs, q⟩ := h
    refine ⟨_, (pss_one (ps_if (pt_not (pt_val (C8.pe_c c_is_sound hr (by decide) rfl (pa_cons (pv 0) pa_nil))))
        (pss_one ps_never)
        pss_nil)), ?_⟩
    exact ⟨_, rfl, p, L, ds, h, rfl, ha, fun H1 s1 => ⟨_, rfl, ifF (by rw [hs]; rfl) (q H1 s1)⟩⟩
def sp_need_badge (C : Addr) : Sp := fun vs H Q _ => ∃ (p L : Addr) (ds : List Addr) (h : Hs) (b : Nat), vs = [.ref p, .int b] ∧ HouseAt C H p L ds h ∧ b < h.kns.length ∧ Q .non H
theorem sc_need_badge : FnScope ["house", "badge"] ["house", "badge"] (defScope s_need_badge) := ⟨rfl, rfl, rfl, by decide +kernel, rfl, by decide +kernel, by decide +kernel⟩
theorem ok_need_badge {f : Addr} {fd : FuncData} (F : Fun K "need_badge" "need_badge" s_need_badge f fd) (G : Glb K w mg dI) (T : HTxt K C) : FnOk P w K mg base CX0 1 f fd ["house", "badge"] (sp_need_badge C) := by
  refine F.ok sc_need_badge (fun vs H Q E h => ?_) (fun cdv A outer s H vs Q E hr h => ?_)
  · obtain ⟨p, L, ds, h, b, rfl, _⟩ := h
    rfl
  · obtain ⟨p, L, ds, h, b, rfl, ha, hb, q⟩ := h
    obtain ⟨dx, eo⟩ := ha.ob
    have hlen : ds.length = h.kns.length := ha.kn.len
    refine ⟨_, (pss_one (ps_if (pt_not (pt_chain op_le op_lt pe_int (pv 1) (pe_callB call_len_seq (by rfl) G.len (by decide +kernel) (pa_cons (pe_fld (pv 0) rfl) pa_nil))))
        (pss_one ps_never)
        pss_nil)), ?_⟩
    exact ⟨_, rfl, _, _, rfl, rfl, _, rfl, ifT (by simp) ⟨_, rfl, p, C, dx, _, _, rfl, eo, T.cl, T.n_known, fl_known _ _, L, _, rfl, .inl (SqL.of ha.kn.lst), _, _, rfl, rfl, _, rfl, ifF (by simp; omega) q⟩⟩
/-! ### turn_price, step_price -/
def sp_turn_price (C : Addr) : Sp := fun vs H Q _ => ∃ (p L : Addr) (ds : List Addr) (h : Hs) (b : Nat) (m : Int) (t : Bool), vs = [.ref p, .int b, .int m, .bl t] ∧ HouseAt C H p L ds h ∧ b < h.kns.length ∧ Q (.int (turnP (lookK (h.kns.getD b []) m) (isLost m h.late h.now) t)) H
theorem sc_turn_price : FnScope ["house", "badge", "moment", "turns"] ["house", "badge", "moment", "turns"] (defScope s_turn_price) := ⟨rfl, rfl, rfl, by decide +kernel, rfl, by decide +kernel, by decide +kernel⟩
theorem ok_turn_price {f : Addr} {fd : FuncData} (F : Fun K "turn_price" "turn_price" s_turn_price f fd) (G : Glb K w mg dI) (GW : GlbW mg) (T : HTxt K C) (c_is_lost : C8.Cal P w K mg base 1 "is_lost" sp_is_lost []) : FnOk P w K mg base CX0 2 f fd ["house", "badge", "moment", "turns"] (sp_turn_price C) := by
  refine F.ok sc_turn_price (fun vs H Q E h => ?_) (fun cdv A outer s H vs Q E hr h => ?_)
  · obtain ⟨p, L, ds, h, b, m, t, rfl, _⟩ := h
    rfl
  · obtain ⟨p, L, ds, h, b, m, t, rfl, ha, hb, q⟩ := h
    have hu := hu_of hr
    obtain ⟨dx, eo⟩ := ha.ob
    obtain ⟨ek, hkm⟩ := getD_mem hb
    obtain ⟨d, hd, hdk⟩ := Paired.get ha.kn.at_ ek
    have hg : DGet H d (.int m) ((lookK (h.kns.getD b []) m).map V.str) := by
      have e : DGet H d (kV (Sum.inl m)) (valV (encK (h.kns.getD b [])) (Sum.inl m)) := DGet.k hdk
      rw [valV_enc] at e
      exact e
    refine ⟨_, (pss_cons (ps_if (pt_cmp (pc_din hu (pv 2) (pe_ix ix_list (pe_fld (pv 0) rfl) (pv 1) (fun _ _ => rfl))))
        (pss_one (ps_ret (pe_ifExp (pt_val (pv 3)) pe_int (C8.pe_gc rfl GW.NEVER))))
        pss_nil)
      (pss_one (ps_ret (pe_callTy call_int1 (by rfl) G.int (by decide +kernel) (pa_cons (pe_and (pv 3) (pe_one (C8.pe_c c_is_lost hr (by decide) rfl (pa_cons (pv 2) (pa_cons (pe_fld (pv 0) rfl) (pa_cons (pe_fld (pv 0) rfl) pa_nil)))))) pa_nil))))), ?_⟩
    refine ⟨_, rfl, _, rfl, p, C, dx, _, _, rfl, eo, T.cl, T.n_known, fl_known _ _, _, rfl, L, _, _, .ref d, rfl, rfl, SqL.of ha.kn.lst, atI_nat (by rw [List.getElem?_map, hd]; rfl), d, _, rfl, hg, _, rfl, ?_⟩
    cases e : lookK (h.kns.getD b []) m with
    | some z =>
      rw [e] at q
      refine iteT ⟨_, rfl, _, rfl, ?_⟩
      cases t with
      | true => exact iteT q
      | false => exact iteF q
    | none =>
      rw [e] at q
      refine iteF ⟨_, rfl, _, rfl, ?_⟩
      cases t with
      | true =>
        refine iteT ⟨_, rfl, _, rfl, p, C, dx, _, _, rfl, eo, T.cl, T.n_late, fl_late _ _, _, rfl, p, C, dx, _, _, rfl, eo, T.cl, T.n_now, fl_now _ _, m, h.late, h.now, rfl, .inr ⟨_, rfl, ?_⟩⟩
        exact q
      | false =>
        refine iteF (.inr ⟨_, rfl, ?_⟩)
        exact q
def sp_step_price (C : Addr) : Sp := fun vs H Q _ => ∃ (p L : Addr) (ds : List Addr) (h : Hs) (b : Nat) (m x y : Int), vs = [.ref p, .int b, .int m, .int x, .int y] ∧ HouseAt C H p L ds h ∧ b < h.kns.length ∧ Q (.int (stepP (h.kns.getD b []) h.late h.now m x y)) H
theorem sc_step_price : FnScope ["house", "badge", "moment", "before", "behind", "word"] ["house", "badge", "moment", "before", "behind"] (defScope s_step_price) := ⟨rfl, rfl, rfl, by decide +kernel, rfl, by decide +kernel, by decide +kernel⟩
theorem ok_step_price {f : Addr} {fd : FuncData} (F : Fun K "step_price" "step_price" s_step_price f fd) (G : Glb K w mg dI) (GW : GlbW mg) (T : HTxt K C) (c_turn_price : C8.Cal P w K mg base 2 "turn_price" (sp_turn_price C) []) : FnOk P w K mg base CX0 3 f fd ["house", "badge", "moment", "before", "behind"] (sp_step_price C) := by
  refine F.ok sc_step_price (fun vs H Q E h => ?_) (fun cdv A outer s H vs Q E hr h => ?_)
  · obtain ⟨p, L, ds, h, b, m, x, y, rfl, _⟩ := h
    rfl
  · obtain ⟨p, L, ds, h, b, m, x, y, rfl, ha, hb, q⟩ := h
    have hu := hu_of hr
    obtain ⟨dx, eo⟩ := ha.ob
    obtain ⟨ek, hkm⟩ := getD_mem hb
    obtain ⟨d, hd, hdk⟩ := Paired.get ha.kn.at_ ek
    have hg : DGet H d (.int m) ((lookK (h.kns.getD b []) m).map V.str) := by
      have e : DGet H d (kV (Sum.inl m)) (valV (encK (h.kns.getD b [])) (Sum.inl m)) := DGet.k hdk
      rw [valV_enc] at e
      exact e
    refine ⟨_, (pss_cons (ps_set (i := 5) sc_step_price.nd rfl (Or.inl rfl) (pe_dget1 hu (pe_ix ix_list (pe_fld (pv 0) rfl) (pv 1) (fun _ _ => rfl)) (pv 2) ⟨rfl, rfl, rfl, rfl⟩))
      (pss_cons (ps_if (PW.pt (pw_and (pt_cmpR op_notN (pv 5) pe_non (nomark _)) (pw_and1 (pt_cmpR op_ne (pe_ix ix_kdict (pe_glob (v := .ref dI) rfl G.INSIDE rfl) (pv 5) (fun _ _ => rfl)) (pv 4) (nomark _)))))
        (pss_one (ps_ret (C8.pe_gc rfl GW.NEVER)))
        pss_nil)
      (pss_one (ps_ret (C8.pe_c c_turn_price hr (by decide) rfl (pa_cons (pv 0) (pa_cons (pv 1) (pa_cons (pv 2) (pa_cons (pe_cmpR op_ne (pv 3) (pv 4) (nomark _)) pa_nil))))))))), ?_⟩
    refine ⟨_, rfl, p, C, dx, _, _, rfl, eo, T.cl, T.n_known, fl_known _ _, _, rfl, L, _, _, .ref d, rfl, rfl, SqL.of ha.kn.lst, atI_nat (by rw [List.getElem?_map, hd]; rfl), d, rfl, .inl ⟨_, .inl hdk⟩, _, rfl, _, hg, ?_⟩
    unfold stepP at q
    cases e : lookK (h.kns.getD b []) m with
    | some z =>
      rw [e] at q
      have wz : Wd z := by
        unfold lookK at e
        obtain ⟨pr, h1, rfl⟩ := Option.map_eq_some_iff.mp e
        exact (ha.kn.ok _ hkm).wd pr (List.mem_of_find?_eq_some h1)
      refine ⟨_, rfl, rfl, _, rfl, iteT ⟨_, rfl, dI, z, _, rfl, rfl, G.at wz, _, rfl, rfl, _, rfl, ?_⟩⟩
      rw [nd_int]
      by_cases hz : insOf z = y
      · refine ifF (by rw [decide_eq_true hz]; rfl) ?_
        refine ⟨_, rfl, _, rfl, _, rfl, _, rfl, _, rfl, rfl, p, L, ds, h, b, m, _, rfl, ha, hb, ?_⟩
        simp only [if_pos hz] at q
        rw [e, nd_int]
        exact q
      · refine ifT (by rw [decide_eq_false hz]; rfl) ?_
        simp only [if_neg hz] at q
        exact q
    | none =>
      rw [e] at q
      refine ⟨_, rfl, rfl, _, rfl, iteF (iteF ?_)⟩
      refine ⟨_, rfl, _, rfl, _, rfl, _, rfl, _, rfl, rfl, p, L, ds, h, b, m, _, rfl, ha, hb, ?_⟩
      rw [e, nd_int]
      exact q
end
end IC
namespace IC
open PySem L2
/-- lists of two prices -/
abbrev PairsAt (H : Hp) (as : List Addr) (prs : List (Int × Int)) : Prop := Paired (fun a (pr : Int × Int) => H a = some (.lst [.int pr.1, .int pr.2])) as prs
theorem PairsAt.same {H H' : Hp} {as : List Addr} {prs : List (Int × Int)} (h : PairsAt H as prs) (s : Same H H') : PairsAt H' as prs := Paired.mapP h fun _ _ e => s _ _ e
theorem PairsAt.keep {H H' : Hp} {as : List Addr} {prs : List (Int × Int)} {p : Addr} (h : PairsAt H as prs) (k : Keeps [p] H H') (hp : ∀ x y : Int, H p ≠ some (.lst [.int x, .int y])) : PairsAt H' as prs :=
  Paired.mapP h fun a pr e => k _ _ e (by simp; intro z; rw [z] at e; exact hp _ _ e)
def sel (p : Int × Int) (o : Nat) : Int := if o = 0 then p.1 else p.2
theorem at_sel {p : Int × Int} {o : Nat} (h : o < 2) : atI [V.int p.1, V.int p.2] (o : Int) = some (.int (sel p o)) := by
  have : o = 0 ∨ o = 1 := by omega
  rcases this with rfl | rfl <;> rfl
theorem min_of {a b m : Int} (h1 : m ∈ [a, b]) (h2 : ∀ y ∈ [a, b], m ≤ y) : m = min a b := by
  have := h2 a (by simp)
  have := h2 b (by simp)
  simp at h1
  omega
theorem lst_ref_ne {as : List Addr} (h : as ≠ []) (x y : Int) : (as.map V.ref) ≠ [V.int x, V.int y] := by
  cases as with
  | nil => exact absurd rfl h
  | cons a as => intro z; rw [List.map_cons] at z; injection z with z; cases z
section
variable {P : Program} {w : World} {K : PySem.W.Frag} {mg : Str → Option Value} {base : Heap} {dI C : Addr}
/-! ### prices_ahead -/
def sp_prices_ahead (C : Addr) : Sp := fun vs H Q _ => ∃ (p L : Addr) (ds : List Addr) (h : Hs) (b T : Nat), vs = [.ref p, .int b] ∧ HouseAt C H p L ds h ∧ b < h.kns.length ∧ TimeOk h T ∧
  ∀ (a : Addr) (as : List Addr) (H' : Hp), Same H H' → H a = none → H' a = some (.lst (as.map V.ref)) → PairsAt H' as ((List.range (T + 1)).map (aheadP (h.kns.getD b []) h.late T)) → Q (.ref a) H'
theorem sc_prices_ahead : FnScope ["house", "badge", "found", "moment", "row", "state", "some", "other"] ["house", "badge"] (defScope s_prices_ahead) := ⟨rfl, rfl, rfl, by decide +kernel, rfl, by decide +kernel, by decide +kernel⟩
theorem ok_prices_ahead {f : Addr} {fd : FuncData} (F : Fun K "prices_ahead" "prices_ahead" s_prices_ahead f fd) (G : Glb K w mg dI) (GW : GlbW mg) (TX : HTxt K C) (c_step_price : C8.Cal P w K mg base 3 "step_price" (sp_step_price C) []) : FnOk P w K mg base CX0 4 f fd ["house", "badge"] (sp_prices_ahead C) := by
  refine F.ok sc_prices_ahead (fun vs H Q E h => ?_) (fun cdv A outer s H vs Q E hr h => ?_)
  · obtain ⟨p, L, ds, h, b, T, rfl, _⟩ := h
    rfl
  · obtain ⟨p, L, ds, h, b, T, rfl, ha, hb, tm, q⟩ := h
    obtain ⟨dx, eo⟩ := ha.ob
    have hnow := tm.now
    have hT := tm.le
    refine ⟨_, (pss_cons (ps_set (i := 2) sc_prices_ahead.nd rfl (Or.inr rfl) (pe_lst (pa_cons (pe_lst (pa_cons pe_int (pa_cons (C8.pe_gc rfl GW.NEVER) pa_nil))) pa_nil)))
      (pss_cons (ps_for PassesOwn.never rfl (pi_range2 rfl G.range (pa_cons pe_int (pa_cons (pe_op op_add (pe_fld (pv 0) rfl) pe_int) pa_nil))) (pg_name (i := 3) sc_prices_ahead.nd rfl (Or.inr rfl))
        (pss_cons (ps_set (i := 4) sc_prices_ahead.nd rfl (Or.inl rfl) (pe_lst pa_nil))
          (pss_cons (ps_for PassesOwn.never rfl (pi_range1 rfl G.range (pa_cons pe_int pa_nil)) (pg_name (i := 5) sc_prices_ahead.nd rfl (Or.inr rfl))
            (pss_cons (ps_setLc (i := 6) (own := [("other", 7)]) (g := gName 7) (tt := tYes) rfl sc_prices_ahead.nd rfl rfl (sw_true rfl rfl rfl (by decide +kernel)) (pi_range1 rfl G.range (pa_cons pe_int pa_nil)) (blkOk_by (own := [("other", 7)]) (N := ["house", "badge", "found", "moment", "row", "state", "some", "other"]) (sc := defScope s_prices_ahead) (by decide +kernel)) (fun _ _ _ _ _ => (pg_name (i := 7) sc_prices_ahead.nd rfl (Or.inl rfl))) (fun _ _ _ _ _ => pts_nil) (fun _ _ _ _ _ => (pe_op op_add (pe_ix (ix_listK (K := K)) (pe_ix (ix_listK (K := K)) (pv 2) (pe_un un_neg pe_int) (fun _ _ => rfl)) (pv 7) (fun _ _ => rfl)) (C8.pe_c c_step_price hr (by decide) rfl (pa_cons (pv 0) (pa_cons (pv 1) (pa_cons (pv 3) (pa_cons (pv 7) (pa_cons (pv 5) pa_nil)))))))))
              (pss_one (ps_expr (pe_bm PySem.F.plainAttrs_list PySem.F.slot_list_append PySem.F.type_list_append mt_append (pv 4) (pa_cons (pe_callB (cr_min rfl) (by rfl) G.min (by decide +kernel) (pa_cons (pv 6) pa_nil)) pa_nil))))))
          (pss_one (ps_expr (pe_bm PySem.F.plainAttrs_list PySem.F.slot_list_append PySem.F.type_list_append mt_append (pv 2) (pa_cons (pv 4) pa_nil)))))))
      (pss_one (ps_ret (pv 2))))), ?_⟩
    refine ⟨sz (by simp), fun a0 n0 => ⟨sz (by simp), fun fo nf => ?_⟩⟩
    have s0 : Same H (upd (upd H a0 (.lst [.int 0, .int 1000000])) fo (.lst [.ref a0])) := (Same.new n0).trans (Same.new nf)
    have h0 : upd (upd H a0 (.lst [.int 0, .int 1000000])) fo (.lst [.ref a0]) a0 = some (.lst [.int 0, .int 1000000]) := (Same.new nf) _ _ upd_same
    have hf0 : upd (upd H a0 (.lst [.int 0, .int 1000000])) fo (.lst [.ref a0]) fo = some (.lst [.ref a0]) := upd_same
    have nfH : H fo = none := (Same.new (o := .lst [.int 0, .int 1000000]) n0).free nf
    generalize upd (upd H a0 (.lst [.int 0, .int 1000000])) fo (.lst [.ref a0]) = H1 at *
    refine ⟨_, rfl, p, C, dx, _, _, rfl, s0 _ _ eo, TX.cl, TX.n_now, fl_now _ _, _, _, rfl, rfl, 1, h.now + 1, rfl, ⟨by omega, by omega, by omega, by omega⟩, ?_⟩
    rw [show (h.now + 1 - 1).toNat = T by omega]
    refine for_range (lo := 1) (n := T) (fun i σ H2 => ∃ (as : List Addr) (o3 o4 o5 o6 o7 : Option V), σ = [some (.ref p), some (.int b), some (.ref fo), o3, o4, o5, o6, o7] ∧ Same H H2 ∧ H2 fo = some (.lst (as.map V.ref)) ∧ PairsAt H2 as ((List.range (i + 1)).map (aheadP (h.kns.getD b []) h.late T)))
      ⟨[a0], none, none, none, none, none, rfl, s0, hf0, .cons h0 .nil⟩ ?_ ?_
    · rintro i σ H2 hi ⟨as, o3, o4, o5, o6, o7, rfl, s2, hf2, pa⟩
      rw [show (1 : Int) + (i : Int) = ((i + 1 : Nat) : Int) by push_cast; omega]
      have hlen : as.length = i + 1 := by have := pa.length; rw [List.length_map, List.length_range] at this; exact this
      obtain ⟨al, hal, hal2⟩ : ∃ al, as[i]? = some al ∧ H2 al = some (.lst [.int (aheadP (h.kns.getD b []) h.late T i).1, .int (aheadP (h.kns.getD b []) h.late T i).2]) :=
        Paired.get (R := fun a (pr : Int × Int) => H2 a = some (.lst [.int pr.1, .int pr.2])) pa (by rw [List.getElem?_map, List.getElem?_range (by omega)]; rfl)
      have hlast : atI (as.map V.ref) (-1) = some (.ref al) := by
        have e : as.map V.ref = (as.take i).map V.ref ++ [.ref al] := by
          have : as = as.take i ++ [al] := by
            conv => lhs; rw [← List.take_length (l := as), hlen, List.take_succ, hal]
            rfl
          conv => lhs; rw [this]
          rw [List.map_append]
          rfl
        rw [e]
        exact atI_last _ _
      -- row = []
      refine ⟨sz (by simp), fun ro nro => ?_⟩
      have s3 : Same H2 (upd H2 ro (.lst [])) := Same.new nro
      have hro0 : upd H2 ro (.lst []) ro = some (.lst []) := upd_same
      generalize upd H2 ro (.lst []) = H3 at *
      refine ⟨2, rfl, by decide, by decide, ?_⟩
      refine for_range0 (n := 2) (fun st σ H4 => ∃ (o5 o6 o7 : Option V), σ = [some (.ref p), some (.int b), some (.ref fo), some (.int ((i + 1 : Nat) : Int)), some (.ref ro), o5, o6, o7] ∧ Same H2 H4 ∧
          H4 ro = some (.lst (([(aheadP (h.kns.getD b []) h.late T (i + 1)).1, (aheadP (h.kns.getD b []) h.late T (i + 1)).2].take st).map V.int))) ⟨o5, o6, o7, rfl, s3, hro0⟩ ?_ ?_
      · rintro st σ H4 hst ⟨o5, o6, o7, rfl, s4, hro4⟩
        refine ⟨2, rfl, by decide, by decide, fun D nD => ?_⟩
        refine lc_all (n := 2) (fun o => .int (sel (aheadP (h.kns.getD b []) h.late T i) o + stepP (h.kns.getD b []) h.late T ((i + 1 : Nat) : Int) o st)) nD (by decide) (fun _ => rfl) (fun o ho => ?_) fun H5 s5 hD => ?_
        · intro H5 s5 Q5 q5
          have ss := (s2.trans s4).trans s5
          refine ⟨_, rfl, _, rfl, fo, _, _, .ref al, rfl, rfl, SqL.of (s5 _ _ (s4 _ _ hf2)), hlast, _, rfl, al, _, _, _, rfl, rfl, SqL.of (s5 _ _ (s4 _ _ hal2)), at_sel ho, _, rfl, _, rfl, _, rfl, _, rfl, _, rfl, p, L, ds, h, b, ((i + 1 : Nat) : Int), o, st, rfl, ha.same ss, hb, _, _, rfl, rfl, ?_⟩
          rw [hnow]
          exact q5 H5 (Same.refl H5)
        · refine ⟨_, rfl, .inl ⟨rfl, _, SqL.of (s5 _ _ hro4)⟩, _, rfl, D, [_, _], rfl, SqL.of hD, by simp, fun mm hm hle => ?_⟩
          have em := min_of hm hle
          refine ⟨ro, _, _, rfl, rfl, s5 _ _ hro4, szl (by simp; omega), _, _, _, rfl, Same.mut (s4.trans s5) nro, ?_⟩
          rw [upd_same]
          congr 1
          congr 1
          have : st = 0 ∨ st = 1 := by omega
          rcases this with rfl | rfl
          · rw [em]; rfl
          · rw [em]; rfl
      · rintro σ H4 ⟨o5, o6, o7, rfl, s4, hro4⟩
        refine ⟨_, rfl, .inl ⟨rfl, _, SqL.of (s4 _ _ hf2)⟩, _, rfl, fo, _, _, rfl, rfl, s4 _ _ hf2, szl (by rw [List.length_map]; omega), ?_⟩
        have nrf : ro ≠ fo := fun z => by rw [z, hf2] at nro; cases nro
        refine ⟨as ++ [ro], _, _, _, _, _, rfl, Same.mut (s2.trans s4) nfH, by rw [upd_same, List.map_append]; rfl, ?_⟩
        have kk : Keeps [fo] H4 (upd H4 fo (.lst (as.map V.ref ++ [.ref ro]))) := (Keeps.refl _ _).upd (by simp)
        rw [List.range_succ, List.map_append]
        refine Paired.append ((pa.same s4).keep kk fun x y => ?_) (.cons ?_ .nil)
        · rw [s4 _ _ hf2]
          intro z
          injection z with z
          injection z with z
          exact lst_ref_ne (by intro e; rw [e] at hlen; simp at hlen) x y z
        · rw [upd_ne nrf]
          exact hro4
    · rintro σ H2 ⟨as, o3, o4, o5, o6, o7, rfl, s2, hf2, pa⟩
      exact ⟨_, rfl, q fo as H2 s2 nfH hf2 pa⟩
/-! ### prices_behind -/
def sp_prices_behind (C : Addr) : Sp := fun vs H Q _ => ∃ (p L : Addr) (ds : List Addr) (h : Hs) (b T : Nat), vs = [.ref p, .int b] ∧ HouseAt C H p L ds h ∧ b < h.kns.length ∧ TimeOk h T ∧
  ∀ (a : Addr) (as : List Addr) (H' : Hp), Same H H' → H a = none → H' a = some (.lst (as.map V.ref)) → PairsAt H' as ((List.range (T + 1)).reverse.map (behindP (h.kns.getD b []) h.late T)) → Q (.ref a) H'
theorem sc_prices_behind : FnScope ["house", "badge", "found", "moment", "row", "state", "some", "other"] ["house", "badge"] (defScope s_prices_behind) := ⟨rfl, rfl, rfl, by decide +kernel, rfl, by decide +kernel, by decide +kernel⟩
theorem ok_prices_behind {f : Addr} {fd : FuncData} (F : Fun K "prices_behind" "prices_behind" s_prices_behind f fd) (G : Glb K w mg dI) (TX : HTxt K C) (c_step_price : C8.Cal P w K mg base 3 "step_price" (sp_step_price C) []) : FnOk P w K mg base CX0 4 f fd ["house", "badge"] (sp_prices_behind C) := by
  refine F.ok sc_prices_behind (fun vs H Q E h => ?_) (fun cdv A outer s H vs Q E hr h => ?_)
  · obtain ⟨p, L, ds, h, b, T, rfl, _⟩ := h
    rfl
  · obtain ⟨p, L, ds, h, b, T, rfl, ha, hb, tm, q⟩ := h
    obtain ⟨dx, eo⟩ := ha.ob
    have hnow := tm.now
    have hT := tm.le
    refine ⟨_, (pss_cons (ps_set (i := 2) sc_prices_behind.nd rfl (Or.inr rfl) (pe_lst (pa_cons (pe_lst (pa_cons pe_int (pa_cons pe_int pa_nil))) pa_nil)))
      (pss_cons (ps_for PassesOwn.never rfl (pi_revR rfl G.reversed (prg_2 rfl G.range pe_int (pe_op op_add (pe_fld (pv 0) rfl) pe_int))) (pg_name (i := 3) sc_prices_behind.nd rfl (Or.inr rfl))
        (pss_cons (ps_set (i := 4) sc_prices_behind.nd rfl (Or.inl rfl) (pe_lst pa_nil))
          (pss_cons (ps_for PassesOwn.never rfl (pi_range1 rfl G.range (pa_cons pe_int pa_nil)) (pg_name (i := 5) sc_prices_behind.nd rfl (Or.inr rfl))
            (pss_cons (ps_setLc (i := 6) (own := [("other", 7)]) (g := gName 7) (tt := tYes) rfl sc_prices_behind.nd rfl rfl (sw_true rfl rfl rfl (by decide +kernel)) (pi_range1 rfl G.range (pa_cons pe_int pa_nil)) (blkOk_by (own := [("other", 7)]) (N := ["house", "badge", "found", "moment", "row", "state", "some", "other"]) (sc := defScope s_prices_behind) (by decide +kernel)) (fun _ _ _ _ _ => (pg_name (i := 7) sc_prices_behind.nd rfl (Or.inl rfl))) (fun _ _ _ _ _ => pts_nil) (fun _ _ _ _ _ => (pe_op op_add (pe_ix (ix_listK (K := K)) (pe_ix (ix_listK (K := K)) (pv 2) pe_int (fun _ _ => rfl)) (pv 7) (fun _ _ => rfl)) (C8.pe_c c_step_price hr (by decide) rfl (pa_cons (pv 0) (pa_cons (pv 1) (pa_cons (pv 3) (pa_cons (pv 5) (pa_cons (pv 7) pa_nil)))))))))
              (pss_one (ps_expr (pe_bm PySem.F.plainAttrs_list PySem.F.slot_list_append PySem.F.type_list_append mt_append (pv 4) (pa_cons (pe_callB (cr_min rfl) (by rfl) G.min (by decide +kernel) (pa_cons (pv 6) pa_nil)) pa_nil))))))
          (pss_one (ps_expr (pe_bm PySem.F.plainAttrs_list PySem.F.slot_list_insert PySem.F.type_list_insert mt_insert (pv 2) (pa_cons pe_int (pa_cons (pv 4) pa_nil))))))))
      (pss_one (ps_ret (pv 2))))), ?_⟩
    refine ⟨sz (by simp), fun a0 n0 => ⟨sz (by simp), fun fo nf => ?_⟩⟩
    have s0 : Same H (upd (upd H a0 (.lst [.int 0, .int 0])) fo (.lst [.ref a0])) := (Same.new n0).trans (Same.new nf)
    have h0 : upd (upd H a0 (.lst [.int 0, .int 0])) fo (.lst [.ref a0]) a0 = some (.lst [.int 0, .int 0]) := (Same.new nf) _ _ upd_same
    have hf0 : upd (upd H a0 (.lst [.int 0, .int 0])) fo (.lst [.ref a0]) fo = some (.lst [.ref a0]) := upd_same
    have nfH : H fo = none := (Same.new (o := .lst [.int 0, .int 0]) n0).free nf
    generalize upd (upd H a0 (.lst [.int 0, .int 0])) fo (.lst [.ref a0]) = H1 at *
    refine ⟨_, rfl, p, C, dx, _, _, rfl, s0 _ _ eo, TX.cl, TX.n_now, fl_now _ _, _, _, rfl, rfl, 1, h.now + 1, rfl, rfl, by omega, by omega, by omega, by omega, ?_⟩
    rw [show (h.now + 1 - 1).toNat = T by omega]
    refine for_rangeC (n := T) (fun i σ H2 => ∃ (as : List Addr) (o3 o4 o5 o6 o7 : Option V), σ = [some (.ref p), some (.int b), some (.ref fo), o3, o4, o5, o6, o7] ∧ Same H H2 ∧ H2 fo = some (.lst (as.map V.ref)) ∧ PairsAt H2 as ((List.range (i + 1)).reverse.map (behindP (h.kns.getD b []) h.late T)))
      ⟨[a0], none, none, none, none, none, rfl, s0, hf0, .cons h0 .nil⟩ ?_ ?_
    · rintro i σ H2 hi ⟨as, o3, o4, o5, o6, o7, rfl, s2, hf2, pa⟩
      rw [show (1 : Int) + (T : Int) - 1 + (i : Int) * -1 = (T : Int) - (i : Int) by omega]
      have hlen : as.length = i + 1 := by have := pa.length; rw [List.length_map, List.length_reverse, List.length_range] at this; exact this
      obtain ⟨al, hal, hal2⟩ : ∃ al, as[0]? = some al ∧ H2 al = some (.lst [.int (behindP (h.kns.getD b []) h.late T i).1, .int (behindP (h.kns.getD b []) h.late T i).2]) :=
        Paired.get (R := fun a (pr : Int × Int) => H2 a = some (.lst [.int pr.1, .int pr.2])) (y := behindP (h.kns.getD b []) h.late T i) pa (by rw [List.range_succ, List.reverse_append]; rfl)
      have hfirst : atI (as.map V.ref) 0 = some (.ref al) := atI_nat (j := 0) (by rw [List.getElem?_map, hal]; rfl)
      refine ⟨sz (by simp), fun ro nro => ?_⟩
      have s3 : Same H2 (upd H2 ro (.lst [])) := Same.new nro
      have hro0 : upd H2 ro (.lst []) ro = some (.lst []) := upd_same
      generalize upd H2 ro (.lst []) = H3 at *
      refine ⟨2, rfl, by decide, by decide, ?_⟩
      refine for_range0 (n := 2) (fun st σ H4 => ∃ (o5 o6 o7 : Option V), σ = [some (.ref p), some (.int b), some (.ref fo), some (.int ((T : Int) - (i : Int))), some (.ref ro), o5, o6, o7] ∧ Same H2 H4 ∧
          H4 ro = some (.lst (([(behindP (h.kns.getD b []) h.late T (i + 1)).1, (behindP (h.kns.getD b []) h.late T (i + 1)).2].take st).map V.int))) ⟨o5, o6, o7, rfl, s3, hro0⟩ ?_ ?_
      · rintro st σ H4 hst ⟨o5, o6, o7, rfl, s4, hro4⟩
        refine ⟨2, rfl, by decide, by decide, fun D nD => ?_⟩
        refine lc_all (n := 2) (fun o => .int (sel (behindP (h.kns.getD b []) h.late T i) o + stepP (h.kns.getD b []) h.late T ((T : Int) - (i : Int)) st o)) nD (by decide) (fun _ => rfl) (fun o ho => ?_) fun H5 s5 hD => ?_
        · intro H5 s5 Q5 q5
          have ss := (s2.trans s4).trans s5
          refine ⟨_, rfl, fo, _, _, .ref al, rfl, rfl, SqL.of (s5 _ _ (s4 _ _ hf2)), hfirst, _, rfl, al, _, _, _, rfl, rfl, SqL.of (s5 _ _ (s4 _ _ hal2)), at_sel ho, _, rfl, _, rfl, _, rfl, _, rfl, _, rfl, p, L, ds, h, b, ((T : Int) - (i : Int)), st, o, rfl, ha.same ss, hb, _, _, rfl, rfl, ?_⟩
          rw [hnow]
          exact q5 H5 (Same.refl H5)
        · refine ⟨_, rfl, .inl ⟨rfl, _, SqL.of (s5 _ _ hro4)⟩, _, rfl, D, [_, _], rfl, SqL.of hD, by simp, fun mm hm hle => ?_⟩
          have em := min_of hm hle
          refine ⟨ro, _, _, rfl, rfl, s5 _ _ hro4, szl (by simp; omega), _, _, _, rfl, Same.mut (s4.trans s5) nro, ?_⟩
          rw [upd_same]
          congr 1
          congr 1
          have : st = 0 ∨ st = 1 := by omega
          rcases this with rfl | rfl
          · rw [em]; rfl
          · rw [em]; rfl
      · rintro σ H4 ⟨o5, o6, o7, rfl, s4, hro4⟩
        refine ⟨_, rfl, .inl ⟨rfl, _, SqL.of (s4 _ _ hf2)⟩, _, rfl, fo, _, 0, _, rfl, rfl, s4 _ _ hf2, szl (by rw [List.length_map]; omega), by decide, by decide, ?_⟩
        have nrf : ro ≠ fo := fun z => by rw [z, hf2] at nro; cases nro
        refine ⟨ro :: as, _, _, _, _, _, rfl, Same.mut (s2.trans s4) nfH, by rw [upd_same]; rfl, ?_⟩
        have kk : Keeps [fo] H4 (upd H4 fo (.lst ((as.map V.ref).take (0 : Int).toNat ++ [.ref ro] ++ (as.map V.ref).drop (0 : Int).toNat))) := (Keeps.refl _ _).upd (by simp)
        rw [List.range_succ, List.reverse_append, List.map_append]
        refine .cons ?_ ((pa.same s4).keep kk fun x y => ?_)
        · rw [upd_ne nrf]
          exact hro4
        · rw [s4 _ _ hf2]
          intro z
          injection z with z
          injection z with z
          exact lst_ref_ne (by intro e; rw [e] at hlen; simp at hlen) x y z
    · rintro σ H2 ⟨as, o3, o4, o5, o6, o7, rfl, s2, hf2, pa⟩
      exact ⟨_, rfl, q fo as H2 s2 nfH hf2 pa⟩
end
end IC
namespace IC
open PySem L2
/-! ### what is told of a house -/
def moreH (h : Hs) (T m b : Nat) : Int × Int := moreP (h.kns.getD b []) h.late T m
def openH (h : Hs) (T m b : Nat) : List Nat := (List.range 2).filter fun s => decide (sel (moreH h T m b) s ≤ spareH h)
def insideH (h : Hs) (T m b : Nat) : V := if (openH h T m b).length = 1 then .int ((openH h T m b).headD 0 : Nat) else .non
def gstep (s : Int × Int) (more : Int) : Int × Int := if more ≤ s.2 then (s.1 + 1, s.2 - more) else s
def sortI (l : List Int) : List Int := l.mergeSort fun a b => decide (a ≤ b)
theorem sortI_uniq {ys l : List Int} (p : ys.Perm l) (s : ys.Pairwise (· ≤ ·)) : ys = sortI l := by
  have h2 : (sortI l).Perm l := List.mergeSort_perm ..
  have h3 : (sortI l).Pairwise (· ≤ ·) := by
    have := List.pairwise_mergeSort (le := fun a b : Int => decide (a ≤ b)) (fun a b c h1 h2 => by simp at *; omega) (fun a b => by simp; omega) l
    exact this.imp fun h => by simpa using h
  exact (p.trans h2.symm).eq_of_pairwise (fun a b _ _ h1 h2 => by omega) s h3
def mostL (l : List Int) (left : Int) : Int := ((sortI l).foldl gstep (0, left)).1
def mostH (h : Hs) (T m st : Nat) : Int := mostL ((List.range h.kns.length).map fun b => sel (moreH h T m b) st) (spareH h)
section
variable {P : Program} {w : World} {K : PySem.W.Frag} {mg : Str → Option Value} {base : Heap} {dI C : Addr}
theorem at_last {as : List Addr} {i : Nat} {al : Addr} (hlen : as.length = i + 1) (hal : as[i]? = some al) : atI (as.map V.ref) (-1) = some (.ref al) := by
  have e : as.map V.ref = (as.take i).map V.ref ++ [.ref al] := by
    have : as = as.take i ++ [al] := by
      conv => lhs; rw [← List.take_length (l := as), hlen, List.take_succ, hal]
      rfl
    conv => lhs; rw [this]
    rw [List.map_append]
    rfl
  rw [e]
  exact atI_last _ _
/-! ### spare_rows, least_price, more_prices -/
def sp_spare_rows (C : Addr) : Sp := fun vs H Q _ => ∃ (p L : Addr) (ds : List Addr) (h : Hs), vs = [.ref p] ∧ HouseAt C H p L ds h ∧ ∀ H', Same H H' → Q (.int (spareH h)) H'
theorem sc_spare_rows : FnScope ["house"] ["house"] (defScope s_spare_rows) := ⟨rfl, rfl, rfl, by decide +kernel, rfl, by decide +kernel, by decide +kernel⟩
theorem ok_spare_rows {f : Addr} {fd : FuncData} (F : Fun K "spare_rows" "spare_rows" s_spare_rows f fd) (G : Glb K w mg dI) (TX : HTxt K C) (c_wants : C8.Cal P w K mg base 4 "wants" (sp_wants C) []) : FnOk P w K mg base CX0 5 f fd ["house"] (sp_spare_rows C) := by
  refine F.ok sc_spare_rows (fun vs H Q E h => ?_) (fun cdv A outer s H vs Q E hr h => ?_)
  · obtain ⟨p, L, ds, h, rfl, _⟩ := h
    rfl
  · obtain ⟨p, L, ds, h, rfl, ha, q⟩ := h
    obtain ⟨dx, eo⟩ := ha.ob
    refine ⟨_, (pss_one (ps_ret (pe_op op_sub (pe_fld (pv 0) rfl) (pe_callB call_len_seq (by rfl) G.len (by decide +kernel) (pa_cons (C8.pe_c c_wants hr (by decide) rfl (pa_cons (pv 0) pa_nil)) pa_nil))))), ?_⟩
    refine ⟨_, rfl, p, C, dx, _, _, rfl, eo, TX.cl, TX.n_lost, fl_lost _ _, _, rfl, p, L, ds, h, rfl, ha, fun a xs H1 s1 na hx t => ⟨a, _, rfl, .inl (SqL.of hx), _, _, rfl, rfl, ?_⟩⟩
    have e : xs.length = (allWants h.kns h.late h.now).length := by have := t.length; rw [List.length_map] at this; exact this
    rw [e]
    exact q H1 s1
def sp_least_price (C : Addr) : Sp := fun vs H Q _ => ∃ (p L : Addr) (ds : List Addr) (h : Hs) (b T : Nat), vs = [.ref p, .int b] ∧ HouseAt C H p L ds h ∧ b < h.kns.length ∧ TimeOk h T ∧ ∀ H', Same H H' → Q (.int (leastP (h.kns.getD b []) h.late T)) H'
theorem sc_least_price : FnScope ["house", "badge"] ["house", "badge"] (defScope s_least_price) := ⟨rfl, rfl, rfl, by decide +kernel, rfl, by decide +kernel, by decide +kernel⟩
theorem ok_least_price {f : Addr} {fd : FuncData} (F : Fun K "least_price" "least_price" s_least_price f fd) (G : Glb K w mg dI) (c_prices_ahead : C8.Cal P w K mg base 4 "prices_ahead" (sp_prices_ahead C) []) : FnOk P w K mg base CX0 5 f fd ["house", "badge"] (sp_least_price C) := by
  refine F.ok sc_least_price (fun vs H Q E h => ?_) (fun cdv A outer s H vs Q E hr h => ?_)
  · obtain ⟨p, L, ds, h, b, T, rfl, _⟩ := h
    rfl
  · obtain ⟨p, L, ds, h, b, T, rfl, ha, hb, tm, q⟩ := h
    refine ⟨_, (pss_one (ps_ret (pe_callB (cr_min rfl) (by rfl) G.min (by decide +kernel) (pa_cons (pe_ix ix_list (C8.pe_c c_prices_ahead hr (by decide) rfl (pa_cons (pv 0) (pa_cons (pv 1) pa_nil))) (pe_un un_neg pe_int) (fun _ _ => rfl)) pa_nil)))), ?_⟩
    refine ⟨_, rfl, _, rfl, p, L, ds, h, b, T, rfl, ha, hb, tm, fun a as H1 s1 na hx pa => ?_⟩
    have hlen : as.length = T + 1 := by have := pa.length; rw [List.length_map, List.length_range] at this; exact this
    obtain ⟨al, hal, hal2⟩ := Paired.get (R := fun a (pr : Int × Int) => H1 a = some (.lst [.int pr.1, .int pr.2])) (i := T) (y := aheadP (h.kns.getD b []) h.late T T) pa (by rw [List.getElem?_map, List.getElem?_range (by omega)]; rfl)
    refine ⟨_, rfl, a, _, _, .ref al, rfl, rfl, SqL.of hx, at_last hlen hal, al, [_, _], rfl, SqL.of hal2, by simp, fun mm hm hle => ?_⟩
    rw [min_of hm hle]
    exact q H1 s1
/-! ### inside -/
/-! ### most_with, count -/
end
end IC
namespace IC
open PySem L2
/-! ### wants, moment by moment -/
def moms (T : Nat) : List Int := (List.range T).map fun i => ((i + 1 : Nat) : Int)
theorem moms_succ (T : Nat) : moms (T + 1) = moms T ++ [((T + 1 : Nat) : Int)] := by
  unfold moms
  rw [List.range_succ, List.map_append]
  rfl
theorem mem_moms {T : Nat} {m : Int} : m ∈ moms T ↔ 1 ≤ m ∧ m ≤ T := by
  unfold moms
  rw [List.mem_map]
  constructor
  · rintro ⟨i, hi, rfl⟩
    rw [List.mem_range] at hi
    push_cast
    omega
  · rintro ⟨h1, h2⟩
    exact ⟨(m - 1).toNat, by rw [List.mem_range]; omega, by push_cast; omega⟩
def wstepM (badge : Int) (kn : Kn) (late now : Int) (s : WSt) (m : Int) : WSt := if (lookK kn m).isSome = true then wstep badge kn late now s m else s
def wmTo (badge : Int) (kn : Kn) (late now : Int) (n : Nat) : WSt := (moms n).foldl (wstepM badge kn late now) ⟨[], 0, 0⟩
theorem wmTo_succ (badge : Int) (kn : Kn) (late now : Int) (n : Nat) : wmTo badge kn late now (n + 1) = wstepM badge kn late now (wmTo badge kn late now n) ((n + 1 : Nat) : Int) := by
  unfold wmTo
  rw [moms_succ, List.foldl_append]
  rfl
theorem look_iff {kn : Kn} {m : Int} : (lookK kn m).isSome = true ↔ m ∈ kn.map (·.1) := by
  constructor
  · intro h
    unfold lookK at h
    rw [Option.isSome_map] at h
    obtain ⟨p, hp⟩ := Option.isSome_iff_exists.mp h
    have h1 := List.find?_some hp
    have h2 := List.mem_of_find?_eq_some hp
    exact List.mem_map.mpr ⟨p, h2, by simpa using h1⟩
  · intro h
    obtain ⟨z, e, _⟩ := lookK_mem h
    rw [e]
    rfl
theorem moms_sorted (T : Nat) : (moms T).Pairwise (· < ·) := by
  unfold moms
  rw [List.pairwise_map]
  exact List.pairwise_lt_range.imp fun h => by push_cast; omega
theorem keysOf_eq {kn : Kn} {T : Nat} (nd : (kn.map (·.1)).Nodup) (rg : ∀ p ∈ kn, 1 ≤ p.1 ∧ p.1 ≤ (T : Int)) : keysOf kn = (moms T).filter fun m => (lookK kn m).isSome := by
  symm
  refine sort_uniq ?_ (((moms_sorted T).filter _).imp fun h => by omega)
  refine (List.perm_ext_iff_of_nodup (((moms_sorted T).filter _).imp fun h => by omega) nd).mpr fun a => ?_
  rw [List.mem_filter, mem_moms]
  constructor
  · rintro ⟨_, h⟩
    exact look_iff.mp h
  · intro h
    obtain ⟨p, hp, rfl⟩ := List.mem_map.mp h
    exact ⟨rg p hp, look_iff.mpr h⟩
theorem wantsOf_eq {kn : Kn} {T : Nat} (nd : (kn.map (·.1)).Nodup) (rg : ∀ p ∈ kn, 1 ≤ p.1 ∧ p.1 ≤ (T : Int)) (badge late now : Int) : wantsOf badge kn late now = (wmTo badge kn late now T).found := by
  unfold wantsOf wfold wmTo
  rw [keysOf_eq nd rg, List.foldl_filter]
  rfl
theorem ins01 (z : Str) : insOf z = 0 ∨ insOf z = 1 := by
  unfold insOf
  split
  · exact .inr rfl
  · exact .inl rfl
/-- the state behind a moment that is told, 0 at first -/
def stAt (kn : Kn) (a : Int) : Int := if a = 0 then 0 else insOf ((lookK kn a).getD "")
structure WI (badge : Int) (kn : Kn) (late now : Int) (n : Nat) (S : WSt) : Prop where
  a0 : 0 ≤ S.ahead
  a1 : S.ahead ≤ n
  st : S.state = 0 ∨ S.state = 1
  gap : ∀ m : Int, S.ahead < m → m ≤ n → lookK kn m = none
  known : S.ahead = 0 ∨ (lookK kn S.ahead).isSome = true
  stt : S.state = stAt kn S.ahead
  len : S.found.length ≤ n
theorem wi (badge : Int) (kn : Kn) (late now : Int) : ∀ n, WI badge kn late now n (wmTo badge kn late now n)
  | 0 => ⟨by simp [wmTo, moms], by simp [wmTo, moms], .inl (by simp [wmTo, moms]), fun m h1 h2 => by simp [wmTo, moms] at h1; omega, .inl (by simp [wmTo, moms]), by simp [wmTo, moms, stAt], by simp [wmTo, moms]⟩
  | n + 1 => by
    have ih := wi badge kn late now n
    rw [wmTo_succ]
    generalize wmTo badge kn late now n = S at *
    unfold wstepM
    by_cases h : (lookK kn ((n + 1 : Nat) : Int)).isSome = true
    · rw [if_pos h]
      refine ⟨by show (0 : Int) ≤ ((n + 1 : Nat) : Int); omega, by show ((n + 1 : Nat) : Int) ≤ _; omega, ins01 _, fun m h1 h2 => ?_, .inr h, ?_, ?_⟩
      · have h1 : ((n + 1 : Nat) : Int) < m := h1
        omega
      · show insOf ((lookK kn ((n + 1 : Nat) : Int)).getD "") = stAt kn ((n + 1 : Nat) : Int)
        unfold stAt
        rw [if_neg (by omega)]
      · have := ih.len
        unfold wstep
        simp only
        split
        · split
          · simp; omega
          · split
            · simp; omega
            · omega
        · omega
    · rw [if_neg h]
      have hn : lookK kn ((n + 1 : Nat) : Int) = none := by
        cases e : lookK kn ((n + 1 : Nat) : Int) with
        | none => rfl
        | some z => rw [e] at h; exact absurd rfl h
      refine ⟨ih.a0, by have := ih.a1; omega, ih.st, fun m h1 h2 => ?_, ih.known, ih.stt, by have := ih.len; omega⟩
      by_cases e : m = ((n + 1 : Nat) : Int)
      · rw [e]; exact hn
      · exact ih.gap m h1 (by omega)
def noTwice (ws : List Want) : Prop := ∀ x ∈ ws, x.word ≠ ("twice" : Str)
theorem found_mono (badge : Int) (kn : Kn) (late now : Int) (s : WSt) (m : Int) : ∀ x ∈ s.found, x ∈ (wstepM badge kn late now s m).found := by
  intro x hx
  unfold wstepM
  split
  · unfold wstep
    simp only
    split
    · split
      · exact List.mem_append_left _ hx
      · split
        · exact List.mem_append_left _ hx
        · exact hx
    · exact hx
  · exact hx
/-! ### the prices of a step -/
def lostI (m late now : Int) : Int := if isLost m late now then 1 else 0
theorem step_none {kn : Kn} {late now m : Int} (h : lookK kn m = none) : stepP kn late now m 0 0 = 0 ∧ stepP kn late now m 1 1 = 0 ∧ stepP kn late now m 0 1 = lostI m late now ∧ stepP kn late now m 1 0 = lostI m late now := by
  unfold stepP
  rw [h]
  refine ⟨rfl, rfl, ?_, ?_⟩ <;> (show (if (true && isLost m late now) = true then (1 : Int) else 0) = _; unfold lostI; rw [Bool.true_and])
theorem step_some {kn : Kn} {late now m : Int} {z : Str} (h : lookK kn m = some z) :
    (insOf z = 0 → stepP kn late now m 0 0 = NEV ∧ stepP kn late now m 1 0 = 0 ∧ stepP kn late now m 0 1 = NEV ∧ stepP kn late now m 1 1 = NEV) ∧
    (insOf z = 1 → stepP kn late now m 0 1 = 0 ∧ stepP kn late now m 1 1 = NEV ∧ stepP kn late now m 0 0 = NEV ∧ stepP kn late now m 1 0 = NEV) := by
  unfold stepP
  rw [h]
  constructor <;> intro e <;> simp [e, turnP]
theorem lostI01 (m late now : Int) : lostI m late now = 0 ∨ lostI m late now = 1 := by
  unfold lostI
  split
  · exact .inr rfl
  · exact .inl rfl
theorem lostI_mono {m m' late now : Int} (h : m ≤ m') : lostI m' late now ≤ lostI m late now := by
  unfold lostI isLost
  by_cases h1 : m' + late < now
  · rw [decide_eq_true h1, decide_eq_true (by omega)]
    simp
  · rw [decide_eq_false h1]
    by_cases h2 : m + late < now
    · rw [decide_eq_true h2]; simp
    · rw [decide_eq_false h2]; simp
theorem turn_nn (o : Option Str) (g t : Bool) : 0 ≤ turnP o g t := by
  unfold turnP NEV
  cases o with
  | none => cases t <;> cases g <;> decide
  | some z => cases t <;> simp
theorem step_nn (kn : Kn) (late now m a b : Int) : 0 ≤ stepP kn late now m a b := by
  unfold stepP
  split
  · split
    · exact turn_nn _ _ _
    · decide
  · exact turn_nn _ _ _
theorem ahead_nn (kn : Kn) (late now : Int) : ∀ n, 0 ≤ (aheadP kn late now n).1 ∧ 0 ≤ (aheadP kn late now n).2
  | 0 => by simp [aheadP, NEV]
  | n + 1 => by
    have ih := ahead_nn kn late now n
    have h1 := step_nn kn late now (n + 1 : Nat) 0 0
    have h2 := step_nn kn late now (n + 1 : Nat) 1 0
    have h3 := step_nn kn late now (n + 1 : Nat) 0 1
    have h4 := step_nn kn late now (n + 1 : Nat) 1 1
    unfold aheadP
    simp only
    omega
theorem behind_nn (kn : Kn) (late : Int) (T : Nat) : ∀ n, 0 ≤ (behindP kn late T n).1 ∧ 0 ≤ (behindP kn late T n).2
  | 0 => by simp [behindP]
  | n + 1 => by
    have ih := behind_nn kn late T n
    have h1 := step_nn kn late T ((T : Int) - n) 0 0
    have h2 := step_nn kn late T ((T : Int) - n) 1 0
    have h3 := step_nn kn late T ((T : Int) - n) 0 1
    have h4 := step_nn kn late T ((T : Int) - n) 1 1
    unfold behindP
    simp only
    omega
/-! ### the least price is how many rows are wanted -/
def pr (p : Int × Int) (s : Int) : Int := if s = 0 then p.1 else p.2
structure DPI (kn : Kn) (late : Int) (T n : Nat) (S : WSt) : Prop where
  own : pr (aheadP kn late T n) S.state = (S.found.length : Int)
  at_ : S.ahead = n → NEV ≤ pr (aheadP kn late T n) (1 - S.state)
  past : S.ahead < n → pr (aheadP kn late T n) (1 - S.state) = (S.found.length : Int) + lostI n late T
theorem dp_wants (badge : Int) (kn : Kn) (late : Int) (T : Nat) : ∀ n, n ≤ 1000 → noTwice (wmTo badge kn late T n).found → DPI kn late T n (wmTo badge kn late T n)
  | 0, _, _ => ⟨by simp [wmTo, moms, pr, aheadP], fun _ => by simp [wmTo, moms, pr, aheadP], fun h => by simp [wmTo, moms] at h⟩
  | n + 1, hn, nt => by
    have I := wi badge kn late T n
    rw [wmTo_succ] at nt ⊢
    have nt0 : noTwice (wmTo badge kn late T n).found := fun x hx => nt x (found_mono badge kn late T _ _ x hx)
    have ih := dp_wants badge kn late T n (by omega) nt0
    generalize hS : wmTo badge kn late T n = S at *
    have nn := ahead_nn kn late T n
    have hl := I.len
    have lm : lostI ((n + 1 : Nat) : Int) late T ≤ lostI (n : Int) late T := lostI_mono (by omega)
    have l1 := lostI01 ((n + 1 : Nat) : Int) late T
    have l0 := lostI01 (n : Int) late T
    have own := ih.own
    have at_ := ih.at_
    have past := ih.past
    have a1 := I.a1
    cases e : lookK kn ((n + 1 : Nat) : Int) with
    | none =>
      obtain ⟨s00, s11, s01, s10⟩ := step_none (late := late) (now := T) e
      unfold wstepM
      rw [e]
      simp only [Option.isSome_none, Bool.false_eq_true, if_false]
      have big : S.ahead < n → pr (aheadP kn late T n) (1 - S.state) = (S.found.length : Int) + lostI n late T := past
      have eA : aheadP kn late T (n + 1) = (min ((aheadP kn late T n).1 + 0) ((aheadP kn late T n).2 + lostI ((n + 1 : Nat) : Int) late T), min ((aheadP kn late T n).1 + lostI ((n + 1 : Nat) : Int) late T) ((aheadP kn late T n).2 + 0)) := by
        show (min (_ + stepP _ _ _ _ 0 0) (_ + stepP _ _ _ _ 1 0), min (_ + stepP _ _ _ _ 0 1) (_ + stepP _ _ _ _ 1 1)) = _
        rw [s00, s11, s01, s10]
      have cases2 : S.ahead = n ∨ S.ahead < n := by omega
      have NEVe : NEV = 1000000 := rfl
      rcases I.st with h0 | h0
      · rw [h0] at own at_ past
        simp only [pr, if_true, Int.sub_zero, show ¬ ((1 : Int) = 0) by decide, if_false] at own at_ past
        refine ⟨?_, fun h => ?_, fun _ => ?_⟩
        · rw [h0, eA]
          simp only [pr, if_true]
          rcases cases2 with c | c
          · have := at_ c; omega
          · have := past c; omega
        · omega
        · rw [h0, eA]
          simp only [pr, Int.sub_zero, show ¬ ((1 : Int) = 0) by decide, if_false]
          rcases cases2 with c | c
          · have := at_ c; omega
          · have := past c; omega
      · rw [h0] at own at_ past
        simp only [pr, show (1 : Int) - 1 = 0 by decide, if_true, show ¬ ((1 : Int) = 0) by decide, if_false] at own at_ past
        refine ⟨?_, fun h => ?_, fun _ => ?_⟩
        · rw [h0, eA]
          simp only [pr, show ¬ ((1 : Int) = 0) by decide, if_false]
          rcases cases2 with c | c
          · have := at_ c; omega
          · have := past c; omega
        · omega
        · rw [h0, eA]
          simp only [pr, show (1 : Int) - 1 = 0 by decide, if_true]
          rcases cases2 with c | c
          · have := at_ c; omega
          · have := past c; omega
    | some z =>
      obtain ⟨sz0, sz1⟩ := step_some (late := late) (now := T) e
      have NEVe : NEV = 1000000 := rfl
      have cases2 : S.ahead = n ∨ S.ahead < n := by omega
      unfold wstepM at nt ⊢
      rw [e] at nt ⊢
      simp only [Option.isSome_some, if_true] at nt ⊢
      unfold wstep at nt ⊢
      rw [e] at nt ⊢
      simp only [Option.getD_some] at nt ⊢
      have m1 : ((n + 1 : Nat) : Int) - 1 = n := by push_cast; omega
      rw [m1] at nt ⊢
      have lostE : isLost (n : Int) late T = true ↔ lostI n late T = 1 := by
        unfold lostI
        constructor
        · intro h; rw [if_pos h]
        · intro h
          by_cases hh : isLost (n : Int) late T = true
          · exact hh
          · rw [if_neg hh] at h; cases h
      -- how the count goes on
      have cnt : ∀ fl : List Want, fl = (if insOf z = S.state then (if ((n + 1 : Nat) : Int) - S.ahead = 1 then S.found ++ [⟨badge, S.ahead, ((n + 1 : Nat) : Int), "twice"⟩] else if isLost (n : Int) late T = true then S.found ++ [⟨badge, S.ahead, ((n + 1 : Nat) : Int), "lost"⟩] else S.found) else S.found) →
          noTwice fl → (insOf z = S.state → S.ahead < n ∧ (fl.length : Int) = S.found.length + lostI n late T) ∧ (¬ insOf z = S.state → (fl.length : Int) = S.found.length) := by
        intro fl hfl hnt
        constructor
        · intro h1
          rw [if_pos h1] at hfl
          by_cases h2 : ((n + 1 : Nat) : Int) - S.ahead = 1
          · rw [if_pos h2] at hfl
            exact absurd rfl (hnt _ (by rw [hfl]; exact List.mem_append_right _ (List.mem_singleton.mpr rfl)))
          · rw [if_neg h2] at hfl
            refine ⟨by push_cast at h2; omega, ?_⟩
            by_cases h3 : isLost (n : Int) late T = true
            · rw [if_pos h3] at hfl
              have := lostE.mp h3
              rw [hfl, List.length_append]
              push_cast
              simp only [List.length_cons, List.length_nil]
              omega
            · rw [if_neg h3] at hfl
              have : lostI n late T = 0 := by
                rcases l0 with q | q
                · exact q
                · exact absurd (lostE.mpr q) h3
              rw [hfl]
              omega
        · intro h1
          rw [if_neg h1] at hfl
          rw [hfl]
      generalize hfl : (if insOf z = S.state then (if ((n + 1 : Nat) : Int) - S.ahead = 1 then S.found ++ [(⟨badge, S.ahead, ((n + 1 : Nat) : Int), "twice"⟩ : Want)] else if isLost (n : Int) late T = true then S.found ++ [⟨badge, S.ahead, ((n + 1 : Nat) : Int), "lost"⟩] else S.found) else S.found) = fl at *
      obtain ⟨c1, c2⟩ := cnt fl rfl nt
      have eA : aheadP kn late T (n + 1) = (min ((aheadP kn late T n).1 + stepP kn late T ((n + 1 : Nat) : Int) 0 0) ((aheadP kn late T n).2 + stepP kn late T ((n + 1 : Nat) : Int) 1 0), min ((aheadP kn late T n).1 + stepP kn late T ((n + 1 : Nat) : Int) 0 1) ((aheadP kn late T n).2 + stepP kn late T ((n + 1 : Nat) : Int) 1 1)) := rfl
      rcases ins01 z with x0 | x0
      · obtain ⟨q1, q2, q3, q4⟩ := sz0 x0
        rw [q1, q2, q3, q4] at eA
        refine ⟨?_, fun _ => ?_, fun h => ?_⟩
        · show pr _ (insOf z) = (fl.length : Int)
          rw [x0, eA]
          simp only [pr, if_true]
          rcases I.st with h0 | h0
          · obtain ⟨d1, d2⟩ := c1 (by rw [x0, h0])
            rw [h0] at own past
            simp only [pr, if_true, Int.sub_zero, show ¬ ((1 : Int) = 0) by decide, if_false] at own past
            have := past d1
            omega
          · have d2 := c2 (by rw [x0, h0]; decide)
            rw [h0] at own
            simp only [pr, show ¬ ((1 : Int) = 0) by decide, if_false] at own
            omega
        · show NEV ≤ pr _ (1 - insOf z)
          rw [x0, eA]
          simp only [pr, Int.sub_zero, show ¬ ((1 : Int) = 0) by decide, if_false]
          omega
        · have h : ((n + 1 : Nat) : Int) < ((n + 1 : Nat) : Int) := h
          omega
      · obtain ⟨q1, q2, q3, q4⟩ := sz1 x0
        rw [q1, q2, q3, q4] at eA
        refine ⟨?_, fun _ => ?_, fun h => ?_⟩
        · show pr _ (insOf z) = (fl.length : Int)
          rw [x0, eA]
          simp only [pr, show ¬ ((1 : Int) = 0) by decide, if_false]
          rcases I.st with h0 | h0
          · have d2 := c2 (by rw [x0, h0]; decide)
            rw [h0] at own
            simp only [pr, if_true] at own
            omega
          · obtain ⟨d1, d2⟩ := c1 (by rw [x0, h0])
            rw [h0] at own past
            simp only [pr, show (1 : Int) - 1 = 0 by decide, if_true, show ¬ ((1 : Int) = 0) by decide, if_false] at own past
            have := past d1
            omega
        · show NEV ≤ pr _ (1 - insOf z)
          rw [x0, eA]
          simp only [pr, show (1 : Int) - 1 = 0 by decide, if_true]
          omega
        · have h : ((n + 1 : Nat) : Int) < ((n + 1 : Nat) : Int) := h
          omega
theorem least_wants {kn : Kn} {T : Nat} (nd : (kn.map (·.1)).Nodup) (rg : ∀ p ∈ kn, 1 ≤ p.1 ∧ p.1 ≤ (T : Int)) (hT : T ≤ 60) (badge late : Int) (nt : noTwice (wantsOf badge kn late T)) : leastP kn late T = ((wantsOf badge kn late T).length : Int) := by
  rw [wantsOf_eq nd rg] at nt ⊢
  have d := dp_wants badge kn late T T (by omega) nt
  have I := wi badge kn late T T
  generalize wmTo badge kn late T T = S at *
  have NEVe : NEV = 1000000 := rfl
  have own := d.own
  have hl := I.len
  have a1 := I.a1
  have l0 := lostI01 (T : Int) late T
  have cases2 : S.ahead = T ∨ S.ahead < T := by omega
  unfold leastP
  rcases I.st with h0 | h0
  · have at_ := d.at_
    have past := d.past
    rw [h0] at own at_ past
    simp only [pr, if_true, Int.sub_zero, show ¬ ((1 : Int) = 0) by decide, if_false] at own at_ past
    rcases cases2 with c | c
    · have := at_ c; omega
    · have := past c; omega
  · have at_ := d.at_
    have past := d.past
    rw [h0] at own at_ past
    simp only [pr, show (1 : Int) - 1 = 0 by decide, if_true, show ¬ ((1 : Int) = 0) by decide, if_false] at own at_ past
    rcases cases2 with c | c
    · have := at_ c; omega
    · have := past c; omega
end IC
namespace IC
open PySem L2
/-! ### a later house -/
structure ExtK (kn1 kn2 : Kn) (late : Int) (T1 T2 : Nat) : Prop where
  tt : T1 ≤ T2
  k1 : ∀ m z, lookK kn1 m = some z → lookK kn2 m = some z
  k2 : ∀ m z, lookK kn1 m = none → lookK kn2 m = some z → (T1 : Int) ≤ m + late
section
variable {kn1 kn2 : Kn} {late : Int} {T1 T2 : Nat}
theorem step_mono (x : ExtK kn1 kn2 late T1 T2) (m a b : Int) : stepP kn1 late T1 m a b ≤ stepP kn2 late T2 m a b := by
  cases e1 : lookK kn1 m with
  | some z =>
    have e2 := x.k1 m z e1
    unfold stepP
    rw [e1, e2]
    exact Int.le_refl _
  | none =>
    cases e2 : lookK kn2 m with
    | some z =>
      have h := x.k2 m z e1 e2
      have h0 : stepP kn1 late T1 m a b = 0 := by
        unfold stepP
        rw [e1]
        show turnP none (isLost m late T1) _ = 0
        unfold turnP isLost
        rw [show decide (m + late < (T1 : Int)) = false from decide_eq_false (by omega), Bool.and_false]
        rfl
      rw [h0]
      exact step_nn _ _ _ _ _ _
    | none =>
      unfold stepP
      rw [e1, e2]
      show turnP none (isLost m late T1) _ ≤ turnP none (isLost m late T2) _
      have hm : isLost m late T1 = true → isLost m late T2 = true := by
        unfold isLost
        intro h
        rw [decide_eq_true_eq] at h ⊢
        have := x.tt
        omega
      unfold turnP
      cases h1 : isLost m late T1 with
      | true =>
        rw [hm h1]
        exact Int.le_refl _
      | false =>
        rw [Bool.and_false]
        simp only [Bool.false_eq_true, if_false]
        split <;> decide
theorem ahead_mono (x : ExtK kn1 kn2 late T1 T2) : ∀ n, (aheadP kn1 late T1 n).1 ≤ (aheadP kn2 late T2 n).1 ∧ (aheadP kn1 late T1 n).2 ≤ (aheadP kn2 late T2 n).2
  | 0 => ⟨Int.le_refl _, Int.le_refl _⟩
  | n + 1 => by
    have ih := ahead_mono x n
    have h1 := step_mono x (n + 1 : Nat) 0 0
    have h2 := step_mono x (n + 1 : Nat) 1 0
    have h3 := step_mono x (n + 1 : Nat) 0 1
    have h4 := step_mono x (n + 1 : Nat) 1 1
    unfold aheadP
    simp only
    omega
theorem behind_mono (x : ExtK kn1 kn2 late T1 T2) : ∀ k, k ≤ T1 → (behindP kn1 late T1 k).1 ≤ (behindP kn2 late T2 (T2 - T1 + k)).1 ∧ (behindP kn1 late T1 k).2 ≤ (behindP kn2 late T2 (T2 - T1 + k)).2
  | 0, _ => by
    have := behind_nn kn2 late T2 (T2 - T1 + 0)
    exact this
  | k + 1, hk => by
    have ih := behind_mono x k (by omega)
    have tt := x.tt
    have em : (T2 : Int) - ((T2 - T1 + k : Nat) : Int) = (T1 : Int) - k := by omega
    have h1 := step_mono x ((T1 : Int) - k) 0 0
    have h2 := step_mono x ((T1 : Int) - k) 1 0
    have h3 := step_mono x ((T1 : Int) - k) 0 1
    have h4 := step_mono x ((T1 : Int) - k) 1 1
    show _ ≤ (behindP kn2 late T2 ((T2 - T1 + k) + 1)).1 ∧ _ ≤ (behindP kn2 late T2 ((T2 - T1 + k) + 1)).2
    unfold behindP
    simp only
    rw [em]
    omega
/-- the least price of a badge's stories with a state behind a moment -/
def totP (kn : Kn) (late : Int) (T m s : Nat) : Int := sel (aheadP kn late T m) s + sel (behindP kn late T (T - m)) s
theorem tot_mono (x : ExtK kn1 kn2 late T1 T2) {m s : Nat} (hm : m ≤ T1) : totP kn1 late T1 m s ≤ totP kn2 late T2 m s := by
  have h1 := ahead_mono x m
  have h2 := behind_mono x (T1 - m) (by omega)
  have tt := x.tt
  rw [show T2 - T1 + (T1 - m) = T2 - m by omega] at h2
  unfold totP sel
  split <;> omega
end
theorem tot_min (kn : Kn) (late : Int) (T : Nat) : ∀ k, k ≤ T → min (totP kn late T (T - k) 0) (totP kn late T (T - k) 1) = leastP kn late T
  | 0, _ => by
    unfold totP leastP sel
    rw [show T - (T - 0) = 0 by omega]
    simp [behindP]
  | k + 1, hk => by
    have ih := tot_min kn late T k (by omega)
    rw [← ih]
    unfold totP sel
    simp only [if_true, show ¬ ((1 : Nat) = 0) by decide, if_false]
    rw [show T - (T - (k + 1)) = k + 1 by omega, show T - (T - k) = k by omega]
    obtain ⟨n, hn⟩ : ∃ n, T - k = n + 1 := ⟨T - (k + 1), by omega⟩
    rw [hn, show T - (k + 1) = n by omega]
    have em : (T : Int) - (k : Int) = ((n + 1 : Nat) : Int) := by omega
    have eA : aheadP kn late T (n + 1) = (min ((aheadP kn late T n).1 + stepP kn late T ((n + 1 : Nat) : Int) 0 0) ((aheadP kn late T n).2 + stepP kn late T ((n + 1 : Nat) : Int) 1 0), min ((aheadP kn late T n).1 + stepP kn late T ((n + 1 : Nat) : Int) 0 1) ((aheadP kn late T n).2 + stepP kn late T ((n + 1 : Nat) : Int) 1 1)) := rfl
    have eB : behindP kn late T (k + 1) = (min ((behindP kn late T k).1 + stepP kn late T ((T : Int) - k) 0 0) ((behindP kn late T k).2 + stepP kn late T ((T : Int) - k) 0 1), min ((behindP kn late T k).1 + stepP kn late T ((T : Int) - k) 1 0) ((behindP kn late T k).2 + stepP kn late T ((T : Int) - k) 1 1)) := rfl
    rw [em] at eB
    rw [eA, eB]
    simp only
    omega
theorem tot_min' (kn : Kn) (late : Int) {T m : Nat} (h : m ≤ T) : min (totP kn late T m 0) (totP kn late T m 1) = leastP kn late T := by
  have := tot_min kn late T (T - m) (by omega)
  rw [show T - (T - m) = m by omega] at this
  exact this
theorem least_mono {kn1 kn2 : Kn} {late : Int} {T1 T2 : Nat} (x : ExtK kn1 kn2 late T1 T2) : leastP kn1 late T1 ≤ leastP kn2 late T2 := by
  rw [← tot_min' kn1 late (Nat.le_refl T1), ← tot_min' kn2 late x.tt]
  have h0 := tot_mono x (s := 0) (Nat.le_refl T1)
  have h1 := tot_mono x (s := 1) (Nat.le_refl T1)
  omega
theorem sel_more (kn : Kn) (late : Int) (T m : Nat) {s : Nat} (hs : s < 2) : sel (moreP kn late T m) s = totP kn late T m s - leastP kn late T := by
  have : s = 0 ∨ s = 1 := by omega
  rcases this with rfl | rfl <;> rfl
/-! ### the greatest number that fits -/
/-- (how many, their sum) of the choices out of a list -/
def subs : List Int → List (Nat × Int)
  | [] => [(0, 0)]
  | a :: l => subs l ++ (subs l).map fun x => (x.1 + 1, x.2 + a)
theorem mem_subs {a : Int} {l : List Int} {c : Nat} {s : Int} : (c, s) ∈ subs (a :: l) ↔ (c, s) ∈ subs l ∨ ∃ c', (c', s - a) ∈ subs l ∧ c = c' + 1 := by
  show (c, s) ∈ subs l ++ (subs l).map _ ↔ _
  rw [List.mem_append, List.mem_map]
  constructor
  · rintro (h | ⟨x, hx, e⟩)
    · exact .inl h
    · injection e with e1 e2
      refine .inr ⟨x.1, ?_, e1.symm⟩
      rw [show s - a = x.2 by omega]
      exact hx
  · rintro (h | ⟨c', h, e⟩)
    · exact .inl h
    · exact .inr ⟨(c', s - a), h, by rw [e, show s - a + a = s by omega]⟩
theorem subs_perm {l l' : List Int} (p : l.Perm l') : ∀ c s, (c, s) ∈ subs l → (c, s) ∈ subs l' := by
  induction p with
  | nil => exact fun c s h => h
  | cons a p ih =>
    intro c s h
    rw [mem_subs] at h ⊢
    rcases h with h | ⟨c', h, e⟩
    · exact .inl (ih _ _ h)
    · exact .inr ⟨c', ih _ _ h, e⟩
  | swap a b l =>
    intro c s h
    rw [mem_subs, mem_subs] at h
    rw [mem_subs, mem_subs]
    rcases h with (h | ⟨c', h, e⟩) | ⟨c', h, e⟩
    · exact .inl (.inl h)
    · exact .inr ⟨c', mem_subs.mpr (.inl h), e⟩
    · rw [mem_subs] at h
      rcases h with h | ⟨c2, h, e2⟩
      · exact .inl (.inr ⟨c', h, e⟩)
      · refine .inr ⟨c', ?_, e⟩
        rw [mem_subs]
        exact .inr ⟨c2, by rw [show s - a - b = s - b - a by omega]; exact h, e2⟩
  | trans p q ih1 ih2 => exact fun c s h => ih2 c s (ih1 c s h)
theorem subs_zero : ∀ l : List Int, (0, 0) ∈ subs l
  | [] => List.mem_singleton.mpr rfl
  | a :: l => mem_subs.mpr (.inl (subs_zero l))
theorem subs_nil0 : ∀ {l : List Int} {s : Int}, (0, s) ∈ subs l → s = 0
  | [], s, h => by
    have h : (0, s) ∈ [((0 : Nat), (0 : Int))] := h
    simp at h
    exact h
  | a :: l, s, h => by
    rw [mem_subs] at h
    rcases h with h | ⟨c', _, e⟩
    · exact subs_nil0 h
    · cases e
/-- one of the chosen is given up -/
theorem subs_drop {a : Int} : ∀ {l : List Int} {c : Nat} {s : Int}, (∀ x ∈ l, a ≤ x) → (c + 1, s) ∈ subs l → ∃ s', (c, s') ∈ subs l ∧ s' ≤ s - a
  | [], c, s, _, h => by
    have h : (c + 1, s) ∈ [((0 : Nat), (0 : Int))] := h
    simp at h
  | b :: l, c, s, ha, h => by
    have hb := ha b List.mem_cons_self
    rw [mem_subs] at h
    rcases h with h | ⟨c', h, e⟩
    · obtain ⟨s', h1, h2⟩ := subs_drop (fun x hx => ha x (List.mem_cons_of_mem _ hx)) h
      exact ⟨s', mem_subs.mpr (.inl h1), h2⟩
    · have e : c = c' := by omega
      subst e
      exact ⟨s - b, mem_subs.mpr (.inl h), by omega⟩
theorem subs_ge {a : Int} (a0 : 0 ≤ a) : ∀ {l : List Int} {c : Nat} {s : Int}, (∀ x ∈ l, a ≤ x) → (c, s) ∈ subs l → 0 ≤ s ∧ (1 ≤ c → a ≤ s)
  | [], c, s, _, h => by
    have h : (c, s) ∈ [((0 : Nat), (0 : Int))] := h
    simp at h
    omega
  | b :: l, c, s, ha, h => by
    have hb := ha b List.mem_cons_self
    rw [mem_subs] at h
    rcases h with h | ⟨c', h, e⟩
    · exact subs_ge a0 (fun x hx => ha x (List.mem_cons_of_mem _ hx)) h
    · have := subs_ge a0 (fun x hx => ha x (List.mem_cons_of_mem _ hx)) h
      omega
def greedy : List Int → Int → Nat
  | [], _ => 0
  | a :: l, left => if a ≤ left then greedy l (left - a) + 1 else greedy l left
theorem fold_greedy : ∀ (l : List Int) (c left : Int), (l.foldl gstep (c, left)).1 = c + greedy l left
  | [], c, left => by simp [greedy]
  | a :: l, c, left => by
    rw [List.foldl_cons]
    unfold gstep greedy
    by_cases h : a ≤ left
    · simp only [if_pos h]
      have := fold_greedy l (c + 1) (left - a)
      unfold gstep at this
      rw [this]
      push_cast
      omega
    · simp only [if_neg h]
      have := fold_greedy l c left
      unfold gstep at this
      rw [this]
theorem greedy_max : ∀ {l : List Int} {left : Int} {c : Nat} {s : Int}, l.Pairwise (· ≤ ·) → (∀ x ∈ l, 0 ≤ x) → (c, s) ∈ subs l → s ≤ left → c ≤ greedy l left
  | [], left, c, s, _, _, h, _ => by
    have h : (c, s) ∈ [((0 : Nat), (0 : Int))] := h
    simp at h
    omega
  | a :: l, left, c, s, hp, h0, h, hs => by
    have hal : ∀ x ∈ l, a ≤ x := fun x hx => (List.pairwise_cons.mp hp).1 x hx
    have a0 := h0 a List.mem_cons_self
    have h0' : ∀ x ∈ l, 0 ≤ x := fun x hx => h0 x (List.mem_cons_of_mem _ hx)
    have hp' := (List.pairwise_cons.mp hp).2
    unfold greedy
    rw [mem_subs] at h
    by_cases ha : a ≤ left
    · rw [if_pos ha]
      rcases h with h | ⟨c', h, e⟩
      · cases c with
        | zero => omega
        | succ c =>
          obtain ⟨s', h1, h2⟩ := subs_drop hal h
          have := greedy_max hp' h0' h1 (left := left - a) (by omega)
          omega
      · have := greedy_max hp' h0' h (left := left - a) (by omega)
        omega
    · rw [if_neg ha]
      rcases h with h | ⟨c', h, e⟩
      · have := subs_ge a0 hal h
        have hc : ¬ 1 ≤ c := fun z => by have := this.2 z; omega
        omega
      · have := subs_ge a0 hal h
        omega
theorem greedy_is : ∀ {l : List Int} {left : Int}, 0 ≤ left → ∃ s, (greedy l left, s) ∈ subs l ∧ s ≤ left
  | [], left, h => ⟨0, List.mem_singleton.mpr rfl, h⟩
  | a :: l, left, h => by
    unfold greedy
    by_cases ha : a ≤ left
    · rw [if_pos ha]
      obtain ⟨s, h1, h2⟩ := greedy_is (l := l) (left := left - a) (by omega)
      exact ⟨s + a, mem_subs.mpr (.inr ⟨_, by rw [show s + a - a = s by omega]; exact h1, rfl⟩), by omega⟩
    · rw [if_neg ha]
      obtain ⟨s, h1, h2⟩ := greedy_is (l := l) (left := left) h
      exact ⟨s, mem_subs.mpr (.inl h1), h2⟩
theorem sortI_perm (l : List Int) : (sortI l).Perm l := List.mergeSort_perm ..
theorem sortI_sorted (l : List Int) : (sortI l).Pairwise (· ≤ ·) := by
  have := List.pairwise_mergeSort (le := fun a b : Int => decide (a ≤ b)) (fun a b c h1 h2 => by simp at *; omega) (fun a b => by simp; omega) l
  exact this.imp fun h => by simpa using h
theorem mostL_eq (l : List Int) (left : Int) : mostL l left = (greedy (sortI l) left : Int) := by
  unfold mostL
  rw [fold_greedy]
  omega
theorem mostL_max {l : List Int} {left : Int} {c : Nat} {s : Int} (h0 : ∀ x ∈ l, 0 ≤ x) (h : (c, s) ∈ subs l) (hs : s ≤ left) : (c : Int) ≤ mostL l left := by
  rw [mostL_eq]
  have := greedy_max (sortI_sorted l) (fun x hx => h0 x ((sortI_perm l).mem_iff.mp hx)) (subs_perm (sortI_perm l).symm c s h) hs
  omega
theorem mostL_is {l : List Int} {left : Int} (h : 0 ≤ left) : ∃ (c : Nat) (s : Int), (c, s) ∈ subs l ∧ s ≤ left ∧ mostL l left = c := by
  obtain ⟨s, h1, h2⟩ := greedy_is (l := sortI l) h
  exact ⟨_, s, subs_perm (sortI_perm l) _ _ h1, h2, mostL_eq l left⟩
/-- from one list to another, badge by badge -/
theorem subs_over {α : Type} {p1 p2 l1 l2 : α → Int} : ∀ {bs : List α} {c : Nat} {s2 : Int}, (∀ b ∈ bs, p1 b ≤ p2 b ∧ l1 b ≤ l2 b) → (c, s2) ∈ subs (bs.map fun b => p2 b - l2 b) →
    ∃ s1, (c, s1) ∈ subs (bs.map fun b => p1 b - l1 b) ∧ s1 + (bs.map l1).sum ≤ s2 + (bs.map l2).sum
  | [], c, s2, _, h => ⟨s2, h, by simp⟩
  | b :: bs, c, s2, hb, h => by
    have h1 := hb b List.mem_cons_self
    rw [List.map_cons, mem_subs] at h
    rcases h with h | ⟨c', h, e⟩
    · obtain ⟨s1, q1, q2⟩ := subs_over (fun x hx => hb x (List.mem_cons_of_mem _ hx)) h
      refine ⟨s1, by rw [List.map_cons]; exact mem_subs.mpr (.inl q1), ?_⟩
      rw [List.map_cons, List.map_cons, List.sum_cons, List.sum_cons]
      omega
    · obtain ⟨s1, q1, q2⟩ := subs_over (fun x hx => hb x (List.mem_cons_of_mem _ hx)) h
      refine ⟨s1 + (p1 b - l1 b), by rw [List.map_cons]; exact mem_subs.mpr (.inr ⟨c', by rw [show s1 + (p1 b - l1 b) - (p1 b - l1 b) = s1 by omega]; exact q1, e⟩), ?_⟩
      rw [List.map_cons, List.map_cons, List.sum_cons, List.sum_cons]
      omega
theorem subs_zeros {α : Type} {v : α → Int} : ∀ (bs : List α), ((bs.filter fun b => decide (v b = 0)).length, (0 : Int)) ∈ subs (bs.map v)
  | [] => List.mem_singleton.mpr rfl
  | b :: bs => by
    rw [List.map_cons, mem_subs, List.filter_cons]
    by_cases h : v b = 0
    · rw [if_pos (by simpa using h)]
      exact .inr ⟨_, by rw [h, Int.sub_zero]; exact subs_zeros bs, by rw [List.length_cons]⟩
    · rw [if_neg (by simpa using h)]
      exact .inl (subs_zeros bs)
end IC
namespace IC
open PySem L2
/-! ### what a want is -/
structure WantAt (badge : Int) (kn : Kn) (late now : Int) (n : Nat) (x : Want) : Prop where
  bd : x.badge = badge
  lo0 : 0 ≤ x.lo
  lh : x.lo < x.hi
  hn : x.hi ≤ n
  gap : ∀ m, x.lo < m → m < x.hi → lookK kn m = none
  kl : x.lo = 0 ∨ (lookK kn x.lo).isSome = true
  kh : ∃ z, lookK kn x.hi = some z ∧ insOf z = stAt kn x.lo
  wd : (x.hi - x.lo = 1 ∧ x.word = ("twice" : Str)) ∨ (x.hi - x.lo ≠ 1 ∧ isLost (x.hi - 1) late now = true ∧ x.word = ("lost" : Str))
theorem mem_wm (badge : Int) (kn : Kn) (late now : Int) : ∀ (n : Nat) (x : Want), x ∈ (wmTo badge kn late now n).found ↔ WantAt badge kn late now n x
  | 0, x => by
    constructor
    · intro h
      simp [wmTo, moms] at h
    · intro h
      have := h.lo0
      have := h.lh
      have := h.hn
      omega
  | n + 1, x => by
    have I := wi badge kn late now n
    have ih := mem_wm badge kn late now n
    have mono := found_mono badge kn late now (wmTo badge kn late now n) ((n + 1 : Nat) : Int)
    rw [wmTo_succ]
    generalize wmTo badge kn late now n = S at *
    have up : ∀ y, WantAt badge kn late now n y → WantAt badge kn late now (n + 1) y := fun y h => ⟨h.bd, h.lo0, h.lh, by have := h.hn; omega, h.gap, h.kl, h.kh, h.wd⟩
    constructor
    · intro h
      unfold wstepM at h
      by_cases hs : (lookK kn ((n + 1 : Nat) : Int)).isSome = true
      · rw [if_pos hs] at h
        obtain ⟨z, hz⟩ := Option.isSome_iff_exists.mp hs
        unfold wstep at h
        rw [hz] at h
        simp only [Option.getD_some] at h
        have new : ∀ wd : Str, insOf z = S.state → ((((n + 1 : Nat) : Int) - S.ahead = 1 ∧ wd = ("twice" : Str)) ∨ (((n + 1 : Nat) : Int) - S.ahead ≠ 1 ∧ isLost (((n + 1 : Nat) : Int) - 1) late now = true ∧ wd = ("lost" : Str))) →
            WantAt badge kn late now (n + 1) ⟨badge, S.ahead, ((n + 1 : Nat) : Int), wd⟩ := fun wd h1 h2 =>
          ⟨rfl, I.a0, by show S.ahead < ((n + 1 : Nat) : Int); have := I.a1; omega, by show ((n + 1 : Nat) : Int) ≤ _; omega, fun m q1 q2 => I.gap m q1 (by have q2 : m < ((n + 1 : Nat) : Int) := q2; omega), I.known, ⟨z, hz, by rw [h1]; exact I.stt⟩, h2⟩
        by_cases h1 : insOf z = S.state
        · rw [if_pos h1] at h
          by_cases h2 : ((n + 1 : Nat) : Int) - S.ahead = 1
          · rw [if_pos h2] at h
            rcases List.mem_append.mp h with h | h
            · exact up x ((ih x).mp h)
            · rw [List.mem_singleton.mp h]
              exact new _ h1 (.inl ⟨h2, rfl⟩)
          · rw [if_neg h2] at h
            by_cases h3 : isLost (((n + 1 : Nat) : Int) - 1) late now = true
            · rw [if_pos h3] at h
              rcases List.mem_append.mp h with h | h
              · exact up x ((ih x).mp h)
              · rw [List.mem_singleton.mp h]
                exact new _ h1 (.inr ⟨h2, h3, rfl⟩)
            · rw [if_neg h3] at h
              exact up x ((ih x).mp h)
        · rw [if_neg h1] at h
          exact up x ((ih x).mp h)
      · rw [if_neg hs] at h
        exact up x ((ih x).mp h)
    · intro h
      by_cases hh : x.hi ≤ n
      · exact mono x ((ih x).mpr ⟨h.bd, h.lo0, h.lh, hh, h.gap, h.kl, h.kh, h.wd⟩)
      · have hi : x.hi = ((n + 1 : Nat) : Int) := by have := h.hn; omega
        obtain ⟨z, hz, hst⟩ := h.kh
        have gap := h.gap
        have kl := h.kl
        have lh := h.lh
        rw [hi] at hz gap lh
        have lo : S.ahead = x.lo := by
          have a0 := I.a0
          have a1 := I.a1
          have l0 := h.lo0
          have c : S.ahead < x.lo ∨ S.ahead = x.lo ∨ x.lo < S.ahead := by omega
          rcases c with c | c | c
          · rcases kl with k | k
            · omega
            · rw [I.gap x.lo c (by omega)] at k
              cases k
          · exact c
          · rcases I.known with k | k
            · omega
            · rw [gap S.ahead c (by omega)] at k
              cases k
        have hs : (lookK kn ((n + 1 : Nat) : Int)).isSome = true := by rw [hz]; rfl
        have st : insOf z = S.state := by rw [I.stt, lo]; exact hst
        have ex : x = ⟨badge, S.ahead, ((n + 1 : Nat) : Int), x.word⟩ := by
          rw [lo, ← hi, ← h.bd]
        unfold wstepM
        rw [if_pos hs]
        unfold wstep
        rw [hz]
        simp only [Option.getD_some]
        rw [if_pos st]
        have wd := h.wd
        rw [hi, ← lo] at wd
        rcases wd with ⟨w1, w2⟩ | ⟨w1, w2, w3⟩
        · rw [if_pos w1, ex, w2]
          exact List.mem_append_right _ (List.mem_singleton.mpr rfl)
        · rw [if_neg w1, if_pos w2, ex, w3]
          exact List.mem_append_right _ (List.mem_singleton.mpr rfl)
/-! ### houses -/
structure KnT (kn : Kn) (T : Nat) : Prop where
  ok : KnOk kn
  le : ∀ p ∈ kn, p.1 ≤ (T : Int)
theorem KnT.rg {kn : Kn} {T : Nat} (k : KnT kn T) : ∀ p ∈ kn, 1 ≤ p.1 ∧ p.1 ≤ (T : Int) := fun p hp => ⟨(k.ok.rg p hp).1, k.le p hp⟩
structure HsOk (h : Hs) (T : Nat) : Prop where
  tm : TimeOk h T
  kn : ∀ k ∈ h.kns, KnT k T
theorem HsOk.at {h : Hs} {T : Nat} (o : HsOk h T) {b : Nat} (hb : b < h.kns.length) : KnT (h.kns.getD b []) T := o.kn _ (getD_mem hb).2
structure ExtH (h1 h2 : Hs) (T1 T2 : Nat) : Prop where
  len : h1.kns.length = h2.kns.length
  late : h1.late = h2.late
  lost : h1.lost = h2.lost
  kn : ∀ b, b < h1.kns.length → ExtK (h1.kns.getD b []) (h2.kns.getD b []) h1.late T1 T2
theorem mem_aw {kns : List Kn} {late time : Int} : ∀ {n : Nat} {x : Want}, x ∈ awTo kns late time n ↔ ∃ b, b < n ∧ x ∈ wantsOf b (kns.getD b []) late time
  | 0, x => by simp [awTo]
  | n + 1, x => by
    unfold awTo
    rw [List.mem_append, mem_aw (n := n)]
    constructor
    · rintro (⟨b, h1, h2⟩ | h)
      · exact ⟨b, by omega, h2⟩
      · exact ⟨n, by omega, h⟩
    · rintro ⟨b, h1, h2⟩
      by_cases e : b = n
      · subst e; exact .inr h2
      · exact .inl ⟨b, by omega, h2⟩
theorem wants_stay {h1 h2 : Hs} {T1 T2 : Nat} (o1 : HsOk h1 T1) (o2 : HsOk h2 T2) (x : ExtH h1 h2 T1 T2) : ∀ y ∈ allWants h1.kns h1.late h1.now, y ∈ allWants h2.kns h2.late h2.now := by
  intro y hy
  unfold allWants at hy ⊢
  rw [mem_aw] at hy ⊢
  obtain ⟨b, hb, hm⟩ := hy
  have k1 := o1.at hb
  have hb2 : b < h2.kns.length := by rw [← x.len]; exact hb
  have k2 := o2.at hb2
  refine ⟨b, hb2, ?_⟩
  rw [wantsOf_eq k1.ok.nd k1.rg, mem_wm] at hm
  rw [wantsOf_eq k2.ok.nd k2.rg, mem_wm]
  have e := x.kn b hb
  have tt := e.tt
  have kl : y.lo = 0 ∨ (lookK (h2.kns.getD b []) y.lo).isSome = true := by
    rcases hm.kl with q | q
    · exact .inl q
    · obtain ⟨z, hz⟩ := Option.isSome_iff_exists.mp q
      exact .inr (by rw [e.k1 _ _ hz]; rfl)
  have st : stAt (h2.kns.getD b []) y.lo = stAt (h1.kns.getD b []) y.lo := by
    unfold stAt
    rcases hm.kl with q | q
    · rw [if_pos q, if_pos q]
    · obtain ⟨z, hz⟩ := Option.isSome_iff_exists.mp q
      rw [hz, e.k1 _ _ hz]
  obtain ⟨z, hz, hst⟩ := hm.kh
  refine ⟨hm.bd, hm.lo0, hm.lh, by have := hm.hn; omega, fun m q1 q2 => ?_, kl, ⟨z, e.k1 _ _ hz, by rw [st]; exact hst⟩, ?_⟩
  · cases e2 : lookK (h2.kns.getD b []) m with
    | none => rfl
    | some z' =>
      have h0 := e.k2 m z' (hm.gap m q1 q2) e2
      rcases hm.wd with ⟨w1, _⟩ | ⟨_, w2, _⟩
      · omega
      · unfold isLost at w2
        rw [decide_eq_true_eq, o1.tm.now] at w2
        omega
  · rcases hm.wd with w | ⟨w1, w2, w3⟩
    · exact .inl w
    · refine .inr ⟨w1, ?_, w3⟩
      unfold isLost at w2 ⊢
      rw [decide_eq_true_eq] at w2 ⊢
      rw [o1.tm.now] at w2
      rw [o2.tm.now, ← x.late]
      omega
/-! ### sound houses -/
theorem sound_iff {h : Hs} (s : soundH h = true) : noTwice (allWants h.kns h.late h.now) ∧ ((allWants h.kns h.late h.now).length : Int) ≤ h.lost := by
  unfold soundH borne at s
  rw [Bool.and_eq_true, decide_eq_true_eq] at s
  refine ⟨fun x hx e => ?_, s.2⟩
  have := List.isEmpty_iff.mp s.1
  have hm : x ∈ (allWants h.kns h.late h.now).filter fun x => decide (x.word = ("twice" : Str)) := List.mem_filter.mpr ⟨hx, by simpa using e⟩
  rw [this] at hm
  cases hm
theorem aw_len_sum (kns : List Kn) (late time : Int) (g : Nat → Int) : ∀ n, (∀ b, b < n → g b = ((wantsOf b (kns.getD b []) late time).length : Int)) → ((awTo kns late time n).length : Int) = ((List.range n).map g).sum
  | 0, _ => by simp [awTo]
  | n + 1, h => by
    have ih := aw_len_sum kns late time g n fun b hb => h b (by omega)
    rw [List.range_succ, List.map_append, List.sum_append, ← ih]
    show (((awTo kns late time n ++ wantsOf n (kns.getD n []) late time).length : Nat) : Int) = _
    rw [List.length_append, List.map_cons, List.map_nil, List.sum_cons, List.sum_nil, h n (by omega)]
    push_cast
    omega
def leastH (h : Hs) (T b : Nat) : Int := leastP (h.kns.getD b []) h.late T
theorem spare_sum {h : Hs} {T : Nat} (o : HsOk h T) (s : soundH h = true) : spareH h = h.lost - ((List.range h.kns.length).map (leastH h T)).sum ∧ 0 ≤ spareH h := by
  obtain ⟨nt, le⟩ := sound_iff s
  have e : ((allWants h.kns h.late h.now).length : Int) = ((List.range h.kns.length).map (leastH h T)).sum := by
    unfold allWants
    refine aw_len_sum _ _ _ _ _ fun b hb => ?_
    have k := o.at hb
    unfold leastH
    rw [o.tm.now]
    refine least_wants k.ok.nd k.rg o.tm.le b h.late fun x hx => nt x ?_
    unfold allWants
    rw [mem_aw, o.tm.now]
    exact ⟨b, hb, hx⟩
  unfold spareH
  exact ⟨by rw [e], by omega⟩
theorem sum_le {f g : Nat → Int} : ∀ {l : List Nat}, (∀ b ∈ l, f b ≤ g b) → (l.map f).sum ≤ (l.map g).sum
  | [], _ => Int.le_refl _
  | a :: l, h => by
    have ih := sum_le (f := f) (g := g) fun b hb => h b (List.mem_cons_of_mem _ hb)
    have := h a List.mem_cons_self
    rw [List.map_cons, List.map_cons, List.sum_cons, List.sum_cons]
    omega
theorem sum_le1 {f g : Nat → Int} : ∀ {l : List Nat} {b : Nat}, (∀ b ∈ l, f b ≤ g b) → b ∈ l → (l.map f).sum + (g b - f b) ≤ (l.map g).sum
  | [], b, _, h => by cases h
  | a :: l, b, h, hb => by
    have h0 := h a List.mem_cons_self
    have hl : ∀ b ∈ l, f b ≤ g b := fun b hb => h b (List.mem_cons_of_mem _ hb)
    rw [List.map_cons, List.map_cons, List.sum_cons, List.sum_cons]
    rcases List.mem_cons.mp hb with rfl | hb
    · have := sum_le hl
      omega
    · have := sum_le1 hl hb
      omega
theorem more_nn {h : Hs} {T m b st : Nat} (hm : m ≤ T) (hs : st < 2) : 0 ≤ sel (moreH h T m b) st := by
  unfold moreH
  rw [sel_more _ _ _ _ hs]
  have := tot_min' (h.kns.getD b []) h.late hm
  have : st = 0 ∨ st = 1 := by omega
  rcases this with rfl | rfl <;> omega
section
variable {h1 h2 : Hs} {T1 T2 : Nat}
theorem least_le (x : ExtH h1 h2 T1 T2) {b : Nat} (hb : b < h1.kns.length) : leastH h1 T1 b ≤ leastH h2 T2 b := by
  unfold leastH
  rw [← x.late]
  exact least_mono (x.kn b hb)
theorem open_mono (o1 : HsOk h1 T1) (o2 : HsOk h2 T2) (x : ExtH h1 h2 T1 T2) (s1 : soundH h1 = true) (s2 : soundH h2 = true) {b m s : Nat} (hb : b < h1.kns.length) (hm : m ≤ T1) (hs : s < 2)
    (h : sel (moreH h2 T2 m b) s ≤ spareH h2) : sel (moreH h1 T1 m b) s ≤ spareH h1 := by
  have e1 := (spare_sum o1 s1).1
  have e2 := (spare_sum o2 s2).1
  rw [← x.len, ← x.lost] at e2
  unfold moreH at h ⊢
  rw [sel_more _ _ _ _ hs] at h ⊢
  have tm := tot_mono (x.kn b hb) (s := s) hm
  rw [← x.late] at h
  have sl := sum_le1 (f := leastH h1 T1) (g := leastH h2 T2) (l := List.range h1.kns.length) (b := b) (fun c hc => least_le x (List.mem_range.mp hc)) (List.mem_range.mpr hb)
  have d1 : leastH h1 T1 b = leastP (h1.kns.getD b []) h1.late T1 := rfl
  have d2 : leastH h2 T2 b = leastP (h2.kns.getD b []) h1.late T2 := by unfold leastH; rw [x.late]
  omega
theorem open_some {h : Hs} {T m b : Nat} (o : HsOk h T) (s : soundH h = true) (hm : m ≤ T) : ∃ st, st < 2 ∧ sel (moreH h T m b) st ≤ spareH h := by
  have e := (spare_sum o s).2
  have t := tot_min' (h.kns.getD b []) h.late hm
  by_cases c : totP (h.kns.getD b []) h.late T m 0 ≤ totP (h.kns.getD b []) h.late T m 1
  · refine ⟨0, by decide, ?_⟩
    unfold moreH
    rw [sel_more _ _ _ _ (by decide)]
    omega
  · refine ⟨1, by decide, ?_⟩
    unfold moreH
    rw [sel_more _ _ _ _ (by decide)]
    omega
theorem inside_stays (o1 : HsOk h1 T1) (o2 : HsOk h2 T2) (x : ExtH h1 h2 T1 T2) (s1 : soundH h1 = true) (s2 : soundH h2 = true) {b m : Nat} (hb : b < h1.kns.length) (hm : m ≤ T1) (hi : insideH h1 T1 m b ≠ .non) : insideH h2 T2 m b = insideH h1 T1 m b := by
  have tt := (x.kn b hb).tt
  have m0 := open_mono o1 o2 x s1 s2 hb hm (s := 0) (by decide)
  have m1 := open_mono o1 o2 x s1 s2 hb hm (s := 1) (by decide)
  obtain ⟨st, hst, hop⟩ := open_some (b := b) o2 s2 (show m ≤ T2 by omega)
  unfold insideH openH at hi ⊢
  simp only [show List.range 2 = [0, 1] from rfl, List.filter_cons, List.filter_nil] at hi ⊢
  have hst' : st = 0 ∨ st = 1 := by omega
  by_cases a0 : sel (moreH h1 T1 m b) 0 ≤ spareH h1 <;> by_cases a1 : sel (moreH h1 T1 m b) 1 ≤ spareH h1 <;>
    by_cases c0 : sel (moreH h2 T2 m b) 0 ≤ spareH h2 <;> by_cases c1 : sel (moreH h2 T2 m b) 1 ≤ spareH h2 <;> simp only [a0, a1, c0, c1, decide_true, decide_false, if_true, if_false, Bool.false_eq_true] at hi ⊢ <;>
    first
      | rfl
      | (exact absurd (m0 c0) a0)
      | (exact absurd (m1 c1) a1)
      | (exact absurd rfl hi)
      | (rcases hst' with rfl | rfl <;> contradiction)
theorem most_mono (o1 : HsOk h1 T1) (o2 : HsOk h2 T2) (x : ExtH h1 h2 T1 T2) (s1 : soundH h1 = true) (s2 : soundH h2 = true) {m st : Nat} (hm : m ≤ T1) (hs : st < 2) : mostH h2 T2 m st ≤ mostH h1 T1 m st := by
  obtain ⟨e1, n1⟩ := spare_sum o1 s1
  obtain ⟨e2, n2⟩ := spare_sum o2 s2
  rw [← x.len, ← x.lost] at e2
  unfold mostH
  obtain ⟨c, s, hc, hsum, he⟩ := mostL_is (l := (List.range h2.kns.length).map fun b => sel (moreH h2 T2 m b) st) n2
  rw [he]
  have q2 : ((List.range h2.kns.length).map fun b => sel (moreH h2 T2 m b) st) = (List.range h1.kns.length).map fun b => totP (h2.kns.getD b []) h2.late T2 m st - leastH h2 T2 b := by
    rw [x.len]
    refine List.map_congr_left fun b _ => ?_
    unfold moreH leastH
    exact sel_more _ _ _ _ hs
  have q1 : ((List.range h1.kns.length).map fun b => sel (moreH h1 T1 m b) st) = (List.range h1.kns.length).map fun b => totP (h1.kns.getD b []) h1.late T1 m st - leastH h1 T1 b := by
    refine List.map_congr_left fun b _ => ?_
    unfold moreH leastH
    exact sel_more _ _ _ _ hs
  rw [q2] at hc
  obtain ⟨s', hc', hle⟩ := subs_over (p1 := fun b => totP (h1.kns.getD b []) h1.late T1 m st) (l1 := leastH h1 T1) (fun b hb => ⟨by
    have := tot_mono (x.kn b (List.mem_range.mp hb)) (s := st) hm
    rw [← x.late]
    exact this, least_le x (List.mem_range.mp hb)⟩) hc
  refine mostL_max (fun y hy => ?_) (by rw [q1]; exact hc') (by omega)
  obtain ⟨b, _, rfl⟩ := List.mem_map.mp hy
  exact more_nn hm hs
theorem filt_len {p q : Nat → Bool} : ∀ (l : List Nat), (∀ b ∈ l, p b = true ∨ q b = true) → l.length ≤ (l.filter p).length + (l.filter q).length
  | [], _ => by simp
  | a :: l, h => by
    have ih := filt_len l fun b hb => h b (List.mem_cons_of_mem _ hb)
    have h0 := h a List.mem_cons_self
    rw [List.filter_cons, List.filter_cons, List.length_cons]
    split <;> split <;> simp_all <;> omega
theorem low_high {h : Hs} {T m : Nat} (o : HsOk h T) (s : soundH h = true) (hm : m ≤ T) : (h.kns.length : Int) - mostH h T m 0 ≤ mostH h T m 1 := by
  obtain ⟨_, n⟩ := spare_sum o s
  have z : ∀ st, st < 2 → (((List.range h.kns.length).filter fun b => decide (sel (moreH h T m b) st = 0)).length : Int) ≤ mostH h T m st := fun st hst => by
    unfold mostH
    refine mostL_max (fun y hy => ?_) (subs_zeros (v := fun b => sel (moreH h T m b) st) (List.range h.kns.length)) n
    obtain ⟨b, _, rfl⟩ := List.mem_map.mp hy
    exact more_nn hm hst
  have h0 := z 0 (by decide)
  have h1 := z 1 (by decide)
  have f := filt_len (p := fun b => decide (sel (moreH h T m b) 0 = 0)) (q := fun b => decide (sel (moreH h T m b) 1 = 0)) (List.range h.kns.length) (fun b _ => by
    have t := tot_min' (h.kns.getD b []) h.late hm
    simp only [decide_eq_true_eq]
    unfold moreH
    rw [sel_more _ _ _ _ (by decide), sel_more _ _ _ _ (by decide)]
    omega)
  rw [List.length_range] at f
  omega
end
end IC
namespace IC
open PySem L2
/-! ### deeds played one by one -/
structure PlayI (n : Nat) (late lost : Int) (done : List Deed) (h : Hs) (T : Nat) : Prop where
  len : h.kns.length = n
  late : h.late = late
  lost : h.lost = lost
  ok : HsOk h T
  tm : (T : Int) = 0 ∨ ∃ d ∈ done, d.time = T
  keys : ∀ b m, b < n → lookK (h.kns.getD b []) m ≠ none → (b, m) ∈ done.filterMap Deed.key
  fa : FaultOk h
theorem getD_rep {n b : Nat} : (List.replicate n ([] : Kn)).getD b [] = [] := by
  rw [List.getD_eq_getElem?_getD, List.getElem?_replicate]
  split <;> rfl
theorem PlayI.start (n : Nat) (late lost : Int) : PlayI n late lost [] (newHs n late lost) 0 := by
  refine ⟨List.length_replicate, rfl, rfl, ⟨⟨rfl, by decide⟩, fun k hk => ?_⟩, .inl rfl, fun b m _ h => ?_, .inl rfl⟩
  · have hk' : k ∈ List.replicate n ([] : Kn) := hk
    rw [List.eq_of_mem_replicate hk']
    exact ⟨⟨by simp, by simp, by simp⟩, by simp⟩
  · exact absurd (by show lookK ((List.replicate n ([] : Kn)).getD b []) m = none; rw [getD_rep]; rfl) h
theorem PlayI.can {n : Nat} {late lost most : Int} {done : List Deed} {d : Deed} {rest : List Deed} {h : Hs} {T : Nat} (p : PlayI n late lost done h T) (o : DeedsOk n late most (done ++ d :: rest)) (hm : most ≤ 60) : CanDo h d := by
  have od := o.ok d (List.mem_append_right _ List.mem_cons_self)
  have t0 : h.now ≤ d.time := by
    rw [p.ok.tm.now]
    rcases p.tm with z | ⟨e, he, z⟩
    · rw [z]
      cases d with
      | tk t => have h1 : (1 : Int) ≤ t := od.1; show (0 : Int) ≤ t; omega
      | cm t b m y => have h1 := od.1; unfold DOk at h1; show (0 : Int) ≤ t; omega
    · rw [← z]
      exact (List.pairwise_append.mp o.srt).2.2 e he d List.mem_cons_self
  cases d with
  | tk t => exact ⟨t0, by have := od.2; show t ≤ 60; have h1 : t ≤ most := this; omega⟩
  | cm t b m y =>
    obtain ⟨⟨h1, h2, h3, h4, h5⟩, h6⟩ := od
    have h6 : t ≤ most := h6
    refine ⟨t0, by omega, by rw [p.len]; exact h4, h5, h1, h2, by rw [p.late]; exact h3, ?_⟩
    cases e : lookK (h.kns.getD b []) m with
    | none => rfl
    | some z =>
      have hk := p.keys b m h4 (by rw [e]; simp)
      have nd := o.nd
      rw [List.filterMap_append, List.nodup_append] at nd
      exact absurd rfl (nd.2.2 (b, m) hk (b, m) (by rw [List.filterMap_cons]; exact List.mem_cons_self))
theorem getD_set {kns : List Kn} {b c : Nat} {k : Kn} (hb : b < kns.length) : (kns.set b k).getD c [] = if c = b then k else kns.getD c [] := by
  rw [List.getD_eq_getElem?_getD, List.getD_eq_getElem?_getD]
  by_cases e : c = b
  · subst e
    rw [if_pos rfl, List.getElem?_set_self hb]
    rfl
  · rw [if_neg e, List.getElem?_set_ne (Ne.symm e)]
theorem lookK_snoc {kn : Kn} {m x : Int} {z : Str} (h : lookK kn m = none) : lookK (kn ++ [(m, z)]) x = if x = m then some z else lookK kn x := by
  unfold lookK at h ⊢
  rw [List.find?_append]
  by_cases e : x = m
  · subst e
    rw [if_pos rfl]
    rw [Option.map_eq_none_iff] at h
    rw [h]
    simp
  · rw [if_neg e]
    have : List.find? (fun p : Int × Str => decide (p.1 = x)) [(m, z)] = none := by
      rw [List.find?_cons, show decide ((m, z).1 = x) = false from decide_eq_false (fun q => e q.symm)]
      rfl
    rw [this, Option.or_none]
theorem time_nat {d : Deed} {h : Hs} {T : Nat} (o : HsOk h T) (c : CanDo h d) : ∃ T' : Nat, d.time = T' ∧ T ≤ T' ∧ T' ≤ 60 := by
  have hn := o.tm.now
  cases d with
  | tk t =>
    obtain ⟨c1, c2⟩ := c
    exact ⟨t.toNat, by show t = _; omega, by omega, by omega⟩
  | cm t b m y =>
    have c1 := c.t0
    have c2 := c.t1
    exact ⟨t.toNat, by show t = _; omega, by omega, by omega⟩
theorem doH_facts (h : Hs) (d : Deed) : (doH h d).late = h.late ∧ (doH h d).lost = h.lost ∧ (doH h d).now = d.time := by
  cases d <;> exact ⟨rfl, rfl, rfl⟩
theorem doH_len (h : Hs) (d : Deed) : (doH h d).kns.length = h.kns.length := by
  cases d with
  | tk t => rfl
  | cm t b m y => show (h.kns.set b _).length = _; rw [List.length_set]
theorem doH_look {h : Hs} {d : Deed} (c : CanDo h d) (b : Nat) (x : Int) : lookK ((doH h d).kns.getD b []) x = lookK (h.kns.getD b []) x ∨ ∃ t z, d = .cm t b x z ∧ lookK (h.kns.getD b []) x = none ∧ lookK ((doH h d).kns.getD b []) x = some z := by
  cases d with
  | tk t => exact .inl rfl
  | cm t bb m y =>
    show lookK ((h.kns.set bb (h.kns.getD bb [] ++ [(m, y)])).getD b []) x = _ ∨ _
    rw [getD_set c.b1]
    by_cases e : b = bb
    · subst e
      rw [if_pos rfl, lookK_snoc c.new]
      by_cases e2 : x = m
      · subst e2
        refine .inr ⟨t, y, rfl, c.new, ?_⟩
        show lookK ((h.kns.set b (h.kns.getD b [] ++ [(x, y)])).getD b []) x = some y
        rw [getD_set c.b1, if_pos rfl, lookK_snoc c.new, if_pos rfl]
      · rw [if_neg e2]
        exact .inl rfl
    · rw [if_neg e]
      exact .inl rfl
theorem PlayI.step {n : Nat} {late lost : Int} {done : List Deed} {d : Deed} {h : Hs} {T : Nat} (p : PlayI n late lost done h T) (c : CanDo h d) : ∃ T' : Nat, T ≤ T' ∧ d.time = T' ∧ PlayI n late lost (done ++ [d]) (doH h d) T' := by
  obtain ⟨T', e, hT, hT60⟩ := time_nat p.ok c
  obtain ⟨f1, f2, f3⟩ := doH_facts h d
  refine ⟨T', hT, e, by rw [doH_len]; exact p.len, by rw [f1]; exact p.late, by rw [f2]; exact p.lost, ⟨⟨by rw [f3]; exact e, hT60⟩, fun k hk => ?_⟩, .inr ⟨d, List.mem_append_right _ (List.mem_singleton.mpr rfl), e⟩, fun b m hb hl => ?_, ?_⟩
  · have old : ∀ k ∈ h.kns, KnT k T' := fun k hk => ⟨(p.ok.kn k hk).ok, fun q hq => by have := (p.ok.kn k hk).le q hq; omega⟩
    cases d with
    | tk t => exact old k hk
    | cm t b m y =>
      have hk : k ∈ h.kns.set b (h.kns.getD b [] ++ [(m, y)]) := hk
      rcases List.mem_or_eq_of_mem_set hk with z | z
      · exact old k z
      · subst z
        have e : t = (T' : Int) := e
        have ok := (old _ (getD_mem c.b1).2)
        refine ⟨ok.ok.snoc c.new c.wd c.m0 (by have := c.m1; have := c.t1; omega), fun q hq => ?_⟩
        rcases List.mem_append.mp hq with z | z
        · exact ok.le q z
        · simp at z
          subst z
          have := c.m1
          show m ≤ _
          omega
  · rw [List.filterMap_append]
    rcases doH_look c b m with z | ⟨t, y, z, _, _⟩
    · rw [z] at hl
      exact List.mem_append_left _ (p.keys b m hb hl)
    · subst z
      exact List.mem_append_right _ (List.mem_singleton.mpr rfl)
  · cases d with
    | tk t => exact goneOn_fault _ _ p.fa
    | cm t b m y => exact goneOn_fault _ _ p.fa
theorem ExtH.refl {h : Hs} {T : Nat} : ExtH h h T T := ⟨rfl, rfl, rfl, fun b _ => ⟨Nat.le_refl _, fun _ _ e => e, fun m z e1 e2 => by rw [e1] at e2; cases e2⟩⟩
theorem ExtH.step {h1 h : Hs} {T1 T T' : Nat} {d : Deed} (x : ExtH h1 h T1 T) (tt : T1 ≤ T) (hT : T ≤ T') (e : d.time = T') (c : CanDo h d) : ExtH h1 (doH h d) T1 T' := by
  obtain ⟨f1, f2, f3⟩ := doH_facts h d
  refine ⟨by rw [doH_len]; exact x.len, by rw [f1]; exact x.late, by rw [f2]; exact x.lost, fun b hb => ?_⟩
  have xb := x.kn b hb
  refine ⟨by omega, fun m z h1' => ?_, fun m z h1' h2 => ?_⟩
  · have := xb.k1 m z h1'
    rcases doH_look c b m with q | ⟨t, y, _, q, _⟩
    · rw [q]; exact this
    · rw [this] at q; cases q
  · rcases doH_look c b m with q | ⟨t, y, q1, _, _⟩
    · rw [q] at h2
      exact xb.k2 m z h1' h2
    · subst q1
      have e : t = (T' : Int) := e
      have := c.lt
      rw [← x.late] at this
      omega
end IC
namespace IC
open PySem L2
section
variable {X : Cx} {K : PySem.W.Frag}
theorem op_inDK (hu : X.A.units + 65 < cLine) (hK : X.K = K := by rfl) : OpR X (compareOp .In) (rInD K) := by subst hK; exact op_inD hu
theorem op_notInDK (hu : X.A.units + 65 < cLine) (hK : X.K = K := by rfl) : OpR X (compareOp .NotIn) (rNotInD K) := by subst hK; exact op_notInD hu
theorem hu65 {k : Nat} {A : Around} (r : Room k A) : A.units + 65 < cLine := by have := r.un; omega
end
section
variable {P : Program} {w : World} {K : PySem.W.Frag} {mg : Str → Option Value} {base : Heap} {dI C : Addr}
/-- where the row turns -/
theorem Both.row {H H' : Hp} {p L : Addr} {ds : List Addr} {h : Hs} {q L' : Addr} {ds' : List Addr} {m : Ms} {r a : Addr} {ns : List Int} (b : Both C H p L ds h q L' ds' m) (s : Keeps [r] H H') (hr : RowAt K H r a ns) (nL : L ≠ r) (nL' : L' ≠ r) : Both C H' p L ds h q L' ds' m := by
  obtain ⟨i, y, x, e, _⟩ := hr
  exact b.keeps s e (.inr ⟨i, rfl⟩) nL nL'
theorem fps_lst {H : Hp} {p L : Addr} {ds : List Addr} {h : Hs} {q L' : Addr} {ds' : List Addr} {m : Ms} (b : Both C H p L ds h q L' ds' m) {c : Addr} {o : HO} (hc : H c = some o) (h1 : ∀ C dx fs, o ≠ .ins C dx fs) (h2 : ∀ kv, o ≠ .dK kv) : c ∉ fps p ds q ds' := by
  unfold fps
  intro hm
  rcases List.mem_append.mp hm with hm | hm
  · rcases List.mem_cons.mp hm with rfl | hm
    · obtain ⟨dx, e⟩ := b.ha.ob
      rw [hc] at e
      exact h1 _ _ _ (Option.some.inj e)
    · obtain ⟨kv, e⟩ := b.ha.kn.mem hm
      rw [hc] at e
      exact h2 _ (Option.some.inj e)
  · rcases List.mem_cons.mp hm with rfl | hm
    · rw [b.ma.ob] at hc
      exact h2 _ (Option.some.inj hc).symm
    · obtain ⟨kv, e⟩ := b.ma.kn.mem hm
      rw [hc] at e
      exact h2 _ (Option.some.inj e)
theorem Both.tupS {H H' : Hp} {p L : Addr} {ds : List Addr} {h : Hs} {q L' : Addr} {ds' : List Addr} {m : Ms} (b : Both C H p L ds h q L' ds' m) (k : Keeps (fps p ds q ds') H H') : TupS H H' :=
  fun c xs e => k c _ e (fps_lst b e (by intro _ _ _ z; cases z) (by intro _ z; cases z))
theorem Both.lst {H H' : Hp} {p L : Addr} {ds : List Addr} {h : Hs} {q L' : Addr} {ds' : List Addr} {m : Ms} (b : Both C H p L ds h q L' ds' m) (k : Keeps (fps p ds q ds') H H') {c : Addr} {xs : List V} (e : H c = some (.lst xs)) : H' c = some (.lst xs) :=
  k c _ e (fps_lst b e (by intro _ _ _ z; cases z) (by intro _ z; cases z))
theorem Both.rowAt {H H' : Hp} {p L : Addr} {ds : List Addr} {h : Hs} {q L' : Addr} {ds' : List Addr} {m : Ms} {r a : Addr} {ns : List Int} (b : Both C H p L ds h q L' ds' m) (k : Keeps (fps p ds q ds') H H') (hr : RowAt K H r a ns) : RowAt K H' r a ns := by
  obtain ⟨i, y, x, e, hi, hs⟩ := hr
  refine ⟨i, y, x, b.lst k e, hi, ?_⟩
  rcases hs with (h' | ⟨u, h'⟩) | h'
  · exact .inl (.inl (b.lst k h'))
  · exact .inl (.inr ⟨u, k _ _ h' (fps_lst b h' (by intro _ _ _ z; cases z) (by intro _ z; cases z))⟩)
  · exact .inr h'
theorem cut_to {xs : List V} {c : Int} (h0 : 0 ≤ c) (h1 : c ≤ xs.length) : cutV xs none (some c) = xs.take c.toNat := by
  obtain ⟨k, rfl⟩ := Int.eq_ofNat_of_zero_le h0
  unfold cutV
  rw [HT.sIx_none, HT.sIx_nat, List.drop_zero, Int.toNat_natCast, show min k xs.length - 0 = k by omega]
theorem cut_from {xs : List V} {c : Int} (h0 : 0 ≤ c) (h1 : c ≤ xs.length) : cutV xs (some c) none = xs.drop c.toNat := by
  obtain ⟨k, rfl⟩ := Int.eq_ofNat_of_zero_le h0
  unfold cutV
  rw [HT.sIx_none, HT.sIx_nat, Int.toNat_natCast, show min k xs.length = k by omega]
  exact List.take_of_length_le (by rw [List.length_drop]; exact Nat.le_refl _)
theorem tups_take {H : Hp} : ∀ {xs : List V} {ds : List (List V)} (k : Nat), TupsAt H xs ds → TupsAt H (xs.take k) (ds.take k)
  | _, _, 0, _ => .nil
  | _, _, _ + 1, .nil => .nil
  | _, _, k + 1, .cons r t => .cons r (tups_take k t)
theorem tups_drop {H : Hp} : ∀ {xs : List V} {ds : List (List V)} (k : Nat), TupsAt H xs ds → TupsAt H (xs.drop k) (ds.drop k)
  | _, _, 0, h => h
  | _, _, _ + 1, .nil => .nil
  | _, _, k + 1, .cons _ t => tups_drop k t
theorem shaped_tup {d : List V} (h : ∀ v ∈ d, okV v = true) : SeqAt.shaped (tupD d) = true := by
  unfold SeqAt.shaped
  have e : (tupD d).depth = 1 := by
    unfold tupD
    rw [PyData.depth, dep_flats]
  rw [e]
  unfold tupD
  rw [PyData.canLay0, lay_flats h]
  rfl
theorem eqv_tup {d : List V} (h : ∀ v ∈ d, okV v = true) : PyData.eqv (tupD d) (tupD d) = true := SeqAt.eqv_refl _ (by
  unfold tupD
  rw [PyData.canLay0]
  exact lay_flats h)
theorem sq_keepsN {H H' : Hp} {a : Addr} {xs : List V} {fp : List Addr} (h : SqL K H a xs) (k : Keeps fp H H') (n : ∀ c ∈ fp, H c = none) : SqL K H' a xs := by
  rcases h with (h | ⟨u, h⟩) | h
  · exact .inl (.inl (k _ _ h (fun z => by have := n _ z; rw [h] at this; cases this)))
  · exact .inl (.inr ⟨u, k _ _ h (fun z => by have := n _ z; rw [h] at this; cases this)⟩)
  · exact .inr h
theorem RowAt.keepsN {H H' : Hp} {r a : Addr} {ns : List Int} {fp : List Addr} (h : RowAt K H r a ns) (k : Keeps fp H H') (n : ∀ c ∈ fp, H c = none) : RowAt K H' r a ns := by
  obtain ⟨i, m, x, e, hi, hs⟩ := h
  exact ⟨i, m, x, k _ _ e (fun z => by have := n _ z; rw [e] at this; cases this), hi, sq_keepsN hs k n⟩
/-- what a def leaves that made an object at x and wrote at it alone -/
theorem Same.ofNew {H H1 H' : Hp} {fp : List Addr} (s : Same H H1) (k : Keeps fp H1 H') (n : ∀ c ∈ fp, H c = none) : Same H H' := fun a o e => k a o (s a o e) (fun z => by have := n _ z; rw [e] at this; cases this)
/-- a new house beside what the law keeps of it -/
theorem Both.start {H H' : Hp} {x L q L' : Addr} {ds ds' : List Addr} {m : Ms} {n : Nat} {late lost : Int} (ha : HouseAt C H' x L ds (newHs n late lost)) (ma : MAt H q L' ds' m) (s : Same H H') (nd : ∀ d ∈ ds, H d = none) (hk : m.kns = List.replicate n []) (hl : m.late = late) (ho : m.lost = lost) (ht : m.time = 0) :
    Both C H' x L ds (newHs n late lost) q L' ds' m :=
  ⟨ha, ma.same s, (fun d h1 h2 => by
    obtain ⟨kv, e⟩ := ma.kn.mem h2
    rw [nd d h1] at e
    exact nomatch e), hk, hl, ho, ht, .inl rfl, rfl⟩
/-- the deeds of a list, one by one -/
theorem for_play {a p q L L' : Addr} {ds ds' : List Addr} {xs : List V} {fl : List Deed} {j : Nat} {tb : TS} {D : Ends} {σ : St} {H : Hp} {h : Hs} {m : Ms} {T n : Nat} {late lost most : Int} {done rest : List Deed}
    (b : Both C H p L ds h q L' ds' m) (hl : H a = some (.lst xs)) (tx : TupsAt H xs (fl.map Deed.vs)) (pl : PlayI n late lost done h T) (ok : DeedsOk n late most (done ++ fl ++ rest)) (hm : most ≤ 60)
    (h0 : ∃ o, σ = σ.set j o)
    (hb : ∀ (D : Ends) (c : Addr) (H : Hp), sp_do C [.ref p, .ref q, .ref c] H (fun _ H' => D.nx (σ.set j (some (.ref c))) H') C8.E0 → tb D (σ.set j (some (.ref c))) H)
    (k : ∀ (o : Option V) (H' : Hp) (h' : Hs) (m' : Ms) (T' : Nat), Both C H' p L ds h' q L' ds' m' → PlayI n late lost (done ++ fl) h' T' → Keeps (fps p ds q ds') H H' → T ≤ T' → ExtH h h' T T' → D.nx (σ.set j o) H') :
    ∃ W : Nat → Nat → St → Hp → Prop, (∃ m, W 0 m σ H) ∧ ∀ i m σ H, W i m σ H →
      ((Itl K a).stop i H ∧ D.nx σ H) ∨ ((Itl K a).go i H ∧ ∃ N : St → Hp → Prop, (∀ σ' H', N σ' H' → ∃ m', m' < m ∧ W (i + 1) m' σ' H') ∧ ∀ x H', (Itl K a).yld i H x H' → gName j x σ H' fun σ2 H2 => tb { D with nx := N, ct := N, bk := D.nx } σ2 H2) := by
  have hlen : xs.length = fl.length := by have := tx.length; rw [List.length_map] at this; exact this
  refine for_list (K := K) (a := a) (xs := xs) (fun i σ' H' => ∃ (o : Option V) (h' : Hs) (m' : Ms) (T' : Nat), σ' = σ.set j o ∧ Both C H' p L ds h' q L' ds' m' ∧ PlayI n late lost (done ++ fl.take i) h' T' ∧ Keeps (fps p ds q ds') H H' ∧ T ≤ T' ∧ ExtH h h' T T')
    (let ⟨o, e⟩ := h0; ⟨o, h, m, T, e, b, by rw [List.take_zero, List.append_nil]; exact pl, Keeps.refl _ _, Nat.le_refl _, ExtH.refl⟩) (fun i σ' H' _ ⟨_, _, _, _, _, _, _, kk, _, _⟩ => SqL.of (b.lst kk hl)) ?_ ?_
  · rintro i x σ' H' hi ⟨o, h', m', T', rfl, b', pl', kk, tt, ex⟩
    obtain ⟨d, hd, c, rfl, hc⟩ := Paired.getL tx hi
    rw [List.getElem?_map] at hd
    obtain ⟨e, he, rfl⟩ := Option.map_eq_some_iff.mp hd
    have il : i < fl.length := (List.getElem?_eq_some_iff.mp he).1
    have split : fl = fl.take i ++ e :: fl.drop (i + 1) := by
      have h1 := (List.take_append_drop i fl).symm
      rw [List.drop_eq_getElem_cons il] at h1
      have : fl[i] = e := (List.getElem?_eq_some_iff.mp he).2
      rw [this] at h1
      exact h1
    have can : CanDo h' e := pl'.can (rest := fl.drop (i + 1) ++ rest) (by
      have z : done ++ fl.take i ++ e :: (fl.drop (i + 1) ++ rest) = done ++ fl ++ rest := by
        conv => rhs; rw [split]
        simp
      rw [z]
      exact ok) hm
    obtain ⟨T2, hT, eT, pl2⟩ := pl'.step can
    show tb _ ((σ.set j o).set j (some (.ref c))) H'
    rw [List.set_set]
    refine hb _ c H' ⟨p, L, ds, h', q, L', ds', m', c, e, rfl, b', b.tupS kk _ _ hc, can, fun H2 b2 k2 => ?_⟩
    refine ⟨_, _, _, T2, rfl, b2, ?_, kk.trans k2, by omega, ex.step tt hT eT can⟩
    rw [List.take_succ, he, Option.toList_some, ← List.append_assoc]
    exact pl2
  · rintro σ' H' ⟨o, h', m', T', rfl, b', pl', kk, tt, ex⟩
    rw [hlen, List.take_length] at pl'
    exact k o H' h' m' T' b' pl' kk tt ex
end
end IC
namespace IC
open PySem L2
section
variable {P : Program} {w : World} {K : PySem.W.Frag} {mg : Str → Option Value} {base : Heap} {dI C : Addr}
/-- what is promised of a house that was built, with what the law keeps of it -/
structure Built (C : Addr) (H H' : Hp) (p L : Addr) (ds : List Addr) (h : Hs) (q L' : Addr) (ds' : List Addr) (m : Ms) (n T : Nat) (most : Int) (fl : List Deed) : Prop where
  b : Both C H' p L ds h q L' ds' m
  n1 : 1 ≤ n
  la0 : 0 ≤ h.late
  la9 : h.late ≤ 9
  lo0 : 0 ≤ h.lost
  lo6 : h.lost ≤ 6
  ok : DeedsOk n h.late most fl
  pl : PlayI n h.late h.lost fl h T
  np : H p = none
  nL : H L = none
  nds : ∀ d ∈ ds, H d = none
  nq : H q = none
  nL' : H L' = none
  nds' : ∀ d ∈ ds', H d = none
theorem Built.len {H H' : Hp} {p L : Addr} {ds : List Addr} {h : Hs} {q L' : Addr} {ds' : List Addr} {m : Ms} {n T : Nat} {most : Int} {fl : List Deed} (b : Built C H H' p L ds h q L' ds' m n T most fl) : h.kns.length = n := b.pl.len
theorem Built.tm {H H' : Hp} {p L : Addr} {ds : List Addr} {h : Hs} {q L' : Addr} {ds' : List Addr} {m : Ms} {n T : Nat} {most : Int} {fl : List Deed} (b : Built C H H' p L ds h q L' ds' m n T most fl) (hm : 0 ≤ most) : (T : Int) ≤ most := by
  rcases b.pl.tm with z | ⟨d, hd, e⟩
  · omega
  · rw [← e]
    exact (b.ok.ok d hd).2
def sp_built (K : PySem.W.Frag) (C : Addr) : Sp := fun vs H Q _ => ∃ (r a : Addr) (ns : List Int) (badges most : Int), vs = [.ref r, .int badges, .int most] ∧ RowAt K H r a ns ∧ 1 ≤ badges ∧ badges ≤ 6 ∧ 1 ≤ most ∧ most ≤ 40 ∧
  ∀ (t : Addr) (H' : Hp) (p L : Addr) (ds : List Addr) (h : Hs) (q L' : Addr) (ds' : List Addr) (m : Ms) (n T : Nat) (fl : List Deed), Built C H H' p L ds h q L' ds' m n T most fl → (n : Int) ≤ badges → H' t = some (.tup [.ref p, .ref q]) → RowAt K H' r a ns → Keeps [r] H H' → H t = none → Q (.ref t) H'
theorem sc__law_built : FnScope ["_law_row", "_law_badges", "_law_most", "_law_m", "_law_house", "_law_deed"] ["_law_row", "_law_badges", "_law_most"] (defScope s__law_built) := ⟨rfl, rfl, rfl, by decide +kernel, rfl, by decide +kernel, by decide +kernel⟩
theorem ok_built {f : Addr} {fd : FuncData} (F : Fun K "_law_built" "_law_built" s__law_built f fd) (G : Glb K w mg dI) (c__law_fresh : C8.Cal P w K mg base 2 "_law_fresh" (sp_fresh K) []) (c_House : C8.Mak P w K mg base 1 "House" C (sp_init C) [])
    (c__law_deeds : C8.Cal P w K mg base 2 "_law_deeds" (sp_deeds K) []) (c__law_do : C8.Cal P w K mg base 6 "_law_do" (sp_do C) []) : FnOk P w K mg base CX0 7 f fd ["_law_row", "_law_badges", "_law_most"] (sp_built K C) := by
  refine F.ok sc__law_built (fun vs H Q E h => ?_) (fun cdv A outer s H vs Q E hr h => ?_)
  · obtain ⟨r, a, ns, badges, most, rfl, _⟩ := h
    rfl
  · obtain ⟨r, a, ns, badges, most, rfl, row2, b1, b6, m1', m40, q⟩ := h
    have hu := hu_of hr
    refine ⟨_, (pss_cons (ps_set (i := 3) sc__law_built.nd rfl (Or.inl rfl) (C8.pe_c c__law_fresh hr (by decide) rfl (pa_cons (pv 0) (pa_cons (pv 1) pa_nil))))
      (pss_cons (ps_set (i := 4) sc__law_built.nd rfl (Or.inl rfl) (C8.pe_mk c_House hr (by decide) rfl (pa_cons (pe_callB call_len_seq (by rfl) G.len (by decide +kernel) (pa_cons (pe_dget hu (pv 3) pe_str (fun _ _ => rfl)) pa_nil)) (pa_cons (pe_dget hu (pv 3) pe_str (fun _ _ => rfl)) (pa_cons (pe_dget hu (pv 3) pe_str (fun _ _ => rfl)) pa_nil)))))
      (pss_cons (ps_for PassesOwn.never rfl (pi_list (C8.pe_c c__law_deeds hr (by decide) rfl (pa_cons (pv 0) (pa_cons (pv 3) (pa_cons (pv 2) pa_nil))))) (pg_name (i := 5) sc__law_built.nd rfl (Or.inl rfl))
        (pss_one (ps_expr (C8.pe_c c__law_do hr (by decide) rfl (pa_cons (pv 4) (pa_cons (pv 3) (pa_cons (pv 5) pa_nil)))))))
      (pss_one (ps_ret (pe_tup (pa_cons (pv 4) (pa_cons (pv 3) pa_nil)))))))), ?_⟩
    refine ⟨_, rfl, _, rfl, r, a, ns, badges, rfl, row2, b1, b6, fun q0 L' ds' m n H3 mt mk n1 n6 la0 la9 lo0 lo6 ma3 row3 k3 nq nL' nds' => ?_⟩
    obtain ⟨l0, y0, e0⟩ := row2.ne
    have nL'r : L' ≠ r := fun z => by rw [z, e0] at nL'; cases nL'
    have mlen : m.kns.length = n := by rw [mk, List.length_replicate]
    have dlen : ds'.length = n := by rw [ma3.kn.len, mlen]
    refine ⟨_, rfl, q0, _, rfl, ma3.g_known, L', _, rfl, .inl (SqL.of ma3.kn.lst), _, rfl, q0, _, rfl, ma3.g_late, _, rfl, q0, _, rfl, ma3.g_lost, fun x dx nx ndx ne => ?_⟩
    have s4 : Same H3 (upd (upd H3 dx (.own x)) x (.ins C dx [])) := fun b o e => by
      rw [upd_ne (ne_of_none e nx), upd_ne (ne_of_none e ndx)]
      exact e
    have hx4 : upd (upd H3 dx (.own x)) x (.ins C dx []) x = some (.ins C dx []) := upd_same
    generalize upd (upd H3 dx (.own x)) x (.ins C dx []) = H4 at *
    rw [List.length_map, dlen]
    refine ⟨x, dx, n, m.late, m.lost, rfl, hx4, n1, by omega, la0, la9, lo0, lo6, fun L ds H5 nL nds ha5 k5 => ⟨rfl, ?_⟩⟩
    have s5 : Same H3 H5 := Same.ofNew s4 k5 (by intro c hc; simp at hc; rw [hc]; exact nx)
    have b5 : Both C H5 x L ds (newHs n m.late m.lost) q0 L' ds' m := Both.start ha5 ma3 s5 (fun d hd => s4.free (nds d hd)) mk rfl rfl mt
    have row5 := row3.same s5
    obtain ⟨l3, y3, e3⟩ := row3.ne
    have nLr : L ≠ r := fun z => by rw [z, s4 _ _ e3] at nL; cases nL
    have nxr : x ≠ r := fun z => by rw [z, e3] at nx; cases nx
    have nxH : H x = none := k3.free (by simpa using nxr) nx
    have nLH : H L = none := k3.free (by simpa using nLr) (s4.free nL)
    have ndsH : ∀ d ∈ ds, H d = none := fun d hd => k3.free (by
      simp
      intro z
      have := s4.free (nds d hd)
      rw [z, e3] at this
      cases this) (s4.free (nds d hd))
    refine ⟨_, rfl, _, rfl, _, rfl, r, a, ns, q0, L', ds', m, most, rfl, row5, b5.ma, nL'r, la0, la9, m1', m40, fun pD xsD fl H6 dok npD hpD txD row6 k6 => ⟨pD, rfl, ⟨_, SqL.of hpD⟩, ?_⟩⟩
    rw [mlen] at dok
    have b6 := b5.row k6 row5 nLr nL'r
    refine for_play (K := K) (done := []) (rest := []) (most := most) b6 hpD txD (PlayI.start n m.late m.lost) (by rw [List.nil_append, List.append_nil]; exact dok) (by omega) ⟨_, rfl⟩ (fun D' c' H' hh => ⟨_, rfl, _, rfl, _, rfl, hh⟩) fun o7 H9 h1 m1 T1 b9 pl1 k9 _ _ => ?_
    rw [List.nil_append] at pl1
    have row9 : RowAt K H9 r a ns := b6.rowAt k9 row6
    have el := pl1.late
    have eo := pl1.lost
    refine ⟨_, rfl, _, rfl, sz (by simp), fun t nt => ?_⟩
    have s10 : Same H9 (upd H9 t (.tup [.ref x, .ref q0])) := Same.new nt
    have k06 : Keeps [r] H H6 := (k3.trans (.of_same s5)).trans k6
    have k09 : Keeps [r] H H9 := fun c o e hc => by
      have e6 := k06 c o e hc
      refine k9 c o e6 (fun hm => ?_)
      unfold fps at hm
      rcases List.mem_append.mp hm with hm | hm
      · rcases List.mem_cons.mp hm with z | hm
        · rw [z, nxH] at e; cases e
        · rw [ndsH c hm] at e; cases e
      · rcases List.mem_cons.mp hm with z | hm
        · rw [z, nq] at e; cases e
        · rw [nds' c hm] at e; cases e
    obtain ⟨l9, y9, e9⟩ := row9.ne
    have ntr : t ≠ r := fun z => by rw [z, e9] at nt; cases nt
    refine q t _ x L ds h1 q0 L' ds' m1 n T1 fl ⟨b9.same s10, n1, by omega, by omega, by omega, by omega, by rw [el]; exact dok, by rw [el, eo]; exact pl1, nxH, nLH, ndsH, nq, nL', nds'⟩ (by omega) upd_same (row9.same s10) (k09.trans (.of_same s10)) (k09.free (by simpa using ntr) nt)
end
end IC
namespace IC
open PySem L2
theorem shaped_flats {vs : List V} (h : ∀ v ∈ vs, okV v = true) : SeqAt.shaped (.list (vs.map fdat)) = true := by
  unfold SeqAt.shaped
  rw [PyData.canLay0, lay_flats h, PyData.depth, dep_flats]
  rfl
theorem rg_ok {a b : Int} : ∀ v ∈ rgV a b, okV v = true := by
  intro v hv
  obtain ⟨i, _, rfl⟩ := List.mem_map.mp hv
  rfl
/-- the moments between that are late enough -/
def openM (ahead late time : Int) (k : Nat) : List Nat := (List.range k).filter fun i => decide (time ≤ ahead + 1 + ((i : Nat) : Int) + late)
theorem openM_nil {ahead late time m : Int} (h : ahead < m) (h1 : ¬ m - ahead = 1) : (openM ahead late time (m - (ahead + 1)).toNat).isEmpty = isLost (m - 1) late time := by
  unfold openM isLost
  rw [Bool.eq_iff_iff, List.isEmpty_iff, decide_eq_true_eq, List.filter_eq_nil_iff]
  constructor
  · intro h2
    have := h2 ((m - (ahead + 1)).toNat - 1) (by rw [List.mem_range]; omega)
    rw [decide_eq_true_eq] at this
    omega
  · intro h2 i hi
    rw [List.mem_range] at hi
    rw [decide_eq_true_eq]
    omega
theorem btw_nil {ahead m : Int} (h : ahead < m) : (rgV (ahead + 1) m).isEmpty = decide (m - ahead = 1) := by
  unfold rgV
  rw [List.isEmpty_map, Bool.eq_iff_iff, List.isEmpty_iff, decide_eq_true_eq, List.range_eq_nil]
  omega
theorem word_at {st : Int} (h : st = 0 ∨ st = 1) : ∃ z : Str, atI [V.str "out", V.str "in"] st = some (.str z) ∧ ∀ y, Wd y → (decide (V.str z = V.str y) = decide (insOf y = st)) := by
  have io : insOf "out" = 0 := by decide +kernel
  have ii : insOf "in" = 1 := by decide +kernel
  rcases h with rfl | rfl
  · refine ⟨"out", rfl, fun y hy => ?_⟩
    rcases hy with rfl | rfl
    · rw [ii]; decide +kernel
    · rw [io]; decide +kernel
  · refine ⟨"in", rfl, fun y hy => ?_⟩
    rcases hy with rfl | rfl
    · rw [ii]; decide +kernel
    · rw [io]; decide +kernel
theorem word_in {y : Str} (h : Wd y) : (if decide (V.str y = V.str "in") = true then (1 : Int) else 0) = insOf y := by
  rcases h with rfl | rfl <;> decide +kernel
section
variable {P : Program} {w : World} {K : PySem.W.Frag} {mg : Str → Option Value} {base : Heap} {dI C : Addr}
/-- m as it stands: its time, its rows -/
structure MOk (m : Ms) (T : Nat) : Prop where
  tm : m.time = T
  le : T ≤ 60
  kn : ∀ k ∈ m.kns, KnT k T
theorem Both.mok {H : Hp} {p L : Addr} {ds : List Addr} {h : Hs} {q L' : Addr} {ds' : List Addr} {m : Ms} {T : Nat} (b : Both C H p L ds h q L' ds' m) (o : HsOk h T) : MOk m T := ⟨by rw [b.time]; exact o.tm.now, o.tm.le, by rw [b.kn]; exact o.kn⟩
/-! ### _law_wants -/
def sp_lwants : Sp := fun vs H Q _ => ∃ (q L : Addr) (ds : List Addr) (m : Ms) (T : Nat), vs = [.ref q] ∧ MAt H q L ds m ∧ MOk m T ∧
  ∀ (a : Addr) (xs : List V) (H' : Hp), Same H H' → H a = none → H' a = some (.lst xs) → TupsAt H' xs ((allWants m.kns m.late m.time).map Want.vs) → Q (.ref a) H'
theorem sc__law_wants : FnScope ["_law_m", "_law_found", "_law_badge", "_law_state", "_law_ahead", "_law_moment", "_law_word", "_law_between", "_law_some", "_law_one"] ["_law_m"] (defScope s__law_wants) := ⟨rfl, rfl, rfl, by decide +kernel, rfl, by decide +kernel, by decide +kernel⟩
theorem ok_lwants {f : Addr} {fd : FuncData} (F : Fun K "_law_wants" "_law_wants" s__law_wants f fd) (G : Glb K w mg dI) : FnOk P w K mg base CX0 1 f fd ["_law_m"] sp_lwants := by
  refine F.ok sc__law_wants (fun vs H Q E h => ?_) (fun cdv A outer s H vs Q E hr h => ?_)
  · obtain ⟨q, L, ds, m, T, rfl, _⟩ := h
    rfl
  · obtain ⟨q0, L, ds, m, T, rfl, ma, mo, q⟩ := h
    have hu := hu_of hr
    have htm := mo.tm
    have hT := mo.le
    have few := ma.kn.few
    refine ⟨_, (pss_cons (ps_set (i := 1) sc__law_wants.nd rfl (Or.inl rfl) (pe_lst pa_nil))
      (pss_cons (ps_for PassesOwn.never rfl (pi_range1 rfl G.range (pa_cons (pe_callB call_len_seq (by rfl) G.len (by decide +kernel) (pa_cons (pe_dget hu (pv 0) pe_str (fun _ _ => rfl)) pa_nil)) pa_nil)) (pg_name (i := 2) sc__law_wants.nd rfl (Or.inl rfl))
        (pss_cons (ps_set (i := 3) sc__law_wants.nd rfl (Or.inl rfl) pe_int)
          (pss_cons (ps_set (i := 4) sc__law_wants.nd rfl (Or.inl rfl) pe_int)
          (pss_one (ps_for PassesOwn.never rfl (pi_range2 rfl G.range (pa_cons pe_int (pa_cons (pe_op op_add (pe_dget hu (pv 0) pe_str (fun _ _ => rfl)) pe_int) pa_nil))) (pg_name (i := 5) sc__law_wants.nd rfl (Or.inl rfl))
            (pss_cons (ps_set (i := 6) sc__law_wants.nd rfl (Or.inl rfl) (pe_dget1 hu (pe_ix ix_list (pe_dget hu (pv 0) pe_str (fun _ _ => rfl)) (pv 2) (fun _ _ => rfl)) (pv 5) ⟨rfl, rfl, rfl, rfl⟩))
              (pss_one (ps_if (pt_cmpR op_notN (pv 6) pe_non (nomark _))
                (pss_cons (ps_set (i := 7) sc__law_wants.nd rfl (Or.inl rfl) (pe_listRg rfl rfl G.list (prg_2 rfl G.range (pe_op op_add (pv 4) pe_int) (pv 5))))
                  (pss_cons (ps_setLc (i := 8) (own := [("_law_one", 9)]) (g := gName 9) rfl sc__law_wants.nd rfl rfl (sw_true rfl rfl rfl (by decide +kernel)) (pi_list (pv 7)) (blkOk_by (own := [("_law_one", 9)]) (N := ["_law_m", "_law_found", "_law_badge", "_law_state", "_law_ahead", "_law_moment", "_law_word", "_law_between", "_law_some", "_law_one"]) (sc := defScope s__law_wants) (by decide +kernel)) (fun _ _ _ _ _ => (pg_name (i := 9) sc__law_wants.nd rfl (Or.inl rfl))) (fun _ _ _ _ _ => (pts_one (pt_cmpR op_ge (pe_op op_add (pv 9) (pe_dget hu (pv 0) pe_str (fun _ _ => rfl))) (pe_dget hu (pv 0) pe_str (fun _ _ => rfl)) (nomark _)))) (fun _ _ _ _ _ => (pv 9)))
                  (C8.pss_cut (ps_if (PW.pt (pw_and (pt_cmpR op_eq (pe_ix ix_list (pe_lst (pa_cons pe_str (pa_cons pe_str pa_nil))) (pv 3) (fun _ _ => rfl)) (pv 6) (nomark _)) (pw_and1 (PW.pt (pw_or (pt_cmpR (op_eqD hr.units) (pv 7) (pe_lst pa_nil) (nomark _)) (pw_or1 (pt_cmpR (op_eqD hr.units) (pv 8) (pe_lst pa_nil) (nomark _))))))))
                    (pss_one (ps_expr (pe_bm PySem.F.plainAttrs_list PySem.F.slot_list_append PySem.F.type_list_append mt_append (pv 1) (pa_cons (pe_tup (pa_cons (pv 2) (pa_cons (pv 4) (pa_cons (pv 5) (pa_cons (pe_ix ix_list (pe_lst (pa_cons pe_str (pa_cons pe_str pa_nil))) (pe_callTy call_int1 (by rfl) G.int (by decide +kernel) (pa_cons (pe_cmpR (op_eqD hr.units) (pv 7) (pe_lst pa_nil) (nomark _)) pa_nil)) (fun _ _ => rfl)) pa_nil))))) pa_nil))))
                    pss_nil)
                  (pss_cons (ps_set (i := 3) sc__law_wants.nd rfl (Or.inl rfl) (pe_callTy call_int1 (by rfl) G.int (by decide +kernel) (pa_cons (pe_cmpR op_eq (pv 6) pe_str (nomark _)) pa_nil)))
                  (pss_one (ps_set (i := 4) sc__law_wants.nd rfl (Or.inl rfl) (pv 5)))))))
                pss_nil))))))))
      (pss_one (ps_ret (pv 1))))), ?_⟩
    refine ⟨sz (by simp), fun p np => ?_⟩
    have s1 : Same H (upd H p (.lst [])) := Same.new np
    refine ⟨_, rfl, q0, _, rfl, (ma.same s1).g_known, L, _, rfl, .inl (SqL.of (ma.same s1).kn.lst), _, rfl, by omega, by rw [List.length_map, ma.kn.len]; omega, ?_⟩
    rw [List.length_map, ma.kn.len, Int.toNat_natCast]
    refine for_range0 (n := m.kns.length) (fun i σ H2 => ∃ (xs : List V) (o2 o3 o4 o5 o6 o7 o8 o9 : Option V), σ = [some (.ref q0), some (.ref p), o2, o3, o4, o5, o6, o7, o8, o9] ∧
        Same H H2 ∧ H2 p = some (.lst xs) ∧ TupsAt H2 xs ((awTo m.kns m.late m.time i).map Want.vs)) ⟨[], none, none, none, none, none, none, none, none, rfl, s1, upd_same, .nil⟩ ?_ ?_
    · rintro i σ H2 hi ⟨xs0, o2, o3, o4, o5, o6, o7, o8, o9, rfl, sH, hp, hx0⟩
      obtain ⟨ek, hkm⟩ := getD_mem hi
      obtain ⟨d, hd, hdk⟩ := Paired.get ma.kn.at_ ek
      have kt := mo.kn _ hkm
      have hlen0 := awTo_len ma.kn.ok m.late m.time i (by omega)
      have hxl0 : xs0.length = (awTo m.kns m.late m.time i).length := by have := hx0.length; rw [List.length_map] at this; exact this
      generalize hkn : m.kns.getD i [] = kn at *
      have m2 := ma.same sH
      refine ⟨_, rfl, q0, _, rfl, m2.g_time, _, _, rfl, rfl, 1, m.time + 1, rfl, ⟨by omega, by omega, by omega, by omega⟩, ?_⟩
      rw [show (m.time + 1 - 1).toNat = T by omega]
      refine for_range (lo := 1) (n := T) (fun j σ H3 => ∃ (xs : List V) (o5 o6 o7 o8 o9 : Option V), σ = [some (.ref q0), some (.ref p), some (.int (i : Int)), some (.int (wmTo i kn m.late m.time j).state), some (.int (wmTo i kn m.late m.time j).ahead), o5, o6, o7, o8, o9] ∧
          Same H H3 ∧ H3 p = some (.lst xs) ∧ TupsAt H3 xs ((awTo m.kns m.late m.time i ++ (wmTo i kn m.late m.time j).found).map Want.vs))
        ⟨xs0, _, _, _, _, _, rfl, sH, hp, by rw [show (wmTo i kn m.late m.time 0).found = [] from rfl, List.append_nil]; exact hx0⟩ ?_ ?_
      · rintro j σ H3 hj ⟨xs, o5, o6, o7, o8, o9, rfl, s3, hp3, hx3⟩
        rw [show (1 : Int) + (j : Int) = ((j + 1 : Nat) : Int) by push_cast; omega]
        have I := wi i kn m.late m.time j
        have stp := wmTo_succ i kn m.late m.time j
        generalize wmTo i kn m.late m.time j = S at *
        have Il := I.len
        have hxl : xs.length = (awTo m.kns m.late m.time i).length + S.found.length := by have := hx3.length; rw [List.length_map, List.length_append] at this; exact this
        have m3 := ma.same s3
        have hdk3 := s3 _ _ hdk
        have hg : DGet H3 d (.int ((j + 1 : Nat) : Int)) ((lookK kn ((j + 1 : Nat) : Int)).map V.str) := by
          have e : DGet H3 d (kV (Sum.inl ((j + 1 : Nat) : Int))) (valV (encK kn) (Sum.inl ((j + 1 : Nat) : Int))) := DGet.k hdk3
          rw [valV_enc] at e
          exact e
        refine ⟨_, rfl, q0, _, rfl, m3.g_known, _, rfl, L, _, _, .ref d, rfl, rfl, SqL.of m3.kn.lst, atI_nat (by rw [List.getElem?_map, hd]; rfl), d, rfl, .inl ⟨_, .inl hdk3⟩, _, rfl, _, hg, ?_⟩
        cases e : lookK kn ((j + 1 : Nat) : Int) with
        | none =>
          refine ⟨_, rfl, rfl, _, rfl, iteF ⟨xs, some (.int ((j + 1 : Nat) : Int)), some .non, o7, o8, o9, ?_, s3, hp3, ?_⟩⟩
          · rw [stp]
            unfold wstepM
            rw [e]
            rfl
          · rw [stp]
            unfold wstepM
            rw [e]
            exact hx3
        | some z =>
          have wz : Wd z := by
            obtain ⟨y, h1, h2⟩ := kt.ok.look (look_iff.mp (by rw [e]; rfl))
            rw [e] at h1
            cases h1
            exact h2
          have hst : wmTo i kn m.late m.time (j + 1) = wstep i kn m.late m.time S ((j + 1 : Nat) : Int) := by
            rw [stp]
            unfold wstepM
            rw [e]
            exact if_pos rfl
          have ez : insOf ((lookK kn ((j + 1 : Nat) : Int)).getD "") = insOf z := by rw [e]; rfl
          have alt : S.ahead < ((j + 1 : Nat) : Int) := by have := I.a1; push_cast; omega
          have a0 := I.a0
          have a1 := I.a1
          generalize hmm : ((j + 1 : Nat) : Int) = mm at *
          refine ⟨_, rfl, rfl, _, rfl, iteT ?_⟩
          -- between
          refine ⟨_, rfl, _, _, rfl, rfl, _, rfl, _, _, rfl, rfl, RgOk.of_le (by omega) (by omega) (by omega) (by omega), fun bA nb => ?_⟩
          have s4 : Same H3 (upd H3 bA (.lst (rgV (S.ahead + 1) mm))) := Same.new nb
          have hb4 : upd H3 bA (.lst (rgV (S.ahead + 1) mm)) bA = some (.lst (rgV (S.ahead + 1) mm)) := upd_same
          generalize upd H3 bA (.lst (rgV (S.ahead + 1) mm)) = H4 at *
          -- some
          refine ⟨_, rfl, bA, rfl, ⟨_, SqL.of hb4⟩, fun D nD => ?_⟩
          refine lc_over (K := K) (enc := fun i : Nat => V.int (S.ahead + 1 + (i : Nat))) (l := List.range (mm - (S.ahead + 1)).toNat) (fun i => decide (m.time ≤ S.ahead + 1 + ((i : Nat) : Int) + m.late)) (fun i => V.int (S.ahead + 1 + (i : Nat))) (SqL.of hb4) nD (by rw [List.length_range]; omega) (fun _ => rfl) (fun x _ => ?_) (fun x _ _ => GivesV.var rfl) fun H5 s5 hD => ?_
          · intro H5 s5 Q5 q5
            have m5 := (m3.same s4).same s5
            exact ⟨_, rfl, _, rfl, q0, _, rfl, m5.g_late, _, _, rfl, rfl, _, rfl, q0, _, rfl, m5.g_time, _, _, rfl, rfl, _, rfl, q5 H5 (Same.refl _)⟩
          have hD' : H5 D = some (.lst ((openM S.ahead m.late m.time (mm - (S.ahead + 1)).toNat).map fun i : Nat => V.int (S.ahead + 1 + (i : Nat)))) := hD
          have okS : ∀ v ∈ (openM S.ahead m.late m.time (mm - (S.ahead + 1)).toNat).map (fun i : Nat => V.int (S.ahead + 1 + (i : Nat))), okV v = true := by
            intro v hv
            obtain ⟨i, _, rfl⟩ := List.mem_map.mp hv
            rfl
          have s35 : Same H H5 := (s3.trans s4).trans s5
          have hp5 := s5 _ _ (s4 _ _ hp3)
          have hb5 := s5 _ _ hb4
          have hx5 := hx3.mono (TupS.of_same (s4.trans s5))
          clear hD
          -- the if
          refine ⟨fun σ H6 => ∃ (xs : List V), σ = [some (.ref q0), some (.ref p), some (.int (i : Int)), some (.int S.state), some (.int S.ahead), some (.int mm), some (.str z), some (.ref bA), some (.ref D), o9] ∧
            Same H H6 ∧ H6 p = some (.lst xs) ∧ TupsAt H6 xs ((awTo m.kns m.late m.time i ++ (wstep i kn m.late m.time S mm).found).map Want.vs), ?_, ?_⟩
          · obtain ⟨y, hy, hyz⟩ := word_at I.st
            refine ⟨sz (by simp), fun pl npl => ⟨_, rfl, pl, _, _, _, rfl, rfl, SqL.of upd_same, hy, _, rfl, rfl, _, rfl, ?_⟩⟩
            have s6 : Same H5 (upd H5 pl (.lst [.str "out", .str "in"])) := Same.new npl
            generalize upd H5 pl (.lst [.str "out", .str "in"]) = H6 at *
            by_cases h1 : insOf z = S.state
            · refine ifT ((hyz z wz).trans (decide_eq_true h1)) ?_
              have app : ∀ (wd : Str) (H7 : Hp) (t : Addr), Same H5 H7 → H7 t = none → (wstep i kn m.late m.time S mm).found = S.found ++ [⟨i, S.ahead, mm, wd⟩] →
                  ∃ xs' : List V, Same H (upd (upd H7 t (.tup [.int (i : Int), .int S.ahead, .int mm, .str wd])) p (.lst (xs ++ [.ref t]))) ∧ upd (upd H7 t (.tup [.int (i : Int), .int S.ahead, .int mm, .str wd])) p (.lst (xs ++ [.ref t])) p = some (.lst xs') ∧
                    TupsAt (upd (upd H7 t (.tup [.int (i : Int), .int S.ahead, .int mm, .str wd])) p (.lst (xs ++ [.ref t]))) xs' ((awTo m.kns m.late m.time i ++ (wstep i kn m.late m.time S mm).found).map Want.vs) := by
                intro wd H7 t s7 nt ef
                have hp7 := s7 _ _ hp5
                have ntp : t ≠ p := fun z => by rw [z, hp7] at nt; cases nt
                have t3 : TupS H5 (upd (upd H7 t (.tup [.int (i : Int), .int S.ahead, .int mm, .str wd])) p (.lst (xs ++ [.ref t]))) :=
                  TupS.upd (TupS.of_same (s7.trans (Same.new nt))) (by rw [upd_ne ntp.symm, hp7]; intro xs z; cases z)
                refine ⟨_, Same.mut ((s35.trans s7).trans (Same.new nt)) np, upd_same, ?_⟩
                rw [ef, ← List.append_assoc, List.map_append]
                exact Paired.append (hx5.mono t3) (.cons ⟨t, rfl, by rw [upd_ne ntp, upd_same]; rfl⟩ .nil)
              refine ⟨_, rfl, sz (by simp), fun e1 ne1 => ⟨.list ((rgV (S.ahead + 1) mm).map fdat), .list [], .lst (SqL.of ((s6.trans (Same.new ne1)) _ _ hb5)) (dp_flats rg_ok), dp_nil upd_same, shaped_flats rg_ok, shaped_nil, _, rfl, ?_⟩⟩
              have s7 : Same H5 (upd H6 e1 (.lst [])) := s6.trans (Same.new ne1)
              generalize upd H6 e1 (.lst []) = H7 at *
              by_cases h2 : mm - S.ahead = 1
              · refine ifT (by rw [eqv_nil, List.isEmpty_map, btw_nil alt]; exact decide_eq_true h2) (iteT ?_)
                refine ⟨_, rfl, .inl ⟨rfl, _, SqL.of (s7 _ _ hp5)⟩, _, rfl, _, rfl, _, rfl, sz (by simp), fun l2 nl2 => ?_⟩
                have s8 : Same H7 (upd H7 l2 (.lst [.str "lost", .str "twice"])) := Same.new nl2
                have hl2 : upd H7 l2 (.lst [.str "lost", .str "twice"]) l2 = some (.lst [.str "lost", .str "twice"]) := upd_same
                generalize upd H7 l2 (.lst [.str "lost", .str "twice"]) = H8 at *
                refine ⟨_, rfl, sz (by simp), fun e2 ne2 => ⟨.list ((rgV (S.ahead + 1) mm).map fdat), .list [], .lst (SqL.of (((s7.trans s8).trans (Same.new ne2)) _ _ hb5)) (dp_flats rg_ok), dp_nil upd_same, shaped_flats rg_ok, shaped_nil, ?_⟩⟩
                have s9 : Same H8 (upd H8 e2 (.lst [])) := Same.new ne2
                generalize upd H8 e2 (.lst []) = H9 at *
                rw [eqv_nil, List.isEmpty_map, btw_nil alt, decide_eq_true h2]
                have s59 : Same H5 H9 := (s7.trans s8).trans s9
                refine .inr ⟨_, rfl, l2, _, _, .str "twice", rfl, rfl, SqL.of (s9 _ _ hl2), rfl, sz (by simp), fun t nt => ⟨p, xs, _, rfl, rfl, ?_, szl (by omega), ?_⟩⟩
                · rw [upd_ne (fun z => by rw [← z, s59 _ _ hp5] at nt; cases nt)]; exact s59 _ _ hp5
                · obtain ⟨xs', r⟩ := app "twice" H9 t s59 nt (by unfold wstep; simp only; rw [ez, if_pos h1, if_pos h2])
                  exact ⟨xs', rfl, r⟩
              · refine ifF (by rw [eqv_nil, List.isEmpty_map, btw_nil alt]; exact decide_eq_false h2) ?_
                refine ⟨_, rfl, sz (by simp), fun e3 ne3 => ⟨.list (((openM S.ahead m.late m.time (mm - (S.ahead + 1)).toNat).map fun i : Nat => V.int (S.ahead + 1 + (i : Nat))).map fdat), .list [], .lst (SqL.of ((s7.trans (Same.new ne3)) _ _ hD')) (dp_flats okS), dp_nil upd_same, shaped_flats okS, shaped_nil, _, rfl, ?_⟩⟩
                have s7' : Same H5 (upd H7 e3 (.lst [])) := s7.trans (Same.new ne3)
                generalize upd H7 e3 (.lst []) = H7' at *
                rw [eqv_nil, List.isEmpty_map, List.isEmpty_map, openM_nil alt h2]
                refine ite2 (fun h3 => ?_) (fun h3 => ?_)
                · refine ⟨_, rfl, .inl ⟨rfl, _, SqL.of (s7' _ _ hp5)⟩, _, rfl, _, rfl, _, rfl, sz (by simp), fun l2 nl2 => ?_⟩
                  have s8 : Same H7' (upd H7' l2 (.lst [.str "lost", .str "twice"])) := Same.new nl2
                  have hl2 : upd H7' l2 (.lst [.str "lost", .str "twice"]) l2 = some (.lst [.str "lost", .str "twice"]) := upd_same
                  generalize upd H7' l2 (.lst [.str "lost", .str "twice"]) = H8 at *
                  refine ⟨_, rfl, sz (by simp), fun e2 ne2 => ⟨.list ((rgV (S.ahead + 1) mm).map fdat), .list [], .lst (SqL.of (((s7'.trans s8).trans (Same.new ne2)) _ _ hb5)) (dp_flats rg_ok), dp_nil upd_same, shaped_flats rg_ok, shaped_nil, ?_⟩⟩
                  have s9 : Same H8 (upd H8 e2 (.lst [])) := Same.new ne2
                  generalize upd H8 e2 (.lst []) = H9 at *
                  rw [eqv_nil, List.isEmpty_map, btw_nil alt, decide_eq_false h2]
                  have s59 : Same H5 H9 := (s7'.trans s8).trans s9
                  refine .inr ⟨_, rfl, l2, _, _, .str "lost", rfl, rfl, SqL.of (s9 _ _ hl2), rfl, sz (by simp), fun t nt => ⟨p, xs, _, rfl, rfl, ?_, szl (by omega), ?_⟩⟩
                  · rw [upd_ne (fun z => by rw [← z, s59 _ _ hp5] at nt; cases nt)]; exact s59 _ _ hp5
                  · obtain ⟨xs', r⟩ := app "lost" H9 t s59 nt (by unfold wstep; simp only; rw [ez, if_pos h1, if_neg h2, if_pos h3])
                    exact ⟨xs', rfl, r⟩
                · refine ⟨xs, rfl, s35.trans s7', s7' _ _ hp5, ?_⟩
                  rw [show (wstep i kn m.late m.time S mm).found = S.found by unfold wstep; simp only; rw [ez, if_pos h1, if_neg h2, if_neg h3]]
                  exact hx5.mono (.of_same s7')
            · refine ifF ((hyz z wz).trans (decide_eq_false h1)) (iteF ⟨xs, rfl, s35.trans s6, s6 _ _ hp5, ?_⟩)
              rw [show (wstep i kn m.late m.time S mm).found = S.found by unfold wstep; simp only; rw [ez, if_neg h1]]
              exact hx5.mono (.of_same s6)
          · rintro σ H6 ⟨xs', rfl, s6, hp6, hx6⟩
            refine ⟨_, rfl, rfl, .inr ⟨_, rfl, _, rfl, ?_⟩⟩
            refine ⟨xs', some (.int mm), some (.str z), some (.ref bA), some (.ref D), o9, ?_, s6, hp6, by rw [hst]; exact hx6⟩
            rw [hst, word_in wz]
            show _ = [some (V.ref q0), some (V.ref p), some (V.int (i : Int)), some (V.int (insOf ((lookK kn mm).getD ""))), some (V.int mm), _, _, _, _, _]
            rw [ez]
            rfl
      · rintro σ H3 ⟨xs, o5, o6, o7, o8, o9, rfl, s3, hp3, hx3⟩
        refine ⟨xs, _, _, _, _, _, _, _, _, rfl, s3, hp3, ?_⟩
        show TupsAt H3 xs ((awTo m.kns m.late m.time i ++ wantsOf i (m.kns.getD i []) m.late m.time).map Want.vs)
        rw [hkn, wantsOf_eq kt.ok.nd kt.rg]
        exact hx3
    · rintro σ H2 ⟨xs0, o2, o3, o4, o5, o6, o7, o8, o9, rfl, sH, hp, hx0⟩
      exact ⟨_, rfl, q p xs0 H2 sH np hp hx0⟩
/-! ### _law_is_sound -/
def sp_lsound : Sp := fun vs H Q _ => ∃ (q L : Addr) (ds : List Addr) (m : Ms) (T : Nat), vs = [.ref q] ∧ MAt H q L ds m ∧ MOk m T ∧
  ∀ (H' : Hp), Same H H' → Q (.bl (borne (allWants m.kns m.late m.time) m.lost)) H'
theorem borne_in (ws : List Want) (lost : Int) : borne ws lost = ((!inV (.str "twice") (ws.map fun x => V.str x.word)) && decide ((ws.length : Int) ≤ lost)) := by
  unfold borne inV
  congr 1
  rw [Bool.eq_iff_iff, List.isEmpty_iff, List.filter_eq_nil_iff, Bool.not_eq_true', List.any_eq_false]
  constructor
  · intro h y hy
    obtain ⟨x, hx, rfl⟩ := List.mem_map.mp hy
    have := h x hx
    rw [decide_eq_true_eq] at this
    simpa [eqV] using this
  · intro h x hx
    have := h _ (List.mem_map.mpr ⟨x, hx, rfl⟩)
    rw [decide_eq_true_eq]
    simpa [eqV] using this
theorem sc__law_is_sound : FnScope ["_law_m", "_law_told_here", "_law_want"] ["_law_m"] (defScope s__law_is_sound) := ⟨rfl, rfl, rfl, by decide +kernel, rfl, by decide +kernel, by decide +kernel⟩
theorem ok_lsound {f : Addr} {fd : FuncData} (F : Fun K "_law_is_sound" "_law_is_sound" s__law_is_sound f fd) (G : Glb K w mg dI) (c__law_wants : C8.Cal P w K mg base 1 "_law_wants" sp_lwants []) : FnOk P w K mg base CX0 2 f fd ["_law_m"] sp_lsound := by
  refine F.ok sc__law_is_sound (fun vs H Q E h => ?_) (fun cdv A outer s H vs Q E hr h => ?_)
  · obtain ⟨q, L, ds, m, T, rfl, _⟩ := h
    rfl
  · obtain ⟨q0, L, ds, m, T, rfl, ma, mo, q⟩ := h
    have hu := hu_of hr
    refine ⟨_, (pss_cons (ps_setLc (i := 1) (own := [("_law_want", 2)]) (g := gName 2) (tt := tYes) rfl sc__law_is_sound.nd rfl rfl (sw_true rfl rfl rfl (by decide +kernel)) (pi_list (C8.pe_c c__law_wants hr (by decide) rfl (pa_cons (pv 0) pa_nil))) (blkOk_by (own := [("_law_want", 2)]) (N := ["_law_m", "_law_told_here", "_law_want"]) (sc := defScope s__law_is_sound) (by decide +kernel)) (fun _ _ _ _ _ => (pg_name (i := 2) sc__law_is_sound.nd rfl (Or.inl rfl))) (fun _ _ _ _ _ => pts_nil) (fun _ _ _ _ _ => (pe_ix (ix_tupK (K := K)) (pv 2) pe_int (fun _ _ => rfl))))
      (pss_one (ps_ret (pe_and (pe_cmpR op_notIn_seq pe_str (pv 1) (by rfl)) (pe_one (pe_cmpR op_le (pe_callB call_len_seq (by rfl) G.len (by decide +kernel) (pa_cons (pv 1) pa_nil)) (pe_dget hu (pv 0) pe_str (fun _ _ => rfl)) (nomark _))))))), ?_⟩
    refine ⟨_, rfl, q0, L, ds, m, T, rfl, ma, mo, fun a xs H1 s1 na hx tx => ⟨a, rfl, ⟨_, SqL.of hx⟩, fun D nD => ?_⟩⟩
    have few := aw_few ma.kn m.late m.time
    refine lc_tups (K := K) (fun _ => true) (fun x : Want => V.str x.word) tx (SqL.of hx) nD (by omega) (fun _ => rfl) (fun _ _ _ _ => GivesB.yes) (fun x tA hm ht _ => ?_) fun H2 s2 hD => ?_
    · intro H2 s2 Q2 q2
      exact ⟨_, rfl, tA, _, _, _, rfl, rfl, SqT.of (s2 _ _ ht), rfl, q2 H2 (Same.refl _)⟩
    · rw [List.filter_eq_self.mpr (fun _ _ => rfl)] at hD
      have m2 := (ma.same s1).same s2
      refine ⟨_, rfl, D, _, rfl, .inl (SqL.of hD), rfl, ?_, _, rfl, ?_⟩
      · rw [List.all_eq_true]
        intro v hv
        obtain ⟨x, _, rfl⟩ := List.mem_map.mp hv
        rfl
      · have qq := q H2 (s1.trans s2)
        rw [borne_in] at qq
        refine ite2 (fun h => ?_) (fun h => ?_)
        · have h' : (!inV (.str "twice") ((allWants m.kns m.late m.time).map fun x => V.str x.word)) = true := h
          rw [h', Bool.true_and] at qq
          refine ⟨_, rfl, D, _, rfl, .inl (SqL.of hD), _, rfl, q0, _, rfl, m2.g_lost, _, _, rfl, rfl, ?_⟩
          rw [List.length_map]
          exact qq
        · have h' : (!inV (.str "twice") ((allWants m.kns m.late m.time).map fun x => V.str x.word)) = false := Bool.eq_false_iff.mpr h
          rw [h', Bool.false_and] at qq
          exact qq
end
end IC
namespace IC
open PySem L2
/-- two values that tell the same, of the same kinds at every place, n deep -/
def Al (H : Hp) : Nat → V → V → Prop
  | 0, x, y => x = y ∧ okV x = true
  | n + 1, x, y => (x = y ∧ okV x = true) ∨ (∃ a b xs ys, x = .ref a ∧ y = .ref b ∧ H a = some (.lst xs) ∧ H b = some (.lst ys) ∧ Paired (Al H n) xs ys ∧ xs.length ≤ 100000) ∨
      (∃ a b xs ys, x = .ref a ∧ y = .ref b ∧ H a = some (.tup xs) ∧ H b = some (.tup ys) ∧ Paired (Al H n) xs ys ∧ xs.length ≤ 100000)
theorem Al.flat {H : Hp} {x : V} (h : okV x = true) : ∀ n, Al H n x x
  | 0 => ⟨rfl, h⟩
  | _ + 1 => .inl ⟨rfl, h⟩
theorem Al.up {H : Hp} : ∀ {n : Nat} {x y : V}, Al H n x y → Al H (n + 1) x y
  | 0, _, _, h => .inl h
  | n + 1, _, _, .inl h => .inl h
  | n + 1, _, _, .inr (.inl ⟨a, b, xs, ys, e1, e2, h1, h2, p, l⟩) => .inr (.inl ⟨a, b, xs, ys, e1, e2, h1, h2, Paired.mapP p fun _ _ r => Al.up r, l⟩)
  | n + 1, _, _, .inr (.inr ⟨a, b, xs, ys, e1, e2, h1, h2, p, l⟩) => .inr (.inr ⟨a, b, xs, ys, e1, e2, h1, h2, Paired.mapP p fun _ _ r => Al.up r, l⟩)
theorem Al.same {H H' : Hp} (s : Same H H') : ∀ {n : Nat} {x y : V}, Al H n x y → Al H' n x y
  | 0, _, _, h => h
  | n + 1, _, _, .inl h => .inl h
  | n + 1, _, _, .inr (.inl ⟨a, b, xs, ys, e1, e2, h1, h2, p, l⟩) => .inr (.inl ⟨a, b, xs, ys, e1, e2, s _ _ h1, s _ _ h2, Paired.mapP p fun _ _ r => Al.same s r, l⟩)
  | n + 1, _, _, .inr (.inr ⟨a, b, xs, ys, e1, e2, h1, h2, p, l⟩) => .inr (.inr ⟨a, b, xs, ys, e1, e2, s _ _ h1, s _ _ h2, Paired.mapP p fun _ _ r => Al.same s r, l⟩)
theorem Al.flats {H : Hp} {n : Nat} : ∀ {vs : List V}, (∀ v ∈ vs, okV v = true) → Paired (Al H n) vs vs
  | [], _ => .nil
  | v :: vs, h => .cons (Al.flat (h v List.mem_cons_self) n) (Al.flats fun u hu => h u (List.mem_cons_of_mem _ hu))
/-- two lists of the same flat tuples -/
theorem Al.tups {H : Hp} : ∀ {xs ys : List V} {ds : List (List V)}, TupsAt H xs ds → TupsAt H ys ds → (∀ d ∈ ds, ∀ v ∈ d, okV v = true) → (∀ d ∈ ds, d.length ≤ 100000) → Paired (Al H 1) xs ys
  | _, _, _, .nil, .nil, _, _ => .nil
  | _, _, _, .cons ⟨a, e1, h1⟩ t1, .cons ⟨b, e2, h2⟩ t2, ok, l => .cons (.inr (.inr ⟨a, b, _, _, e1, e2, h1, h2, Al.flats (ok _ List.mem_cons_self), l _ List.mem_cons_self⟩)) (Al.tups t1 t2 (fun d hd => ok d (List.mem_cons_of_mem _ hd)) fun d hd => l d (List.mem_cons_of_mem _ hd))
section
variable {P : Program} {w : World} {K : PySem.W.Frag} {mg : Str → Option Value} {base : Heap} {dI C : Addr}
def sp_alike (n : Nat) : Sp := fun vs H Q _ => ∃ (x y : V), vs = [x, y] ∧ Al H n x y ∧ ∀ H', Same H H' → Q (.bl true) H'
theorem sp_alike_up {n : Nat} {vs : List V} {H : Hp} {Q : VK} {E : XK} (h : sp_alike n vs H Q E) : sp_alike (n + 1) vs H Q E := by
  obtain ⟨x, y, e, a, q⟩ := h
  exact ⟨x, y, e, a.up, q⟩
theorem sc__law_alike : FnScope ["_law_found", "_law_due", "_law_k"] ["_law_found", "_law_due"] (defScope s__law_alike) := ⟨rfl, rfl, rfl, by decide +kernel, rfl, by decide +kernel, by decide +kernel⟩
theorem alike0 {f : Addr} {fd : FuncData} (F : Fun K "_law_alike" "_law_alike" s__law_alike f fd) (G : Glb K w mg dI) : FnOk P w K mg base CX0 1 f fd ["_law_found", "_law_due"] (sp_alike 0) := by
  refine F.ok sc__law_alike (fun vs H Q E h => ?_) (fun cdv A outer s H vs Q E hr h => ?_)
  · obtain ⟨x, y, rfl, _⟩ := h
    rfl
  · obtain ⟨x, y, rfl, ⟨e, ok⟩, q⟩ := h
    subst e
    refine ⟨_, (pss_cons (ps_if (PW.pt (pw_or (pt_val (pe_callB call_isi (by rfl) G.isinstance (by decide +kernel) (pa_cons (pv 1) (pa_cons (pe_bltn (v := .ty "tuple") (by rfl) G.tuple (by decide +kernel) rfl) pa_nil)))) (pw_or1 (pt_val (pe_callB call_isi (by rfl) G.isinstance (by decide +kernel) (pa_cons (pv 1) (pa_cons (pe_bltn (v := .ty "list") (by rfl) G.list (by decide +kernel) rfl) pa_nil)))))))
        (pss_cons (ps_if (PW.pt (pw_or (pt_cmpR op_ne (pe_callB call_isi (by rfl) G.isinstance (by decide +kernel) (pa_cons (pv 0) (pa_cons (pe_bltn (v := .ty "tuple") (by rfl) G.tuple (by decide +kernel) rfl) pa_nil))) (pe_callB call_isi (by rfl) G.isinstance (by decide +kernel) (pa_cons (pv 1) (pa_cons (pe_bltn (v := .ty "tuple") (by rfl) G.tuple (by decide +kernel) rfl) pa_nil))) (nomark _)) (pw_or1 (pt_not (pt_val (pe_callB call_isiT (by rfl) G.isinstance (by decide +kernel) (pa_cons (pv 0) (pa_cons (pe_tup (pa_cons (pe_bltn (v := .ty "tuple") (by rfl) G.tuple (by decide +kernel) rfl) (pa_cons (pe_bltn (v := .ty "list") (by rfl) G.list (by decide +kernel) rfl) pa_nil))) pa_nil))))))))
            (pss_one (ps_ret pe_bl))
            pss_nil)
          (pss_cons (ps_if (pt_cmpR op_ne (pe_callB call_len_seq (by rfl) G.len (by decide +kernel) (pa_cons (pv 0) pa_nil)) (pe_callB call_len_seq (by rfl) G.len (by decide +kernel) (pa_cons (pv 1) pa_nil)) (nomark _))
            (pss_one (ps_ret pe_bl))
            pss_nil)
          (pss_one ps_never)))
        pss_nil)
      (pss_cons (ps_if (PW.pt (pw_or (pt_cmpR op_isN (pv 1) pe_non (nomark _)) (pw_or1 (pt_cmpR op_isN (pv 0) pe_non (nomark _)))))
        (pss_one (ps_ret (pe_and (pe_cmpR op_isN (pv 1) pe_non (nomark _)) (pe_one (pe_cmpR op_isN (pv 0) pe_non (nomark _))))))
        pss_nil)
      (pss_cons (ps_if (PW.pt (pw_or (pt_val (pe_callB call_isi (by rfl) G.isinstance (by decide +kernel) (pa_cons (pv 1) (pa_cons (pe_bltn (v := .ty "bool") (by rfl) G.bool (by decide +kernel) rfl) pa_nil)))) (pw_or1 (pt_val (pe_callB call_isi (by rfl) G.isinstance (by decide +kernel) (pa_cons (pv 0) (pa_cons (pe_bltn (v := .ty "bool") (by rfl) G.bool (by decide +kernel) rfl) pa_nil)))))))
        (pss_one (ps_ret (pe_and (pe_callB call_isi (by rfl) G.isinstance (by decide +kernel) (pa_cons (pv 1) (pa_cons (pe_bltn (v := .ty "bool") (by rfl) G.bool (by decide +kernel) rfl) pa_nil))) (pe_and (pe_callB call_isi (by rfl) G.isinstance (by decide +kernel) (pa_cons (pv 0) (pa_cons (pe_bltn (v := .ty "bool") (by rfl) G.bool (by decide +kernel) rfl) pa_nil))) (pe_one (pe_cmpR op_eq (pv 0) (pv 1) (nomark _)))))))
        pss_nil)
      (pss_cons (ps_if (pt_val (pe_callB call_isi (by rfl) G.isinstance (by decide +kernel) (pa_cons (pv 1) (pa_cons (pe_bltn (v := .ty "str") (by rfl) G.str (by decide +kernel) rfl) pa_nil))))
        (pss_one (ps_ret (pe_and (pe_callB call_isi (by rfl) G.isinstance (by decide +kernel) (pa_cons (pv 0) (pa_cons (pe_bltn (v := .ty "str") (by rfl) G.str (by decide +kernel) rfl) pa_nil))) (pe_one (pe_cmpR op_eq (pv 0) (pv 1) (nomark _))))))
        pss_nil)
      (pss_one (ps_ret (pe_and (pe_callB call_isi (by rfl) G.isinstance (by decide +kernel) (pa_cons (pv 0) (pa_cons (pe_bltn (v := .ty "int") (by rfl) G.int (by decide +kernel) rfl) pa_nil))) (pe_one (pe_cmpR op_eq (pv 0) (pv 1) (nomark _)))))))))), ?_⟩
    cases x with
    | non =>
      refine ⟨_, rfl, _, _, _, _, false, rfl, .ty _, .base .non, kit_ty (by decide +kernel), _, rfl, iteF ⟨_, rfl, _, _, _, _, false, rfl, .ty _, .base .non, kit_ty (by decide +kernel), _, rfl, iteF ?_⟩⟩
      refine ⟨_, rfl, rfl, _, rfl, iteT (iteT ?_)⟩
      exact ⟨_, rfl, rfl, _, rfl, iteT ⟨_, rfl, rfl, q H (Same.refl _)⟩⟩
    | bl b =>
      refine ⟨_, rfl, _, _, _, _, false, rfl, .ty _, .base (.bl _), kit_ty (by decide +kernel), _, rfl, iteF ⟨_, rfl, _, _, _, _, false, rfl, .ty _, .base (.bl _), kit_ty (by decide +kernel), _, rfl, iteF ?_⟩⟩
      refine ⟨_, rfl, rfl, _, rfl, iteF ⟨_, rfl, rfl, _, rfl, iteF ?_⟩⟩
      refine ⟨_, rfl, _, _, _, _, true, rfl, .ty _, .base (.bl _), kit_ty (by decide +kernel), _, rfl, iteT (iteT ?_)⟩
      refine ⟨_, rfl, _, _, _, _, true, rfl, .ty _, .base (.bl _), kit_ty (by decide +kernel), _, rfl, iteT ?_⟩
      refine ⟨_, rfl, _, _, _, _, true, rfl, .ty _, .base (.bl _), kit_ty (by decide +kernel), _, rfl, iteT ⟨_, rfl, _, rfl, rfl, ?_⟩⟩
      rw [decide_eq_true rfl]
      exact q H (Same.refl _)
    | int i =>
      refine ⟨_, rfl, _, _, _, _, false, rfl, .ty _, .base (.int _), kit_ty (by decide +kernel), _, rfl, iteF ⟨_, rfl, _, _, _, _, false, rfl, .ty _, .base (.int _), kit_ty (by decide +kernel), _, rfl, iteF ?_⟩⟩
      refine ⟨_, rfl, rfl, _, rfl, iteF ⟨_, rfl, rfl, _, rfl, iteF ?_⟩⟩
      refine ⟨_, rfl, _, _, _, _, false, rfl, .ty _, .base (.int _), kit_ty (by decide +kernel), _, rfl, iteF ⟨_, rfl, _, _, _, _, false, rfl, .ty _, .base (.int _), kit_ty (by decide +kernel), _, rfl, iteF ?_⟩⟩
      refine ⟨_, rfl, _, _, _, _, false, rfl, .ty _, .base (.int _), kit_ty (by decide +kernel), _, rfl, iteF ?_⟩
      refine ⟨_, rfl, _, _, _, _, true, rfl, .ty _, .base (.int _), kit_ty (by decide +kernel), _, rfl, iteT ⟨_, rfl, _, rfl, rfl, ?_⟩⟩
      rw [decide_eq_true rfl]
      exact q H (Same.refl _)
    | str z =>
      refine ⟨_, rfl, _, _, _, _, false, rfl, .ty _, .base (.str _), kit_ty (by decide +kernel), _, rfl, iteF ⟨_, rfl, _, _, _, _, false, rfl, .ty _, .base (.str _), kit_ty (by decide +kernel), _, rfl, iteF ?_⟩⟩
      refine ⟨_, rfl, rfl, _, rfl, iteF ⟨_, rfl, rfl, _, rfl, iteF ?_⟩⟩
      refine ⟨_, rfl, _, _, _, _, false, rfl, .ty _, .base (.str _), kit_ty (by decide +kernel), _, rfl, iteF ⟨_, rfl, _, _, _, _, false, rfl, .ty _, .base (.str _), kit_ty (by decide +kernel), _, rfl, iteF ?_⟩⟩
      refine ⟨_, rfl, _, _, _, _, true, rfl, .ty _, .base (.str _), kit_ty (by decide +kernel), _, rfl, iteT ?_⟩
      refine ⟨_, rfl, _, _, _, _, true, rfl, .ty _, .base (.str _), kit_ty (by decide +kernel), _, rfl, iteT ⟨_, rfl, _, rfl, rfl, ?_⟩⟩
      rw [decide_eq_true rfl]
      exact q H (Same.refl _)
    | ref a => cases ok
    | flt b => cases ok
    | byt b => cases ok
    | ty n => cases ok
theorem alike1 {n : Nat} {f : Addr} {fd : FuncData} (F : Fun K "_law_alike" "_law_alike" s__law_alike f fd) (G : Glb K w mg dI) (c__law_alike : C8.Cal P w K mg base (n + 1) "_law_alike" (sp_alike n) []) : FnOk P w K mg base CX0 (n + 2) f fd ["_law_found", "_law_due"] (sp_alike (n + 1)) := by
  refine F.ok sc__law_alike (fun vs H Q E h => ?_) (fun cdv A outer s H vs Q E hr h => ?_)
  · obtain ⟨x, y, rfl, _⟩ := h
    rfl
  · obtain ⟨x, y, rfl, al, q⟩ := h
    refine ⟨_, (pss_cons (ps_if (PW.pt (pw_or (pt_val (pe_callB call_isi (by rfl) G.isinstance (by decide +kernel) (pa_cons (pv 1) (pa_cons (pe_bltn (v := .ty "tuple") (by rfl) G.tuple (by decide +kernel) rfl) pa_nil)))) (pw_or1 (pt_val (pe_callB call_isi (by rfl) G.isinstance (by decide +kernel) (pa_cons (pv 1) (pa_cons (pe_bltn (v := .ty "list") (by rfl) G.list (by decide +kernel) rfl) pa_nil)))))))
        (pss_cons (ps_if (PW.pt (pw_or (pt_cmpR op_ne (pe_callB call_isi (by rfl) G.isinstance (by decide +kernel) (pa_cons (pv 0) (pa_cons (pe_bltn (v := .ty "tuple") (by rfl) G.tuple (by decide +kernel) rfl) pa_nil))) (pe_callB call_isi (by rfl) G.isinstance (by decide +kernel) (pa_cons (pv 1) (pa_cons (pe_bltn (v := .ty "tuple") (by rfl) G.tuple (by decide +kernel) rfl) pa_nil))) (nomark _)) (pw_or1 (pt_not (pt_val (pe_callB call_isiT (by rfl) G.isinstance (by decide +kernel) (pa_cons (pv 0) (pa_cons (pe_tup (pa_cons (pe_bltn (v := .ty "tuple") (by rfl) G.tuple (by decide +kernel) rfl) (pa_cons (pe_bltn (v := .ty "list") (by rfl) G.list (by decide +kernel) rfl) pa_nil))) pa_nil))))))))
            (pss_one (ps_ret pe_bl))
            pss_nil)
          (pss_cons (ps_if (pt_cmpR op_ne (pe_callB call_len_seq (by rfl) G.len (by decide +kernel) (pa_cons (pv 0) pa_nil)) (pe_callB call_len_seq (by rfl) G.len (by decide +kernel) (pa_cons (pv 1) pa_nil)) (nomark _))
            (pss_one (ps_ret pe_bl))
            pss_nil)
          (pss_one (ps_ret (pe_cmpR (op_eqD hr.units) (pe_lc (own := [("_law_k", 2)]) (g := gName 2) rfl sc__law_alike.nd (pi_range1 rfl G.range (pa_cons (pe_callB call_len_seq (by rfl) G.len (by decide +kernel) (pa_cons (pv 1) pa_nil)) pa_nil)) (blkOk_by (own := [("_law_k", 2)]) (N := ["_law_found", "_law_due", "_law_k"]) (sc := defScope s__law_alike) (by decide +kernel)) (fun _ _ _ _ _ => (pg_name (i := 2) sc__law_alike.nd rfl (Or.inl rfl))) (fun _ _ _ _ _ => (pts_one (pt_not (pt_val (C8.pe_c c__law_alike hr (Nat.le_refl _) rfl (pa_cons (pe_ix (ix_seqK (K := K)) (pv 0) (pv 2) (fun _ _ => rfl)) (pa_cons (pe_ix (ix_seqK (K := K)) (pv 1) (pv 2) (fun _ _ => rfl)) pa_nil))))))) (fun _ _ _ _ _ => (pv 2))) (pe_lst pa_nil) (nomark _))))))
        pss_nil)
      (pss_cons (ps_if (PW.pt (pw_or (pt_cmpR op_isN (pv 1) pe_non (nomark _)) (pw_or1 (pt_cmpR op_isN (pv 0) pe_non (nomark _)))))
        (pss_one (ps_ret (pe_and (pe_cmpR op_isN (pv 1) pe_non (nomark _)) (pe_one (pe_cmpR op_isN (pv 0) pe_non (nomark _))))))
        pss_nil)
      (pss_cons (ps_if (PW.pt (pw_or (pt_val (pe_callB call_isi (by rfl) G.isinstance (by decide +kernel) (pa_cons (pv 1) (pa_cons (pe_bltn (v := .ty "bool") (by rfl) G.bool (by decide +kernel) rfl) pa_nil)))) (pw_or1 (pt_val (pe_callB call_isi (by rfl) G.isinstance (by decide +kernel) (pa_cons (pv 0) (pa_cons (pe_bltn (v := .ty "bool") (by rfl) G.bool (by decide +kernel) rfl) pa_nil)))))))
        (pss_one (ps_ret (pe_and (pe_callB call_isi (by rfl) G.isinstance (by decide +kernel) (pa_cons (pv 1) (pa_cons (pe_bltn (v := .ty "bool") (by rfl) G.bool (by decide +kernel) rfl) pa_nil))) (pe_and (pe_callB call_isi (by rfl) G.isinstance (by decide +kernel) (pa_cons (pv 0) (pa_cons (pe_bltn (v := .ty "bool") (by rfl) G.bool (by decide +kernel) rfl) pa_nil))) (pe_one (pe_cmpR op_eq (pv 0) (pv 1) (nomark _)))))))
        pss_nil)
      (pss_cons (ps_if (pt_val (pe_callB call_isi (by rfl) G.isinstance (by decide +kernel) (pa_cons (pv 1) (pa_cons (pe_bltn (v := .ty "str") (by rfl) G.str (by decide +kernel) rfl) pa_nil))))
        (pss_one (ps_ret (pe_and (pe_callB call_isi (by rfl) G.isinstance (by decide +kernel) (pa_cons (pv 0) (pa_cons (pe_bltn (v := .ty "str") (by rfl) G.str (by decide +kernel) rfl) pa_nil))) (pe_one (pe_cmpR op_eq (pv 0) (pv 1) (nomark _))))))
        pss_nil)
      (pss_one (ps_ret (pe_and (pe_callB call_isi (by rfl) G.isinstance (by decide +kernel) (pa_cons (pv 0) (pa_cons (pe_bltn (v := .ty "int") (by rfl) G.int (by decide +kernel) rfl) pa_nil))) (pe_one (pe_cmpR op_eq (pv 0) (pv 1) (nomark _)))))))))), ?_⟩
    rcases al with ⟨e, ok⟩ | ⟨a, b, xs, ys, rfl, rfl, ha, hb, pr, hl⟩ | ⟨a, b, xs, ys, rfl, rfl, ha, hb, pr, hl⟩
    · subst e
      cases x with
      | non =>
        refine ⟨_, rfl, _, _, _, _, false, rfl, .ty _, .base .non, kit_ty (by decide +kernel), _, rfl, iteF ⟨_, rfl, _, _, _, _, false, rfl, .ty _, .base .non, kit_ty (by decide +kernel), _, rfl, iteF ?_⟩⟩
        refine ⟨_, rfl, rfl, _, rfl, iteT (iteT ?_)⟩
        exact ⟨_, rfl, rfl, _, rfl, iteT ⟨_, rfl, rfl, q H (Same.refl _)⟩⟩
      | bl b =>
        refine ⟨_, rfl, _, _, _, _, false, rfl, .ty _, .base (.bl _), kit_ty (by decide +kernel), _, rfl, iteF ⟨_, rfl, _, _, _, _, false, rfl, .ty _, .base (.bl _), kit_ty (by decide +kernel), _, rfl, iteF ?_⟩⟩
        refine ⟨_, rfl, rfl, _, rfl, iteF ⟨_, rfl, rfl, _, rfl, iteF ?_⟩⟩
        refine ⟨_, rfl, _, _, _, _, true, rfl, .ty _, .base (.bl _), kit_ty (by decide +kernel), _, rfl, iteT (iteT ?_)⟩
        refine ⟨_, rfl, _, _, _, _, true, rfl, .ty _, .base (.bl _), kit_ty (by decide +kernel), _, rfl, iteT ?_⟩
        refine ⟨_, rfl, _, _, _, _, true, rfl, .ty _, .base (.bl _), kit_ty (by decide +kernel), _, rfl, iteT ⟨_, rfl, _, rfl, rfl, ?_⟩⟩
        rw [decide_eq_true rfl]
        exact q H (Same.refl _)
      | int i =>
        refine ⟨_, rfl, _, _, _, _, false, rfl, .ty _, .base (.int _), kit_ty (by decide +kernel), _, rfl, iteF ⟨_, rfl, _, _, _, _, false, rfl, .ty _, .base (.int _), kit_ty (by decide +kernel), _, rfl, iteF ?_⟩⟩
        refine ⟨_, rfl, rfl, _, rfl, iteF ⟨_, rfl, rfl, _, rfl, iteF ?_⟩⟩
        refine ⟨_, rfl, _, _, _, _, false, rfl, .ty _, .base (.int _), kit_ty (by decide +kernel), _, rfl, iteF ⟨_, rfl, _, _, _, _, false, rfl, .ty _, .base (.int _), kit_ty (by decide +kernel), _, rfl, iteF ?_⟩⟩
        refine ⟨_, rfl, _, _, _, _, false, rfl, .ty _, .base (.int _), kit_ty (by decide +kernel), _, rfl, iteF ?_⟩
        refine ⟨_, rfl, _, _, _, _, true, rfl, .ty _, .base (.int _), kit_ty (by decide +kernel), _, rfl, iteT ⟨_, rfl, _, rfl, rfl, ?_⟩⟩
        rw [decide_eq_true rfl]
        exact q H (Same.refl _)
      | str z =>
        refine ⟨_, rfl, _, _, _, _, false, rfl, .ty _, .base (.str _), kit_ty (by decide +kernel), _, rfl, iteF ⟨_, rfl, _, _, _, _, false, rfl, .ty _, .base (.str _), kit_ty (by decide +kernel), _, rfl, iteF ?_⟩⟩
        refine ⟨_, rfl, rfl, _, rfl, iteF ⟨_, rfl, rfl, _, rfl, iteF ?_⟩⟩
        refine ⟨_, rfl, _, _, _, _, false, rfl, .ty _, .base (.str _), kit_ty (by decide +kernel), _, rfl, iteF ⟨_, rfl, _, _, _, _, false, rfl, .ty _, .base (.str _), kit_ty (by decide +kernel), _, rfl, iteF ?_⟩⟩
        refine ⟨_, rfl, _, _, _, _, true, rfl, .ty _, .base (.str _), kit_ty (by decide +kernel), _, rfl, iteT ?_⟩
        refine ⟨_, rfl, _, _, _, _, true, rfl, .ty _, .base (.str _), kit_ty (by decide +kernel), _, rfl, iteT ⟨_, rfl, _, rfl, rfl, ?_⟩⟩
        rw [decide_eq_true rfl]
        exact q H (Same.refl _)
      | ref a => cases ok
      | flt b => cases ok
      | byt b => cases ok
      | ty n => cases ok
    · have ll : xs.length = ys.length := pr.length
      refine ⟨_, rfl, _, _, _, _, false, rfl, .ty _, .base (.lst hb), kit_ty (by decide +kernel), _, rfl, iteF ⟨_, rfl, _, _, _, _, true, rfl, .ty _, .base (.lst hb), kit_ty (by decide +kernel), _, rfl, iteT ?_⟩⟩
      refine ⟨_, rfl, _, _, _, _, false, rfl, .ty _, .base (.lst ha), kit_ty (by decide +kernel), _, rfl, _, _, _, _, false, rfl, .ty _, .base (.lst hb), kit_ty (by decide +kernel), rfl, _, rfl, iteF ?_⟩
      refine ⟨_, rfl, sz (by simp), fun tp ntp => ⟨_, tp, _, _, [.type "tuple", .type "list"], true, rfl, upd_same, .cons (.ty _) (.cons (.ty _) .nil), .base (.lst ((Same.new ntp) _ _ ha)), kitAny_cons (kit_ty (b := "tuple") (r := false) (by decide +kernel)) (fun _ => kitAny_cons (kit_ty (b := "list") (r := true) (by decide +kernel)) (fun h => nomatch h) (fun _ => rfl)) (fun h => nomatch h), _, rfl, iteF ?_⟩⟩
      have s1 : Same H (upd H tp (.tup [.ty "tuple", .ty "list"])) := Same.new ntp
      generalize upd H tp (.tup [.ty "tuple", .ty "list"]) = H1 at *
      have ha1 := s1 _ _ ha
      have hb1 := s1 _ _ hb
      refine ⟨_, rfl, a, _, rfl, .inl (SqL.of ha1), _, rfl, b, _, rfl, .inl (SqL.of hb1), rfl, _, rfl, ifF (by rw [ll]; simp) ?_⟩
      refine ⟨_, rfl, b, _, rfl, .inl (SqL.of hb1), _, rfl, by omega, by omega, fun D nD => ?_⟩
      rw [Int.toNat_natCast]
      refine lc_vals (n := ys.length) (fun _ => false) (fun o => .int (o : Int)) nD (by omega) (fun _ => rfl) (fun k hk => ?_) (fun o ho z => by cases z) fun H2 s2 hD => ?_
      · intro H2 s2 Q2 q2
        have ey : ys[k]? = some ys[k] := List.getElem?_eq_getElem hk
        obtain ⟨xv, ex, al⟩ := Paired.get pr ey
        refine ⟨_, rfl, _, rfl, .inl ⟨a, _, _, xv, rfl, rfl, SqL.of (s2 _ _ ha1), atI_nat ex, _, rfl, _, rfl, .inl ⟨b, _, _, ys[k], rfl, rfl, SqL.of (s2 _ _ hb1), atI_nat ey, xv, ys[k], rfl, al.same (s1.trans s2), fun H3 s3 => ⟨_, rfl, q2 H3 s3⟩⟩⟩⟩
      · have hD' : H2 D = some (.lst []) := by
          rw [hD]
          simp
        refine ⟨sz (by simp), fun e ne => ?_⟩
        have s3 : Same H2 (upd H2 e (.lst [])) := Same.new ne
        refine ⟨.list [], .list [], dp_nil (s3 _ _ hD'), dp_nil upd_same, shaped_nil, shaped_nil, ?_⟩
        rw [eqv_nil]
        exact q _ ((s1.trans s2).trans s3)
    · have ll : xs.length = ys.length := pr.length
      refine ⟨_, rfl, _, _, _, _, true, rfl, .ty _, .base (.tup hb), kit_ty (by decide +kernel), _, rfl, iteT (iteT ?_)⟩
      refine ⟨_, rfl, _, _, _, _, true, rfl, .ty _, .base (.tup ha), kit_ty (by decide +kernel), _, rfl, _, _, _, _, true, rfl, .ty _, .base (.tup hb), kit_ty (by decide +kernel), rfl, _, rfl, iteF ?_⟩
      refine ⟨_, rfl, sz (by simp), fun tp ntp => ⟨_, tp, _, _, [.type "tuple", .type "list"], true, rfl, upd_same, .cons (.ty _) (.cons (.ty _) .nil), .base (.tup ((Same.new ntp) _ _ ha)), kitAny_cons (kit_ty (b := "tuple") (r := true) (by decide +kernel)) (fun h => nomatch h) (fun _ => rfl), _, rfl, iteF ?_⟩⟩
      have s1 : Same H (upd H tp (.tup [.ty "tuple", .ty "list"])) := Same.new ntp
      generalize upd H tp (.tup [.ty "tuple", .ty "list"]) = H1 at *
      have ha1 := s1 _ _ ha
      have hb1 := s1 _ _ hb
      refine ⟨_, rfl, a, _, rfl, .inr (SqT.of ha1), _, rfl, b, _, rfl, .inr (SqT.of hb1), rfl, _, rfl, ifF (by rw [ll]; simp) ?_⟩
      refine ⟨_, rfl, b, _, rfl, .inr (SqT.of hb1), _, rfl, by omega, by omega, fun D nD => ?_⟩
      rw [Int.toNat_natCast]
      refine lc_vals (n := ys.length) (fun _ => false) (fun o => .int (o : Int)) nD (by omega) (fun _ => rfl) (fun k hk => ?_) (fun o ho z => by cases z) fun H2 s2 hD => ?_
      · intro H2 s2 Q2 q2
        have ey : ys[k]? = some ys[k] := List.getElem?_eq_getElem hk
        obtain ⟨xv, ex, al⟩ := Paired.get pr ey
        refine ⟨_, rfl, _, rfl, .inr <| .inl ⟨a, _, _, xv, rfl, rfl, SqT.of (s2 _ _ ha1), atI_nat ex, _, rfl, _, rfl, .inr <| .inl ⟨b, _, _, ys[k], rfl, rfl, SqT.of (s2 _ _ hb1), atI_nat ey, xv, ys[k], rfl, al.same (s1.trans s2), fun H3 s3 => ⟨_, rfl, q2 H3 s3⟩⟩⟩⟩
      · have hD' : H2 D = some (.lst []) := by
          rw [hD]
          simp
        refine ⟨sz (by simp), fun e ne => ?_⟩
        have s3 : Same H2 (upd H2 e (.lst [])) := Same.new ne
        refine ⟨.list [], .list [], dp_nil (s3 _ _ hD'), dp_nil upd_same, shaped_nil, shaped_nil, ?_⟩
        rw [eqv_nil]
        exact q _ ((s1.trans s2).trans s3)
/-- n deep, by as many levels -/
theorem ok_alike {f : Addr} {fd : FuncData} (F : Fun K "_law_alike" "_law_alike" s__law_alike f fd) (G : Glb K w mg dI) (m : mg "_law_alike" = some (.ref f)) (b : Binds K fd ["_law_found", "_law_due"] []) : ∀ n, FnOk P w K mg base CX0 (n + 1) f fd ["_law_found", "_law_due"] (sp_alike n)
  | 0 => alike0 F G
  | n + 1 => alike1 F G ⟨f, fd, _, [], ok_alike F G m b n, m, F.kp, b, .nil⟩
end
end IC
namespace IC
open PySem L2
/-! ### the least price of stories that have a state behind a moment, moment by moment -/
def lval (kn : Kn) (late T : Int) (at_ wanted : Nat) (p : Int × Int) (m st : Nat) : Int := match lookK kn (m : Nat) with
  | none => if m ≠ at_ ∨ st = wanted then min (sel p (1 - st) + lostI m late T) (sel p st) else 99
  | some z => if insOf z = st ∧ (m ≠ at_ ∨ st = wanted) then sel p (1 - st) else 99
def leastD (kn : Kn) (late T : Int) (at_ wanted : Nat) : Nat → Int × Int
  | 0 => (0, 99)
  | k + 1 => (lval kn late T at_ wanted (leastD kn late T at_ wanted k) (k + 1) 0, lval kn late T at_ wanted (leastD kn late T at_ wanted k) (k + 1) 1)
def leastL (kn : Kn) (late : Int) (T at_ wanted : Nat) : Int := min (min (leastD kn late T at_ wanted T).1 (leastD kn late T at_ wanted T).2) 99
theorem at_sel' {p : Int × Int} {o : Nat} (h : o < 2) : atI [V.int p.1, V.int p.2] (1 - (o : Int)) = some (.int (sel p (1 - o))) := by
  have : o = 0 ∨ o = 1 := by omega
  rcases this with rfl | rfl <;> rfl
theorem min3_of {a b c m : Int} (h1 : m ∈ [a, b, c]) (h2 : ∀ y ∈ [a, b, c], m ≤ y) : m = min (min a b) c := by
  have := h2 a (by simp)
  have := h2 b (by simp)
  have := h2 c (by simp)
  simp at h1
  omega
theorem good_of {z : Str} {st : Nat} (h : st < 2) (wz : Wd z) : ∃ y : Str, atI [V.str "out", V.str "in"] (st : Int) = some (.str y) ∧ decide (V.str y = V.str z) = decide (insOf z = st) := by
  obtain ⟨y, h1, h2⟩ := word_at (st := (st : Int)) (by omega)
  exact ⟨y, h1, h2 z wz⟩
section
variable {P : Program} {w : World} {K : PySem.W.Frag} {mg : Str → Option Value} {base : Heap} {dI C : Addr}
end
end IC
namespace IC
open PySem L2
/-! ### the law's least price is the least price of all stories with a state behind a moment -/
def Bd (n : Nat) (x : Int) : Prop := (0 ≤ x ∧ x ≤ n) ∨ NEV ≤ x
theorem step_cases (kn : Kn) (late now m a b : Int) : stepP kn late now m a b = 0 ∨ stepP kn late now m a b = 1 ∨ stepP kn late now m a b = NEV := by
  unfold stepP
  split
  · split
    · unfold turnP
      split
      · split
        · exact .inl rfl
        · exact .inr (.inr rfl)
      · rename_i h
        cases h
    · exact .inr (.inr rfl)
  · unfold turnP
    split
    · rename_i h
      cases h
    · split
      · exact .inr (.inl rfl)
      · exact .inl rfl
theorem ahead_bd (kn : Kn) (late now : Int) : ∀ n, n ≤ 1000 → Bd n (aheadP kn late now n).1 ∧ Bd n (aheadP kn late now n).2
  | 0, _ => by simp [aheadP, Bd, NEV]
  | n + 1, hn => by
    have ih := ahead_bd kn late now n (by omega)
    have h1 := step_cases kn late now (n + 1 : Nat) 0 0
    have h2 := step_cases kn late now (n + 1 : Nat) 1 0
    have h3 := step_cases kn late now (n + 1 : Nat) 0 1
    have h4 := step_cases kn late now (n + 1 : Nat) 1 1
    have NE : NEV = 1000000 := rfl
    have eA : aheadP kn late now (n + 1) = (min ((aheadP kn late now n).1 + stepP kn late now ((n + 1 : Nat) : Int) 0 0) ((aheadP kn late now n).2 + stepP kn late now ((n + 1 : Nat) : Int) 1 0), min ((aheadP kn late now n).1 + stepP kn late now ((n + 1 : Nat) : Int) 0 1) ((aheadP kn late now n).2 + stepP kn late now ((n + 1 : Nat) : Int) 1 1)) := rfl
    rw [eA]
    unfold Bd at *
    simp only
    omega
theorem behind_bd (kn : Kn) (late : Int) (T : Nat) : ∀ n, n ≤ 1000 → Bd n (behindP kn late T n).1 ∧ Bd n (behindP kn late T n).2
  | 0, _ => by simp [behindP, Bd]
  | n + 1, hn => by
    have ih := behind_bd kn late T n (by omega)
    have h1 := step_cases kn late T ((T : Int) - n) 0 0
    have h2 := step_cases kn late T ((T : Int) - n) 1 0
    have h3 := step_cases kn late T ((T : Int) - n) 0 1
    have h4 := step_cases kn late T ((T : Int) - n) 1 1
    have NE : NEV = 1000000 := rfl
    have eB : behindP kn late T (n + 1) = (min ((behindP kn late T n).1 + stepP kn late T ((T : Int) - n) 0 0) ((behindP kn late T n).2 + stepP kn late T ((T : Int) - n) 0 1), min ((behindP kn late T n).1 + stepP kn late T ((T : Int) - n) 1 0) ((behindP kn late T n).2 + stepP kn late T ((T : Int) - n) 1 1)) := rfl
    rw [eB]
    unfold Bd at *
    simp only
    omega
theorem tot_bd (kn : Kn) (late : Int) {T m s : Nat} (hm : m ≤ T) (hT : T ≤ 60) : Bd T (totP kn late T m s) := by
  have h1 := ahead_bd kn late T m (by omega)
  have h2 := behind_bd kn late T (T - m) (by omega)
  have NE : NEV = 1000000 := rfl
  unfold totP sel Bd at *
  split <;> omega
/-- .. with one state alone behind a moment -/
def consP (kn : Kn) (late : Int) (T at_ wanted : Nat) : Nat → Int × Int
  | 0 => (0, NEV)
  | k + 1 =>
    let p := consP kn late T at_ wanted k
    let a := (min (p.1 + stepP kn late T (k + 1 : Nat) 0 0) (p.2 + stepP kn late T (k + 1 : Nat) 1 0), min (p.1 + stepP kn late T (k + 1 : Nat) 0 1) (p.2 + stepP kn late T (k + 1 : Nat) 1 1))
    if k + 1 = at_ then (if wanted = 0 then (a.1, NEV) else (NEV, a.2)) else a
def RelP (k : Nat) (a b : Int) : Prop := (a = b ∧ 0 ≤ b ∧ b ≤ k) ∨ (99 ≤ a ∧ NEV ≤ b)
theorem rel_least (kn : Kn) (late : Int) (T at_ wanted : Nat) (hw : wanted < 2) : ∀ k, k ≤ 60 → RelP k (leastD kn late T at_ wanted k).1 (consP kn late T at_ wanted k).1 ∧ RelP k (leastD kn late T at_ wanted k).2 (consP kn late T at_ wanted k).2
  | 0, _ => by simp [leastD, consP, RelP, NEV]
  | k + 1, hk => by
    have ih := rel_least kn late T at_ wanted hw k (by omega)
    have NE : NEV = 1000000 := rfl
    show RelP (k + 1) (lval kn late T at_ wanted (leastD kn late T at_ wanted k) (k + 1) 0) _ ∧ RelP (k + 1) (lval kn late T at_ wanted (leastD kn late T at_ wanted k) (k + 1) 1) _
    unfold consP
    generalize leastD kn late T at_ wanted k = p at *
    generalize consP kn late T at_ wanted k = c at *
    unfold lval
    cases e : lookK kn ((k + 1 : Nat) : Int) with
    | none =>
      obtain ⟨s00, s11, s01, s10⟩ := step_none (late := late) (now := T) e
      have l1 := lostI01 ((k + 1 : Nat) : Int) late T
      simp only [s00, s11, s01, s10]
      generalize lostI ((k + 1 : Nat) : Int) late T = lo at *
      unfold RelP sel at *
      by_cases h1 : k + 1 = at_
      · have w2 : wanted = 0 ∨ wanted = 1 := by omega
        rcases w2 with rfl | rfl
        · simp [h1]
          omega
        · simp [h1]
          omega
      · simp only [h1, ne_eq, not_false_eq_true, true_or, if_true, if_false]
        simp only [show (1 : Nat) - 1 = 0 from rfl, show (1 : Nat) - 0 = 1 from rfl, show ¬ ((1 : Nat) = 0) by decide, if_false, if_true]
        omega
    | some z =>
      obtain ⟨sz0, sz1⟩ := step_some (late := late) (now := T) e
      unfold RelP sel at *
      rcases ins01 z with h0 | h0
      · obtain ⟨q1, q2, q3, q4⟩ := sz0 h0
        simp only [q1, q2, q3, q4, h0]
        by_cases h1 : k + 1 = at_
        · have w2 : wanted = 0 ∨ wanted = 1 := by omega
          rcases w2 with rfl | rfl
          · simp only [h1, ne_eq, not_true, false_or, if_true, if_false]
            simp only [show (1 : Nat) - 1 = 0 from rfl, show (1 : Nat) - 0 = 1 from rfl, show ¬ ((1 : Nat) = 0) by decide, if_false, if_true, and_true, and_false]
            simp
            omega
          · simp only [h1, ne_eq, not_true, false_or, if_true, if_false]
            simp only [show (1 : Nat) - 1 = 0 from rfl, show (1 : Nat) - 0 = 1 from rfl, show ¬ ((1 : Nat) = 0) by decide, if_false, if_true, and_true, and_false]
            simp
            omega
        · simp only [h1, ne_eq, not_false_eq_true, true_or, and_true, if_false]
          simp only [show (1 : Nat) - 1 = 0 from rfl, show (1 : Nat) - 0 = 1 from rfl, show ¬ ((1 : Nat) = 0) by decide, if_false, if_true]
          simp
          omega
      · obtain ⟨q1, q2, q3, q4⟩ := sz1 h0
        simp only [q1, q2, q3, q4, h0]
        by_cases h1 : k + 1 = at_
        · have w2 : wanted = 0 ∨ wanted = 1 := by omega
          rcases w2 with rfl | rfl
          · simp only [h1, ne_eq, not_true, false_or, if_true, if_false]
            simp only [show (1 : Nat) - 1 = 0 from rfl, show (1 : Nat) - 0 = 1 from rfl, show ¬ ((1 : Nat) = 0) by decide, if_false, if_true, and_true, and_false]
            simp
            omega
          · simp only [h1, ne_eq, not_true, false_or, if_true, if_false]
            simp only [show (1 : Nat) - 1 = 0 from rfl, show (1 : Nat) - 0 = 1 from rfl, show ¬ ((1 : Nat) = 0) by decide, if_false, if_true, and_true, and_false]
            simp
            omega
        · simp only [h1, ne_eq, not_false_eq_true, true_or, and_true, if_false]
          simp only [show (1 : Nat) - 1 = 0 from rfl, show (1 : Nat) - 0 = 1 from rfl, show ¬ ((1 : Nat) = 0) by decide, if_false, if_true]
          simp
          omega
theorem cons_lt (kn : Kn) (late : Int) (T at_ wanted : Nat) : ∀ k, k < at_ → consP kn late T at_ wanted k = aheadP kn late T k
  | 0, _ => rfl
  | k + 1, h => by
    have ih := cons_lt kn late T at_ wanted k (by omega)
    unfold consP aheadP
    simp only
    rw [if_neg (by omega), ih]
theorem cons_at (kn : Kn) (late : Int) (T : Nat) {at_ wanted : Nat} (h1 : 1 ≤ at_) : consP kn late T at_ wanted at_ = if wanted = 0 then ((aheadP kn late T at_).1, NEV) else (NEV, (aheadP kn late T at_).2) := by
  cases at_ with
  | zero => omega
  | succ k =>
    have e := cons_lt kn late T (k + 1) wanted k (by omega)
    unfold consP aheadP
    simp only
    rw [if_pos True.intro, e]
def consM (kn : Kn) (late : Int) (T at_ wanted k : Nat) : Int := min ((consP kn late T at_ wanted k).1 + (behindP kn late T (T - k)).1) ((consP kn late T at_ wanted k).2 + (behindP kn late T (T - k)).2)
theorem cons_const (kn : Kn) (late : Int) (T at_ wanted : Nat) : ∀ d, at_ + d ≤ T → consM kn late T at_ wanted (at_ + d) = consM kn late T at_ wanted at_
  | 0, _ => rfl
  | d + 1, h => by
    rw [← cons_const kn late T at_ wanted d (by omega)]
    unfold consM
    obtain ⟨j, hj⟩ : ∃ j, T - (at_ + d) = j + 1 := ⟨T - (at_ + d) - 1, by omega⟩
    rw [show T - (at_ + (d + 1)) = j by omega, hj]
    rw [show at_ + (d + 1) = (at_ + d) + 1 by omega]
    generalize hk : at_ + d = k at *
    have eB : behindP kn late T (j + 1) = (min ((behindP kn late T j).1 + stepP kn late T ((T : Int) - j) 0 0) ((behindP kn late T j).2 + stepP kn late T ((T : Int) - j) 0 1), min ((behindP kn late T j).1 + stepP kn late T ((T : Int) - j) 1 0) ((behindP kn late T j).2 + stepP kn late T ((T : Int) - j) 1 1)) := rfl
    have eC : consP kn late T at_ wanted (k + 1) = (min ((consP kn late T at_ wanted k).1 + stepP kn late T (k + 1 : Nat) 0 0) ((consP kn late T at_ wanted k).2 + stepP kn late T (k + 1 : Nat) 1 0), min ((consP kn late T at_ wanted k).1 + stepP kn late T (k + 1 : Nat) 0 1) ((consP kn late T at_ wanted k).2 + stepP kn late T (k + 1 : Nat) 1 1)) := by
      show (if k + 1 = at_ then _ else _) = _
      rw [if_neg (by omega)]
    rw [show ((T : Int) - (j : Int)) = ((k + 1 : Nat) : Int) by omega] at eB
    rw [eB, eC]
    simp only
    omega
theorem least_tot {kn : Kn} {late : Int} {T at_ wanted : Nat} (hT : T ≤ 60) (h1 : 1 ≤ at_) (h2 : at_ ≤ T) (hw : wanted < 2) : leastL kn late T at_ wanted = min (totP kn late T at_ wanted) 99 := by
  have r := rel_least kn late T at_ wanted hw T hT
  have c := cons_const kn late T at_ wanted (T - at_) (by omega)
  rw [show at_ + (T - at_) = T by omega] at c
  have nn := behind_nn kn late T (T - at_)
  have tb := tot_bd kn late (s := wanted) h2 hT
  have NE : NEV = 1000000 := rfl
  unfold consM at c
  rw [Nat.sub_self, cons_at kn late T h1] at c
  have b0 : behindP kn late T 0 = (0, 0) := rfl
  rw [b0] at c
  unfold leastL
  unfold totP sel at *
  unfold Bd at tb
  unfold RelP at r
  have w2 : wanted = 0 ∨ wanted = 1 := by omega
  rcases w2 with rfl | rfl
  · simp only [if_true] at *
    omega
  · simp only [show ¬ ((1 : Nat) = 0) by decide, if_false] at *
    omega
end IC
namespace IC
open PySem L2
/-! ### stories and their prices -/
/-- the state behind a moment, 0 at first -/
def stS (st : List Int) : Nat → Int
  | 0 => 0
  | k + 1 => st.getD k 0
def sumTo (kn : Kn) (late : Int) (T : Nat) (st : List Int) : Nat → Int
  | 0 => 0
  | i + 1 => sumTo kn late T st i + stepP kn late T ((i + 1 : Nat) : Int) (stS st i) (stS st (i + 1))
def Bin (st : List Int) : Prop := ∀ x ∈ st, x = 0 ∨ x = 1
theorem stS01 {st : List Int} (h : Bin st) : ∀ k, stS st k = 0 ∨ stS st k = 1
  | 0 => .inl rfl
  | k + 1 => by
    show st.getD k 0 = 0 ∨ st.getD k 0 = 1
    rw [List.getD_eq_getElem?_getD]
    cases e : st[k]? with
    | none => exact .inl rfl
    | some x => exact h x (List.mem_of_getElem? e)
def selI (p : Int × Int) (s : Int) : Int := if s = 0 then p.1 else p.2
theorem selI0 (p : Int × Int) : selI p 0 = p.1 := rfl
theorem selI1 (p : Int × Int) : selI p 1 = p.2 := rfl
theorem sel_selI (p : Int × Int) {s : Nat} (h : s < 2) : selI p (s : Int) = sel p s := by
  have : s = 0 ∨ s = 1 := by omega
  rcases this with rfl | rfl <;> rfl
/-- no story is cheaper than the least prices -/
theorem ahead_le (kn : Kn) (late : Int) (T : Nat) {st : List Int} (h : Bin st) : ∀ k, selI (aheadP kn late T k) (stS st k) ≤ sumTo kn late T st k
  | 0 => by simp [selI, aheadP, stS, sumTo]
  | k + 1 => by
    have ih := ahead_le kn late T h k
    have eA : aheadP kn late T (k + 1) = (min ((aheadP kn late T k).1 + stepP kn late T ((k + 1 : Nat) : Int) 0 0) ((aheadP kn late T k).2 + stepP kn late T ((k + 1 : Nat) : Int) 1 0), min ((aheadP kn late T k).1 + stepP kn late T ((k + 1 : Nat) : Int) 0 1) ((aheadP kn late T k).2 + stepP kn late T ((k + 1 : Nat) : Int) 1 1)) := rfl
    have e2 : sumTo kn late T st (k + 1) = sumTo kn late T st k + stepP kn late T ((k + 1 : Nat) : Int) (stS st k) (stS st (k + 1)) := rfl
    rw [eA, e2]
    rcases stS01 h k with a | a <;> rcases stS01 h (k + 1) with b | b <;> rw [a, b] <;> rw [a] at ih <;> simp only [selI0, selI1] at * <;> omega
theorem behind_le (kn : Kn) (late : Int) (T : Nat) {st : List Int} (h : Bin st) : ∀ j, j ≤ T → selI (behindP kn late T j) (stS st (T - j)) + sumTo kn late T st (T - j) ≤ sumTo kn late T st T
  | 0, _ => by
    have b0 : behindP kn late T 0 = (0, 0) := rfl
    rw [b0, Nat.sub_zero]
    unfold selI
    split <;> simp
  | j + 1, hj => by
    have ih := behind_le kn late T h j (by omega)
    obtain ⟨k, hk⟩ : ∃ k, T - j = k + 1 := ⟨T - (j + 1), by omega⟩
    rw [hk] at ih
    rw [show T - (j + 1) = k by omega]
    have eB : behindP kn late T (j + 1) = (min ((behindP kn late T j).1 + stepP kn late T ((T : Int) - j) 0 0) ((behindP kn late T j).2 + stepP kn late T ((T : Int) - j) 0 1), min ((behindP kn late T j).1 + stepP kn late T ((T : Int) - j) 1 0) ((behindP kn late T j).2 + stepP kn late T ((T : Int) - j) 1 1)) := rfl
    have e2 : sumTo kn late T st (k + 1) = sumTo kn late T st k + stepP kn late T ((k + 1 : Nat) : Int) (stS st k) (stS st (k + 1)) := rfl
    rw [show ((T : Int) - (j : Int)) = ((k + 1 : Nat) : Int) by omega] at eB
    rw [eB]
    rw [e2] at ih
    rcases stS01 h k with a | a <;> rcases stS01 h (k + 1) with b | b <;> rw [a, b] at ih <;> rw [a] <;> simp only [selI0, selI1] at * <;> omega
theorem tot_le (kn : Kn) (late : Int) {T m : Nat} {st : List Int} (h : Bin st) (hm : m ≤ T) : selI (totP kn late T m 0, totP kn late T m 1) (stS st m) ≤ sumTo kn late T st T := by
  have h1 := ahead_le kn late T h m
  have h2 := behind_le kn late T h (T - m) (by omega)
  rw [show T - (T - m) = m by omega] at h2
  have e0 : totP kn late T m 0 = (aheadP kn late T m).1 + (behindP kn late T (T - m)).1 := rfl
  have e1 : totP kn late T m 1 = (aheadP kn late T m).2 + (behindP kn late T (T - m)).2 := rfl
  rcases stS01 h m with a | a <;> rw [a] at h1 h2 ⊢ <;> simp only [selI0, selI1] at * <;> omega
theorem least_le_story (kn : Kn) (late : Int) {T : Nat} {st : List Int} (h : Bin st) : leastP kn late T ≤ sumTo kn late T st T := by
  have h1 := tot_le kn late h (Nat.le_refl T)
  rw [← tot_min' kn late (Nat.le_refl T)]
  rcases stS01 h T with a | a <;> rw [a] at h1 <;> simp only [selI0, selI1] at h1 <;> omega
/-! ### a cheapest story with a state behind a moment -/
def pick (a b : Int) : Int := if a ≤ b then 0 else 1
theorem pick01 (a b : Int) : pick a b = 0 ∨ pick a b = 1 := by
  unfold pick
  split
  · exact .inl rfl
  · exact .inr rfl
def backS (kn : Kn) (late : Int) (T : Nat) : Nat → Int → List Int
  | 0, _ => []
  | 1, s => [s]
  | k + 2, s => backS kn late T (k + 1) (pick ((aheadP kn late T (k + 1)).1 + stepP kn late T ((k + 2 : Nat) : Int) 0 s) ((aheadP kn late T (k + 1)).2 + stepP kn late T ((k + 2 : Nat) : Int) 1 s)) ++ [s]
def fwdS (kn : Kn) (late : Int) (T : Nat) : Nat → Int → List Int
  | 0, _ => []
  | j + 1, s =>
    let p := pick ((behindP kn late T j).1 + stepP kn late T ((T : Int) - j) s 0) ((behindP kn late T j).2 + stepP kn late T ((T : Int) - j) s 1)
    p :: fwdS kn late T j p
def storyB (kn : Kn) (late : Int) (T m : Nat) (s : Int) : List Int := backS kn late T m s ++ fwdS kn late T (T - m) s
theorem back_len (kn : Kn) (late : Int) (T : Nat) : ∀ k s, (backS kn late T k s).length = k
  | 0, _ => rfl
  | 1, _ => rfl
  | k + 2, s => by
    unfold backS
    rw [List.length_append, back_len kn late T (k + 1) _]
    rfl
theorem back_bin (kn : Kn) (late : Int) (T : Nat) : ∀ k s, (s = 0 ∨ s = 1) → Bin (backS kn late T k s)
  | 0, _, _ => by intro x hx; cases hx
  | 1, s, h => by
    intro x hx
    have : x = s := by simpa [backS] using hx
    rw [this]
    exact h
  | k + 2, s, h => by
    unfold backS
    intro x hx
    rcases List.mem_append.mp hx with z | z
    · exact back_bin kn late T (k + 1) _ (pick01 _ _) x z
    · have : x = s := by simpa using z
      rw [this]
      exact h
theorem fwd_len (kn : Kn) (late : Int) (T : Nat) : ∀ j s, (fwdS kn late T j s).length = j
  | 0, _ => rfl
  | j + 1, s => by
    unfold fwdS
    simp only
    rw [List.length_cons, fwd_len kn late T j _]
theorem fwd_bin (kn : Kn) (late : Int) (T : Nat) : ∀ j s, Bin (fwdS kn late T j s)
  | 0, _ => by intro x hx; cases hx
  | j + 1, s => by
    unfold fwdS
    intro x hx
    rcases List.mem_cons.mp hx with z | z
    · rw [z]
      exact pick01 _ _
    · exact fwd_bin kn late T j _ x z
theorem stS_app {pre tl : List Int} {k : Nat} (h : k ≤ pre.length) : stS (pre ++ tl) k = stS pre k := by
  cases k with
  | zero => rfl
  | succ k =>
    show (pre ++ tl).getD k 0 = pre.getD k 0
    rw [List.getD_eq_getElem?_getD, List.getD_eq_getElem?_getD, List.getElem?_append_left (by omega)]
theorem stS_last {pre tl : List Int} {s : Int} : stS (pre ++ s :: tl) (pre.length + 1) = s := by
  show (pre ++ s :: tl).getD pre.length 0 = s
  rw [List.getD_eq_getElem?_getD, List.getElem?_append_right (Nat.le_refl _), Nat.sub_self]
  rfl
theorem back_split (kn : Kn) (late : Int) (T : Nat) : ∀ k s, 1 ≤ k → ∃ pre, backS kn late T k s = pre ++ [s]
  | 0, _, h => by omega
  | 1, s, _ => ⟨[], rfl⟩
  | k + 2, s, _ => ⟨_, rfl⟩
theorem back_last (kn : Kn) (late : Int) (T : Nat) (tl : List Int) : ∀ k s, 1 ≤ k → stS (backS kn late T k s ++ tl) k = s
  | 0, _, h => by omega
  | 1, s, _ => rfl
  | k + 2, s, _ => by
    unfold backS
    rw [List.append_assoc]
    have := stS_last (pre := backS kn late T (k + 1) (pick ((aheadP kn late T (k + 1)).1 + stepP kn late T ((k + 2 : Nat) : Int) 0 s) ((aheadP kn late T (k + 1)).2 + stepP kn late T ((k + 2 : Nat) : Int) 1 s))) (tl := tl) (s := s)
    rw [back_len] at this
    exact this
theorem back_sum (kn : Kn) (late : Int) (T : Nat) : ∀ k s tl, 1 ≤ k → (s = 0 ∨ s = 1) → selI (aheadP kn late T k) s < NEV → sumTo kn late T (backS kn late T k s ++ tl) k = selI (aheadP kn late T k) s
  | 0, _, _, h, _, _ => by omega
  | 1, s, tl, _, hs, h => by
    have e1 : sumTo kn late T (backS kn late T 1 s ++ tl) 1 = 0 + stepP kn late T ((0 + 1 : Nat) : Int) 0 s := rfl
    have eA : aheadP kn late T 1 = (min (0 + stepP kn late T ((0 + 1 : Nat) : Int) 0 0) (NEV + stepP kn late T ((0 + 1 : Nat) : Int) 1 0), min (0 + stepP kn late T ((0 + 1 : Nat) : Int) 0 1) (NEV + stepP kn late T ((0 + 1 : Nat) : Int) 1 1)) := rfl
    have n0 := step_nn kn late T ((0 + 1 : Nat) : Int) 1 0
    have n1 := step_nn kn late T ((0 + 1 : Nat) : Int) 1 1
    rw [e1]
    rw [eA] at h ⊢
    rcases hs with rfl | rfl <;> simp only [selI0, selI1] at * <;> omega
  | k + 2, s, tl, _, hs, h => by
    have eA : aheadP kn late T (k + 2) = (min ((aheadP kn late T (k + 1)).1 + stepP kn late T ((k + 2 : Nat) : Int) 0 0) ((aheadP kn late T (k + 1)).2 + stepP kn late T ((k + 2 : Nat) : Int) 1 0), min ((aheadP kn late T (k + 1)).1 + stepP kn late T ((k + 2 : Nat) : Int) 0 1) ((aheadP kn late T (k + 1)).2 + stepP kn late T ((k + 2 : Nat) : Int) 1 1)) := rfl
    have lst := back_last kn late T tl (k + 2) s (by omega)
    have e2 : sumTo kn late T (backS kn late T (k + 2) s ++ tl) (k + 2) = sumTo kn late T (backS kn late T (k + 2) s ++ tl) (k + 1) + stepP kn late T ((k + 2 : Nat) : Int) (stS (backS kn late T (k + 2) s ++ tl) (k + 1)) (stS (backS kn late T (k + 2) s ++ tl) (k + 2)) := rfl
    rw [e2, lst]
    have eb : backS kn late T (k + 2) s ++ tl = backS kn late T (k + 1) (pick ((aheadP kn late T (k + 1)).1 + stepP kn late T ((k + 2 : Nat) : Int) 0 s) ((aheadP kn late T (k + 1)).2 + stepP kn late T ((k + 2 : Nat) : Int) 1 s)) ++ ([s] ++ tl) := by
      conv => lhs; unfold backS
      rw [List.append_assoc]
    rw [eb]
    generalize hp : pick ((aheadP kn late T (k + 1)).1 + stepP kn late T ((k + 2 : Nat) : Int) 0 s) ((aheadP kn late T (k + 1)).2 + stepP kn late T ((k + 2 : Nat) : Int) 1 s) = p at *
    have hp01 : p = 0 ∨ p = 1 := by rw [← hp]; exact pick01 _ _
    rw [back_last kn late T _ (k + 1) p (by omega)]
    have n00 := step_nn kn late T ((k + 2 : Nat) : Int) 0 0
    have n01 := step_nn kn late T ((k + 2 : Nat) : Int) 0 1
    have n10 := step_nn kn late T ((k + 2 : Nat) : Int) 1 0
    have n11 := step_nn kn late T ((k + 2 : Nat) : Int) 1 1
    have key : selI (aheadP kn late T (k + 1)) p + stepP kn late T ((k + 2 : Nat) : Int) p s = selI (aheadP kn late T (k + 2)) s := by
      rw [eA]
      unfold pick at hp
      rcases hs with rfl | rfl <;> split at hp <;> subst hp <;> simp only [selI0, selI1] <;> omega
    have sn : 0 ≤ stepP kn late T ((k + 2 : Nat) : Int) p s := step_nn _ _ _ _ _ _
    rw [back_sum kn late T (k + 1) p _ (by omega) hp01 (by omega)]
    exact key
theorem fwd_sum (kn : Kn) (late : Int) (T : Nat) : ∀ j s pre, j + pre.length = T → (s = 0 ∨ s = 1) → stS pre pre.length = s → sumTo kn late T (pre ++ fwdS kn late T j s) T = sumTo kn late T (pre ++ fwdS kn late T j s) pre.length + selI (behindP kn late T j) s
  | 0, s, pre, h, _, _ => by
    have b0 : behindP kn late T 0 = (0, 0) := rfl
    rw [b0, show pre.length = T by omega]
    unfold selI
    split <;> simp
  | j + 1, s, pre, h, hs, hl => by
    have eB : behindP kn late T (j + 1) = (min ((behindP kn late T j).1 + stepP kn late T ((T : Int) - j) 0 0) ((behindP kn late T j).2 + stepP kn late T ((T : Int) - j) 0 1), min ((behindP kn late T j).1 + stepP kn late T ((T : Int) - j) 1 0) ((behindP kn late T j).2 + stepP kn late T ((T : Int) - j) 1 1)) := rfl
    have ef : fwdS kn late T (j + 1) s = pick ((behindP kn late T j).1 + stepP kn late T ((T : Int) - j) s 0) ((behindP kn late T j).2 + stepP kn late T ((T : Int) - j) s 1) :: fwdS kn late T j (pick ((behindP kn late T j).1 + stepP kn late T ((T : Int) - j) s 0) ((behindP kn late T j).2 + stepP kn late T ((T : Int) - j) s 1)) := rfl
    have em : ((T : Int) - (j : Int)) = ((pre.length + 1 : Nat) : Int) := by omega
    rw [ef]
    rw [em] at eB ⊢
    generalize hp : pick ((behindP kn late T j).1 + stepP kn late T ((pre.length + 1 : Nat) : Int) s 0) ((behindP kn late T j).2 + stepP kn late T ((pre.length + 1 : Nat) : Int) s 1) = p at *
    have hp01 : p = 0 ∨ p = 1 := by rw [← hp]; exact pick01 _ _
    have e3 : pre ++ p :: fwdS kn late T j p = (pre ++ [p]) ++ fwdS kn late T j p := by simp
    rw [e3]
    have hl2 : (pre ++ [p]).length = pre.length + 1 := by simp
    have ih := fwd_sum kn late T j p (pre ++ [p]) (by rw [hl2]; omega) hp01 (by rw [hl2]; exact stS_last (tl := []))
    rw [ih, hl2]
    have e4 : sumTo kn late T (pre ++ [p] ++ fwdS kn late T j p) (pre.length + 1) = sumTo kn late T (pre ++ [p] ++ fwdS kn late T j p) pre.length + stepP kn late T ((pre.length + 1 : Nat) : Int) (stS (pre ++ [p] ++ fwdS kn late T j p) pre.length) (stS (pre ++ [p] ++ fwdS kn late T j p) (pre.length + 1)) := rfl
    have e5 : stS (pre ++ [p] ++ fwdS kn late T j p) pre.length = s := by
      rw [stS_app (by rw [hl2]; omega), stS_app (Nat.le_refl _)]
      exact hl
    have e6 : stS (pre ++ [p] ++ fwdS kn late T j p) (pre.length + 1) = p := by
      rw [← e3]
      exact stS_last
    rw [e4, e5, e6, eB]
    unfold pick at hp
    rcases hs with rfl | rfl <;> split at hp <;> subst hp <;> simp only [selI0, selI1] <;> omega
structure StoryOk (kn : Kn) (late : Int) (T m : Nat) (s : Int) (st : List Int) : Prop where
  len : st.length = T
  bin : Bin st
  at_ : stS st m = s
  sum : sumTo kn late T st T = selI (totP kn late T m 0, totP kn late T m 1) s
theorem storyB_ok {kn : Kn} {late : Int} {T m : Nat} {s : Int} (h1 : 1 ≤ m) (h2 : m ≤ T) (hs : s = 0 ∨ s = 1) (hn : selI (totP kn late T m 0, totP kn late T m 1) s < NEV) : StoryOk kn late T m s (storyB kn late T m s) := by
  have bl := back_len kn late T m s
  have bn := behind_nn kn late T (T - m)
  have ha : selI (aheadP kn late T m) s < NEV := by
    have e0 : totP kn late T m 0 = (aheadP kn late T m).1 + (behindP kn late T (T - m)).1 := rfl
    have e1 : totP kn late T m 1 = (aheadP kn late T m).2 + (behindP kn late T (T - m)).2 := rfl
    rcases hs with rfl | rfl <;> simp only [selI0, selI1] at * <;> omega
  refine ⟨?_, ?_, back_last kn late T _ m s h1, ?_⟩
  · unfold storyB
    rw [List.length_append, bl, fwd_len]
    omega
  · unfold storyB
    intro x hx
    rcases List.mem_append.mp hx with z | z
    · exact back_bin kn late T m s hs x z
    · exact fwd_bin kn late T _ _ x z
  · unfold storyB
    have hl : stS (backS kn late T m s) (backS kn late T m s).length = s := by
      have := back_last kn late T [] m s h1
      rw [List.append_nil] at this
      rw [bl]
      exact this
    rw [fwd_sum kn late T (T - m) s _ (by rw [bl]; omega) hs hl, bl, back_sum kn late T m s _ h1 hs ha]
    rcases hs with rfl | rfl <;> rfl
end IC
namespace IC
open PySem L2
theorem idx_min {v0 v1 mm : Int} (h1 : mm ∈ [v0, v1]) (h2 : ∀ y ∈ [v0, v1], mm ≤ y) : ∃ (j : Nat) (z : V), ((j : Nat) : Int) = pick v0 v1 ∧ [V.int v0, V.int v1][j]? = some z ∧ eqV z (.int mm) = true ∧ ∀ (m : Nat) (z' : V), m < j → [V.int v0, V.int v1][m]? = some z' → eqV z' (.int mm) = false := by
  have e := min_of h1 h2
  unfold pick
  by_cases h : v0 ≤ v1
  · refine ⟨0, .int v0, by rw [if_pos h]; rfl, rfl, ?_, fun m z' hm => by omega⟩
    have : mm = v0 := by omega
    rw [this]
    simp [eqV]
  · refine ⟨1, .int v1, by rw [if_neg h]; rfl, rfl, ?_, fun m z' hm hz => ?_⟩
    · have : mm = v1 := by omega
      rw [this]
      simp [eqV]
    · have : m = 0 := by omega
      subst this
      have hz : V.int v0 = z' := by simpa using hz
      rw [← hz]
      have : ¬ v0 = mm := by omega
      simpa [eqV] using this
section
variable {P : Program} {w : World} {K : PySem.W.Frag} {mg : Str → Option Value} {base : Heap} {dI C : Addr}
end
end IC
namespace IC
open PySem L2
/-! ### the price of a story, as the law finds it -/
def priceV (kn : Kn) (late : Int) (T : Nat) (st : List Int) : V := if sumTo kn late T st T < NEV then .int (sumTo kn late T st T) else .non
theorem sum_step (kn : Kn) (late : Int) (T : Nat) (st : List Int) (i : Nat) : sumTo kn late T st (i + 1) = sumTo kn late T st i + stepP kn late T ((i + 1 : Nat) : Int) (stS st i) (stS st (i + 1)) := rfl
theorem sum_nn (kn : Kn) (late : Int) (T : Nat) (st : List Int) : ∀ i, 0 ≤ sumTo kn late T st i
  | 0 => by simp [sumTo]
  | i + 1 => by
    have := sum_nn kn late T st i
    have := step_nn kn late T ((i + 1 : Nat) : Int) (stS st i) (stS st (i + 1))
    rw [sum_step]
    omega
theorem sum_mono (kn : Kn) (late : Int) (T : Nat) (st : List Int) {i : Nat} : ∀ d, sumTo kn late T st i ≤ sumTo kn late T st (i + d)
  | 0 => Int.le_refl _
  | d + 1 => by
    have h1 := sum_mono kn late T st (i := i) d
    have h2 := step_nn kn late T ((i + d + 1 : Nat) : Int) (stS st (i + d)) (stS st (i + d + 1))
    have h3 := sum_step kn late T st (i + d)
    show _ ≤ sumTo kn late T st (i + d + 1)
    rw [h3]
    omega
theorem sum_mono' (kn : Kn) (late : Int) (T : Nat) (st : List Int) {i j : Nat} (h : i ≤ j) : sumTo kn late T st i ≤ sumTo kn late T st j := by
  have := sum_mono kn late T st (i := i) (j - i)
  rw [show i + (j - i) = j by omega] at this
  exact this
section
variable {P : Program} {w : World} {K : PySem.W.Frag} {mg : Str → Option Value} {base : Heap} {dI C : Addr}
def sp_lprice (K : PySem.W.Frag) : Sp := fun vs H Q _ => ∃ (q L : Addr) (ds : List Addr) (m : Ms) (T b : Nat) (sA : Addr) (st : List Int), vs = [.ref q, .int b, .ref sA] ∧ MAt H q L ds m ∧ MOk m T ∧ b < m.kns.length ∧ SqT K H sA (st.map V.int) ∧ st.length = T ∧ Bin st ∧
  ∀ (H' : Hp), Same H H' → Q (priceV (m.kns.getD b []) m.late T st) H'
theorem sc__law_price : FnScope ["_law_m", "_law_badge", "_law_story", "_law_known", "_law_found", "_law_state", "_law_at", "_law_turns", "_law_word"] ["_law_m", "_law_badge", "_law_story"] (defScope s__law_price) := ⟨rfl, rfl, rfl, by decide +kernel, rfl, by decide +kernel, by decide +kernel⟩
theorem ok_lprice {f : Addr} {fd : FuncData} (F : Fun K "_law_price" "_law_price" s__law_price f fd) (G : Glb K w mg dI) : FnOk P w K mg base CX0 1 f fd ["_law_m", "_law_badge", "_law_story"] (sp_lprice K) := by
  refine F.ok sc__law_price (fun vs H Q E h => ?_) (fun cdv A outer s H vs Q E hr h => ?_)
  · obtain ⟨q, L, ds, m, T, b, sA, st, rfl, _⟩ := h
    rfl
  · obtain ⟨q0, L, ds, m, T, b, sA, st, rfl, ma, mo, hb, hsA, hlen, bin, q⟩ := h
    have hu := hu_of hr
    have htm := mo.tm
    have hT := mo.le
    have NE : NEV = 1000000 := rfl
    obtain ⟨ek, hkm⟩ := getD_mem hb
    obtain ⟨d, hd, hdk⟩ := Paired.get ma.kn.at_ ek
    have kt := mo.kn _ hkm
    generalize hkn : m.kns.getD b [] = kn at *
    refine ⟨_, (pss_cons (ps_set (i := 3) sc__law_price.nd rfl (Or.inl rfl) (pe_ix ix_list (pe_dget hu (pv 0) pe_str (fun _ _ => rfl)) (pv 1) (fun _ _ => rfl)))
      (pss_cons (ps_set (i := 4) sc__law_price.nd rfl (Or.inl rfl) pe_int)
      (pss_cons (ps_set (i := 5) sc__law_price.nd rfl (Or.inl rfl) pe_int)
      (pss_cons (ps_for PassesOwn.never rfl (pi_range1 rfl G.range (pa_cons (pe_callB call_len_seq (by rfl) G.len (by decide +kernel) (pa_cons (pv 2) pa_nil)) pa_nil)) (pg_name (i := 6) sc__law_price.nd rfl (Or.inl rfl))
        (pss_cons (ps_set (i := 7) sc__law_price.nd rfl (Or.inl rfl) (pe_cmpR op_ne (pe_ix ix_tup (pv 2) (pv 6) (fun _ _ => rfl)) (pv 5) (nomark _)))
          (pss_cons (ps_set (i := 5) sc__law_price.nd rfl (Or.inl rfl) (pe_ix ix_tup (pv 2) (pv 6) (fun _ _ => rfl)))
          (pss_cons (ps_set (i := 8) sc__law_price.nd rfl (Or.inl rfl) (pe_dget1 hu (pv 3) (pe_op op_add (pv 6) pe_int) ⟨rfl, rfl, rfl, rfl⟩))
          (pss_cons (ps_if (PW.pt (pw_and (pt_cmpR op_notN (pv 8) pe_non (nomark _)) (pw_and1 (PW.pt (pw_or (pt_not (pt_val (pv 7))) (pw_or1 (pt_cmpR op_ne (pe_ix ix_list (pe_lst (pa_cons pe_str (pa_cons pe_str pa_nil))) (pv 5) (fun _ _ => rfl)) (pv 8) (nomark _))))))))
            (pss_one (ps_ret pe_non))
            pss_nil)
          (pss_one (ps_if (PW.pt (pw_and (pt_cmpR op_isN (pv 8) pe_non (nomark _)) (pw_and (pt_val (pv 7)) (pw_and1 (pt_cmpR op_lt (pe_op op_add (pe_op op_add (pv 6) pe_int) (pe_dget hu (pv 0) pe_str (fun _ _ => rfl))) (pe_dget hu (pv 0) pe_str (fun _ _ => rfl)) (nomark _))))))
            (pss_one (ps_set (i := 4) sc__law_price.nd rfl (Or.inl rfl) (pe_op op_add (pv 4) pe_int)))
            pss_nil)))))))
      (pss_one (ps_ret (pv 4))))))), ?_⟩
    refine ⟨_, rfl, q0, _, rfl, ma.g_known, _, rfl, L, _, _, .ref d, rfl, rfl, SqL.of ma.kn.lst, atI_nat (by rw [List.getElem?_map, hd]; rfl), ?_⟩
    refine ⟨_, rfl, sA, _, rfl, .inr hsA, _, rfl, by omega, by rw [List.length_map]; omega, ?_⟩
    rw [List.length_map, hlen, Int.toNat_natCast]
    refine for_range0 (n := T) (fun i σ H2 => ∃ (o6 o7 o8 : Option V), σ = [some (.ref q0), some (.int (b : Int)), some (.ref sA), some (.ref d), some (.int (sumTo kn m.late T st i)), some (.int (stS st i)), o6, o7, o8] ∧ Same H H2 ∧ sumTo kn m.late T st i ≤ i) ⟨none, none, none, rfl, Same.refl _, by simp [sumTo]⟩ ?_ ?_
    · rintro i σ H2 hi ⟨o6, o7, o8, rfl, s2, hsum⟩
      have hx : st[i]? = some (stS st (i + 1)) := by
        show _ = some (st.getD i 0)
        rw [List.getD_eq_getElem?_getD, List.getElem?_eq_getElem (by omega)]
        rfl
      have hsA2 := Same.tp s2 hsA
      have hat : atI (st.map V.int) (i : Int) = some (.int (stS st (i + 1))) := atI_nat (by rw [List.getElem?_map, hx]; rfl)
      have m2 := ma.same s2
      have hdk2 := s2 _ _ hdk
      have b0 := stS01 bin i
      have b1 := stS01 bin (i + 1)
      have sstep := sum_step kn m.late T st i
      have hg : DGet H2 d (.int ((i : Int) + 1)) ((lookK kn ((i + 1 : Nat) : Int)).map V.str) := by
        have e : DGet H2 d (kV (Sum.inl ((i + 1 : Nat) : Int))) (valV (encK kn) (Sum.inl ((i + 1 : Nat) : Int))) := DGet.k hdk2
        rw [valV_enc] at e
        exact e
      generalize hy : stS st (i + 1) = y at *
      generalize hx0 : stS st i = x at *
      refine ⟨_, rfl, _, rfl, sA, _, _, _, rfl, rfl, hsA2, hat, _, rfl, rfl, ?_⟩
      rw [nd_int]
      refine ⟨_, rfl, _, rfl, sA, _, _, _, rfl, rfl, hsA2, hat, ?_⟩
      refine ⟨_, rfl, d, rfl, .inl ⟨_, .inl hdk2⟩, _, rfl, _, _, rfl, rfl, _, hg, ?_⟩
      have fin : ∀ (o6 o7 o8 : Option V) (v : Int) (H3 : Hp), Same H H3 → v = sumTo kn m.late T st (i + 1) → v ≤ ((i + 1 : Nat) : Int) → ∃ (a6 a7 a8 : Option V), [some (V.ref q0), some (.int (b : Int)), some (.ref sA), some (.ref d), some (.int v), some (.int y), o6, o7, o8] = [some (.ref q0), some (.int (b : Int)), some (.ref sA), some (.ref d), some (.int (sumTo kn m.late T st (i + 1))), some (.int y), a6, a7, a8] ∧ Same H H3 ∧ sumTo kn m.late T st (i + 1) ≤ ((i + 1 : Nat) : Int) := by
        intro o6 o7 o8 v H3 s3 ev hv
        exact ⟨o6, o7, o8, by rw [← ev], s3, by rw [← ev]; exact hv⟩
      have gone : NEV ≤ sumTo kn m.late T st (i + 1) → Q .non H2 := by
        intro h
        have := sum_mono' kn m.late T st (show i + 1 ≤ T by omega)
        have qq := q H2 s2
        unfold priceV at qq
        rw [if_neg (by omega)] at qq
        exact qq
      cases e : lookK kn ((i + 1 : Nat) : Int) with
      | none =>
        obtain ⟨s00, s11, s01, s10⟩ := step_none (late := m.late) (now := T) e
        refine ⟨_, rfl, rfl, _, rfl, iteF (iteF ?_)⟩
        refine ⟨_, rfl, rfl, _, rfl, iteT ⟨_, rfl, _, rfl, ?_⟩⟩
        by_cases hxy : y = x
        · have : stepP kn m.late T ((i + 1 : Nat) : Int) x y = 0 := by
            rw [hxy]
            rcases b0 with z | z <;> rw [z]
            · exact s00
            · exact s11
          exact ifF (by rw [decide_eq_true hxy]; rfl) (iteF (fin _ _ _ _ _ s2 (by omega) (by push_cast; omega)))
        · refine ifT (by rw [decide_eq_false hxy]; rfl) ?_
          have el : stepP kn m.late T ((i + 1 : Nat) : Int) x y = lostI ((i + 1 : Nat) : Int) m.late T := by
            rcases b0 with z | z <;> rcases b1 with z' | z' <;> rw [z, z']
            · omega
            · exact s01
            · exact s10
            · omega
          refine ⟨_, rfl, _, _, rfl, rfl, _, rfl, q0, _, rfl, m2.g_late, _, _, rfl, rfl, _, rfl, q0, _, rfl, m2.g_time, _, _, rfl, rfl, _, rfl, ?_⟩
          have ed : decide ((i : Int) + 1 + m.late < m.time) = isLost ((i + 1 : Nat) : Int) m.late T := by
            unfold isLost
            rw [htm]
            rfl
          refine ite2 (fun hc => ?_) (fun hc => ?_)
          · have e1 : lostI ((i + 1 : Nat) : Int) m.late T = 1 := by
              unfold lostI
              rw [← ed, if_pos hc]
            exact ⟨_, rfl, _, _, rfl, rfl, fin _ _ _ _ _ s2 (by omega) (by push_cast; omega)⟩
          · have e1 : lostI ((i + 1 : Nat) : Int) m.late T = 0 := by
              unfold lostI
              rw [← ed, if_neg hc]
            exact fin _ _ _ _ _ s2 (by omega) (by push_cast; omega)
      | some z =>
        obtain ⟨sz0, sz1⟩ := step_some (late := m.late) (now := T) e
        have wz : Wd z := by
          obtain ⟨y', h1, h2⟩ := kt.ok.look (look_iff.mp (by rw [e]; rfl))
          rw [e] at h1
          cases h1
          exact h2
        refine ⟨_, rfl, rfl, _, rfl, iteT ⟨_, rfl, _, rfl, ?_⟩⟩
        have stepE : stepP kn m.late T ((i + 1 : Nat) : Int) x y = if ¬ y = x ∧ insOf z = y then 0 else NEV := by
          rcases ins01 z with h0 | h0
          · obtain ⟨q1, q2, q3, q4⟩ := sz0 h0
            rcases b0 with r | r <;> rcases b1 with r' | r' <;> rw [r, r', h0] <;> first | (rw [q1]; simp; done) | (rw [q2]; simp; done) | (rw [q3]; simp; done) | (rw [q4]; simp; done)
          · obtain ⟨q1, q2, q3, q4⟩ := sz1 h0
            rcases b0 with r | r <;> rcases b1 with r' | r' <;> rw [r, r', h0] <;> first | (rw [q1]; simp; done) | (rw [q2]; simp; done) | (rw [q3]; simp; done) | (rw [q4]; simp; done)
        have nn := sum_nn kn m.late T st i
        by_cases hxy : y = x
        · refine ifT (by rw [decide_eq_true hxy]; rfl) (iteT ?_)
          refine gone ?_
          rw [sstep, stepE, if_neg (by intro h; exact h.1 hxy)]
          omega
        · refine ifF (by rw [decide_eq_false hxy]; rfl) ?_
          obtain ⟨y2, hy2, hyz⟩ := word_at b1
          refine ⟨sz (by simp), fun l4 n4 => ⟨_, rfl, l4, _, _, _, rfl, rfl, SqL.of upd_same, hy2, _, rfl, rfl, _, rfl, ?_⟩⟩
          have s3 : Same H2 (upd H2 l4 (.lst [.str "out", .str "in"])) := Same.new n4
          generalize upd H2 l4 (.lst [.str "out", .str "in"]) = H3 at *
          have hyz' : decide (V.str y2 = (Option.map V.str (some z)).getD V.non) = decide (insOf z = y) := hyz z wz
          by_cases hz : insOf z = y
          · have e0 : stepP kn m.late T ((i + 1 : Nat) : Int) x y = 0 := by rw [stepE, if_pos ⟨hxy, hz⟩]
            refine ifF (show (!decide (V.str y2 = (Option.map V.str (some z)).getD V.non)) = false by rw [hyz', decide_eq_true hz]; rfl) ?_
            exact ⟨_, rfl, rfl, _, rfl, iteF (iteF (fin _ _ _ _ _ (s2.trans s3) (by omega) (by push_cast; omega)))⟩
          · refine ifT (show (!decide (V.str y2 = (Option.map V.str (some z)).getD V.non)) = true by rw [hyz', decide_eq_false hz]; rfl) ?_
            have hh : NEV ≤ sumTo kn m.late T st (i + 1) := by
              rw [sstep, stepE, if_neg (by intro h; exact hz h.2)]
              omega
            have := sum_mono' kn m.late T st (show i + 1 ≤ T by omega)
            have qq := q H3 (s2.trans s3)
            unfold priceV at qq
            rw [if_neg (by omega)] at qq
            exact qq
    · rintro σ H2 ⟨o6, o7, o8, rfl, s2, hsum⟩
      have qq := q H2 s2
      unfold priceV at qq
      rw [if_pos (by omega)] at qq
      exact ⟨_, rfl, qq⟩
end
end IC
namespace IC
open PySem L2
/-! ### the wants of the other badges -/
def notOf (b : Int) (x : Want) : Bool := !decide (V.int x.badge = V.int b)
theorem wfold_badge (badge : Int) (kn : Kn) (late time : Int) (ms : List Int) : ∀ s : WSt, (∀ x ∈ s.found, x.badge = badge) → ∀ x ∈ (ms.foldl (wstep badge kn late time) s).found, x.badge = badge := by
  induction ms with
  | nil => intro s h; exact h
  | cons m ms ih =>
    intro s h
    rw [List.foldl_cons]
    refine ih _ ?_
    unfold wstep
    simp only
    intro x hx
    split at hx
    · split at hx
      · rcases List.mem_append.mp hx with z | z
        · exact h x z
        · simp at z; subst z; rfl
      · split at hx
        · rcases List.mem_append.mp hx with z | z
          · exact h x z
          · simp at z; subst z; rfl
        · exact h x hx
    · exact h x hx
theorem wants_badge {badge : Int} {kn : Kn} {late time : Int} : ∀ x ∈ wantsOf badge kn late time, x.badge = badge := wfold_badge _ _ _ _ _ _ (by simp)
theorem filt_all {b : Int} {l : List Want} (h : ∀ x ∈ l, x.badge ≠ b) : l.filter (notOf b) = l := by
  rw [List.filter_eq_self]
  intro x hx
  unfold notOf
  rw [dd_int, decide_eq_false (h x hx)]
  rfl
theorem filt_none {b : Int} {l : List Want} (h : ∀ x ∈ l, x.badge = b) : l.filter (notOf b) = [] := by
  rw [List.filter_eq_nil_iff]
  intro x hx
  unfold notOf
  rw [dd_int, decide_eq_true (h x hx)]
  simp
theorem others_to (kns : List Kn) (late time : Int) (b : Nat) : ∀ n, (n ≤ b → (awTo kns late time n).filter (notOf b) = awTo kns late time n) ∧ (b < n → ((awTo kns late time n).filter (notOf b)).length + (wantsOf b (kns.getD b []) late time).length = (awTo kns late time n).length)
  | 0 => ⟨fun _ => rfl, fun h => by omega⟩
  | n + 1 => by
    obtain ⟨h1, h2⟩ := others_to kns late time b n
    have e : awTo kns late time (n + 1) = awTo kns late time n ++ wantsOf n (kns.getD n []) late time := rfl
    rw [e, List.filter_append, List.length_append, List.length_append]
    refine ⟨fun h => ?_, fun h => ?_⟩
    · rw [h1 (by omega), filt_all fun x hx => ?_]
      rw [wants_badge x hx]
      omega
    · by_cases hb : b = n
      · subst hb
        rw [h1 (Nat.le_refl _), filt_none fun x hx => wants_badge x hx]
        simp
      · have := h2 (by omega)
        rw [filt_all (l := wantsOf n (kns.getD n []) late time) fun x hx => by rw [wants_badge x hx]; omega]
        omega
def othersN (h : Hs) (b : Nat) : Nat := ((allWants h.kns h.late h.now).filter (notOf b)).length
theorem others_is {h : Hs} {T b : Nat} (o : HsOk h T) (s : soundH h = true) (hb : b < h.kns.length) : (othersN h b : Int) = h.lost - spareH h - leastH h T b ∧ 0 ≤ leastH h T b := by
  obtain ⟨nt, _⟩ := sound_iff s
  have h2 := (others_to h.kns h.late h.now b h.kns.length).2 hb
  have kt := o.at hb
  have hT := o.tm.le
  have nt' : noTwice (wantsOf b (h.kns.getD b []) h.late T) := fun x hx => nt x (by
    unfold allWants
    rw [o.tm.now]
    exact mem_aw.mpr ⟨b, hb, hx⟩)
  have e := least_wants kt.ok.nd kt.rg hT b h.late nt'
  unfold othersN spareH leastH
  unfold allWants
  rw [o.tm.now] at *
  rw [e]
  omega
theorem tot_more {h : Hs} {T m b s : Nat} (hs : s < 2) : totP (h.kns.getD b []) h.late T m s = leastH h T b + sel (moreH h T m b) s := by
  have := sel_more (h.kns.getD b []) h.late T m hs
  unfold leastH moreH
  omega
/-- with the cheapest of the other badges a story is borne just if it costs no more than may be -/
theorem bears {h : Hs} {T m b s : Nat} (o : HsOk h T) (sd : soundH h = true) (hb : b < h.kns.length) (hs : s < 2) : (totP (h.kns.getD b []) h.late T m s + othersN h b ≤ h.lost ↔ sel (moreH h T m b) s ≤ spareH h) := by
  have h1 := (others_is o sd hb).1
  have h2 := tot_more (h := h) (T := T) (m := m) (b := b) hs
  omega
theorem open_least {h : Hs} {m : Ms} {T b x s : Nat} (o : HsOk h T) (sd : soundH h = true) (hb : b < h.kns.length) (lo6 : h.lost ≤ 6) (h1 : 1 ≤ x) (h2 : x ≤ T) (hs : s < 2) :
    decide (leastL (h.kns.getD b []) h.late T x s + othersN h b ≤ h.lost) = decide (sel (moreH h T x b) s ≤ spareH h) := by
  rw [least_tot o.tm.le h1 h2 hs]
  have e := bears (m := x) o sd hb hs
  have h3 := (others_is o sd hb)
  have h4 := (spare_sum o sd).2
  have h5 := more_nn (h := h) (T := T) (m := x) (b := b) (st := s) h2 hs
  have h6 := tot_more (h := h) (T := T) (m := x) (b := b) hs
  by_cases z : sel (moreH h T x b) s ≤ spareH h
  · rw [decide_eq_true z, decide_eq_true_eq]
    omega
  · rw [decide_eq_false z, decide_eq_false_iff_not]
    omega
end IC
namespace IC
open PySem L2
/-! ### min of a list of data -/
def rMinD (K : PySem.W.Frag) : List V → Hp → VK → Prop := fun vs H Q => ∃ (a : Addr) (xs : List V) (x : PyData) (ds : List PyData), vs = [.ref a] ∧ SqL K H a xs ∧ DpAll K H xs (x :: ds) ∧ PySem.W.AlikeAll (x :: ds) ∧ PyData.depthAll (x :: ds) ≤ 60 ∧
  ∀ (i : Nat) (v : V), xs[i]? = some v → (x :: ds)[i]? = some (PySem.W.minD x ds) → Q v H
theorem minD_mem (x : PyData) : ∀ ds : List PyData, PySem.W.minD x ds ∈ x :: ds := by
  intro ds
  unfold PySem.W.minD
  induction ds generalizing x with
  | nil => exact List.mem_cons_self
  | cons y ds ih =>
    rw [List.foldl_cons]
    have := ih (if PySem.W.dataLt y x = true then y else x)
    rcases List.mem_cons.mp this with z | z
    · rw [z]
      split
      · exact List.mem_cons_of_mem _ List.mem_cons_self
      · exact List.mem_cons_self
    · exact List.mem_cons_of_mem _ (List.mem_cons_of_mem _ z)
theorem vals_get : ∀ {xs : List V} {us : List Value} {i : Nat} {u : Value}, Vals xs us → us[i]? = some u → ∃ x, xs[i]? = some x ∧ RelV x u
  | _, _, _, _, .nil, e => by simp at e
  | _, _, 0, _, .cons r _, e => by simp at e; subst e; exact ⟨_, rfl, r⟩
  | _, _, i + 1, u, .cons _ t, e => by
    obtain ⟨x, h1, h2⟩ := vals_get (i := i) (u := u) t (by simpa using e)
    exact ⟨x, by simpa using h1, h2⟩
theorem readsAll_get {h : Heap} : ∀ {us : List Value} {ds : List PyData} {as : List Addr} {i : Nat} {u : Value}, ReadsAll h us ds as → us[i]? = some u → ∃ d bs, ds[i]? = some d ∧ Reads h u d bs
  | _, _, _, _, _, .nil, e => by simp at e
  | _, _, _, 0, _, .cons r _, e => by simp at e; subst e; exact ⟨_, _, rfl, r⟩
  | _, _, _, i + 1, u, .cons _ t, e => by
    obtain ⟨d, bs, h1, h2⟩ := readsAll_get (i := i) (u := u) t (by simpa using e)
    exact ⟨d, bs, by simpa using h1, h2⟩
section
variable {X : Cx} {K : PySem.W.Frag}
theorem cr_minD (hc : X.calm = true) (hu : X.A.units + 65 < cLine) : CallR X (.builtin "min") (rMinD X.K) := by
  intro pins s σ H vs us Q I r h
  obtain ⟨a, xs, x, ds, rfl, hs, hd, ha, hdep, q⟩ := h
  obtain ⟨its, rv, hl, _⟩ := I.list hs
  rw [Vals.ref1 r]
  obtain ⟨as, hr⟩ := Dp.readsAll I _ _ its hd rv
  refine PySem.W.min_list_data (I.ok.hd hc) hl.isList hr ha (by omega) fun i v h' tk bs hi rd hk => ?_
  have hi' : its[i]? = some v := by simpa using hi
  obtain ⟨y, hy, ry⟩ := vals_get rv hi'
  obtain ⟨d, cs, hd1, rd1⟩ := readsAll_get hr hi'
  have e : d = PySem.W.minD x ds := PySem.W.alike_unique d _ v _ _ (ha.1 d (List.mem_of_getElem? hd1) _ (minD_mem x ds)) (PySem.W.reads_keeps hk rd1) rd
  subst e
  exact ⟨y, H, I.kept hk, ry, q i y hy hd1⟩
theorem cr_minDK (hc : X.calm = true) (hu : X.A.units + 65 < cLine) (hK : X.K = K := by rfl) : CallR X (.builtin "min") (rMinD K) := by subst hK; exact cr_minD hc hu
end
/-! ### (price, story) -/
def storyD (st : List Int) : PyData := .tuple (st.map PyData.int)
def oneD (x : Int × List Int) : PyData := .tuple [.int x.1, storyD x.2]
theorem alikeAll_ints : ∀ (l m : List Int), PySem.W.alikeAll (l.map PyData.int) (m.map PyData.int) = true
  | [], _ => by simp [PySem.W.alikeAll]
  | _ :: _, [] => by simp [PySem.W.alikeAll]
  | x :: l, y :: m => by
    rw [List.map_cons, List.map_cons, PySem.W.alikeAll, alikeAll_ints l m]
    simp [PySem.W.alike]
theorem alike_one (x y : Int × List Int) : PySem.W.alike (oneD x) (oneD y) = true := by
  unfold oneD storyD
  rw [PySem.W.alike, PySem.W.alikeAll, PySem.W.alikeAll, PySem.W.alikeAll, PySem.W.alike, PySem.W.alike, alikeAll_ints]
  rfl
theorem alikes {l : List (Int × List Int)} : PySem.W.AlikeAll (l.map oneD) := by
  refine ⟨fun x hx y hy => ?_, fun x hx => ?_⟩
  · obtain ⟨a, _, rfl⟩ := List.mem_map.mp hx
    obtain ⟨b, _, rfl⟩ := List.mem_map.mp hy
    exact alike_one a b
  · obtain ⟨a, _, rfl⟩ := List.mem_map.mp hx
    unfold oneD
    intro z
    cases z
theorem dep_ints : ∀ l : List Int, PyData.depthAll (l.map PyData.int) = 0
  | [] => by simp [PyData.depthAll]
  | x :: l => by rw [List.map_cons, PyData.depthAll, dep_ints l]; simp [PyData.depth]
theorem dep_one (x : Int × List Int) : (oneD x).depth = 2 := by
  unfold oneD storyD
  rw [PyData.depth, PyData.depthAll, PyData.depthAll, PyData.depthAll, PyData.depth, PyData.depth, dep_ints]
  rfl
theorem dep_ones : ∀ l : List (Int × List Int), PyData.depthAll (l.map oneD) ≤ 2
  | [] => by simp [PyData.depthAll]
  | x :: l => by
    rw [List.map_cons, PyData.depthAll, dep_one]
    have := dep_ones l
    omega
theorem lt_one {x y : Int × List Int} (h : x.1 ≠ y.1) : PySem.W.dataLt (oneD x) (oneD y) = decide (x.1 < y.1) := by
  unfold oneD
  rw [PySem.W.dataLt_tuple, PySem.W.dataLt_all_no (by simp [PySem.W.alike]) (by simp [PyData.eqv, h]), PySem.W.dataLt_int]
theorem lt_one_le {x y : Int × List Int} (h : PySem.W.dataLt (oneD x) (oneD y) = true) : x.1 ≤ y.1 := by
  by_cases e : x.1 = y.1
  · omega
  · rw [lt_one e, decide_eq_true_eq] at h
    omega
theorem lt_one_ge {x y : Int × List Int} (h : PySem.W.dataLt (oneD x) (oneD y) = false) : y.1 ≤ x.1 := by
  by_cases e : x.1 = y.1
  · omega
  · rw [lt_one e, decide_eq_false_iff_not] at h
    omega
/-- the least one has the least price -/
theorem minD_one : ∀ (l : List (Int × List Int)) (x : Int × List Int), ∃ y, y ∈ x :: l ∧ PySem.W.minD (oneD x) (l.map oneD) = oneD y ∧ ∀ z ∈ x :: l, y.1 ≤ z.1
  | [], x => ⟨x, List.mem_cons_self, rfl, fun z hz => by simp at hz; rw [hz]; exact Int.le_refl _⟩
  | w :: l, x => by
    have e : PySem.W.minD (oneD x) ((w :: l).map oneD) = PySem.W.minD (if PySem.W.dataLt (oneD w) (oneD x) = true then oneD w else oneD x) (l.map oneD) := rfl
    rw [e]
    by_cases h : PySem.W.dataLt (oneD w) (oneD x) = true
    · rw [if_pos h]
      obtain ⟨y, h1, h2, h3⟩ := minD_one l w
      refine ⟨y, List.mem_cons_of_mem _ h1, h2, fun z hz => ?_⟩
      rcases List.mem_cons.mp hz with rfl | hz
      · have := h3 w List.mem_cons_self
        have := lt_one_le h
        omega
      · exact h3 z hz
    · rw [if_neg h]
      obtain ⟨y, h1, h2, h3⟩ := minD_one l x
      refine ⟨y, ?_, h2, fun z hz => ?_⟩
      · rcases List.mem_cons.mp h1 with z | z
        · rw [z]; exact List.mem_cons_self
        · exact List.mem_cons_of_mem _ (List.mem_cons_of_mem _ z)
      · rcases List.mem_cons.mp hz with rfl | hz
        · exact h3 z List.mem_cons_self
        · rcases List.mem_cons.mp hz with rfl | hz
          · have := h3 x List.mem_cons_self
            have := lt_one_ge (Bool.eq_false_iff.mpr h)
            omega
          · exact h3 z (List.mem_cons_of_mem _ hz)
end IC
namespace IC
open PySem L2
/-! ### all stories -/
def two2 (s : List Int) : List (List Int) := [s ++ [0], s ++ [1]]
def allS : Nat → List (List Int)
  | 0 => [[]]
  | k + 1 => (allS k).flatMap two2
def encS (s : List Int) : List V := s.map V.int
theorem allS_len : ∀ k, (allS k).length = 2 ^ k
  | 0 => rfl
  | k + 1 => by
    have ih := allS_len k
    show ((allS k).flatMap two2).length = _
    rw [List.length_flatMap]
    have : ((allS k).map fun x => (two2 x).length) = List.replicate (allS k).length 2 := by
      rw [List.eq_replicate_iff]
      refine ⟨by rw [List.length_map], fun b hb => ?_⟩
      obtain ⟨x, _, rfl⟩ := List.mem_map.mp hb
      rfl
    rw [this, List.sum_replicate_nat, ih, Nat.pow_succ]
theorem mem_allS : ∀ {k : Nat} {s : List Int}, s ∈ allS k ↔ s.length = k ∧ Bin s
  | 0, s => by
    constructor
    · intro h
      have : s = [] := by simpa [allS] using h
      subst this
      exact ⟨rfl, fun x hx => by cases hx⟩
    · rintro ⟨h, _⟩
      have : s = [] := List.length_eq_zero_iff.mp h
      subst this
      exact List.mem_singleton.mpr rfl
  | k + 1, s => by
    show s ∈ (allS k).flatMap two2 ↔ _
    rw [List.mem_flatMap]
    constructor
    · rintro ⟨p, hp, hs⟩
      obtain ⟨hl, hb⟩ := mem_allS.mp hp
      unfold two2 at hs
      simp only [List.mem_cons, List.not_mem_nil, or_false] at hs
      have mk : ∀ v : Int, (v = 0 ∨ v = 1) → (p ++ [v]).length = k + 1 ∧ Bin (p ++ [v]) := fun v hv => ⟨by simp [hl], fun x hx => by
        rcases List.mem_append.mp hx with z | z
        · exact hb x z
        · have : x = v := by simpa using z
          rw [this]; exact hv⟩
      rcases hs with rfl | rfl
      · exact mk 0 (.inl rfl)
      · exact mk 1 (.inr rfl)
    · rintro ⟨hl, hb⟩
      have hne : s ≠ [] := by intro z; rw [z] at hl; cases hl
      have e := List.dropLast_concat_getLast hne
      refine ⟨s.dropLast, mem_allS.mpr ⟨by rw [List.length_dropLast, hl]; rfl, fun x hx => hb x (List.dropLast_subset _ hx)⟩, ?_⟩
      unfold two2
      rcases hb _ (List.getLast_mem hne) with z | z
      · rw [z] at e
        rw [e]
        exact List.mem_cons_self
      · rw [z] at e
        rw [e]
        exact List.mem_cons_of_mem _ List.mem_cons_self
/-- the stories that can be -/
def canS (kn : Kn) (late : Int) (T : Nat) : List (List Int) := (allS T).filter fun s => decide (sumTo kn late T s T < NEV)
/-- refs to tuples that are told one by one -/
theorem tups_split {H : Hp} {α : Type} {enc : α → List V} : ∀ {xs : List V} {l : List α}, TupsAt H xs (l.map enc) → ∃ z : List (Addr × α), xs = z.map (fun x => V.ref x.1) ∧ z.map (·.2) = l ∧ ∀ x ∈ z, H x.1 = some (.tup (enc x.2))
  | [], [], _ => ⟨[], rfl, rfl, fun x hx => by cases hx⟩
  | _ :: _, a :: l, .cons ⟨t, e, h⟩ r => by
    obtain ⟨z, h1, h2, h3⟩ := tups_split r
    subst e
    refine ⟨(t, a) :: z, by rw [h1]; rfl, by rw [List.map_cons, h2], fun x hx => ?_⟩
    rcases List.mem_cons.mp hx with rfl | hx
    · exact h
    · exact h3 x hx
/-- (price, story) of stories, in a list -/
structure SomeAt (H : Hp) (D : Addr) (pr : List Int → Int) (z : List (Addr × List Int)) : Prop where
  lst : ∃ ys, H D = some (.lst ys) ∧ TupsAt H ys (z.map fun x => [V.int (pr x.2), V.ref x.1])
  st : ∀ x ∈ z, H x.1 = some (.tup (encS x.2))
  few : z.length ≤ 1000
theorem SomeAt.same {H H' : Hp} {D : Addr} {pr : List Int → Int} {z : List (Addr × List Int)} (a : SomeAt H D pr z) (s : Same H H') : SomeAt H' D pr z := by
  obtain ⟨⟨ys, h1, h2⟩, h3, h4⟩ := a
  exact ⟨⟨ys, s _ _ h1, h2.mono (.of_same s)⟩, fun x hx => s _ _ (h3 x hx), h4⟩
section
variable {P : Program} {w : World} {K : PySem.W.Frag} {mg : Str → Option Value} {base : Heap} {dI C : Addr}
def sp_lstories : Sp := fun vs H Q _ => ∃ (q L : Addr) (ds : List Addr) (m : Ms) (T b : Nat), vs = [.ref q, .int b] ∧ MAt H q L ds m ∧ MOk m T ∧ T ≤ 7 ∧ b < m.kns.length ∧
  ∀ (D : Addr) (z : List (Addr × List Int)) (H' : Hp), Same H H' → H D = none → SomeAt H' D (fun s => sumTo (m.kns.getD b []) m.late T s T) z → z.map (·.2) = canS (m.kns.getD b []) m.late T → Q (.ref D) H'
theorem sc__law_stories : FnScope ["_law_m", "_law_badge", "_law_some", "_law_moment", "_law_longer", "_law_story", "_law_state", "_law_told_here", "_law_one"] ["_law_m", "_law_badge"] (defScope s__law_stories) := ⟨rfl, rfl, rfl, by decide +kernel, rfl, by decide +kernel, by decide +kernel⟩
theorem ok_lstories {f : Addr} {fd : FuncData} (F : Fun K "_law_stories" "_law_stories" s__law_stories f fd) (G : Glb K w mg dI) (c__law_price : C8.Cal P w K mg base 1 "_law_price" (sp_lprice K) []) : FnOk P w K mg base CX0 2 f fd ["_law_m", "_law_badge"] sp_lstories := by
  refine F.ok sc__law_stories (fun vs H Q E h => ?_) (fun cdv A outer s H vs Q E hr h => ?_)
  · obtain ⟨q, L, ds, m, T, b, rfl, _⟩ := h
    rfl
  · obtain ⟨q0, L, ds, m, T, b, rfl, ma, mo, hT7, hb, q⟩ := h
    have hu := hu_of hr
    have htm := mo.tm
    refine ⟨_, (pss_cons (ps_set (i := 2) sc__law_stories.nd rfl (Or.inl rfl) (pe_lst (pa_cons (pe_tup pa_nil) pa_nil)))
      (pss_cons (ps_for PassesOwn.never rfl (pi_range1 rfl G.range (pa_cons (pe_dget hu (pv 0) pe_str (fun _ _ => rfl)) pa_nil)) (pg_name (i := 3) sc__law_stories.nd rfl (Or.inl rfl))
        (pss_cons (ps_set (i := 4) sc__law_stories.nd rfl (Or.inl rfl) (pe_lst pa_nil))
          (pss_cons (ps_for PassesOwn.never rfl (pi_list (pv 2)) (pg_name (i := 5) sc__law_stories.nd rfl (Or.inr rfl))
            (pss_one (ps_expr (pe_bm PySem.F.plainAttrs_list PySem.F.slot_list_extend PySem.F.type_list_extend mt_extend (pv 4) (pa_cons (pe_lc (own := [("_law_state", 6)]) (g := gName 6) (tt := tYes) rfl sc__law_stories.nd (pi_range1 rfl G.range (pa_cons pe_int pa_nil)) (blkOk_by (own := [("_law_state", 6)]) (N := ["_law_m", "_law_badge", "_law_some", "_law_moment", "_law_longer", "_law_story", "_law_state", "_law_told_here", "_law_one"]) (sc := defScope s__law_stories) (by decide +kernel)) (fun _ _ _ _ _ => (pg_name (i := 6) sc__law_stories.nd rfl (Or.inl rfl))) (fun _ _ _ _ _ => pts_nil) (fun _ _ _ _ _ => (pe_op (op_catK (K := K)) (pv 5) (pe_tup (pa_cons (pv 6) pa_nil))))) pa_nil)))))
          (pss_one (ps_set (i := 2) sc__law_stories.nd rfl (Or.inl rfl) (pv 4))))))
      (pss_cons (ps_setLc (i := 7) (own := [("_law_story", 5)]) (g := gName 5) (tt := tYes) rfl sc__law_stories.nd rfl rfl (sw_true rfl rfl rfl (by decide +kernel)) (pi_list (pv 2)) (blkOk_by (own := [("_law_story", 5)]) (N := ["_law_m", "_law_badge", "_law_some", "_law_moment", "_law_longer", "_law_story", "_law_state", "_law_told_here", "_law_one"]) (sc := defScope s__law_stories) (by decide +kernel)) (fun _ _ _ _ _ => (pg_name (i := 5) sc__law_stories.nd rfl (Or.inl rfl))) (fun _ _ _ _ _ => pts_nil) (fun _ _ _ _ _ => (pe_tup (pa_cons (C8.pe_c c__law_price hr (by decide) rfl (pa_cons (pv 0) (pa_cons (pv 1) (pa_cons (pv 5) pa_nil)))) (pa_cons (pv 5) pa_nil)))))
      (pss_one (ps_ret (pe_lc (own := [("_law_one", 8)]) (g := gName 8) rfl sc__law_stories.nd (pi_list (pv 7)) (blkOk_by (own := [("_law_one", 8)]) (N := ["_law_m", "_law_badge", "_law_some", "_law_moment", "_law_longer", "_law_story", "_law_state", "_law_told_here", "_law_one"]) (sc := defScope s__law_stories) (by decide +kernel)) (fun _ _ _ _ _ => (pg_name (i := 8) sc__law_stories.nd rfl (Or.inl rfl))) (fun _ _ _ _ _ => (pts_one (pt_cmpR op_notN (pe_ix (ix_tupK (K := K)) (pv 8) pe_int (fun _ _ => rfl)) pe_non (nomark _)))) (fun _ _ _ _ _ => (pv 8)))))))), ?_⟩
    refine ⟨sz (by simp), fun t0 nt0 => ⟨sz (by simp), fun s0 ns0 => ?_⟩⟩
    have s1 : Same H (upd (upd H t0 (.tup [])) s0 (.lst [.ref t0])) := (Same.new nt0).trans (Same.new ns0)
    have ht1 : upd (upd H t0 (.tup [])) s0 (.lst [.ref t0]) t0 = some (.tup []) := (Same.new ns0) _ _ upd_same
    have hs1 : upd (upd H t0 (.tup [])) s0 (.lst [.ref t0]) s0 = some (.lst [.ref t0]) := upd_same
    generalize upd (upd H t0 (.tup [])) s0 (.lst [.ref t0]) = H1 at *
    refine ⟨_, rfl, q0, _, rfl, (ma.same s1).g_time, _, rfl, by omega, by omega, ?_⟩
    rw [htm, Int.toNat_natCast]
    refine for_range0 (n := T) (fun i σ H2 => ∃ (sA : Addr) (xs : List V) (o3 o4 o5 o6 o7 o8 : Option V), σ = [some (.ref q0), some (.int (b : Int)), some (.ref sA), o3, o4, o5, o6, o7, o8] ∧
        Same H H2 ∧ H2 sA = some (.lst xs) ∧ TupsAt H2 xs ((allS i).map encS)) ⟨s0, _, none, none, none, none, none, none, rfl, s1, hs1, .cons ⟨t0, rfl, ht1⟩ .nil⟩ ?_ ?_
    · rintro i σ H2 hi ⟨sA, xs, o3, o4, o5, o6, o7, o8, rfl, s2, hsA, hx⟩
      have hcl := allS_len i
      have hp2 : 2 ^ i ≤ 128 := by
        have := Nat.pow_le_pow_right (n := 2) (by decide) (show i ≤ 7 by omega)
        omega
      have hxl : xs.length = 2 ^ i := by have := hx.length; rw [List.length_map, hcl] at this; exact this
      refine ⟨sz (by simp), fun lo nlo => ?_⟩
      have s4 : Same H2 (upd H2 lo (.lst [])) := Same.new nlo
      have hlo4 : upd H2 lo (.lst []) lo = some (.lst []) := upd_same
      have nlosA : sA ≠ lo := ne_of_none hsA nlo
      generalize upd H2 lo (.lst []) = H4 at *
      refine ⟨_, rfl, sA, rfl, ⟨_, SqL.of (s4 _ _ hsA)⟩, for_list (K := K) (a := sA) (xs := xs) (fun k σ H5 => ∃ (zs : List V) (o5 : Option V), σ = [some (.ref q0), some (.int (b : Int)), some (.ref sA), some (.int (i : Int)), some (.ref lo), o5, o6, o7, o8] ∧
          Same H2 H5 ∧ H5 lo = some (.lst zs) ∧ TupsAt H5 zs ((((allS i).take k).flatMap two2).map encS))
        ⟨[], _, rfl, s4, hlo4, .nil⟩ (fun k σ H5 _ ⟨_, _, _, s5, _⟩ => SqL.of (s5 _ _ hsA)) ?_ ?_⟩
      · rintro k x σ H5 hk ⟨zs, o5, rfl, s5, hlo5, hz⟩
        obtain ⟨dv, hdv, tA, rfl, hta⟩ := Paired.getL hx hk
        rw [List.getElem?_map] at hdv
        obtain ⟨y, hy, rfl⟩ := Option.map_eq_some_iff.mp hdv
        have hkl : k < 2 ^ i := by have := (List.getElem?_eq_some_iff.mp hy).1; omega
        have ylen : y.length = i := (mem_allS.mp (List.mem_of_getElem? hy)).1
        have etk : (allS i).take (k + 1) = (allS i).take k ++ [y] := by rw [List.take_succ, hy]; rfl
        have hzl : zs.length ≤ 256 := by
          have h1 := hz.length
          rw [List.length_map, List.length_flatMap] at h1
          have h2 : (((allS i).take k).map fun x => (two2 x).length) = List.replicate ((allS i).take k).length 2 := by
            rw [List.eq_replicate_iff]
            refine ⟨by rw [List.length_map], fun b hb => ?_⟩
            obtain ⟨x, _, rfl⟩ := List.mem_map.mp hb
            rfl
          rw [h2, List.sum_replicate_nat, List.length_take] at h1
          omega
        refine ⟨_, rfl, .inl ⟨rfl, _, SqL.of hlo5⟩, 2, rfl, by decide, by decide, fun E nE => ?_⟩
        refine lc_mk (n := 2) (fun st => encS (y ++ [(st : Int)])) nE (by decide) (fun _ => rfl) (fun st hst => ?_) fun ys H6 s6 hE hy6 => ?_
        · intro H6 s6 Q6 q6
          refine ⟨_, rfl, _, rfl, sz (by simp), fun t2 nt2 => ?_⟩
          have hta6 := (Same.new (o := .tup [.int (st : Int)]) nt2) _ _ (s6 _ _ (s5 _ _ hta))
          have e : encS (y ++ [(st : Int)]) = encS y ++ [.int (st : Int)] := by unfold encS; rw [List.map_append]; rfl
          refine ⟨tA, t2, _, _, rfl, rfl, SqT.of hta6, SqT.of upd_same, sz (by unfold encS; simp; omega), fun z => ?_, (fun _ z => by cases z), fun _ _ t3 n3 => ?_⟩
          · refine q6 t2 _ (Same.new nt2) nt2 ?_
            rw [e, z, upd_same]
            rfl
          · refine q6 t3 _ ((Same.new nt2).trans (Same.new n3)) ((Same.new nt2).free n3) ?_
            rw [e]
            exact upd_same
        · have hyl : ys.length = 2 := by have := hy6.length; rw [List.length_map, List.length_range] at this; exact this
          refine ⟨lo, E, zs, ys, rfl, rfl, s6 _ _ hlo5, hE, sz (by omega), ?_⟩
          have tS : TupS H6 (upd H6 lo (.lst (zs ++ ys))) := TupS.upd (TupS.refl _) (by rw [s6 _ _ hlo5]; intro xs z; cases z)
          refine ⟨zs ++ ys, _, rfl, Same.mut (s5.trans s6) nlo, upd_same, ?_⟩
          rw [etk, List.flatMap_append, List.map_append]
          refine Paired.append ((hz.mono (.of_same s6)).mono tS) ?_
          have e : ([y].flatMap two2).map encS = (List.range 2).map fun (st : Nat) => encS (y ++ [(st : Int)]) := rfl
          rw [e]
          exact hy6.mono tS
      · rintro σ H5 ⟨zs, o5, rfl, s5, hlo5, hz⟩
        refine ⟨_, rfl, lo, zs, _, _, _, _, _, _, rfl, s2.trans s5, hlo5, ?_⟩
        rw [hxl, ← hcl, List.take_length] at hz
        exact hz
    · rintro σ H2 ⟨sA, xs, o3, o4, o5, o6, o7, o8, rfl, s2, hsA, hx⟩
      have hcl := allS_len T
      have hp2 : 2 ^ T ≤ 128 := by
        have := Nat.pow_le_pow_right (n := 2) (by decide) hT7
        omega
      obtain ⟨z, ez1, ez2, hz⟩ := tups_split hx
      have zl : z.length = 2 ^ T := by have := congrArg List.length ez2; rw [List.length_map, hcl] at this; exact this
      rw [ez1] at hsA
      have zm : ∀ x ∈ z, x.2.length = T ∧ Bin x.2 := fun x hx => mem_allS.mp (by rw [← ez2]; exact List.mem_map.mpr ⟨x, hx, rfl⟩)
      -- told
      refine ⟨_, rfl, sA, rfl, ⟨_, SqL.of hsA⟩, fun D nD => ?_⟩
      refine lc_mkL (K := K) (enc := fun x : Addr × List Int => V.ref x.1) (l := z) (fun x => [priceV (m.kns.getD b []) m.late T x.2, .ref x.1]) (SqL.of hsA) nD (by omega) (fun _ => rfl) (fun x hx => ?_) fun ys H3 s3 hD hy => ?_
      · intro H3 s3 Q3 q3
        refine ⟨_, rfl, _, rfl, _, rfl, q0, L, ds, m, T, b, x.1, x.2, rfl, ma.same (s2.trans s3), mo, hb, SqT.of (s3 _ _ (hz x hx)), (zm x hx).1, (zm x hx).2, fun H4 s4 => ⟨_, rfl, sz (by simp), fun t nt => ?_⟩⟩
        exact q3 t _ (s4.trans (Same.new nt)) (s4.free nt) upd_same
      -- those that can be
      have yl : ys.length = z.length := by have := hy.length; rw [List.length_map] at this; exact this
      refine ⟨_, rfl, D, rfl, ⟨_, SqL.of hD⟩, fun D2 nD2 => ?_⟩
      refine lc_filt (K := K) (enc := fun x : Addr × List Int => [priceV (m.kns.getD b []) m.late T x.2, .ref x.1]) (l := z) (f := fun x => !decide (priceV (m.kns.getD b []) m.late T x.2 = .non)) hy hD nD2 (by omega) (fun _ => rfl) (fun _ => rfl)
        (fun i' y tA H2 _ _ hta Q qq => ⟨_, rfl, tA, _, _, _, rfl, rfl, SqT.of hta, rfl, rfl, _, rfl, qq⟩) fun us H4 s4 hD2 hu4 => ?_
      have ef : ∀ x : Addr × List Int, (!decide (priceV (m.kns.getD b []) m.late T x.2 = .non)) = decide (sumTo (m.kns.getD b []) m.late T x.2 T < NEV) := by
        intro x
        unfold priceV
        by_cases hh : sumTo (m.kns.getD b []) m.late T x.2 T < NEV
        · rw [if_pos hh, decide_eq_true hh]
          rfl
        · rw [if_neg hh, decide_eq_false hh]
          rfl
      have efl : z.filter (fun x => !decide (priceV (m.kns.getD b []) m.late T x.2 = .non)) = z.filter (fun x => decide (sumTo (m.kns.getD b []) m.late T x.2 T < NEV)) := List.filter_congr fun x _ => ef x
      rw [efl] at hu4
      have zf : (z.filter (fun x => decide (sumTo (m.kns.getD b []) m.late T x.2 T < NEV))).length ≤ z.length := List.length_filter_le _ _
      refine q D2 (z.filter fun x => decide (sumTo (m.kns.getD b []) m.late T x.2 T < NEV)) H4 ((s2.trans s3).trans s4) ((s2.trans s3).free nD2) ⟨⟨us, hD2, ?_⟩, fun x hx => s4 _ _ (s3 _ _ (hz x (List.mem_filter.mp hx).1)), by omega⟩ ?_
      · have e : (z.filter fun x => decide (sumTo (m.kns.getD b []) m.late T x.2 T < NEV)).map (fun x => [priceV (m.kns.getD b []) m.late T x.2, V.ref x.1]) = (z.filter fun x => decide (sumTo (m.kns.getD b []) m.late T x.2 T < NEV)).map (fun x => [V.int (sumTo (m.kns.getD b []) m.late T x.2 T), V.ref x.1]) := by
          refine List.map_congr_left fun x hx => ?_
          have := (List.mem_filter.mp hx).2
          rw [decide_eq_true_eq] at this
          unfold priceV
          rw [if_pos this]
        rw [← e]
        exact hu4
      · unfold canS
        rw [← ez2, List.filter_map]
        rfl
end
end IC
namespace IC
open PySem L2
/-! ### lists of (price, story), and a list of these -/
abbrev One := Addr × (Int × List Int)
def encO (x : One) : List V := [V.int x.2.1, V.ref x.1]
structure Ones (H : Hp) (D : Addr) (l : List One) : Prop where
  lst : ∃ ys, H D = some (.lst ys) ∧ TupsAt H ys (l.map encO)
  st : ∀ x ∈ l, H x.1 = some (.tup (encS x.2.2))
  few : l.length ≤ 1000
theorem Ones.same {H H' : Hp} {D : Addr} {l : List One} (a : Ones H D l) (s : Same H H') : Ones H' D l := by
  obtain ⟨⟨ys, h1, h2⟩, h3, h4⟩ := a
  exact ⟨⟨ys, s _ _ h1, h2.mono (.of_same s)⟩, fun x hx => s _ _ (h3 x hx), h4⟩
theorem SomeAt.ones {H : Hp} {D : Addr} {pr : List Int → Int} {z : List (Addr × List Int)} (a : SomeAt H D pr z) : Ones H D (z.map fun x => (x.1, (pr x.2, x.2))) := by
  obtain ⟨⟨ys, h1, h2⟩, h3, h4⟩ := a
  refine ⟨⟨ys, h1, by rw [List.map_map]; exact h2⟩, fun x hx => ?_, by rw [List.length_map]; exact h4⟩
  obtain ⟨y, hy, rfl⟩ := List.mem_map.mp hx
  exact h3 y hy
structure Every (H : Hp) (eA : Addr) (es : List (Addr × List One)) : Prop where
  lst : H eA = some (.lst (es.map fun e => V.ref e.1))
  at_ : ∀ e ∈ es, Ones H e.1 e.2
  few : es.length ≤ 6
theorem Every.same {H H' : Hp} {eA : Addr} {es : List (Addr × List One)} (a : Every H eA es) (s : Same H H') : Every H' eA es := ⟨s _ _ a.lst, fun e he => (a.at_ e he).same s, a.few⟩
theorem dp_ints {K : PySem.W.Frag} {H : Hp} : ∀ st : List Int, DpAll K H (encS st) (st.map PyData.int)
  | [] => .nil
  | x :: st => .cons (.int x) (dp_ints st)
theorem dp_ones {K : PySem.W.Frag} {H : Hp} : ∀ {ys : List V} {l : List One}, TupsAt H ys (l.map encO) → (∀ x ∈ l, H x.1 = some (.tup (encS x.2.2))) → DpAll K H ys (l.map fun x => oneD x.2)
  | [], [], _, _ => .nil
  | _ :: _, x :: l, .cons ⟨t, e, h⟩ r, hs => by
    subst e
    exact .cons (.tup (SqT.of h) (.cons (.int _) (.cons (.tup (SqT.of (hs x List.mem_cons_self)) (dp_ints _)) .nil))) (dp_ones r fun y hy => hs y (List.mem_cons_of_mem _ hy))
theorem Ones.dp {K : PySem.W.Frag} {H : Hp} {D : Addr} {l : List One} (a : Ones H D l) : Dp K H (.ref D) (.list (l.map fun x => oneD x.2)) := by
  obtain ⟨⟨ys, h1, h2⟩, h3, _⟩ := a
  exact .lst (SqL.of h1) (dp_ones h2 h3)
theorem dp_every {K : PySem.W.Frag} {H : Hp} : ∀ {es : List (Addr × List One)}, (∀ e ∈ es, Ones H e.1 e.2) → DpAll K H (es.map fun e => V.ref e.1) (es.map fun e => .list (e.2.map fun x => oneD x.2))
  | [], _ => .nil
  | e :: es, h => .cons (h e List.mem_cons_self).dp (dp_every fun x hx => h x (List.mem_cons_of_mem _ hx))
theorem lay_ints : ∀ l : List Int, PyData.canLayAll0 (l.map PyData.int) = true
  | [] => by simp [PyData.canLayAll0]
  | x :: l => by rw [List.map_cons, PyData.canLayAll0, lay_ints l]; simp [PyData.canLay0]
theorem lay_one (x : Int × List Int) : (oneD x).canLay0 = true := by
  unfold oneD storyD
  rw [PyData.canLay0, PyData.canLayAll0, PyData.canLayAll0, PyData.canLayAll0, PyData.canLay0, PyData.canLay0, lay_ints]
  rfl
theorem lay_ones : ∀ l : List One, PyData.canLayAll0 (l.map fun x => oneD x.2) = true
  | [] => by simp [PyData.canLayAll0]
  | x :: l => by rw [List.map_cons, PyData.canLayAll0, lay_ones l, lay_one]; rfl
theorem lay_every : ∀ es : List (Addr × List One), PyData.canLayAll0 (es.map fun e => PyData.list (e.2.map fun x => oneD x.2)) = true
  | [] => by simp [PyData.canLayAll0]
  | e :: es => by rw [List.map_cons, PyData.canLayAll0, lay_every es, PyData.canLay0, lay_ones]; rfl
theorem dep_onesO (l : List One) : PyData.depthAll (l.map fun x => oneD x.2) ≤ 2 := by
  have := dep_ones (l.map (·.2))
  rw [List.map_map] at this
  exact this
theorem dep_every : ∀ es : List (Addr × List One), PyData.depthAll (es.map fun e => PyData.list (e.2.map fun x => oneD x.2)) ≤ 3
  | [] => by simp [PyData.depthAll]
  | e :: es => by
    rw [List.map_cons, PyData.depthAll, PyData.depth]
    have := dep_every es
    have := dep_onesO e.2
    omega
theorem shaped_every (es : List (Addr × List One)) : SeqAt.shaped (.list (es.map fun e => PyData.list (e.2.map fun x => oneD x.2))) = true := by
  unfold SeqAt.shaped
  have := dep_every es
  rw [PyData.canLay0, lay_every, PyData.depth, Bool.true_and, decide_eq_true_eq]
  omega
theorem any_nil (es : List (Addr × List One)) : ((es.map fun e => PyData.list (e.2.map fun x => oneD x.2)).any fun z => PyData.eqv z (.list [])) = es.any fun e => e.2.isEmpty := by
  rw [List.any_map]
  congr 1
  funext e
  show PyData.eqv (.list (e.2.map fun x => oneD x.2)) (.list []) = _
  rw [eqv_nil, List.isEmpty_map]
/-- the least price -/
def minPr : List One → Int
  | [] => 0
  | x :: l => l.foldl (fun a y => min a y.2.1) x.2.1
theorem foldmin (l : List One) : ∀ a : Int, (l.foldl (fun a y => min a y.2.1) a ≤ a ∧ ∀ y ∈ l, l.foldl (fun a y => min a y.2.1) a ≤ y.2.1) ∧ (l.foldl (fun a y => min a y.2.1) a = a ∨ ∃ y ∈ l, l.foldl (fun a y => min a y.2.1) a = y.2.1) := by
  induction l with
  | nil => intro a; exact ⟨⟨Int.le_refl _, fun y hy => by cases hy⟩, .inl rfl⟩
  | cons x l ih =>
    intro a
    rw [List.foldl_cons]
    obtain ⟨⟨h1, h2⟩, h3⟩ := ih (min a x.2.1)
    refine ⟨⟨by omega, fun y hy => ?_⟩, ?_⟩
    · rcases List.mem_cons.mp hy with rfl | hy
      · omega
      · exact h2 y hy
    · rcases h3 with h3 | ⟨y, hy, h3⟩
      · rcases Int.le_total a x.2.1 with z | z
        · left; omega
        · right; exact ⟨x, List.mem_cons_self, by omega⟩
      · right; exact ⟨y, List.mem_cons_of_mem _ hy, h3⟩
theorem minPr_le {l : List One} : ∀ y ∈ l, minPr l ≤ y.2.1 := by
  cases l with
  | nil => intro y hy; cases hy
  | cons x l =>
    intro y hy
    obtain ⟨⟨h1, h2⟩, _⟩ := foldmin l x.2.1
    rcases List.mem_cons.mp hy with rfl | hy
    · exact h1
    · exact h2 y hy
theorem minPr_uniq {l : List One} {p : Int} (h1 : ∃ y ∈ l, y.2.1 = p) (h2 : ∀ y ∈ l, p ≤ y.2.1) : p = minPr l := by
  obtain ⟨y, hy, rfl⟩ := h1
  have a := minPr_le y hy
  cases l with
  | nil => cases hy
  | cons x l =>
    obtain ⟨_, h3⟩ := foldmin l x.2.1
    rcases h3 with h3 | ⟨z, hz, h3⟩
    · have := h2 x List.mem_cons_self
      show _ = l.foldl (fun a y => min a y.2.1) x.2.1
      have a : l.foldl (fun a y => min a y.2.1) x.2.1 ≤ y.2.1 := a
      omega
    · have := h2 z (List.mem_cons_of_mem _ hz)
      show _ = l.foldl (fun a y => min a y.2.1) x.2.1
      have a : l.foldl (fun a y => min a y.2.1) x.2.1 ≤ y.2.1 := a
      omega
theorem oneD_fst {x y : Int × List Int} (h : oneD x = oneD y) : x.1 = y.1 := by
  unfold oneD at h
  injection h with h
  injection h with h
  injection h
/-- min of a list of (price, story) -/
theorem min_ones {K : PySem.W.Frag} {H : Hp} {D : Addr} {l : List One} (a : Ones H D l) (hne : l ≠ []) : ∃ (xs : List V) (x : PyData) (ds : List PyData), SqL K H D xs ∧ DpAll K H xs (x :: ds) ∧ PySem.W.AlikeAll (x :: ds) ∧ PyData.depthAll (x :: ds) ≤ 60 ∧
    ∀ (i : Nat) (v : V), xs[i]? = some v → (x :: ds)[i]? = some (PySem.W.minD x ds) → ∃ (t : Addr) (u : V), v = .ref t ∧ H t = some (.tup [.int (minPr l), u]) := by
  obtain ⟨⟨ys, h1, h2⟩, h3, h4⟩ := a
  cases l with
  | nil => exact absurd rfl hne
  | cons x l =>
    have dall := dp_ones (K := K) h2 h3
    have e1 : ((x :: l).map fun x => oneD x.2) = oneD x.2 :: l.map fun x => oneD x.2 := rfl
    have e2 : (l.map fun x => oneD x.2) = (l.map (·.2)).map oneD := by rw [List.map_map]; rfl
    rw [e1] at dall
    refine ⟨ys, oneD x.2, l.map fun x => oneD x.2, SqL.of h1, dall, ?_, ?_, fun i v hv hd => ?_⟩
    · have := alikes (l := (x :: l).map (·.2))
      rw [List.map_map] at this
      exact this
    · have := dep_onesO (x :: l)
      rw [← e1]
      omega
    · obtain ⟨dv, hdv, t, rfl, ht⟩ := Paired.getL h2 hv
      rw [List.getElem?_map] at hdv
      obtain ⟨y, hy, rfl⟩ := Option.map_eq_some_iff.mp hdv
      rw [e2] at hd
      obtain ⟨z, hz1, hz2, hz3⟩ := minD_one (l.map (·.2)) x.2
      rw [hz2] at hd
      have e3 : (oneD x.2 :: (l.map (·.2)).map oneD) = (x :: l).map fun x => oneD x.2 := by rw [e1, e2]
      rw [e3, List.getElem?_map, hy] at hd
      have e4 : oneD y.2 = oneD z := Option.some.inj hd
      have e5 := oneD_fst e4
      have : y.2.1 = minPr (x :: l) := minPr_uniq ⟨y, List.mem_of_getElem? hy, rfl⟩ fun u hu => by
        rw [e5]
        refine hz3 u.2 ?_
        rcases List.mem_cons.mp hu with rfl | hu
        · exact List.mem_cons_self
        · exact List.mem_cons_of_mem _ (List.mem_map.mpr ⟨u, hu, rfl⟩)
      refine ⟨t, .ref y.1, rfl, ?_⟩
      rw [← this]
      exact ht
section
variable {P : Program} {w : World} {K : PySem.W.Frag} {mg : Str → Option Value} {base : Heap} {dI C : Addr}
def sp_spare (K : PySem.W.Frag) : Sp := fun vs H Q _ => ∃ (q L : Addr) (ds : List Addr) (m : Ms) (eA : Addr) (es : List (Addr × List One)), vs = [.ref q, .ref eA] ∧ MAt H q L ds m ∧ Every H eA es ∧
  ((es.any fun e => e.2.isEmpty) = true → ∀ H', Same H H' → Q .non H') ∧ ((es.any fun e => e.2.isEmpty) = false → ∀ H', Same H H' → Q (.int (m.lost - (es.map fun e => minPr e.2).sum)) H')
theorem sc__law_spare : FnScope ["_law_m", "_law_every", "_law_some"] ["_law_m", "_law_every"] (defScope s__law_spare) := ⟨rfl, rfl, rfl, by decide +kernel, rfl, by decide +kernel, by decide +kernel⟩
theorem ok_spare {f : Addr} {fd : FuncData} (F : Fun K "_law_spare" "_law_spare" s__law_spare f fd) (G : Glb K w mg dI) : FnOk P w K mg base CX0 1 f fd ["_law_m", "_law_every"] (sp_spare K) := by
  refine F.ok sc__law_spare (fun vs H Q E h => ?_) (fun cdv A outer s H vs Q E hr h => ?_)
  · obtain ⟨q, L, ds, m, eA, es, rfl, _⟩ := h
    rfl
  · obtain ⟨q0, L, ds, m, eA, es, rfl, ma, ev, q1, q2⟩ := h
    have hu := hu_of hr
    have few := ev.few
    refine ⟨_, (pss_cons (ps_if (pt_cmpR (op_inD (hu65 hr)) (pe_lst pa_nil) (pv 1) (by rfl))
        (pss_one (ps_ret pe_non))
        pss_nil)
      (pss_one (ps_ret (pe_op op_sub (pe_dget hu (pv 0) pe_str (fun _ _ => rfl)) (pe_callB (cr_sum rfl) (by rfl) G.sum (by decide +kernel) (pa_cons (pe_lc (own := [("_law_some", 2)]) (g := gName 2) (tt := tYes) rfl sc__law_spare.nd (pi_list (pv 1)) (blkOk_by (own := [("_law_some", 2)]) (N := ["_law_m", "_law_every", "_law_some"]) (sc := defScope s__law_spare) (by decide +kernel)) (fun _ _ _ _ _ => (pg_name (i := 2) sc__law_spare.nd rfl (Or.inl rfl))) (fun _ _ _ _ _ => pts_nil) (fun _ _ _ _ _ => (pe_ix (ix_tupK (K := K)) (pe_callB (cr_minDK (K := K) rfl (hu65 hr)) (by rfl) G.min (by decide +kernel) (pa_cons (pv 2) pa_nil)) pe_int (fun _ _ => rfl)))) pa_nil)))))), ?_⟩
    refine ⟨sz (by simp), fun n0 nn0 => ⟨_, rfl, ?_⟩⟩
    have s1 : Same H (upd H n0 (.lst [])) := Same.new nn0
    have hn0 : upd H n0 (.lst []) n0 = some (.lst []) := upd_same
    generalize upd H n0 (.lst []) = H1 at *
    have ev1 := ev.same s1
    refine ⟨.list [], es.map (fun e => .list (e.2.map fun x => oneD x.2)), dp_nil hn0, .lst (SqL.of ev1.lst) (dp_every ev1.at_), shaped_nil, shaped_every es, _, rfl, ?_⟩
    cases hany : es.any fun e => e.2.isEmpty with
    | true =>
      refine ifT (by rw [any_nil]; exact hany) ?_
      exact q1 hany H1 s1
    | false =>
      refine ifF (by rw [any_nil]; exact hany) ?_
      refine ⟨_, rfl, q0, _, rfl, (ma.same s1).g_lost, _, rfl, eA, rfl, ⟨_, SqL.of ev1.lst⟩, fun D nD => ?_⟩
      refine lc_over (K := K) (enc := fun e : Addr × List One => V.ref e.1) (l := es) (fun _ => true) (fun e => .int (minPr e.2)) (SqL.of ev1.lst) nD (by omega) (fun _ => rfl) (fun _ _ => GivesB.yes) (fun e he _ => ?_) fun H2 s2 hD => ?_
      · intro H2 s2 Q2 q2
        have ne : e.2 ≠ [] := by
          intro z
          have := List.any_eq_false.mp hany e he
          rw [z] at this
          exact this rfl
        obtain ⟨xs, x, dd, g1, g2, g3, g4, g5⟩ := min_ones (K := K) ((ev1.at_ e he).same s2) ne
        refine ⟨_, rfl, e.1, xs, x, dd, rfl, g1, g2, g3, g4, fun i v hv hd => ?_⟩
        obtain ⟨t, u, rfl, ht⟩ := g5 i v hv hd
        exact ⟨t, _, _, _, rfl, rfl, SqT.of ht, rfl, q2 H2 (Same.refl _)⟩
      · rw [List.filter_eq_self.mpr (fun _ _ => rfl)] at hD
        refine ⟨D, es.map (fun e => minPr e.2), rfl, SqL.of (by rw [List.map_map]; exact hD), _, _, rfl, rfl, ?_⟩
        exact q2 hany H2 (s1.trans s2)
def sp_standing : Sp := fun vs H Q _ => ∃ (eA : Addr) (es : List (Addr × List One)) (b : Nat) (e : Addr × List One) (sp : Int), vs = [.ref eA, .int b, .int sp] ∧ Every H eA es ∧ es[b]? = some e ∧ e.2 ≠ [] ∧
  ∀ (D : Addr) (H' : Hp), Same H H' → H D = none → H' D = some (.lst ((e.2.filter fun x => decide (x.2.1 ≤ minPr e.2 + sp)).map fun x => V.ref x.1)) → Q (.ref D) H'
theorem sc__law_standing : FnScope ["_law_every", "_law_badge", "_law_spare_here", "_law_most", "_law_price_here", "_law_story"] ["_law_every", "_law_badge", "_law_spare_here"] (defScope s__law_standing) := ⟨rfl, rfl, rfl, by decide +kernel, rfl, by decide +kernel, by decide +kernel⟩
theorem ok_standing {f : Addr} {fd : FuncData} (F : Fun K "_law_standing" "_law_standing" s__law_standing f fd) (G : Glb K w mg dI) : FnOk P w K mg base CX0 1 f fd ["_law_every", "_law_badge", "_law_spare_here"] sp_standing := by
  refine F.ok sc__law_standing (fun vs H Q E h => ?_) (fun cdv A outer s H vs Q E hr h => ?_)
  · obtain ⟨eA, es, b, e, sp, rfl, _⟩ := h
    rfl
  · obtain ⟨eA, es, b, e, sp, rfl, ev, he, ne, q⟩ := h
    have hon := ev.at_ e (List.mem_of_getElem? he)
    have hat : atI (es.map fun e => V.ref e.1) (b : Int) = some (.ref e.1) := atI_nat (by rw [List.getElem?_map, he]; rfl)
    refine ⟨_, (pss_cons (ps_set (i := 3) sc__law_standing.nd rfl (Or.inr rfl) (pe_op op_add (pe_ix ix_tup (pe_callB (cr_minD rfl (hu65 hr)) (by rfl) G.min (by decide +kernel) (pa_cons (pe_ix ix_list (pv 0) (pv 1) (fun _ _ => rfl)) pa_nil)) pe_int (fun _ _ => rfl)) (pv 2)))
      (pss_one (ps_ret (pe_lc (own := [("_law_price_here", 4), ("_law_story", 5)]) (g := gTup K 2 (gCons (gName 4) (gCons (gName 5) gNil))) rfl sc__law_standing.nd (pi_list (pe_ix ix_list (pv 0) (pv 1) (fun _ _ => rfl))) (blkOk_by (own := [("_law_price_here", 4), ("_law_story", 5)]) (N := ["_law_every", "_law_badge", "_law_spare_here", "_law_most", "_law_price_here", "_law_story"]) (sc := defScope s__law_standing) (by decide +kernel)) (fun _ _ _ _ _ => (pg_tupK (K := K) rfl (pgs_cons (pg_name (i := 4) sc__law_standing.nd rfl (Or.inl rfl)) (pgs_cons (pg_name (i := 5) sc__law_standing.nd rfl (Or.inl rfl)) pgs_nil)))) (fun _ _ _ _ _ => (pts_one (pt_cmpR op_le (pv 4) (pv 3) (nomark _)))) (fun _ _ _ _ _ => (pv 5)))))), ?_⟩
    obtain ⟨xs, x, dd, g1, g2, g3, g4, g5⟩ := min_ones (K := K) hon ne
    refine ⟨_, rfl, _, rfl, eA, _, _, _, rfl, rfl, SqL.of ev.lst, hat, e.1, xs, x, dd, rfl, g1, g2, g3, g4, fun i v hv hd => ?_⟩
    obtain ⟨t, u, rfl, ht⟩ := g5 i v hv hd
    refine ⟨t, _, _, _, rfl, rfl, SqT.of ht, rfl, _, rfl, _, _, rfl, rfl, ?_⟩
    obtain ⟨⟨ys, h1, h2⟩, h3, h4⟩ := hon
    have yl : ys.length = e.2.length := by have := h2.length; rw [List.length_map] at this; exact this
    refine ⟨_, rfl, _, rfl, eA, _, _, _, rfl, rfl, SqL.of ev.lst, hat, e.1, rfl, ⟨_, SqL.of h1⟩, fun D nD => ?_⟩
    refine lc_list (K := K) (a := e.1) (xs := ys) (fun k H3 => Same H H3 ∧ H3 D = some (.lst (((e.2.take k).filter fun x => decide (x.2.1 ≤ minPr e.2 + sp)).map fun x => V.ref x.1))) ⟨Same.new nD, upd_same⟩ (fun k H3 _ ⟨sH, _⟩ => SqL.of (sH _ _ h1)) ?_ ?_
    · rintro k x H3 hk ⟨s3, hD⟩
      obtain ⟨dv, hdv, tA, rfl, hta⟩ := Paired.getL h2 hk
      rw [List.getElem?_map] at hdv
      obtain ⟨y, hy, rfl⟩ := Option.map_eq_some_iff.mp hdv
      have hkl := (List.getElem?_eq_some_iff.mp hy).1
      have etk : e.2.take (k + 1) = e.2.take k ++ [y] := by rw [List.take_succ, hy]; rfl
      have hfl := List.length_filter_le (fun x : One => decide (x.2.1 ≤ minPr e.2 + sp)) (e.2.take k)
      rw [List.length_take] at hfl
      refine ⟨tA, _, rfl, SqT.of (s3 _ _ hta), rfl, _, _, rfl, _, _, rfl, rfl, rfl, ?_⟩
      refine ⟨_, rfl, _, rfl, _, _, rfl, rfl, _, rfl, ite2 (fun hc => ?_) (fun hc => ?_)⟩
      · refine ⟨_, rfl, _, hD, szl (by rw [List.length_map]; omega), Same.mut s3 nD, ?_⟩
        rw [upd_same, etk, List.filter_append, List.map_append, List.filter_cons, if_pos hc]
        rfl
      · refine ⟨s3, ?_⟩
        rw [etk, List.filter_append, List.map_append, List.filter_cons, if_neg hc]
        simpa using hD
    · rintro H3 ⟨s3, hD⟩
      rw [yl, List.take_length] at hD
      exact q D H3 s3 nD hD
end
end IC
namespace IC
open PySem L2
/-! ### a badge that passed twice has no story -/
theorem nev_stays {kn : Kn} {late : Int} {T n : Nat} (h : NEV ≤ (aheadP kn late T n).1 ∧ NEV ≤ (aheadP kn late T n).2) : NEV ≤ (aheadP kn late T (n + 1)).1 ∧ NEV ≤ (aheadP kn late T (n + 1)).2 := by
  have eA : aheadP kn late T (n + 1) = (min ((aheadP kn late T n).1 + stepP kn late T ((n + 1 : Nat) : Int) 0 0) ((aheadP kn late T n).2 + stepP kn late T ((n + 1 : Nat) : Int) 1 0), min ((aheadP kn late T n).1 + stepP kn late T ((n + 1 : Nat) : Int) 0 1) ((aheadP kn late T n).2 + stepP kn late T ((n + 1 : Nat) : Int) 1 1)) := rfl
  have h1 := step_nn kn late T ((n + 1 : Nat) : Int) 0 0
  have h2 := step_nn kn late T ((n + 1 : Nat) : Int) 1 0
  have h3 := step_nn kn late T ((n + 1 : Nat) : Int) 0 1
  have h4 := step_nn kn late T ((n + 1 : Nat) : Int) 1 1
  rw [eA]
  simp only
  omega
theorem dp_twice (badge : Int) (kn : Kn) (late : Int) (T : Nat) : ∀ n, n ≤ 1000 → ¬ noTwice (wmTo badge kn late T n).found → NEV ≤ (aheadP kn late T n).1 ∧ NEV ≤ (aheadP kn late T n).2
  | 0, _, h => absurd (by intro x hx; simp [wmTo, moms] at hx) h
  | n + 1, hn, h => by
    by_cases nt : noTwice (wmTo badge kn late T n).found
    · have I := wi badge kn late T n
      have D := dp_wants badge kn late T n (by omega) nt
      rw [wmTo_succ] at h
      generalize wmTo badge kn late T n = S at *
      unfold wstepM at h
      by_cases hl : (lookK kn ((n + 1 : Nat) : Int)).isSome = true
      · rw [if_pos hl] at h
        obtain ⟨z, e⟩ := Option.isSome_iff_exists.mp hl
        have ez : insOf ((lookK kn ((n + 1 : Nat) : Int)).getD "") = insOf z := by rw [e]; rfl
        unfold wstep at h
        simp only [ez] at h
        by_cases h1 : insOf z = S.state
        · rw [if_pos h1] at h
          by_cases h2 : ((n + 1 : Nat) : Int) - S.ahead = 1
          · have ha : S.ahead = n := by push_cast at h2; omega
            have at_ := D.at_ ha
            obtain ⟨sz0, sz1⟩ := step_some (late := late) (now := T) e
            have nn := ahead_nn kn late T n
            have NE : NEV = 1000000 := rfl
            have eA : aheadP kn late T (n + 1) = (min ((aheadP kn late T n).1 + stepP kn late T ((n + 1 : Nat) : Int) 0 0) ((aheadP kn late T n).2 + stepP kn late T ((n + 1 : Nat) : Int) 1 0), min ((aheadP kn late T n).1 + stepP kn late T ((n + 1 : Nat) : Int) 0 1) ((aheadP kn late T n).2 + stepP kn late T ((n + 1 : Nat) : Int) 1 1)) := rfl
            rw [eA]
            rcases I.st with h0 | h0
            · obtain ⟨q1, q2, q3, q4⟩ := sz0 (by rw [h1, h0])
              rw [q1, q2, q3, q4]
              rw [h0] at at_
              simp only [pr, Int.sub_zero, show ¬ ((1 : Int) = 0) by decide, if_false] at at_
              simp only
              omega
            · obtain ⟨q1, q2, q3, q4⟩ := sz1 (by rw [h1, h0])
              rw [q1, q2, q3, q4]
              rw [h0] at at_
              simp only [pr, show (1 : Int) - 1 = 0 by decide, if_true] at at_
              simp only
              omega
          · rw [if_neg h2] at h
            refine absurd (fun x hx => ?_) h
            split at hx
            · rcases List.mem_append.mp hx with z | z
              · exact nt x z
              · simp at z
                subst z
                show ("lost" : Str) ≠ "twice"
                decide +kernel
            · exact nt x hx
        · rw [if_neg h1] at h
          exact absurd nt h
      · rw [if_neg hl] at h
        exact absurd nt h
    · exact nev_stays (dp_twice badge kn late T n (by omega) nt)
theorem least_twice {kn : Kn} {T : Nat} (k : KnT kn T) (hT : T ≤ 60) (badge late : Int) (h : ¬ noTwice (wantsOf badge kn late T)) : NEV ≤ leastP kn late T := by
  rw [wantsOf_eq k.ok.nd k.rg] at h
  have := dp_twice badge kn late T T (by omega) h
  unfold leastP
  omega
theorem least_once {kn : Kn} {T : Nat} (k : KnT kn T) (hT : T ≤ 60) (badge late : Int) (h : noTwice (wantsOf badge kn late T)) : leastP kn late T < NEV ∧ leastP kn late T = ((wantsOf badge kn late T).length : Int) := by
  have e := least_wants k.ok.nd k.rg hT badge late h
  have := wantsOf_len k.ok badge late T
  have NE : NEV = 1000000 := rfl
  exact ⟨by omega, e⟩
/-! ### the cheapest of all stories -/
theorem can_some {kn : Kn} {late : Int} {T : Nat} (h : leastP kn late T < NEV) : ∃ s ∈ canS kn late T, sumTo kn late T s T = leastP kn late T := by
  cases T with
  | zero =>
    refine ⟨[], ?_, ?_⟩
    · unfold canS
      rw [List.mem_filter]
      exact ⟨List.mem_singleton.mpr rfl, by simp [sumTo, NEV]⟩
    · show (0 : Int) = min 0 NEV
      decide
  | succ k =>
    have tm := tot_min' kn late (Nat.le_refl (k + 1))
    have mk : ∀ s : Int, (s = 0 ∨ s = 1) → selI (totP kn late (k + 1) (k + 1) 0, totP kn late (k + 1) (k + 1) 1) s = leastP kn late (k + 1) → ∃ s ∈ canS kn late (k + 1), sumTo kn late (k + 1) s (k + 1) = leastP kn late (k + 1) := by
      intro s hs e
      have ok := storyB_ok (kn := kn) (late := late) (T := k + 1) (m := k + 1) (s := s) (by omega) (Nat.le_refl _) hs (by omega)
      refine ⟨_, ?_, ok.sum.trans e⟩
      unfold canS
      rw [List.mem_filter]
      exact ⟨mem_allS.mpr ⟨ok.len, ok.bin⟩, decide_eq_true (by rw [ok.sum, e]; exact h)⟩
    rcases Int.le_total (totP kn late (k + 1) (k + 1) 0) (totP kn late (k + 1) (k + 1) 1) with z | z
    · exact mk 0 (.inl rfl) (by rw [selI0]; show totP _ _ _ _ _ = _; omega)
    · exact mk 1 (.inr rfl) (by rw [selI1]; show totP _ _ _ _ _ = _; omega)
theorem can_le {kn : Kn} {late : Int} {T : Nat} {s : List Int} (h : s ∈ canS kn late T) : leastP kn late T ≤ sumTo kn late T s T ∧ sumTo kn late T s T < NEV ∧ s.length = T ∧ Bin s := by
  unfold canS at h
  rw [List.mem_filter, decide_eq_true_eq] at h
  obtain ⟨h1, h2⟩ := mem_allS.mp h.1
  exact ⟨least_le_story kn late h2, h.2, h1, h2⟩
theorem can_nil {kn : Kn} {late : Int} {T : Nat} : canS kn late T = [] ↔ NEV ≤ leastP kn late T := by
  constructor
  · intro h
    by_cases z : leastP kn late T < NEV
    · obtain ⟨s, hs, _⟩ := can_some z
      rw [h] at hs
      cases hs
    · omega
  · intro h
    rw [List.eq_nil_iff_forall_not_mem]
    intro s hs
    have := can_le hs
    omega
/-- what the law's lists of stories are -/
structure LawEs (m : Ms) (T : Nat) (es : List (Addr × List One)) : Prop where
  len : es.length = m.kns.length
  at_ : ∀ b e, es[b]? = some e → e.2.map (·.2) = (canS (m.kns.getD b []) m.late T).map fun s => (sumTo (m.kns.getD b []) m.late T s T, s)
theorem LawEs.nil {m : Ms} {T : Nat} {es : List (Addr × List One)} (l : LawEs m T es) {b : Nat} {e : Addr × List One} (h : es[b]? = some e) : e.2.isEmpty = true ↔ NEV ≤ leastP (m.kns.getD b []) m.late T := by
  have e1 := l.at_ b e h
  rw [← can_nil, List.isEmpty_iff]
  constructor
  · intro z
    rw [z] at e1
    exact List.map_eq_nil_iff.mp e1.symm
  · intro z
    rw [z] at e1
    exact List.map_eq_nil_iff.mp e1
theorem LawEs.min {m : Ms} {T : Nat} {es : List (Addr × List One)} (l : LawEs m T es) {b : Nat} {e : Addr × List One} (h : es[b]? = some e) (hn : leastP (m.kns.getD b []) m.late T < NEV) : minPr e.2 = leastP (m.kns.getD b []) m.late T := by
  have e1 := l.at_ b e h
  symm
  refine minPr_uniq ?_ fun y hy => ?_
  · obtain ⟨s, hs, es⟩ := can_some hn
    have : (sumTo (m.kns.getD b []) m.late T s T, s) ∈ e.2.map (·.2) := by rw [e1]; exact List.mem_map.mpr ⟨s, hs, rfl⟩
    obtain ⟨y, hy, ey⟩ := List.mem_map.mp this
    exact ⟨y, hy, by rw [ey]; exact es⟩
  · have : y.2 ∈ e.2.map (·.2) := List.mem_map.mpr ⟨y, hy, rfl⟩
    rw [e1] at this
    obtain ⟨s, hs, ey⟩ := List.mem_map.mp this
    rw [← ey]
    exact (can_le hs).1
/-- sound, by the cheapest stories of all badges -/
theorem sound_try {h : Hs} {m : Ms} {T : Nat} {es : List (Addr × List One)} (o : HsOk h T) (hk : m.kns = h.kns) (hl : m.late = h.late) (ho : m.lost = h.lost) (l : LawEs m T es) :
    ((es.any fun e => e.2.isEmpty) = true → soundH h = false) ∧ ((es.any fun e => e.2.isEmpty) = false → m.lost - (es.map fun e => minPr e.2).sum = spareH h ∧ soundH h = decide (0 ≤ spareH h) ∧ ∀ b, b < h.kns.length → leastH h T b < NEV) := by
  have hT := o.tm.le
  have hnow := o.tm.now
  have elen := l.len
  rw [hk] at elen
  have lk : ∀ b, leastP (m.kns.getD b []) m.late T = leastH h T b := fun b => by unfold leastH; rw [hk, hl]
  constructor
  · intro hany
    rw [List.any_eq_true] at hany
    obtain ⟨e, he, hemp⟩ := hany
    obtain ⟨b, hb, eb⟩ := List.getElem_of_mem he
    have hget : es[b]? = some e := by rw [List.getElem?_eq_getElem hb, eb]
    have hnev := (l.nil hget).mp hemp
    rw [lk] at hnev
    have hb' : b < h.kns.length := by omega
    cases hs : soundH h with
    | false => rfl
    | true =>
      obtain ⟨nt, _⟩ := sound_iff hs
      have := (least_once (o.at hb') hT b h.late (fun x hx => nt x (by unfold allWants; rw [hnow]; exact mem_aw.mpr ⟨b, hb', hx⟩))).1
      unfold leastH at hnev
      omega
  · intro hany
    have hn : ∀ b, b < h.kns.length → leastH h T b < NEV := by
      intro b hb
      have hget : es[b]? = some es[b] := List.getElem?_eq_getElem (by omega)
      have h1 := List.any_eq_false.mp hany es[b] (List.getElem_mem _)
      rcases Int.lt_or_le (leastH h T b) NEV with z | z
      · exact z
      · exact absurd ((l.nil hget).mpr (by rw [lk]; exact z)) h1
    have once : ∀ b, b < h.kns.length → noTwice (wantsOf b (h.kns.getD b []) h.late T) := by
      intro b hb
      apply Classical.byContradiction
      intro z
      have := least_twice (o.at hb) hT b h.late z
      have := hn b hb
      unfold leastH at this
      omega
    have elw : ∀ b, b < h.kns.length → leastH h T b = ((wantsOf b (h.kns.getD b []) h.late T).length : Int) := fun b hb => (least_once (o.at hb) hT b h.late (once b hb)).2
    have esum : (es.map fun e => minPr e.2).sum = ((List.range h.kns.length).map (leastH h T)).sum := by
      congr 1
      refine List.ext_getElem? fun b => ?_
      rw [List.getElem?_map, List.getElem?_map]
      by_cases hb : b < h.kns.length
      · have hget : es[b]? = some es[b] := List.getElem?_eq_getElem (by omega)
        rw [hget, List.getElem?_range hb]
        show some (minPr es[b].2) = some _
        rw [l.min hget (by rw [lk]; exact hn b hb), lk]
      · rw [List.getElem?_eq_none (by omega), List.getElem?_eq_none (by rw [List.length_range]; omega)]
        rfl
    have elen2 : ((allWants h.kns h.late h.now).length : Int) = ((List.range h.kns.length).map (leastH h T)).sum := by
      unfold allWants
      rw [hnow]
      exact aw_len_sum h.kns h.late T (leastH h T) h.kns.length elw
    have esp : m.lost - (es.map fun e => minPr e.2).sum = spareH h := by
      unfold spareH
      rw [esum, elen2, ho]
    refine ⟨esp, ?_, hn⟩
    have ntall : ((allWants h.kns h.late h.now).filter fun x => decide (x.word = ("twice" : Str))).isEmpty = true := by
      rw [List.isEmpty_iff, List.filter_eq_nil_iff]
      intro x hx
      unfold allWants at hx
      rw [hnow] at hx
      obtain ⟨b, hb, hx⟩ := mem_aw.mp hx
      rw [decide_eq_true_eq]
      exact once b hb x hx
    unfold soundH borne
    rw [ntall, Bool.true_and]
    unfold spareH
    by_cases z : ((allWants h.kns h.late h.now).length : Int) ≤ h.lost
    · rw [decide_eq_true z, decide_eq_true (by omega)]
    · rw [decide_eq_false z, decide_eq_false (by omega)]
/-! ### every = [stories(m, badge) for badge in range(n)] -/
theorem lc_every {n j : Nat} {te : TE} {vs : List Nat} {σ : St} {H1 : Hp} {D : Addr} {Qd : Hp → Prop} {m : Ms} {T : Nat} (hnk : n = m.kns.length) (nD : H1 D = none) (hn : n ≤ 6) (hw : ∀ x, wipe ((wipe σ vs).set j (some x)) vs = wipe σ vs)
    (he : ∀ b, b < n → ∀ H2, Same H1 H2 → ∀ Q : VK, (∀ (E : Addr) (z : List (Addr × List Int)) (H3 : Hp), Same H2 H3 → H2 E = none → SomeAt H3 E (fun s => sumTo (m.kns.getD b []) m.late T s T) z → z.map (·.2) = canS (m.kns.getD b []) m.late T → Q (.ref E) H3) → te ((wipe σ vs).set j (some (.int (b : Int)))) H2 Q)
    (k : ∀ es H', Same H1 H' → Every H' D es → LawEs m T es → Qd H') :
    ∃ W : Nat → Nat → Hp → Prop, (∃ m, W 0 m (upd H1 D (.lst []))) ∧ ∀ i m H, W i m H →
      ((Itr 0 n).stop i H ∧ Qd H) ∨ ((Itr 0 n).go i H ∧ ∃ Nx : Hp → Prop, (∀ H', Nx H' → ∃ m', m' < m ∧ W (i + 1) m' H') ∧ ∀ x H', (Itr 0 n).yld i H x H' → gName j x (wipe σ vs) H' fun σ2 H2 => wipe σ2 vs = wipe σ vs ∧ tYes σ2 H2 fun b H3 =>
        if b = true then te σ2 H3 fun y H4 => ∃ acc, H4 D = some (.lst acc) ∧ acc.length < sizeLine ∧ Nx (upd H4 D (.lst (acc ++ [y]))) else Nx H3) := by
  refine lc_range0 (n := n) (fun i H2 => ∃ es : List (Addr × List One), es.length = i ∧ Same H1 H2 ∧ H2 D = some (.lst (es.map fun e => V.ref e.1)) ∧ (∀ e ∈ es, Ones H2 e.1 e.2) ∧ (∀ e ∈ es, e.1 ≠ D) ∧
      ∀ b e, es[b]? = some e → e.2.map (·.2) = (canS (m.kns.getD b []) m.late T).map fun s => (sumTo (m.kns.getD b []) m.late T s T, s)) ⟨[], rfl, Same.new nD, upd_same, (fun e he => by cases he), (fun e he => by cases he), fun b e h => by simp at h⟩ ?_ ?_
  · rintro i H2 hi ⟨es, el, sH, hD, hon, hne, hat⟩
    refine ⟨hw _, ?_⟩
    show te _ H2 _
    refine he i hi H2 sH _ fun E z H3 s3 nE so ez => ⟨es.map fun e => V.ref e.1, s3 _ _ hD, szl (by rw [List.length_map]; omega), ?_⟩
    have nED : E ≠ D := fun q => by rw [q, hD] at nE; cases nE
    have keep : ∀ {E' : Addr} {l : List One}, E' ≠ D → Ones H3 E' l → Ones (upd H3 D (.lst ((es.map fun e => V.ref e.1) ++ [.ref E]))) E' l := by
      intro E' l hE' o
      obtain ⟨⟨ys, h1, h2⟩, h3, h4⟩ := o
      have tS : TupS H3 (upd H3 D (.lst ((es.map fun e => V.ref e.1) ++ [.ref E]))) := TupS.upd (TupS.refl _) (by rw [s3 _ _ hD]; intro xs z; cases z)
      exact ⟨⟨ys, by rw [upd_ne hE']; exact h1, h2.mono tS⟩, fun x hx => tS _ _ (h3 x hx), h4⟩
    refine ⟨es ++ [(E, z.map fun x => (x.1, (sumTo (m.kns.getD i []) m.late T x.2 T, x.2)))], by simp [el], Same.mut (sH.trans s3) nD, by rw [upd_same, List.map_append]; rfl, fun e he => ?_, fun e he => ?_, fun b e hb => ?_⟩
    · rcases List.mem_append.mp he with q | q
      · exact keep (hne e q) ((hon e q).same s3)
      · simp at q
        subst q
        exact keep nED so.ones
    · rcases List.mem_append.mp he with q | q
      · exact hne e q
      · simp at q
        subst q
        exact nED
    · by_cases hb' : b < es.length
      · rw [List.getElem?_append_left hb'] at hb
        exact hat b e hb
      · rw [List.getElem?_append_right (by omega)] at hb
        have hbe : b - es.length = 0 := by
          have := (List.getElem?_eq_some_iff.mp hb).1
          simp at this
          omega
        rw [hbe] at hb
        have hb : (E, z.map fun x => (x.1, (sumTo (m.kns.getD i []) m.late T x.2 T, x.2))) = e := by simpa using hb
        have hbi : b = i := by omega
        subst hb
        rw [hbi]
        show (z.map fun x => (x.1, (sumTo (m.kns.getD i []) m.late T x.2 T, x.2))).map (·.2) = _
        rw [← ez, List.map_map, List.map_map]
        rfl
  · rintro H2 ⟨es, el, sH, hD, hon, hne, hat⟩
    exact k es H2 sH ⟨hD, hon, by omega⟩ ⟨by omega, hat⟩
end IC
namespace IC
open PySem L2
/-! ### errors of own classes -/
structure ExcOk (K : PySem.W.Frag) (mg : Str → Option Value) (x : Str) (C : Addr) : Prop where
  g : mg x = some (.ref C)
  q : PySem.W.excIn K C [.type "ValueError", .type "Exception", .type "BaseException", .type "object"] "ValueError.__new__" = true
  k : PySem.W.keepIn K (.ref C) = true
  b : PySem.W.subIn K (.ref C) (.type "BaseException") = some true
  t : PySem.W.typeIn K (.ref C) = some (.type "type")
  e : ExcC K C
theorem ExcOk.exm {K : PySem.W.Frag} {mg : Str → Option Value} {x : Str} {C : Addr} (o : ExcOk K mg x C) {cls : Value} {r : Bool} (h : PySem.W.subIn K cls (.ref C) = some r) : PySem.W.exmOne K cls (.ref C) = some r := PySem.W.exm_ref o.b o.e.hd o.t h
/-- a def that may raise, called by its name -/
structure CalX (P : Program) (w : World) (K : PySem.W.Frag) (mg : Str → Option Value) (base : Heap) (k : Nat) (x : Str) (sp : Sp) : Prop where
  ex : ∃ (f : Addr) (fd : FuncData) (ps : List Str), FnOk P w K mg base (L2.CX P w) k f fd ps sp ∧ mg x = some (.ref f) ∧ PySem.W.keepIn K (.ref f) = true ∧ Binds K fd ps []
section
variable {X : Cx} {k j : Nat} {x : Str} {sp : Sp} {p pos : Pos} {e : Expr} {es : List Expr} {t : TA} {W : WX}
/-- .. in a def that lets out what it lets out -/
theorem pe_cX {E : XK} (c : CalX X.prog X.w X.K X.mg X.base k x sp) (hr : Room j X.A) (hk : k ≤ j) (hg : Gl X x) (tk : Takes X (fun cls d _ H => E cls d H)) (ha : PA X (e :: es) t)
    (hdb : (x == ("__debug__" : Str)) = false := by decide) (he : starEach (e :: es) X.env = (false, eval e X.env) :: starEach es X.env := by rfl) (hpl : (backTo pos (starEach es X.env)).any (·.1) = false := by rfl) :
    PE X (.Call (.Name x p) (e :: es) [] pos) (tCall sp [] E t) := by
  obtain ⟨f, fd, ps, F, hm, kp, b⟩ := c.ex
  exact pe_call F (hr.mono hk) hg hm kp b .nil (passes_call tk (fun _ _ _ _ h => h)) ha hdb he hpl
/-- .. in a try's body -/
theorem pe_cT (c : CalX X.prog X.w X.K X.mg X.base k x sp) (hr : Room j X.A) (hk : k ≤ j) (hg : Gl X x) (tk : Takes X W) (ha : PA X (e :: es) t)
    (hdb : (x == ("__debug__" : Str)) = false := by decide) (he : starEach (e :: es) X.env = (false, eval e X.env) :: starEach es X.env := by rfl) (hpl : (backTo pos (starEach es X.env)).any (·.1) = false := by rfl) :
    PE X (.Call (.Name x p) (e :: es) [] pos) (tCallS sp (WE W) t) := by
  obtain ⟨f, fd, ps, F, hm, kp, b⟩ := c.ex
  exact pe_callS F (hr.mono hk) hg hm kp b (fun σ => passAt tk σ) ha hdb he hpl
/-- a suite that is read for one class of errors alone -/
theorem pss_given {b : List Stmt} {pr : Prop} {t : TS} (h : pr → PSs X b t) : PSs X b (fun D σ H => pr ∧ t D σ H) := ⟨fun pins s σ H D I hh => (h hh.1).run pins s σ H D I hh.2⟩
end
section
variable {P : Program} {w : World} {K : PySem.W.Frag} {mg : Str → Option Value} {base : Heap} {dI C NS : Addr}
/-! ### need_sound, need_ask, inside of a house that isn't sound -/
def sp_need_soundX (C NS : Addr) : Sp := fun vs H _ E => ∃ (p L : Addr) (ds : List Addr) (h : Hs), vs = [.ref p] ∧ HouseAt C H p L ds h ∧ soundH h = false ∧ ∀ H', Same H H' → E (.ref NS) none H'
theorem ok_need_soundX {f : Addr} {fd : FuncData} (F : Fun K "need_sound" "need_sound" s_need_sound f fd) (XO : ExcOk K mg "NotSound" NS) (c_is_sound : C8.Cal P w K mg base 5 "is_sound" (sp_is_sound C) []) : FnOk P w K mg base (L2.CX P w) 6 f fd ["house"] (sp_need_soundX C NS) := by
  refine F.okX sc_need_sound (fun vs H Q E h => ?_) (fun cdv A outer s H vs Q E hr h => ?_)
  · obtain ⟨p, L, ds, h, rfl, _⟩ := h
    rfl
  · obtain ⟨p, L, ds, h, rfl, ha, hs, q⟩ := h
    refine ⟨_, (pss_one (ps_if (pt_not (pt_val (C8.pe_c c_is_sound hr (by decide) rfl (pa_cons (pv 0) pa_nil)))) (pss_one (ps_raise rfl (takes_of rfl rfl rfl rfl) (pmk_own PySem.F.excBase_ValueError XO.q XO.g XO.k (raises_own XO.b XO.t) rfl))) pss_nil)), ?_⟩
    exact ⟨_, rfl, p, L, ds, h, rfl, ha, fun H1 s1 => ⟨_, rfl, ifT (by rw [hs]; rfl) (q H1 s1)⟩⟩
end
end IC
namespace IC
open PySem L2
/-! ### all stories of a badge -/
abbrev It := List Int × Int × Int
def stOne (kn : Kn) (late : Int) (T m : Nat) (bh : Int × Int) (most : Int) (x : It) (o : Nat) : List It :=
  if x.2.2 + stepP kn late T m x.2.1 o + sel bh o ≤ most then [(x.1 ++ [(o : Int)], (o : Int), x.2.2 + stepP kn late T m x.2.1 o)] else []
def stNext (kn : Kn) (late : Int) (T m : Nat) (bh : Int × Int) (most : Int) (l : List It) : List It := l.flatMap fun x => (List.range 2).flatMap (stOne kn late T m bh most x)
def lvl (kn : Kn) (late : Int) (T : Nat) (most : Int) : Nat → List It
  | 0 => [([], 0, 0)]
  | i + 1 => stNext kn late T (i + 1) (behindP kn late T (T - (i + 1))) most (lvl kn late T most i)
theorem stOne_len {kn : Kn} {late : Int} {T m : Nat} {bh : Int × Int} {most : Int} {x : It} {o : Nat} : (stOne kn late T m bh most x o).length ≤ 1 := by
  unfold stOne
  split <;> simp
theorem flat_len {α β : Type} {f : α → List β} {k : Nat} : ∀ {l : List α}, (∀ x ∈ l, (f x).length ≤ k) → (l.flatMap f).length ≤ k * l.length
  | [], _ => by simp
  | x :: l, h => by
    have h1 := h x List.mem_cons_self
    have h2 := flat_len (l := l) fun y hy => h y (List.mem_cons_of_mem _ hy)
    rw [List.flatMap_cons, List.length_append, List.length_cons, Nat.mul_add, Nat.mul_one]
    omega
theorem stNext_len {kn : Kn} {late : Int} {T m : Nat} {bh : Int × Int} {most : Int} {l : List It} : (stNext kn late T m bh most l).length ≤ 2 * l.length := by
  refine flat_len fun x _ => ?_
  have := flat_len (f := stOne kn late T m bh most x) (k := 1) (l := List.range 2) fun o _ => stOne_len
  rw [List.length_range] at this
  exact this
theorem lvl_st {kn : Kn} {late : Int} {T : Nat} {most : Int} : ∀ (i : Nat), ∀ x ∈ lvl kn late T most i, x.1.length = i ∧ (x.2.1 = 0 ∨ x.2.1 = 1)
  | 0, x, hx => by
    have : x = ([], 0, 0) := by simpa [lvl] using hx
    subst this
    exact ⟨rfl, .inl rfl⟩
  | i + 1, x, hx => by
    have hx : x ∈ stNext kn late T (i + 1) _ most (lvl kn late T most i) := hx
    unfold stNext at hx
    obtain ⟨y, hy, h2⟩ := List.mem_flatMap.mp hx
    obtain ⟨o, ho, h3⟩ := List.mem_flatMap.mp h2
    have ih := lvl_st i y hy
    have ho2 : o < 2 := List.mem_range.mp ho
    unfold stOne at h3
    split at h3
    · have : x = _ := List.mem_singleton.mp h3
      subst this
      refine ⟨by rw [List.length_append, ih.1]; rfl, ?_⟩
      show (o : Int) = 0 ∨ (o : Int) = 1
      omega
    · cases h3
def mostPr (h : Hs) (T b : Nat) : Int := leastP (h.kns.getD b []) h.late T + spareH h
def lvlH (h : Hs) (T b i : Nat) : List It := lvl (h.kns.getD b []) h.late T (mostPr h T b) i
def encI (x : Addr × It) : List V := [.ref x.1, .int x.2.2.1, .int x.2.2.2]
structure ItemsAt (H : Hp) (sA : Addr) (z : List (Addr × It)) : Prop where
  lst : ∃ ys, H sA = some (.lst ys) ∧ TupsAt H ys (z.map encI)
  st : ∀ x ∈ z, H x.1 = some (.tup (encS x.2.1))
theorem ItemsAt.same {H H' : Hp} {sA : Addr} {z : List (Addr × It)} (a : ItemsAt H sA z) (s : Same H H') : ItemsAt H' sA z := by
  obtain ⟨⟨ys, h1, h2⟩, h3⟩ := a
  exact ⟨⟨ys, s _ _ h1, h2.mono (.of_same s)⟩, fun x hx => s _ _ (h3 x hx)⟩
section
variable {P : Program} {w : World} {K : PySem.W.Frag} {mg : Str → Option Value} {base : Heap} {dI C TM : Addr}
def sp_stories (C TM : Addr) : Sp := fun vs H Q E => ∃ (p L : Addr) (ds : List Addr) (h : Hs) (b T : Nat), vs = [.ref p, .int b] ∧ HouseAt C H p L ds h ∧ b < h.kns.length ∧ TimeOk h T ∧ soundH h = true ∧
  ((∃ i, i ≤ T ∧ 200 < (lvlH h T b i).length) → ∀ H', Same H H' → E (.ref TM) none H') ∧
  ((∀ i, i ≤ T → (lvlH h T b i).length ≤ 200) → ∀ (D : Addr) (z : List (Addr × It)) (H' : Hp), Same H H' → H D = none → H' D = some (.lst (z.map fun x => V.ref x.1)) → (∀ x ∈ z, H' x.1 = some (.tup (encS x.2.1))) → z.map (·.2) = lvlH h T b T → Q (.ref D) H')
theorem sc_stories : FnScope ["house", "badge", "behind", "most", "some", "moment", "longer", "story", "state", "paid", "other", "more"] ["house", "badge"] (defScope s_stories) := ⟨rfl, rfl, rfl, by decide +kernel, rfl, by decide +kernel, by decide +kernel⟩
theorem ok_stories {f : Addr} {fd : FuncData} (F : Fun K "stories" "stories" s_stories f fd) (G : Glb K w mg dI) (GS : GlbS mg) (TX : HTxt K C) (X_TooMany : ExcOk K mg "TooMany" TM) (c_need_badge : C8.Cal P w K mg base 1 "need_badge" (sp_need_badge C) []) (c_need_sound : C8.Cal P w K mg base 6 "need_sound" (sp_need_sound C) [])
    (c_prices_behind : C8.Cal P w K mg base 4 "prices_behind" (sp_prices_behind C) []) (c_least_price : C8.Cal P w K mg base 5 "least_price" (sp_least_price C) []) (c_spare_rows : C8.Cal P w K mg base 5 "spare_rows" (sp_spare_rows C) []) (c_step_price : C8.Cal P w K mg base 3 "step_price" (sp_step_price C) []) :
    FnOk P w K mg base (L2.CX P w) 7 f fd ["house", "badge"] (sp_stories C TM) := by
  refine F.okX sc_stories (fun vs H Q E h => ?_) (fun cdv A outer s H vs Q E hr h => ?_)
  · obtain ⟨p, L, ds, h, b, T, rfl, _⟩ := h
    rfl
  · obtain ⟨p, L, ds, h, b, T, rfl, ha, hb, tm, hs, qE, q⟩ := h
    obtain ⟨dx, eo⟩ := ha.ob
    have hnow := tm.now
    have hT := tm.le
    refine ⟨_, (pss_cons (ps_expr (C8.pe_c c_need_badge hr (by decide) rfl (pa_cons (pv 0) (pa_cons (pv 1) pa_nil))))
      (pss_cons (ps_expr (C8.pe_c c_need_sound hr (by decide) rfl (pa_cons (pv 0) pa_nil)))
      (pss_cons (ps_set (i := 2) sc_stories.nd rfl (Or.inl rfl) (C8.pe_c c_prices_behind hr (by decide) rfl (pa_cons (pv 0) (pa_cons (pv 1) pa_nil))))
      (pss_cons (ps_set (i := 3) sc_stories.nd rfl (Or.inl rfl) (pe_op op_add (C8.pe_c c_least_price hr (by decide) rfl (pa_cons (pv 0) (pa_cons (pv 1) pa_nil))) (C8.pe_c c_spare_rows hr (by decide) rfl (pa_cons (pv 0) pa_nil))))
      (pss_cons (ps_set (i := 4) sc_stories.nd rfl (Or.inl rfl) (pe_lst (pa_cons (pe_tup (pa_cons (pe_tup pa_nil) (pa_cons pe_int (pa_cons pe_int pa_nil)))) pa_nil)))
      (pss_cons (ps_for (passes_of rfl) rfl (pi_range2 rfl G.range (pa_cons pe_int (pa_cons (pe_op op_add (pe_fld (pv 0) rfl) pe_int) pa_nil))) (pg_name (i := 5) sc_stories.nd rfl (Or.inl rfl))
        (pss_cons (ps_set (i := 6) sc_stories.nd rfl (Or.inl rfl) (pe_lst pa_nil))
          (pss_cons (ps_for (passes_of rfl) rfl (pi_list (pv 4)) (pg_tup rfl (pgs_cons (pg_name (i := 7) sc_stories.nd rfl (Or.inl rfl)) (pgs_cons (pg_name (i := 8) sc_stories.nd rfl (Or.inl rfl)) (pgs_cons (pg_name (i := 9) sc_stories.nd rfl (Or.inl rfl)) pgs_nil))))
            (pss_one (ps_for (passes_of rfl) rfl (pi_range1 rfl G.range (pa_cons pe_int pa_nil)) (pg_name (i := 10) sc_stories.nd rfl (Or.inl rfl))
                (pss_cons (ps_set (i := 11) sc_stories.nd rfl (Or.inl rfl) (pe_op op_add (pv 9) (C8.pe_c c_step_price hr (by decide) rfl (pa_cons (pv 0) (pa_cons (pv 1) (pa_cons (pv 5) (pa_cons (pv 8) (pa_cons (pv 10) pa_nil))))))))
                  (pss_one (ps_if (pt_cmpR op_le (pe_op op_add (pv 11) (pe_ix ix_list (pe_ix ix_list (pv 2) (pv 5) (fun _ _ => rfl)) (pv 10) (fun _ _ => rfl))) (pv 3) (nomark _))
                    (pss_one (ps_expr (pe_bm PySem.F.plainAttrs_list PySem.F.slot_list_append PySem.F.type_list_append mt_append (pv 6) (pa_cons (pe_tup (pa_cons (pe_op op_catA (pv 7) (pe_tup (pa_cons (pv 10) pa_nil))) (pa_cons (pv 10) (pa_cons (pv 11) pa_nil)))) pa_nil))))
                    pss_nil))))))
          (pss_cons (ps_if (pt_cmpR op_gt (pe_callB call_len_seq (by rfl) G.len (by decide +kernel) (pa_cons (pv 6) pa_nil)) (C8.pe_gc rfl GS.MOST_STORIES) (nomark _))
            (pss_one (ps_raise rfl (takes_of rfl rfl rfl rfl) (pmk_own PySem.F.excBase_ValueError X_TooMany.q X_TooMany.g X_TooMany.k (raises_own X_TooMany.b X_TooMany.t) rfl)))
            pss_nil)
          (pss_one (ps_set (i := 4) sc_stories.nd rfl (Or.inl rfl) (pv 6)))))))
      (pss_one (ps_ret (pe_lc (own := [("story", 7), ("state", 8), ("paid", 9)]) (g := gTup K 3 (gCons (gName 7) (gCons (gName 8) (gCons (gName 9) gNil)))) (tt := tYes) rfl sc_stories.nd (pi_list (pv 4)) (blkOk_by (own := [("story", 7), ("state", 8), ("paid", 9)]) (N := ["house", "badge", "behind", "most", "some", "moment", "longer", "story", "state", "paid", "other", "more"]) (sc := defScope s_stories) (by decide +kernel)) (fun _ _ _ _ _ => (pg_tupK (K := K) rfl (pgs_cons (pg_name (i := 7) sc_stories.nd rfl (Or.inl rfl)) (pgs_cons (pg_name (i := 8) sc_stories.nd rfl (Or.inl rfl)) (pgs_cons (pg_name (i := 9) sc_stories.nd rfl (Or.inl rfl)) pgs_nil))))) (fun _ _ _ _ _ => pts_nil) (fun _ _ _ _ _ => (pv 7))))))))))), ?_⟩
    refine ⟨_, rfl, _, rfl, p, L, ds, h, b, rfl, ha, hb, ?_⟩
    refine ⟨_, rfl, p, L, ds, h, rfl, ha, hs, fun H1 s1 => ?_⟩
    refine ⟨_, rfl, _, rfl, p, L, ds, h, b, T, rfl, ha.same s1, hb, tm, fun bA as H2 s2 nbA hbA pa => ?_⟩
    refine ⟨_, rfl, _, rfl, p, L, ds, h, b, T, rfl, ha.same (s1.trans s2), hb, tm, fun H3 s3 => ?_⟩
    refine ⟨_, rfl, p, L, ds, h, rfl, ha.same ((s1.trans s2).trans s3), fun H4 s4 => ⟨_, _, rfl, rfl, ?_⟩⟩
    have sa := ((s1.trans s2).trans s3).trans s4
    have s24 := s3.trans s4
    refine ⟨sz (by simp), fun t0 nt0 => ⟨sz (by simp), fun t1 nt1 => ⟨sz (by simp), fun s0 ns0 => ?_⟩⟩⟩
    have sb : Same H4 (upd (upd (upd H4 t0 (.tup [])) t1 (.tup [.ref t0, .int 0, .int 0])) s0 (.lst [.ref t1])) := ((Same.new nt0).trans (Same.new nt1)).trans (Same.new ns0)
    have ht0 : upd (upd (upd H4 t0 (.tup [])) t1 (.tup [.ref t0, .int 0, .int 0])) s0 (.lst [.ref t1]) t0 = some (.tup []) := (Same.new ns0) _ _ ((Same.new nt1) _ _ upd_same)
    have ht1 : upd (upd (upd H4 t0 (.tup [])) t1 (.tup [.ref t0, .int 0, .int 0])) s0 (.lst [.ref t1]) t1 = some (.tup [.ref t0, .int 0, .int 0]) := (Same.new ns0) _ _ upd_same
    have hs0 : upd (upd (upd H4 t0 (.tup [])) t1 (.tup [.ref t0, .int 0, .int 0])) s0 (.lst [.ref t1]) s0 = some (.lst [.ref t1]) := upd_same
    generalize upd (upd (upd H4 t0 (.tup [])) t1 (.tup [.ref t0, .int 0, .int 0])) s0 (.lst [.ref t1]) = H5 at *
    have s5 := sa.trans sb
    refine ⟨_, rfl, p, C, dx, _, _, rfl, s5 _ _ eo, TX.cl, TX.n_now, fl_now _ _, _, _, rfl, rfl, 1, h.now + 1, rfl, ⟨by omega, by omega, by omega, by omega⟩, ?_⟩
    rw [show (h.now + 1 - 1).toNat = T by omega]
    refine for_range (lo := 1) (n := T) (fun i σ H6 => ∃ (sA : Addr) (z : List (Addr × It)) (o5 o6 o7 o8 o9 o10 o11 : Option V), σ = [some (.ref p), some (.int (b : Int)), some (.ref bA), some (.int (mostPr h T b)), some (.ref sA), o5, o6, o7, o8, o9, o10, o11] ∧
        Same H5 H6 ∧ ItemsAt H6 sA z ∧ z.map (·.2) = lvlH h T b i ∧ ∀ j, j ≤ i → (lvlH h T b j).length ≤ 200)
      ⟨s0, [(t0, ([], 0, 0))], none, none, none, none, none, none, none, rfl, Same.refl _, ⟨⟨_, hs0, .cons ⟨t1, rfl, ht1⟩ .nil⟩, fun x hx => by rw [List.mem_singleton.mp hx]; exact ht0⟩, rfl, fun j hj => by rw [show j = 0 by omega]; show 1 ≤ 200; decide⟩ ?_ ?_
    · rintro i σ H6 hi ⟨sA, z, o5, o6, o7, o8, o9, o10, o11, rfl, s6, hz, ez, few⟩
      rw [show (1 : Int) + (i : Int) = ((i + 1 : Nat) : Int) by push_cast; omega]
      have zl : z.length = (lvlH h T b i).length := by rw [← ez, List.length_map]
      have zfew := few i (Nat.le_refl _)
      obtain ⟨⟨xs, hsA, hx⟩, hst⟩ := hz
      have xl : xs.length = z.length := by have := hx.length; rw [List.length_map] at this; exact this
      refine ⟨sz (by simp), fun lo nlo => ?_⟩
      have s7 : Same H6 (upd H6 lo (.lst [])) := Same.new nlo
      have hlo7 : upd H6 lo (.lst []) lo = some (.lst []) := upd_same
      generalize upd H6 lo (.lst []) = H7 at *
      obtain ⟨al, hal, hal2⟩ : ∃ al, as[i + 1]? = some al ∧ H2 al = some (.lst [.int (behindP (h.kns.getD b []) h.late T (T - (i + 1))).1, .int (behindP (h.kns.getD b []) h.late T (T - (i + 1))).2]) :=
        Paired.get (R := fun a (pr : Int × Int) => H2 a = some (.lst [.int pr.1, .int pr.2])) (y := behindP (h.kns.getD b []) h.late T (T - (i + 1))) pa (by
          rw [List.getElem?_map, List.getElem?_reverse (by rw [List.length_range]; omega), List.length_range, List.getElem?_range (by omega)]
          show some (behindP _ _ _ _) = _
          rw [show T + 1 - 1 - (i + 1) = T - (i + 1) by omega])
      have hat : atI (as.map V.ref) ((i + 1 : Nat) : Int) = some (.ref al) := atI_nat (by rw [List.getElem?_map, hal]; rfl)
      have s26 : Same H2 H6 := (s24.trans sb).trans s6
      refine ⟨_, rfl, sA, rfl, ⟨_, SqL.of (s7 _ _ hsA)⟩, for_list (K := K) (a := sA) (xs := xs) (fun k σ H8 => ∃ (zl : List (Addr × It)) (o7 o8 o9 o10 o11 : Option V), σ = [some (.ref p), some (.int (b : Int)), some (.ref bA), some (.int (mostPr h T b)), some (.ref sA), some (.int ((i + 1 : Nat) : Int)), some (.ref lo), o7, o8, o9, o10, o11] ∧
          Same H6 H8 ∧ ItemsAt H8 lo zl ∧ zl.map (·.2) = stNext (h.kns.getD b []) h.late T (i + 1) (behindP (h.kns.getD b []) h.late T (T - (i + 1))) (mostPr h T b) ((lvlH h T b i).take k))
        ⟨[], _, _, _, _, _, rfl, s7, ⟨⟨[], hlo7, .nil⟩, fun x hx => by cases hx⟩, rfl⟩ (fun k σ H8 _ ⟨_, _, _, _, _, _, _, s8, _⟩ => SqL.of (s8 _ _ hsA)) ?_ ?_⟩
      · rintro k x σ H8 hk ⟨zz, o7, o8, o9, o10, o11, rfl, s8, hzz, ezz⟩
        obtain ⟨dv, hdv, tA, rfl, hta⟩ := Paired.getL hx hk
        rw [List.getElem?_map] at hdv
        obtain ⟨y, hy, rfl⟩ := Option.map_eq_some_iff.mp hdv
        have hkl : k < z.length := (List.getElem?_eq_some_iff.mp hy).1
        have hyl : (lvlH h T b i)[k]? = some y.2 := by rw [← ez, List.getElem?_map, hy]; rfl
        have hyst := hst y (List.mem_of_getElem? hy)
        obtain ⟨ylen, y01⟩ := lvl_st (kn := h.kns.getD b []) (late := h.late) (T := T) (most := mostPr h T b) i y.2 (List.mem_of_getElem? hyl)
        have etk : (lvlH h T b i).take (k + 1) = (lvlH h T b i).take k ++ [y.2] := by rw [List.take_succ, hyl]; rfl
        refine ⟨tA, _, rfl, SqT.of (s8 _ _ hta), rfl, _, _, rfl, _, _, rfl, _, _, rfl, rfl, ?_⟩
        refine ⟨2, rfl, by decide, by decide, ?_⟩
        refine for_range0 (n := 2) (fun o σ H9 => ∃ (zo : List (Addr × It)) (o10 o11 : Option V), σ = [some (.ref p), some (.int (b : Int)), some (.ref bA), some (.int (mostPr h T b)), some (.ref sA), some (.int ((i + 1 : Nat) : Int)), some (.ref lo), some (.ref y.1), some (.int y.2.2.1), some (.int y.2.2.2), o10, o11] ∧
            Same H6 H9 ∧ ItemsAt H9 lo zo ∧ zo.map (·.2) = stNext (h.kns.getD b []) h.late T (i + 1) (behindP (h.kns.getD b []) h.late T (T - (i + 1))) (mostPr h T b) ((lvlH h T b i).take k) ++ (List.range o).flatMap (stOne (h.kns.getD b []) h.late T (i + 1) (behindP (h.kns.getD b []) h.late T (T - (i + 1))) (mostPr h T b) y.2))
          ⟨zz, _, _, rfl, s8, hzz, by rw [ezz]; simp⟩ ?_ ?_
        · rintro o σ H9 ho ⟨zo, o10, o11, rfl, s9, hzo, ezo⟩
          have s29 := s26.trans s9
          refine ⟨_, rfl, _, rfl, _, rfl, _, rfl, _, rfl, _, rfl, p, L, ds, h, b, ((i + 1 : Nat) : Int), y.2.2.1, (o : Int), rfl, ha.same ((s5.trans s6).trans s9), hb, _, _, rfl, rfl, ?_⟩
          refine ⟨_, rfl, _, rfl, _, rfl, bA, _, _, .ref al, rfl, rfl, SqL.of (s29 _ _ hbA), hat, _, rfl, al, _, _, _, rfl, rfl, SqL.of (s29 _ _ hal2), at_sel ho, _, _, rfl, rfl, _, rfl, _, _, rfl, rfl, _, rfl, ite2 (fun hc => ?_) (fun hc => ?_)⟩
          · have hc' : y.2.2.2 + stepP (h.kns.getD b []) h.late T ((i + 1 : Nat) : Int) y.2.2.1 (o : Int) + sel (behindP (h.kns.getD b []) h.late T (T - (i + 1))) o ≤ mostPr h T b := by
              rw [← hnow]
              exact of_decide_eq_true hc
            have one : stOne (h.kns.getD b []) h.late T (i + 1) (behindP (h.kns.getD b []) h.late T (T - (i + 1))) (mostPr h T b) y.2 o = [(y.2.1 ++ [(o : Int)], (o : Int), y.2.2.2 + stepP (h.kns.getD b []) h.late T ((i + 1 : Nat) : Int) y.2.2.1 (o : Int))] := by
              unfold stOne
              exact if_pos hc'
            obtain ⟨⟨zs, hlo9, hzs⟩, hst9⟩ := hzo
            have zlen : zo.length ≤ 2 * 200 + 2 := by
              have h1 := congrArg List.length ezo
              rw [List.length_map, List.length_append] at h1
              have h2 := stNext_len (kn := h.kns.getD b []) (late := h.late) (T := T) (m := i + 1) (bh := behindP (h.kns.getD b []) h.late T (T - (i + 1))) (most := mostPr h T b) (l := (lvlH h T b i).take k)
              have h3 := flat_len (f := stOne (h.kns.getD b []) h.late T (i + 1) (behindP (h.kns.getD b []) h.late T (T - (i + 1))) (mostPr h T b) y.2) (k := 1) (l := List.range o) fun o _ => stOne_len
              rw [List.length_range] at h3
              rw [List.length_take] at h2
              omega
            have zsl : zs.length = zo.length := by have := hzs.length; rw [List.length_map] at this; exact this
            have e : encS (y.2.1 ++ [(o : Int)]) = encS y.2.1 ++ [.int (o : Int)] := by unfold encS; rw [List.map_append]; rfl
            have fin : ∀ (stA t4 : Addr) (Ha : Hp), Same H9 Ha → Ha stA = some (.tup (encS (y.2.1 ++ [(o : Int)]))) → Ha t4 = none →
                Same H6 (upd (upd Ha t4 (.tup [.ref stA, .int (o : Int), .int (y.2.2.2 + stepP (h.kns.getD b []) h.late h.now ((i + 1 : Nat) : Int) y.2.2.1 (o : Int))])) lo (.lst (zs ++ [.ref t4]))) ∧
                ItemsAt (upd (upd Ha t4 (.tup [.ref stA, .int (o : Int), .int (y.2.2.2 + stepP (h.kns.getD b []) h.late h.now ((i + 1 : Nat) : Int) y.2.2.1 (o : Int))])) lo (.lst (zs ++ [.ref t4]))) lo (zo ++ [(stA, (y.2.1 ++ [(o : Int)], (o : Int), y.2.2.2 + stepP (h.kns.getD b []) h.late T ((i + 1 : Nat) : Int) y.2.2.1 (o : Int)))]) := by
              intro stA t4 Ha sA9 hstA n4
              rw [hnow]
              have hloA := sA9 _ _ hlo9
              have n4lo : t4 ≠ lo := fun z => by rw [z, hloA] at n4; cases n4
              have tS : TupS Ha (upd (upd Ha t4 (.tup [.ref stA, .int (o : Int), .int (y.2.2.2 + stepP (h.kns.getD b []) h.late T ((i + 1 : Nat) : Int) y.2.2.1 (o : Int))])) lo (.lst (zs ++ [.ref t4]))) := TupS.upd (TupS.of_same (Same.new n4)) (by rw [(Same.new n4) _ _ hloA]; intro xs z; cases z)
              refine ⟨Same.mut ((s9.trans sA9).trans (Same.new n4)) nlo, ⟨zs ++ [.ref t4], upd_same, ?_⟩, fun x hx => ?_⟩
              · rw [List.map_append]
                exact Paired.append ((hzs.mono (.of_same sA9)).mono tS) (.cons ⟨t4, rfl, by rw [upd_ne n4lo, upd_same]; rfl⟩ .nil)
              · rcases List.mem_append.mp hx with hx | hx
                · exact tS _ _ (sA9 _ _ (hst9 x hx))
                · rw [List.mem_singleton.mp hx]
                  exact tS _ _ hstA
            have emap : (zo ++ [((0 : Addr), (y.2.1 ++ [(o : Int)], (o : Int), y.2.2.2 + stepP (h.kns.getD b []) h.late T ((i + 1 : Nat) : Int) y.2.2.1 (o : Int)))]).map (·.2) = stNext (h.kns.getD b []) h.late T (i + 1) (behindP (h.kns.getD b []) h.late T (T - (i + 1))) (mostPr h T b) ((lvlH h T b i).take k) ++ (List.range (o + 1)).flatMap (stOne (h.kns.getD b []) h.late T (i + 1) (behindP (h.kns.getD b []) h.late T (T - (i + 1))) (mostPr h T b) y.2) := by
              rw [List.map_append, ezo, List.range_succ, List.flatMap_append, List.flatMap_cons, List.flatMap_nil, List.append_nil, one, List.append_assoc]
              rfl
            have emap' : ∀ stA : Addr, (zo ++ [(stA, (y.2.1 ++ [(o : Int)], (o : Int), y.2.2.2 + stepP (h.kns.getD b []) h.late T ((i + 1 : Nat) : Int) y.2.2.1 (o : Int)))]).map (·.2) = _ := fun stA => Eq.trans (by rw [List.map_append, List.map_append]; rfl) emap
            have hy9 := s9 _ _ hyst
            refine ⟨_, rfl, .inl ⟨rfl, _, SqL.of hlo9⟩, _, rfl, _, rfl, sz (by simp), fun t2 nt2 => ?_⟩
            have hy9' := (Same.new (o := .tup [.int (o : Int)]) nt2) _ _ hy9
            refine ⟨y.1, t2, _, _, rfl, rfl, SqT.of hy9', SqT.of upd_same, sz (by unfold encS; simp; omega), fun z => ?_, (fun _ z => by cases z), fun _ _ t3 n3 => ?_⟩
            · refine ⟨_, rfl, _, rfl, sz (by simp), fun t4 n4 => ?_⟩
              obtain ⟨f1, f2⟩ := fin t2 t4 _ (Same.new nt2) (by rw [e, z, upd_same]; rfl) n4
              exact ⟨lo, _, _, rfl, rfl, (Same.new n4) _ _ ((Same.new nt2) _ _ hlo9), szl (by omega), _, _, _, rfl, f1, f2, emap' t2⟩
            · refine ⟨_, rfl, _, rfl, sz (by simp), fun t4 n4 => ?_⟩
              obtain ⟨f1, f2⟩ := fin t3 t4 _ ((Same.new nt2).trans (Same.new n3)) (by rw [e]; exact upd_same) n4
              exact ⟨lo, _, _, rfl, rfl, (Same.new n4) _ _ ((Same.new n3) _ _ ((Same.new nt2) _ _ hlo9)), szl (by omega), _, _, _, rfl, f1, f2, emap' t3⟩
          · have hc' : ¬ (y.2.2.2 + stepP (h.kns.getD b []) h.late T ((i + 1 : Nat) : Int) y.2.2.1 (o : Int) + sel (behindP (h.kns.getD b []) h.late T (T - (i + 1))) o ≤ mostPr h T b) := by
              rw [← hnow]
              exact fun z => hc (decide_eq_true z)
            have one : stOne (h.kns.getD b []) h.late T (i + 1) (behindP (h.kns.getD b []) h.late T (T - (i + 1))) (mostPr h T b) y.2 o = [] := by
              unfold stOne
              exact if_neg hc'
            refine ⟨zo, _, _, rfl, s9, hzo, ?_⟩
            rw [ezo, List.range_succ, List.flatMap_append, List.flatMap_cons, List.flatMap_nil, List.append_nil, one, List.append_nil]
        · rintro σ H9 ⟨zo, o10, o11, rfl, s9, hzo, ezo⟩
          refine ⟨zo, _, _, _, _, _, rfl, s9, hzo, ?_⟩
          rw [etk, ezo]
          unfold stNext
          rw [List.flatMap_append, List.flatMap_cons, List.flatMap_nil, List.append_nil]
      · rintro σ H8 ⟨zz, o7, o8, o9, o10, o11, rfl, s8, hzz, ezz⟩
        have ezz' : zz.map (·.2) = lvlH h T b (i + 1) := by
          rw [ezz, xl, zl, List.take_length]
          rfl
        have zzl : zz.length = (lvlH h T b (i + 1)).length := by rw [← ezz', List.length_map]
        obtain ⟨⟨zs, hlo8, hzs⟩, hst8⟩ := hzz
        have zsl : zs.length = zz.length := by have := hzs.length; rw [List.length_map] at this; exact this
        refine ⟨_, rfl, lo, zs, rfl, .inl (SqL.of hlo8), _, _, rfl, rfl, _, rfl, ite2 (fun hc => ?_) (fun hc => ?_)⟩
        · have hc' := of_decide_eq_true hc
          exact qE ⟨i + 1, by omega, by omega⟩ _ ((s5.trans s6).trans s8)
        · have hc' : ¬ (200 : Int) < (zs.length : Int) := fun z => hc (decide_eq_true z)
          refine ⟨_, rfl, lo, zz, _, _, _, _, _, _, _, rfl, s6.trans s8, ⟨⟨zs, hlo8, hzs⟩, hst8⟩, ezz', fun j hj => ?_⟩
          by_cases e : j = i + 1
          · rw [e]
            omega
          · exact few j (by omega)
    · rintro σ H6 ⟨sA, z, o5, o6, o7, o8, o9, o10, o11, rfl, s6, hz, ez, few⟩
      have zl : z.length = (lvlH h T b T).length := by rw [← ez, List.length_map]
      have zfew := few T (Nat.le_refl _)
      obtain ⟨⟨xs, hsA, hx⟩, hst⟩ := hz
      have xl : xs.length = z.length := by have := hx.length; rw [List.length_map] at this; exact this
      refine ⟨_, rfl, sA, rfl, ⟨_, SqL.of hsA⟩, fun D nD => ?_⟩
      refine lc_list (K := K) (a := sA) (xs := xs) (fun i H7 => Same H6 H7 ∧ H7 D = some (.lst ((z.take i).map fun x => V.ref x.1))) ⟨Same.new nD, upd_same⟩ (fun i H7 _ ⟨s7, _⟩ => SqL.of (s7 _ _ hsA)) ?_ ?_
      · rintro i x H7 hi ⟨s7, hD⟩
        obtain ⟨dv, hdv, tA, rfl, hta⟩ := Paired.getL hx hi
        rw [List.getElem?_map] at hdv
        obtain ⟨y, hy, rfl⟩ := Option.map_eq_some_iff.mp hdv
        have hil : i < z.length := (List.getElem?_eq_some_iff.mp hy).1
        refine ⟨tA, _, rfl, SqT.of (s7 _ _ hta), rfl, _, _, rfl, _, _, rfl, _, _, rfl, rfl, rfl, ?_⟩
        refine GivesB.yes (H := H7) H7 (Same.refl _) _ fun H8 s8 => ite2 (fun _ => ?_) (fun z => absurd rfl z)
        refine ⟨_, rfl, _, s8 _ _ hD, szl (by rw [List.length_map, List.length_take]; omega), Same.mut (s7.trans s8) nD, ?_⟩
        rw [upd_same, List.take_succ, hy, List.map_append]
        rfl
      · rintro H7 ⟨s7, hD⟩
        rw [xl, List.take_length] at hD
        exact q few D z H7 ((s5.trans s6).trans s7) ((s5.trans s6).free nD) hD (fun x hx => s7 _ _ (hst x hx)) ez
end
end IC
namespace IC
open PySem L2
/-! ### rows -/
def rowsB (b : Nat) (kn : Kn) : List (List V) := (keysOf kn).map fun m => [V.int (b : Int), .int m, .str ((lookK kn m).getD "")]
def rowsTo (kns : List Kn) : Nat → List (List V)
  | 0 => []
  | b + 1 => rowsTo kns b ++ rowsB b (kns.getD b [])
theorem keysOf_len {kn : Kn} (k : KnOk kn) : (keysOf kn).length < 64 := by
  unfold keysOf
  rw [List.length_mergeSort, List.length_map]
  exact k.sm
theorem rowsTo_len {kns : List Kn} (ok : ∀ k ∈ kns, KnOk k) : ∀ n, n ≤ kns.length → (rowsTo kns n).length ≤ 64 * n
  | 0, _ => by simp [rowsTo]
  | n + 1, h => by
    have ih := rowsTo_len ok n (by omega)
    have h2 := keysOf_len (ok _ (getD_mem (show n < kns.length by omega)).2)
    show (rowsTo kns n ++ rowsB n (kns.getD n [])).length ≤ _
    unfold rowsB
    rw [List.length_append, List.length_map]
    omega
section
variable {P : Program} {w : World} {K : PySem.W.Frag} {mg : Str → Option Value} {base : Heap} {dI C : Addr}
def sp_rows (C : Addr) : Sp := fun vs H Q _ => ∃ (p L : Addr) (ds : List Addr) (h : Hs), vs = [.ref p] ∧ HouseAt C H p L ds h ∧
  ∀ (a : Addr) (xs : List V) (H' : Hp), Same H H' → H a = none → H' a = some (.lst xs) → TupsAt H' xs (rowsTo h.kns h.kns.length) → Q (.ref a) H'
theorem sc_House_rows : FnScope ["self", "found", "badge", "moment"] ["self"] (defScope s_House_rows) := ⟨rfl, rfl, rfl, by decide +kernel, rfl, by decide +kernel, by decide +kernel⟩
theorem ok_rows {f : Addr} {fd : FuncData} (F : Fun K "rows" "House.rows" s_House_rows f fd) (G : Glb K w mg dI) (TX : HTxt K C) : FnOk P w K mg base CX0 1 f fd ["self"] (sp_rows C) := by
  refine F.ok sc_House_rows (fun vs H Q E h => ?_) (fun cdv A outer s H vs Q E hr h => ?_)
  · obtain ⟨p, L, ds, h, rfl, _⟩ := h
    rfl
  · obtain ⟨p, L, ds, h, rfl, ha, q⟩ := h
    have hu := hu_of hr
    obtain ⟨dx, eo⟩ := ha.ob
    refine ⟨_, (pss_cons (ps_set (i := 1) sc_House_rows.nd rfl (Or.inl rfl) (pe_lst pa_nil))
      (pss_cons (ps_for PassesOwn.never rfl (pi_range1 rfl G.range (pa_cons (pe_callB call_len_seq (by rfl) G.len (by decide +kernel) (pa_cons (pe_fld (pv 0) rfl) pa_nil)) pa_nil)) (pg_name (i := 2) sc_House_rows.nd rfl (Or.inr rfl))
        (pss_one (ps_expr (pe_bm PySem.F.plainAttrs_list PySem.F.slot_list_extend PySem.F.type_list_extend mt_extend (pv 1) (pa_cons (pe_lc (own := [("moment", 3)]) (g := gName 3) (tt := tYes) rfl sc_House_rows.nd (pi_list (pe_callB (call_sortedDI rfl) (by rfl) G.sorted (by decide +kernel) (pa_cons (pe_ix ix_list (pe_fld (pv 0) rfl) (pv 2) (fun _ _ => rfl)) pa_nil))) (blkOk_by (own := [("moment", 3)]) (N := ["self", "found", "badge", "moment"]) (sc := defScope s_House_rows) (by decide +kernel)) (fun _ _ _ _ _ => (pg_name (i := 3) sc_House_rows.nd rfl (Or.inl rfl))) (fun _ _ _ _ _ => pts_nil) (fun _ _ _ _ _ => (pe_tup (pa_cons (pv 2) (pa_cons (pv 3) (pa_cons (pe_dget hu (pe_ix (ix_listK (K := K)) (pe_fldK (K := K) (pv 0) rfl) (pv 2) (fun _ _ => rfl)) (pv 3) (fun _ _ => rfl)) pa_nil)))))) pa_nil)))))
      (pss_one (ps_ret (pv 1))))), ?_⟩
    refine ⟨sz (by simp), fun fo nfo => ?_⟩
    have s1 : Same H (upd H fo (.lst [])) := Same.new nfo
    have hfo1 : upd H fo (.lst []) fo = some (.lst []) := upd_same
    generalize upd H fo (.lst []) = H1 at *
    have dl : ds.length = h.kns.length := ha.kn.len
    have few := ha.kn.few
    refine ⟨_, rfl, p, C, dx, _, _, rfl, s1 _ _ eo, TX.cl, TX.n_known, fl_known _ _, L, _, rfl, .inl (SqL.of (s1 _ _ ha.kn.lst)), _, rfl, by omega, by rw [List.length_map]; omega, ?_⟩
    rw [List.length_map, dl, Int.toNat_natCast]
    refine for_range0 (n := h.kns.length) (fun b σ H2 => ∃ (xs : List V) (o2 o3 : Option V), σ = [some (.ref p), some (.ref fo), o2, o3] ∧ Same H H2 ∧ H2 fo = some (.lst xs) ∧ TupsAt H2 xs (rowsTo h.kns b)) ⟨[], none, none, rfl, s1, hfo1, .nil⟩ ?_ ?_
    · rintro b σ H2 hb ⟨xs, o2, o3, rfl, s2, hfo2, hx⟩
      obtain ⟨hbm, hbk⟩ := getD_mem hb
      have ko := ha.kn.ok _ hbk
      obtain ⟨d, hd, hdk⟩ : ∃ d, ds[b]? = some d ∧ H d = some (.dK (encK (h.kns.getD b []))) := Paired.get (R := fun d k => H d = some (.dK (encK k))) ha.kn.at_ hbm
      have hat : atI (ds.map V.ref) (b : Int) = some (.ref d) := atI_nat (by rw [List.getElem?_map, hd]; rfl)
      have xl : xs.length ≤ 64 * b := by
        have h1 := hx.length
        have h2 := rowsTo_len ha.kn.ok b (by omega)
        omega
      refine ⟨_, rfl, .inl ⟨rfl, _, SqL.of hfo2⟩, ?_⟩
      refine ⟨_, rfl, p, C, dx, _, _, rfl, s2 _ _ eo, TX.cl, TX.n_known, fl_known _ _, _, rfl, L, _, _, .ref d, rfl, rfl, SqL.of (s2 _ _ ha.kn.lst), hat, ?_⟩
      refine ⟨d, encK (h.kns.getD b []), (h.kns.getD b []).map (·.1), rfl, .inl (s2 _ _ hdk), by unfold encK; rw [List.map_map, List.map_map]; rfl, by rw [List.length_map]; exact ko.sm, fun ms q0 pm ps nq => ?_⟩
      have ems : ms = keysOf (h.kns.getD b []) := sort_uniq pm ps
      have hmem : ∀ m ∈ ms, m ∈ (h.kns.getD b []).map (·.1) := fun m hm => pm.mem_iff.mp hm
      have hlen : ms.length < 64 := by rw [pm.length_eq, List.length_map]; exact ko.sm
      have s3 : Same H2 (upd H2 q0 (.lst (ms.map V.int))) := Same.new nq
      have hq3 : upd H2 q0 (.lst (ms.map V.int)) q0 = some (.lst (ms.map V.int)) := upd_same
      generalize upd H2 q0 (.lst (ms.map V.int)) = H3 at *
      refine ⟨q0, rfl, ⟨_, SqL.of hq3⟩, fun D nD => ?_⟩
      refine lc_mkL (K := K) (enc := fun m : Int => V.int m) (l := ms) (fun m => [V.int (b : Int), .int m, .str ((lookK (h.kns.getD b []) m).getD "")]) (SqL.of hq3) nD (by omega) (fun _ => rfl) (fun m hm => ?_) fun ys H4 s4 hD hy => ?_
      · intro H4 s4 Q4 q4
        obtain ⟨z, hz, wz⟩ := ko.look (hmem m hm)
        have s24 := (s2.trans s3).trans s4
        have hg : DGet H4 d (.int m) (some (.str ((lookK (h.kns.getD b []) m).getD ""))) := by
          have e : DGet H4 d (kV (Sum.inl m)) (valV (encK (h.kns.getD b [])) (Sum.inl m)) := DGet.k (s24 _ _ hdk)
          rw [valV_enc, hz] at e
          rw [hz]
          exact e
        refine ⟨_, rfl, _, rfl, _, rfl, p, C, dx, _, _, rfl, s24 _ _ eo, TX.cl, TX.n_known, fl_known _ _, _, rfl, L, _, _, .ref d, rfl, rfl, SqL.of (s24 _ _ ha.kn.lst), hat, _, rfl, ?_⟩
        exact ⟨d, _, rfl, hg, sz (by simp), fun t nt => q4 t _ (Same.new nt) nt upd_same⟩
      · have yl : ys.length = ms.length := by have := hy.length; rw [List.length_map] at this; exact this
        have hfo4 := s4 _ _ (s3 _ _ hfo2)
        refine ⟨fo, D, xs, ys, rfl, rfl, hfo4, hD, sz (by omega), ?_⟩
        have tS : TupS H4 (upd H4 fo (.lst (xs ++ ys))) := TupS.upd (TupS.refl _) (by rw [hfo4]; intro xs z; cases z)
        refine ⟨xs ++ ys, _, _, rfl, Same.mut ((s2.trans s3).trans s4) nfo, upd_same, ?_⟩
        refine Paired.append ((hx.mono (.of_same (s3.trans s4))).mono tS) ?_
        unfold rowsB
        rw [← ems]
        exact hy.mono tS
    · rintro σ H2 ⟨xs, o2, o3, rfl, s2, hfo2, hx⟩
      exact ⟨_, rfl, q fo xs H2 s2 nfo hfo2 hx⟩
end
end IC
namespace IC
open PySem L2
/-! ### what a house refuses -/
/-- a row that can't come -/
def NoRow (h : Hs) (t b m : Int) (z : Str) : Prop := ¬ (h.now ≤ t ∧ t ≤ 60 ∧ 0 ≤ b ∧ b < h.kns.length ∧ Wd z ∧ 1 ≤ m ∧ m ≤ t ∧ t - m ≤ h.late ∧ lookK (h.kns.getD b.toNat []) m = none)
theorem no2 {a b : Prop} [Decidable a] [Decidable b] (h : ¬ (a ∧ b)) : (!(decide a && decide b)) = true := by
  by_cases x : a
  · by_cases y : b
    · exact absurd ⟨x, y⟩ h
    · simp [y]
  · simp [x]
section
variable {P : Program} {w : World} {K : PySem.W.Frag} {mg : Str → Option Value} {base : Heap} {dI C BT BR : Addr}
def sp_tickX (C BT : Addr) : Sp := fun vs H _ E => ∃ (p L : Addr) (ds : List Addr) (h : Hs) (t : Int), vs = [.ref p, .int t] ∧ HouseAt C H p L ds h ∧ ¬ (h.now ≤ t ∧ t ≤ 60) ∧ E (.ref BT) none H
theorem ok_tickX {f : Addr} {fd : FuncData} (F : Fun K "tick" "House.tick" s_House_tick f fd) (X_BadTime : ExcOk K mg "BadTime" BT) (c_is_time : C8.Met P w K mg base 1 C "is_time" (sp_is_time C) []) (c_gone_on : C8.Met P w K mg base 4 C "gone_on" (sp_gone_on C) []) :
    FnOk P w K mg base (L2.CX P w) 5 f fd ["self", "time"] (sp_tickX C BT) := by
  refine F.okX sc_House_tick (fun vs H Q E h => ?_) (fun cdv A outer s H vs Q E hr h => ?_)
  · obtain ⟨p, L, ds, h, t, rfl, _⟩ := h
    rfl
  · obtain ⟨p, L, ds, h, t, rfl, ha, hn, q⟩ := h
    obtain ⟨dx, eo⟩ := ha.ob
    refine ⟨_, (pss_cons (ps_if (pt_not (pt_val (C8.pe_mt c_is_time hr (by decide) (pv 0) (pa_cons (pv 1) pa_nil))))
        (pss_one (ps_raise rfl (takes_of rfl rfl rfl rfl) (pmk_own PySem.F.excBase_ValueError X_BadTime.q X_BadTime.g X_BadTime.k (raises_own X_BadTime.b X_BadTime.t) rfl)))
        pss_nil)
      (pss_one (ps_expr (C8.pe_mt c_gone_on hr (by decide) (pv 0) (pa_cons (pv 1) pa_nil))))), ?_⟩
    exact ⟨_, rfl, p, dx, _, rfl, eo, fl_no _ _ (by decide +kernel), _, rfl, p, L, ds, h, t, rfl, ha, _, rfl, ifT (no2 hn) q⟩
def sp_comeX (K : PySem.W.Frag) (dI C BR : Addr) : Sp := fun vs H _ E => ∃ (p L : Addr) (ds : List Addr) (h : Hs) (t b m : Int) (z : Str), vs = [.ref p, .int t, .int b, .int m, .str z] ∧ HouseAt C H p L ds h ∧ NoRow h t b m z ∧ (Wd z ∨ (PySem.W.nsIn K dI z = some none ∧ ¬ Wd z)) ∧ E (.ref BR) none H
theorem ok_comeX {f : Addr} {fd : FuncData} (F : Fun K "come" "House.come" s_House_come f fd) (G : Glb K w mg dI) (T : HTxt K C) (X_BadRow : ExcOk K mg "BadRow" BR) (c_is_time : C8.Met P w K mg base 1 C "is_time" (sp_is_time C) []) (c_gone_on : C8.Met P w K mg base 4 C "gone_on" (sp_gone_on C) []) :
    FnOk P w K mg base (L2.CX P w) 5 f fd ["self", "time", "badge", "moment", "word"] (sp_comeX K dI C BR) := by
  refine F.okX sc_House_come (fun vs H Q E h => ?_) (fun cdv A outer s H vs Q E hr h => ?_)
  · obtain ⟨p, L, ds, h, t, b, m, z, rfl, _⟩ := h
    rfl
  · obtain ⟨p, L, ds, h, t, b, m, z, rfl, ha, hn, hw, q⟩ := h
    have hu := hu_of hr
    obtain ⟨dx, eo⟩ := ha.ob
    have hlen : ds.length = h.kns.length := ha.kn.len
    refine ⟨_, (pss_cons (ps_if (PW.pt (pw_or (pt_not (pt_val (C8.pe_mt c_is_time hr (by decide) (pv 0) (pa_cons (pv 1) pa_nil)))) (pw_or (pt_not (pt_chain op_le op_lt pe_int (pv 2) (pe_callB call_len_seq (by rfl) G.len (by decide +kernel) (pa_cons (pe_fld (pv 0) rfl) pa_nil)))) (pw_or1 (pt_cmpR (op_notIn_kdE G.KI) (pv 4) (pe_glob (v := .ref dI) rfl G.INSIDE rfl) (by rfl))))))
        (pss_one (ps_raise rfl (takes_of rfl rfl rfl rfl) (pmk_own PySem.F.excBase_ValueError X_BadRow.q X_BadRow.g X_BadRow.k (raises_own X_BadRow.b X_BadRow.t) rfl)))
        pss_nil)
      (pss_cons (ps_if (PW.pt (pw_or (pt_not (pt_chain op_le op_le pe_int (pv 3) (pv 1))) (pw_or (pt_cmpR op_gt (pe_op op_sub (pv 1) (pv 3)) (pe_fld (pv 0) rfl) (nomark _)) (pw_or1 (pt_cmp (pc_din hu (pv 3) (pe_ix ix_list (pe_fld (pv 0) rfl) (pv 2) (fun _ _ => rfl))))))))
        (pss_one (ps_raise rfl (takes_of rfl rfl rfl rfl) (pmk_own PySem.F.excBase_ValueError X_BadRow.q X_BadRow.g X_BadRow.k (raises_own X_BadRow.b X_BadRow.t) rfl)))
        pss_nil)
      (pss_cons (ps_dput hu (pe_ix ix_list (pe_fld (pv 0) rfl) (pv 2) (fun _ _ => rfl)) (pv 3) (pv 4) rfl)
      (pss_one (ps_expr (C8.pe_mt c_gone_on hr (by decide) (pv 0) (pa_cons (pv 1) pa_nil))))))), ?_⟩
    refine ⟨_, rfl, p, dx, _, rfl, eo, fl_no _ _ (by decide +kernel), _, rfl, p, L, ds, h, t, rfl, ha, _, rfl, ?_⟩
    by_cases c1 : h.now ≤ t ∧ t ≤ 60
    case neg => exact ifT (no2 c1) (iteT q)
    refine ifF (by simp [c1.1, c1.2]) ?_
    refine ⟨_, rfl, _, _, rfl, rfl, _, rfl, ?_⟩
    by_cases c2 : 0 ≤ b
    case neg => exact ifF (by simp; omega) ⟨_, rfl, ifT (by simp) (iteT q)⟩
    refine ifT (by simp; omega) ?_
    refine ⟨_, rfl, p, C, dx, _, _, rfl, eo, T.cl, T.n_known, fl_known _ _, L, _, rfl, .inl (SqL.of ha.kn.lst), _, _, rfl, rfl, _, rfl, ?_⟩
    by_cases c3 : b < h.kns.length
    case neg => exact ifT (by simp; omega) (iteT q)
    refine ifF (by simp; omega) ?_
    obtain ⟨bn, rfl⟩ := Int.eq_ofNat_of_zero_le c2
    have hb : bn < h.kns.length := by omega
    obtain ⟨ek, hkm⟩ := getD_mem hb
    obtain ⟨d, hd, hdk⟩ : ∃ d, ds[bn]? = some d ∧ H d = some (.dK (encK (h.kns.getD bn []))) := Paired.get (R := fun d k => H d = some (.dK (encK k))) ha.kn.at_ ek
    rcases hw with hw | ⟨hw, nw⟩
    case inr => exact ⟨_, rfl, z, _, rfl, rfl, hw, _, rfl, ifT (by simp) q⟩
    obtain ⟨u, hns⟩ := G.ns hw
    refine ⟨_, rfl, z, _, rfl, rfl, hns, _, rfl, ifF (by simp) ?_⟩
    refine ⟨_, rfl, _, _, rfl, rfl, _, rfl, ?_⟩
    by_cases c4 : 1 ≤ m
    case neg => exact ifF (by simp; omega) ⟨_, rfl, ifT (by simp) (iteT q)⟩
    refine ifT (by simp; omega) ?_
    refine ⟨_, rfl, _, _, rfl, rfl, _, rfl, ?_⟩
    by_cases c5 : m ≤ t
    case neg => exact ifT (by simp; omega) (iteT q)
    refine ifF (by simp; omega) ?_
    refine ⟨_, rfl, _, rfl, _, _, rfl, rfl, _, rfl, p, C, dx, _, _, rfl, eo, T.cl, T.n_late, fl_late _ _, _, _, rfl, rfl, _, rfl, ?_⟩
    by_cases c6 : t - m ≤ h.late
    case neg => exact ifT (by simp; omega) (iteT q)
    refine ifF (by simp; omega) ?_
    cases e : lookK (h.kns.getD bn []) m with
    | none => exact absurd ⟨c1.1, c1.2, c2, c3, hw, c4, c5, c6, by rw [Int.toNat_natCast]; exact e⟩ hn
    | some y =>
      have hg : DGet H d (.int m) (some (.str y)) := by
        have e2 : DGet H d (kV (Sum.inl m)) (valV (encK (h.kns.getD bn [])) (Sum.inl m)) := DGet.k hdk
        rw [valV_enc, e] at e2
        exact e2
      exact ⟨_, rfl, _, rfl, p, C, dx, _, _, rfl, eo, T.cl, T.n_known, fl_known _ _, _, rfl, L, _, _, .ref d, rfl, rfl, SqL.of ha.kn.lst, atI_nat (by rw [List.getElem?_map, hd]; rfl), d, _, rfl, hg, _, rfl, ifT (by simp) q⟩
end
end IC
namespace IC
open PySem PySem.Spec PyProof.Rows L2 LamX NdefX
/-! ### lambdas as tracked objects -/
/-- a lambda's words, the cells that it took, its code object, its defaults -/
structure LF where
  qual : Str
  params : Arguments
  body : Expr
  scope : Scope
  cl : List (Str × Addr)
  c : Addr
  dV : Value
abbrev LF.fd (F : LF) (doc pm ctv : Value) : FuncData := PySem.W.kdv_fn "<lambda>" F.qual F.params (.expr F.body) F.scope F.cl F.dV doc pm (.ref F.c) ctv
abbrev LF.nf (F : LF) : NF := ⟨"<lambda>", F.qual, F.params, [], F.scope, F.cl, F.c⟩
def LamO (f : Addr) (F : LF) : HO := .ext fun g => ∃ (od : Option Addr) (sl : Array (Option Value)) (doc pm ctv : Value), g.get? f = some (⟨.type "function", od, .func (F.fd doc pm ctv), sl⟩ : Obj)
theorem lamO_ne {f : Addr} {F : LF} (ps : Array Value) : LamO f F ≠ .tbl ps := fun z => by
  unfold LamO at z
  cases z
theorem lamO_at {P : Program} {w : World} {H : Hp} {g : Heap} {f : Addr} {F : LF} (ok : HOk P w H g) (e : H f = some (LamO f F)) : ∃ (od : Option Addr) (sl : Array (Option Value)) (doc pm ctv : Value), g.get? f = some (⟨.type "function", od, .func (F.fd doc pm ctv), sl⟩ : Obj) := by
  obtain ⟨r, _, _⟩ := ok f _ e
  exact r
theorem lamO_fn {P : Program} {w : World} {H : Hp} {g : Heap} {f : Addr} {F : LF} (ok : HOk P w H g) (e : H f = some (LamO f F)) : PySem.W.FnAt f g := by
  obtain ⟨od, sl, doc, pm, ctv, r⟩ := lamO_at ok e
  exact ⟨_, od, _, sl, r⟩
section
variable {X : Cx} {pins : List (Addr × Obj)} {σ : L2.St} {H : Hp} {s : Shared}
theorem inv_lam {F : LF} {o : Obj} {tk : Nat} {doc pm ctv : Value} (I : Inv X pins σ H s) (ho : o = { cls := .type "function", data := .func (F.fd doc pm ctv) }) :
    Inv X pins σ (upd H s.heap.objs.size (LamO s.heap.objs.size F)) { s with heap := s.heap.push o, toks := tk } := by
  subst ho
  refine I.laid (a := s.heap.objs.size) (fun b u r => Heap.get?_push_of_some _ r) (Nat.le_refl _) ?_
  have r : (s.heap.push ({ cls := .type "function", data := .func (F.fd doc pm ctv) } : Obj)).get? s.heap.objs.size = some ({ cls := .type "function", data := .func (F.fd doc pm ctv) } : Obj) := Heap.get?_push_size _ rfl
  exact ⟨⟨_, _, doc, pm, ctv, r⟩, ⟨_, r⟩, fun g1 g2 ⟨od, sl, d, p, t, z⟩ st => ⟨od, sl, d, p, t, st _ z⟩⟩
/-- the lambda's object is made: its code object is new, or the table tells it -/
theorem lam_tail {T : List (Addr × Str)} {c P : Addr} {q : Str} {params : Arguments} {body : Expr} {scope : Scope} {pos : Pos} {dV : Value} {E Q : Value → Shared → Prop} (I : Inv X pins σ H s) (TB : TabB X.base X.mg c P) (hcode : X.env.code = .ref c)
    (hm : (P, q) ∈ T) (hu : ∀ p ∈ T, p.1 = P → p.2 = q) (hT : Tabs T H) (hfree : ∀ y ∈ scope.names, y.2 = .free → ∃ d, X.env.cells.lookup y.1 = some d)
    (h : ∀ (f c' : Addr) (H1 : Hp) (s' : Shared), Inv X pins σ H1 s' → Keeps [P] H H1 → (∀ b, H1 b = Option.none → H b = Option.none) → Tabs T H1 → H f = none → H1 f = some (LamO f ⟨q, params, body, scope, cloFrom X.env.cells scope.names [], c', dV⟩) → H1 c' = some (CodeO c' q) → Q (.ref f) s') :
    wpAny (model X.prog X.w) X.A (makeTail "<lambda>" q params (.expr body) scope X.env dV .none none pos pos.line) Q E s := by
  obtain ⟨ps, hP, tr, al⟩ := (show TabS H P q from hT _ hm)
  have bP : s.heap.BuiltinsAt X.mg P := TB.bm.keeps I.bk
  have gP : s.heap.get? P = some { cls := .none, data := .fields ps } := I.hok P _ hP
  cases hc : codeAmong pos ps.toList with
  | none =>
    refine PySem.W.kdv_makeTail (mg := X.mg) (c := c) (P := P) (ps := ps) (closure_ok hfree) I.ok.glob (I.mod.glob.keeps I.bk) hcode (TB.code.keeps I.bk) gP tr hc TB.gP bP fun c' ctv doc g tk kx ge lt rec tb => ?_
    obtain ⟨c2, oc, vs, t, e2, hoc, hd, hv⟩ := rec
    cases e2
    have nC : H c' = none := I.hok.fresh ge
    have I1 := inv_table (t' := tk) (more := #[rawInt pos.line, rawInt pos.col, .ref c']) (h' := g) I hP (fun b o nb r => kx b o nb r) tb ge ⟨oc, vs, t, hoc, hd, hv⟩
    have hE : Keeps [P] H (upd (upd H P (.tbl (ps ++ #[rawInt pos.line, rawInt pos.col, .ref c']))) c' (CodeO c' q)) := fun b o r n => by
      rw [upd_ne (ne_of_none r nC), upd_ne (fun z => n (by rw [z]; exact List.mem_singleton.mpr rfl))]
      exact r
    have nT : ∀ {d : Addr} {z : Str}, H d = some (CodeO d z) → d ∉ [P] := fun {d z} r m => by
      rw [List.mem_singleton.mp m, hP] at r
      exact codeO_ne _ (Option.some.inj r).symm
    have eL : (ps ++ #[rawInt pos.line, rawInt pos.col, .ref c']).toList = ps.toList ++ [rawInt pos.line, rawInt pos.col, .ref c'] := by simp
    have T1 : Tabs T (upd (upd H P (.tbl (ps ++ #[rawInt pos.line, rawInt pos.col, .ref c']))) c' (CodeO c' q)) := fun p hp => by
      by_cases hb : p.1 = P
      · rw [hu p hp hb, hb]
        refine ⟨_, by rw [upd_ne (ne_of_none hP nC), upd_same], by rw [eL]; exact PySem.TriplesOk_snoc _ _ _ _ tr, fun p' cv hcv => ?_⟩
        rw [eL] at hcv
        rcases among_app _ tr hcv with z | z
        · obtain ⟨c0, e1, e2⟩ := al p' cv z
          exact ⟨c0, e1, hE _ _ e2 (nT e2)⟩
        · exact ⟨c', z, upd_same⟩
      · obtain ⟨ps', a1, a2, a3⟩ := hT p hp
        refine ⟨ps', by rw [upd_ne (ne_of_none a1 nC), upd_ne hb]; exact a1, a2, fun p' cv hcv => ?_⟩
        obtain ⟨c0, e1, e2⟩ := a3 p' cv hcv
        exact ⟨c0, e1, hE _ _ e2 (nT e2)⟩
    have nF := I1.hok.fresh (Nat.le_refl _)
    have I2 := inv_lam (F := ⟨q, params, body, scope, cloFrom X.env.cells scope.names [], c', dV⟩) (tk := tk) (doc := doc) (pm := (X.mg "__name__").getD .none) (ctv := ctv) I1 rfl
    refine h g.objs.size c' _ _ I2 (fun b o r n => ?_) (fun b r => upd_none (upd_none (upd_none r))) (T1.ext fun b o r => ?_) (I.hok.fresh (Nat.le_trans ge (Nat.le_of_lt lt))) upd_same ?_
    · have r1 := hE b o r n
      exact (upd_ne (ne_of_none r1 nF)).trans r1
    · exact (upd_ne (ne_of_none r nF)).trans r
    · exact (upd_ne (Nat.ne_of_lt lt)).trans upd_same
  | some cv =>
    obtain ⟨c', r, hco⟩ := al pos cv hc
    subst r
    refine PySem.W.kdv_makeTailHit (mg := X.mg) (c := c) (P := P) (ps := ps) (closure_ok hfree) I.ok.glob (I.mod.glob.keeps I.bk) hcode (TB.code.keeps I.bk) gP tr hc bP fun ctv doc g tk kx sz => ?_
    have I1 : Inv X pins σ H { s with heap := g, toks := tk } := I.kept kx
    have nF : H g.objs.size = none := I1.hok.fresh (Nat.le_refl _)
    have I2 := inv_lam (F := ⟨q, params, body, scope, cloFrom X.env.cells scope.names [], c', dV⟩) (tk := tk) (doc := doc) (pm := (X.mg "__name__").getD .none) (ctv := ctv) I1 rfl
    refine h g.objs.size c' _ _ I2 (fun b o r n => ?_) (fun b r => upd_none r) (hT.ext fun b o r => ?_) nF upd_same ?_
    · exact (upd_ne (ne_of_none r nF)).trans r
    · exact (upd_ne (ne_of_none r nF)).trans r
    · exact (upd_ne (ne_of_none hco nF)).trans hco
end
/-- the reading of a lambda without defaults -/
def tLm (P : Addr) (T : List (Addr × Str)) (mk : Addr → LF) : TE := fun _ H Q => Tabs T H ∧ ∀ (f c' : Addr) (H1 : Hp), Keeps [P] H H1 → (∀ b, H1 b = Option.none → H b = Option.none) → Tabs T H1 → H f = none → H1 f = some (LamO f (mk c')) → H1 c' = some (CodeO c' (mk c').qual) → Q (.ref f) H1
/-- .. with one default -/
def tLmD (P : Addr) (T : List (Addr × Str)) (te : TE) (mk : Addr → Addr → LF) : TE := fun σ H Q => te σ H fun v H0 => Tabs T H0 ∧ ∀ (d f c' : Addr) (H1 : Hp), H0 d = none → Keeps [P] (upd H0 d (.tup [v])) H1 → (∀ b, H1 b = Option.none → H0 b = Option.none) → Tabs T H1 → H0 f = none → H1 f = some (LamO f (mk d c')) → H1 c' = some (CodeO c' (mk d c').qual) → Q (.ref f) H1
/-- what the maker's scope has of the names that the lambda takes -/
def lamFree (sc scope : Scope) : Bool := scope.names.all fun y => !decide (y.2 = .free) || decide (sc.names.lookup y.1 = some .cell) || decide (sc.names.lookup y.1 = some .free)
theorem lamFree_of {sc scope : Scope} (h : lamFree sc scope = true) : ∀ y ∈ scope.names, y.2 = .free → sc.names.lookup y.1 = some .cell ∨ sc.names.lookup y.1 = some .free := by
  unfold lamFree at h
  simp only [Bool.or_eq_true, Bool.not_eq_true', decide_eq_true_eq, decide_eq_false_iff_not, List.all_eq_true] at h
  intro y hy e
  rcases h y hy with (z | z) | z
  · exact absurd e z
  · exact .inl z
  · exact .inr z
section
variable {X : Cx} {T : List (Addr × Str)} {c P : Addr} {params : Arguments} {body : Expr} {scope : Scope} {pos : Pos}
theorem free_has (ok : X.Ok) (h : lamFree X.env.scope scope = true) : ∀ y ∈ scope.names, y.2 = .free → ∃ d, X.env.cells.lookup y.1 = some d := fun y hy e => (lamFree_of h y hy e).elim (fun z => ok.has _ (.inl z)) fun z => ok.has _ (.inr z)
theorem pe_lam0 {sc : Scope} (TB : TabB X.base X.mg c P) (hcode : X.env.code = .ref c) (hm : (P, X.env.qual ++ "<lambda>") ∈ T) (hu : ∀ p ∈ T, p.1 = P → p.2 = X.env.qual ++ "<lambda>") (hf : lamFree sc scope = true) (hd : defaultsOf params X.env = ([], [])) (hsc : X.env.scope = sc := by rfl) :
    PE X (.Lambda params body scope pos) (tLm P T fun c' => ⟨X.env.qual ++ "<lambda>", params, body, scope, cloFrom X.env.cells scope.names [], c', .none⟩) := by
  refine ⟨fun pins s σ H Q I h => ?_⟩
  obtain ⟨hT, h⟩ := h
  refine PySem.W.kla_eval hd ?_
  rw [makeFunction_eq]
  simp only [List.zip_nil_right, List.filterMap_nil, List.isEmpty_nil, if_true, pure_bind]
  exact lam_tail I TB hcode hm hu hT (free_has I.ok (by rw [hsc]; exact hf)) fun f c' H1 s' I1 eN nn T1 f0 f1 c1 => ⟨.ref f, H1, I1, rfl, h f c' H1 eN nn T1 f0 f1 c1⟩
theorem pe_lam1 {sc : Scope} {e : Expr} {te : TE} (he : PE X e te) (TB : TabB X.base X.mg c P) (hcode : X.env.code = .ref c) (hm : (P, X.env.qual ++ "<lambda>") ∈ T) (hu : ∀ p ∈ T, p.1 = P → p.2 = X.env.qual ++ "<lambda>") (hf : lamFree sc scope = true)
    (hd : params.defaults = [e]) (hk : params.kw_defaults = []) (hsc : X.env.scope = sc := by rfl) :
    PE X (.Lambda params body scope pos) (tLmD P T te fun d c' => ⟨X.env.qual ++ "<lambda>", params, body, scope, cloFrom X.env.cells scope.names [], c', .ref d⟩) := by
  refine ⟨fun pins s σ H Q I h => ?_⟩
  refine PySem.W.kdv_lam (by rw [hd]; rfl) hk ?_
  rw [hd]
  refine PySem.W.kdv_all1 (thn (he.run pins s σ H _ I h) fun u s1 ⟨v, H0, I0, rv, hT, h⟩ => PySem.W.kdv_all0 ?_)
  rw [makeFunction_eq]
  simp only [List.zip_nil_right, List.filterMap_nil, List.isEmpty_nil, if_true, pure_bind, List.isEmpty_cons, Bool.false_eq_true, if_false]
  refine wpAny_bind (wpAny_newTextTuple ?_)
  have nD : H0 s1.heap.objs.size = none := I0.hok.fresh (Nat.le_refl _)
  have I1 : Inv X pins σ (upd H0 s1.heap.objs.size (.tup [v])) { s1 with heap := s1.heap.push { cls := .type "tuple", data := .seq #[u] } } := by
    refine I0.laid (a := s1.heap.objs.size) (t' := s1.toks) (fun b o r => Heap.get?_push_of_some _ r) (Nat.le_refl _) ?_
    refine ⟨(by show 1 ≤ sizeLine; decide), [u], .cons rv .nil, ?_⟩
    exact ⟨_, Heap.get?_push_size _ rfl, rfl, _, rfl⟩
  refine lam_tail I1 TB hcode hm hu (hT.ext fun b o r => (upd_ne (ne_of_none r nD)).trans r) (free_has I1.ok (by rw [hsc]; exact hf)) fun f c' H1 s' I2 eN nn T1 f0 f1 c1 => ⟨.ref f, H1, I2, rfl, h _ f c' H1 nD eN (fun b r => upd_none (nn b r)) T1 (upd_none f0) f1 c1⟩
end
/-! ### a lambda called -/
section
variable {P : Program} {w : World} {K : PySem.W.Frag} {mg : Str → Option Value} {base : Heap} {N ps fr : List Str} {F : LF} {f : Addr} {k : Nat} {A : Around} {outer : List Env} {s : Shared} {H : Hp} {Q : VK} {E : XK} {us : List Value} {vs : List V} {ws : List (Option V)} {t : TE}
theorem lam_run (S : NScope N ps fr F.scope) (hr : Room (k + 1) A) (e0 : Env0 P w K mg base A outer s H) (hf : H f = some (LamO f F)) (hc : H F.c = some (CodeO F.c F.qual)) (C : CellsAt F.cl fr ws s.heap H)
    (hb : ∀ doc pm ctv : Value, BindsTo s (F.fd doc pm ctv) ⟨[], []⟩ (ps.zip us)) (r : Vals vs us) (hl : vs.length = ps.length)
    (hbody : Room k (A.deeper (envF F.nf f s.heap.objs.size)) → PE (ncx (L2.CX P w) P w K mg base N F.nf f A outer s H E) F.body t) (ht : t (startF N vs ws) H Q) :
    codeAny (model P w) A (.call (.ref f) ⟨[], []⟩) (CR (L2.CX P w) outer P w H s Q E) s := by
  have lim : s.heap.NoLimit := e0.mod.nolimit.keeps fun b o q => (e0.bs b o q).1
  obtain ⟨od, sl, doc, pm, ctv, ho⟩ := lamO_at e0.hok hf
  refine PySem.W.kla_callFunE hr.depth ho rfl S.co S.gen rfl (codeO_at e0.hok hc) (hb doc pm ctv _ _ _ _ ?_)
  refine wpAny_newFunctionEnv S.nocell (fun ⟨n, _⟩ hy => S.par n (List.of_mem_zip hy).1) (fun g hns hsb => ⟨lim.fresh _ hsb, ?_⟩) S.kind
  show codeAny _ _ (.expr F.body (envF F.nf f s.heap.objs.size)) _ _
  have kp : ∀ b o, s.heap.get? b = some o → g.get? b = some o := fun b o q => hsb.extBut b o (Nat.ne_of_lt (Heap.lt_size q)) (Heap.get?_push_of_some _ q)
  have I : Inv (ncx (L2.CX P w) P w K mg base N F.nf f A outer s H E) [] (startF N vs ws) H { s with heap := g, toks := s.toks + (ps.zip us).length } := inv_startN (F := F.nf) S hr.hd e0 hl r C hns kp
  refine PySem.W.kla_codeExpr (wpAny_mono ((hbody (hr.deeper _)).run [] _ (startF N vs ws) H Q I ht) (fun u s' q => ?_) fun e s' q => q)
  obtain ⟨v, H', J, rv, q⟩ := q
  exact ⟨v, H', J.os, J.bare, J.base, J.hok, rv, q⟩
end
section
variable {X : Cx} {pn : List (Addr × Obj)} {xe : Value → Shared → Prop} {i : Nat} {x : Str} {W : WX} {p pos : Pos}
/-- x() in a try's body: the name holds a function; how it runs is told where it is known -/
theorem pe_callF (tk : Takes (X.tr pn xe) W) (hN : X.N[i]? = some x) (hv : Vis X.env.scope x) (hd : (x == ("__debug__" : Str)) = false := by decide) (hcd : (x == ("__classdict__" : Str)) = false := by decide) :
    PE (X.tr pn xe) (.Call (.Name x p) [] [] pos) (fun σ H Q => ∃ f, σ[i]? = some (some (.ref f)) ∧ ∀ pn' xe' pins s, Inv (X.tr pn' xe') pins σ H s → PySem.W.FnAt f s.heap ∧ codeAny (model X.prog X.w) X.A (.call (.ref f) ⟨[], []⟩) (CR (L2.CX X.prog X.w) X.stack X.prog X.w H s Q (fun cls d H' => W cls d σ H')) s) := by
  refine ⟨fun pins s σ H Q I h => ?_⟩
  obtain ⟨f, hs, h⟩ := h
  refine wpAny_Call_Name_kw (thn ((pe_var (X := X.tr pn xe) (pos := p) hN hv hd hcd).run pins s σ H (fun v H1 => v = .ref f ∧ H1 = H) I ⟨.ref f, hs, rfl, rfl⟩) fun u s1 ⟨v, H1, I1, r1, q1⟩ => ?_)
  obtain ⟨ev, eH⟩ := q1
  subst ev
  rw [eH] at I1
  obtain rfl : u = Value.ref f := r1
  obtain ⟨fa, run⟩ := h pn xe pins s1 I1
  refine PySem.W.callWith_F0 (first := []) fa ?_
  show wpAny _ _ (call (.ref f) []) _ _ _
  refine wpAny_call (codeAny_mono run fun r s' q => ?_)
  cases r with
  | error e => exact tk e s' (XE.of_call I1 (fun cls d H' z => z) q)
  | ok fl =>
    cases fl with
    | ret u => exact I1.after q
    | next => exact False.elim q
    | brk => exact False.elim q
    | cont => exact False.elim q
end
/-- a method that may raise -/
structure MetX (P : Program) (w : World) (K : PySem.W.Frag) (mg : Str → Option Value) (base : Heap) (k : Nat) (C : Addr) (m : Str) (sp : Sp) : Prop where
  ex : ∃ (f : Addr) (fd : FuncData) (ps : List Str), Cls K C ∧ Meth K C m f ∧ FnOk P w K mg base (L2.CX P w) k f fd ps sp ∧ Binds K fd ps []
section
variable {X : Cx} {k j : Nat} {C : Addr} {m : Str} {sp : Sp} {pos apos : Pos} {e o : Expr} {es : List Expr} {ta : TE} {t : TA}
theorem pe_mX {E : XK} {pl : Sem Bool} (c : MetX X.prog X.w X.K X.mg X.base k C m sp) (hr : Room j X.A) (hk : k ≤ j) (tk : Takes X (fun cls d _ H => E cls d H)) (he : PE X o ta) (ha : PA X (e :: es) t)
    (hst : starEach (e :: es) X.env = (false, eval e X.env) :: starEach es X.env := by rfl) (hpl : (backTo pos (starEach es X.env)).any (·.1) = false := by rfl)
    (ht : eval (.Call (.Attribute o m apos) (e :: es) [] pos) X.env = (do
      let ov ← eval o X.env
      standAt apos.atName
      let (f, first) ← holding [ov] (getMethod ov m pl)
      callWith pos f first (backTo pos (starEach (e :: es) X.env)) (backToKw pos (keywordEach [] X.env))) := by rfl) :
    PE X (.Call (.Attribute o m apos) (e :: es) [] pos) (tMeth C m sp [] E ta t) := by
  obtain ⟨f, fd, ps, hc, hm, F, b⟩ := c.ex
  exact pe_meth (pl := pl) he hc hm F (hr.mono hk) b .nil (passes_call tk (fun _ _ _ _ h => h)) ha hst hpl ht
/-- a suite that is read for some classes of errors alone -/
theorem pss_some {α : Type} {b : List Stmt} {pr : α → Prop} {t : α → TS} (h : ∀ a, pr a → PSs X b (t a)) : PSs X b (fun D σ H => ∃ a, pr a ∧ t a D σ H) := ⟨fun pins s σ H D I ⟨a, ha, hh⟩ => (h a ha).run pins s σ H D I hh⟩
end
/-- try: .. except x as n, its reading a word (for loops around it) -/
def tTry (K : PySem.W.Frag) (c : Value) (i : Nat) (tb : WX → TS) (ts : Addr → Value → Option Addr → TS) (Wout : WX) : TS := fun D σ H => tb (wAs K c i ts Wout D) D σ H
section
variable {X : Cx} {x n : Str} {c : Value} {i : Nat} {body suite : List Stmt} {b₀ : Stmt} {np pos pos' : Pos} {tb : WX → TS} {ts : Addr → Value → Option Addr → TS} {Wout : WX}
theorem ps_tryA (hs : X.stack = X.env :: X.outer) (hf : X.env.frame = some X.env.locals) (hN : X.N.Nodup) (hi : X.N[i]? = some n) (hl : X.env.kindOf n = some .local) (hc : Names X x c) (tk : Takes X Wout)
    (hb : ∀ (W : WX) (pn : List (Addr × Obj)) (xe : Value → Shared → Prop), Takes (X.tr pn xe) W → PSs (X.tr pn xe) body (tb W))
    (hu : ∀ (a : Addr) (oe : Obj) (cls : Value) (d : Option Addr) (pn : List (Addr × Obj)), Zc cls d oe → (∃ vs, oe.data = .fields vs) → PSs (X.suite a ((a, oe) :: pn)) (b₀ :: suite) (ts a cls d)) :
    PS X (.Try body [.ExceptHandler (some (.Name x np)) (some n) (b₀ :: suite) pos'] [] [] pos) (tTry X.K c i tb ts Wout) :=
  ps_try_as hs hf hN hi hl hc tk (fun W pn xe t _ => hb W pn xe t) hu
end
/-! ### tables stay -/
section
variable {T : List (Addr × Str)} {H H' : Hp} {P : Addr} {q : Str}
theorem tabs_stay (t : Tabs T H) (k : ∀ a o, H a = some o → (∀ xs, o ≠ .lst xs) → (∀ C dx fs, o ≠ .ins C dx fs) → (∀ kv, o ≠ .dK kv) → H' a = some o) : Tabs T H' := fun p hp => by
  obtain ⟨ps, h1, h2, h3⟩ := t p hp
  refine ⟨ps, k _ _ h1 (by intro _ z; cases z) (by intro _ _ _ z; cases z) (by intro _ z; cases z), h2, fun pos cv hc => ?_⟩
  obtain ⟨c, e1, e2⟩ := h3 pos cv hc
  refine ⟨c, e1, k _ _ e2 ?_ ?_ ?_⟩
  all_goals (unfold CodeO; intros; intro z; cases z)
theorem tabs_same (t : Tabs T H) (s : Same H H') : Tabs T H' := t.ext s
theorem tabs_at (t : Tabs T H) (h : (P, q) ∈ T) : ∃ ps, H P = some (.tbl ps) := by
  obtain ⟨ps, h1, _⟩ := t _ h
  exact ⟨ps, h1⟩
theorem notin1 {a : Addr} {o : HO} {ps : Array Value} (h : H a = some o) (hP : H P = some (.tbl ps)) (n : ∀ qs, o ≠ .tbl qs) : a ∉ [P] := fun z => by
  rw [List.mem_singleton.mp z, hP] at h
  exact n ps (Option.some.inj h).symm
/-- all but tables is kept where one table grows -/
theorem Keeps.tb {ps : Array Value} {a : Addr} {o : HO} (k : Keeps [P] H H') (hP : H P = some (.tbl ps)) (h : H a = some o) (n : ∀ qs, o ≠ .tbl qs) : H' a = some o := k a o h (notin1 h hP n)
theorem KnAt.tb {ps : Array Value} {L : Addr} {ds : List Addr} {kns : List Kn} (a : KnAt H L ds kns) (k : Keeps [P] H H') (hP : H P = some (.tbl ps)) : KnAt H' L ds kns :=
  a.keeps k (notin1 a.lst hP (by intro _ z; cases z)) fun d hd => by
    obtain ⟨kvs, e⟩ := a.mem hd
    exact notin1 e hP (by intro _ z; cases z)
theorem HouseAt.tb {C : Addr} {ps : Array Value} {p L : Addr} {ds : List Addr} {h : Hs} (a : HouseAt C H p L ds h) (k : Keeps [P] H H') (hP : H P = some (.tbl ps)) : HouseAt C H' p L ds h :=
  ⟨let ⟨dx, e⟩ := a.ob; ⟨dx, k.tb hP e (by intro _ z; cases z)⟩, a.kn.tb k hP⟩
theorem MAt.tb {ps : Array Value} {p L : Addr} {ds : List Addr} {m : Ms} (a : MAt H p L ds m) (k : Keeps [P] H H') (hP : H P = some (.tbl ps)) : MAt H' p L ds m := ⟨k.tb hP a.ob (by intro _ z; cases z), a.kn.tb k hP⟩
theorem Both.tb {C : Addr} {ps : Array Value} {p L : Addr} {ds : List Addr} {h : Hs} {q L' : Addr} {ds' : List Addr} {m : Ms} (b : Both C H p L ds h q L' ds' m) (k : Keeps [P] H H') (hP : H P = some (.tbl ps)) : Both C H' p L ds h q L' ds' m :=
  ⟨b.ha.tb k hP, b.ma.tb k hP, b.dj, b.kn, b.late, b.lost, b.time, b.fa, rfl⟩
theorem RowAt.tb {K : PySem.W.Frag} {ps : Array Value} {r a : Addr} {ns : List Int} (h : RowAt K H r a ns) (k : Keeps [P] H H') (hP : H P = some (.tbl ps)) : RowAt K H' r a ns := by
  obtain ⟨i, m, x, e, hi, hs⟩ := h
  refine ⟨i, m, x, k.tb hP e (by intro _ z; cases z), hi, ?_⟩
  rcases hs with (h' | ⟨u, h'⟩) | h'
  · exact .inl (.inl (k.tb hP h' (by intro _ z; cases z)))
  · exact .inl (.inr ⟨u, k.tb hP h' (by intro _ z; cases z)⟩)
  · exact .inr h'
theorem TupS.tb {ps : Array Value} (k : Keeps [P] H H') (hP : H P = some (.tbl ps)) : TupS H H' := fun a xs e => k.tb hP e (by intro _ z; cases z)
theorem tabs_row {K : PySem.W.Frag} {r a : Addr} {ns : List Int} (t : Tabs T H) (hr : RowAt K H r a ns) (k : Keeps [r] H H') : Tabs T H' := tabs_stay t fun b o e n1 _ _ => k b o e fun z => by
  obtain ⟨l, x, er⟩ := hr.ne
  rw [List.mem_singleton.mp z, er] at e
  exact n1 _ (Option.some.inj e).symm
theorem tabs_both {C : Addr} {p L : Addr} {ds : List Addr} {h : Hs} {q L' : Addr} {ds' : List Addr} {m : Ms} (t : Tabs T H) (b : Both C H p L ds h q L' ds' m) (k : Keeps (fps p ds q ds') H H') : Tabs T H' := tabs_stay t fun c o e _ n2 n3 => k c o e (fps_lst b e n2 n3)
end
/-- a def that makes lambdas: its code object, its table -/
structure Maker (base : Heap) (mg : Str → Option Value) (T : List (Addr × Str)) (qual : Str) (c P : Addr) : Prop where
  tb : TabB base mg c P
  hm : (P, (qual ++ ".<locals>.") ++ "<lambda>") ∈ T
  hu : ∀ p ∈ T, p.1 = P → p.2 = (qual ++ ".<locals>.") ++ "<lambda>"
/-- an error's class under HouseError -/
structure HErr (K : PySem.W.Frag) (HE E : Addr) : Prop where
  e : ExcC K E
  m : PySem.W.exmOne K (.ref E) (.ref HE) = some true
  v : PySem.W.kitOne K (.ref E) (.type "ValueError") = some true
section
variable {P : Program} {w : World} {K : PySem.W.Frag} {mg : Str → Option Value} {base : Heap}
/-- a def by its body, its code object told -/
theorem okC {x qual : Str} {st : Stmt} {f c : Addr} {fd : FuncData} {N ps : List Str} {k : Nat} {sp : Sp} (F : L2.Fun K x qual st f fd) (hc : fd.code = .ref c) (S : FnScope N ps (defScope st)) (len : ∀ vs H Q E, sp vs H Q E → vs.length = ps.length)
    (hbody : ∀ (A : Around) (outer : List Env) (s : Shared) (H : Hp) (vs : List V) (Q : VK) (E : XK), Room k (A.deeper (envOfC qual (defScope st) s.heap.objs.size f (.ref c))) → sp vs H Q E →
      ∃ t, PSs (cxOf CX0 P w K mg base N qual (defScope st) f (.ref c) A outer s H E).nox (defBody st) t ∧ t { nx := fun _ H' => Q .non H', rt := Q } (start N vs) H) : FnOk P w K mg base CX0 (k + 1) f fd ps sp := by
  obtain ⟨oc, od, kV, doc, pm, an, cdv, ct, osl, rfl, lk, hcd⟩ := F.ex
  have e : cdv = .ref c := hc
  subst e
  refine fn_of lk hcd S len fun A outer s H vs Q E hr hsp => ?_
  obtain ⟨t, h, q⟩ := hbody A outer s H vs Q E hr hsp
  exact ⟨t, h.nox, q⟩
end
end IC
namespace IC
open PySem PySem.Spec PyProof.Rows L2 LamX NdefX
/-! ### cells that are shown -/
def CellX (c : Addr) (o : Obj) : HO := .ext fun g => g.get? c = some o
def CellAt (H : Hp) (c : Addr) (v : V) : Prop := ∃ o u, H c = some (CellX c o) ∧ o.data = .cell (some u) ∧ RelV v u
theorem cellX_at {P : Program} {w : World} {H : Hp} {g : Heap} {c : Addr} {o : Obj} (ok : HOk P w H g) (e : H c = some (CellX c o)) : g.get? c = some o := by
  obtain ⟨r, _, _⟩ := ok c _ e
  exact r
theorem cellX_ok {P : Program} {w : World} {H : Hp} {g : Heap} {c : Addr} {o : Obj} (e : g.get? c = some o) : ObjOk P w H g c (CellX c o) := ⟨e, ⟨o, e⟩, fun g1 g2 z st => st _ z⟩
/-- the cells Z are hidden; they are as they were -/
noncomputable def hideC (Z : Addr → Prop) (H : Hp) : Hp := fun b => open Classical in if Z b then none else H b
noncomputable def backC (Z : Addr → Prop) (H H' : Hp) : Hp := fun b => open Classical in if Z b then H b else H' b
section
variable {Z : Addr → Prop} {H H' : Hp} {b : Addr}
theorem hideC_in (h : Z b) : hideC Z H b = none := if_pos h
theorem hideC_out (h : ¬ Z b) : hideC Z H b = H b := if_neg h
theorem backC_in (h : Z b) : backC Z H H' b = H b := if_pos h
theorem backC_out (h : ¬ Z b) : backC Z H H' b = H' b := if_neg h
theorem hideC_some {o : HO} (e : hideC Z H b = some o) : ¬ Z b ∧ H b = some o := by
  by_cases h : Z b
  · rw [hideC_in h] at e
    cases e
  · rw [hideC_out h] at e
    exact ⟨h, e⟩
theorem hideC_none (e : H b = none) : hideC Z H b = none := by
  by_cases h : Z b
  · exact hideC_in h
  · rw [hideC_out h]
    exact e
end
section
variable {P : Program} {w : World} {K : PySem.W.Frag} {mg : Str → Option Value} {base : Heap} {A : Around} {outer : List Env} {s : Shared} {H : Hp} {Z : Addr → Prop}
theorem hok_hide {g : Heap} (hz : ∀ c, Z c → ∃ o, H c = some (CellX c o)) (ok : HOk P w H g) : HOk P w (hideC Z H) g := fun b o e => by
  obtain ⟨h1, h2⟩ := hideC_some e
  refine (ok b o h2).stay (fun _ _ _ q => q) (fun c q => ?_) fun c xs q => ?_
  · rw [hideC_out]
    · exact q
    · intro z
      obtain ⟨o', e'⟩ := hz c z
      rw [q] at e'
      cases e'
  · rw [hideC_out]
    · exact q
    · intro z
      obtain ⟨o', e'⟩ := hz c z
      rw [q] at e'
      cases e'
theorem Env0.hide (hz : ∀ c, Z c → ∃ o, H c = some (CellX c o)) (e0 : Env0 P w K mg base A outer s H) : Env0 P w K mg base A outer s (hideC Z H) :=
  ⟨e0.frames, e0.mod, fun b o e => ⟨(e0.bs b o e).1, hideC_none (e0.bs b o e).2⟩, e0.bsz, e0.funs, fun b hb => hideC_none (e0.frf b hb), hok_hide hz e0.hok, e0.bare⟩
theorem hok_back {g g' : Heap} {H' : Hp} (hz : ∀ c, Z c → ∃ o, H c = some (CellX c o)) (ok : HOk P w H g) (kp : ∀ c o, Z c → g.get? c = some o → g'.get? c = some o) (fr : ∀ c, Z c → H' c = none) (ok' : HOk P w H' g') : HOk P w (backC Z H H') g' := fun b o e => by
  by_cases h : Z b
  · obtain ⟨o', e'⟩ := hz b h
    rw [backC_in h, e'] at e
    cases e
    exact cellX_ok (kp b _ h (cellX_at ok e'))
  · rw [backC_out h] at e
    have nz : ∀ c u, H' c = some u → ¬ Z c := fun c u q z => by
      rw [fr c z] at q
      cases q
    exact (ok' b o e).stay (fun _ _ _ q => q) (fun c q => by rw [backC_out (nz c _ q)]; exact q) fun c xs q => by rw [backC_out (nz c _ q)]; exact q
/-- what runs with the cells hidden runs with them shown -/
theorem run_hid {code : Code} {Q : VK} {E : XK} (hz : ∀ c, Z c → ∃ o, H c = some (CellX c o)) (e0 : Env0 P w K mg base A outer s H)
    (h : codeAny (model P w) A code (CR (L2.CX P w) outer P w (hideC Z H) s (fun v H' => Q v (backC Z H H')) (fun cls d H' => E cls d (backC Z H H'))) s) :
    codeAny (model P w) A code (CR (L2.CX P w) outer P w H s Q E) s := by
  have nfs : ∀ c, Z c → c ∉ frs outer := fun c z hm => by
    obtain ⟨o, e⟩ := hz c z
    rw [e0.frf c hm] at e
    cases e
  have there : ∀ c, Z c → ∃ o, s.heap.get? c = some o := fun c z => by
    obtain ⟨o, e⟩ := hz c z
    exact ⟨o, cellX_at e0.hok e⟩
  have nz : ∀ b u, H b = some u → (∀ φ, u ≠ .ext φ) → ¬ Z b := fun b u e n z => by
    obtain ⟨o, e'⟩ := hz b z
    rw [e] at e'
    exact n _ (Option.some.inj e')
  have nn : ∀ b, H b = none → ¬ Z b := fun b e z => by
    obtain ⟨o, e'⟩ := hz b z
    rw [e] at e'
    cases e'
  refine codeAny_mono h fun r s' q => ?_
  cases r with
  | error e =>
    obtain ⟨a, B, H', cls, d, ea, fl, ok', ub, na, os, ag, q⟩ := q
    have fr : ∀ c, Z c → H' c = none := fun c z => by
      obtain ⟨o, e⟩ := there c z
      exact ub.free c o e (hideC_in z)
    have kp : ∀ c o, Z c → s.heap.get? c = some o → B.get? c = some o := fun c o z e => ub.keep c o e (hideC_in z) (nfs c z)
    have naz : ¬ Z a := fun z => by
      obtain ⟨o, e⟩ := there a z
      have h1 := kp a o z e
      rw [fl.2.1] at h1
      cases h1
    refine ⟨a, B, backC Z H H', cls, d, ea, fl, hok_back hz e0.hok kp fr ok', ?_, by rw [backC_out naz]; exact na, os, ag, q⟩
    refine ⟨fun b o e n nf => ub.keep b o e (hideC_none n) nf, ub.slot, fun b o e n => ?_, ub.there, fun b xs e => ?_, fun b o xs e => ?_, fun b ps e => ?_⟩
    · rw [backC_out (nn b n)]
      exact ub.free b o e (hideC_none n)
    · have z := nz b _ e (by intro _ z; cases z)
      rw [backC_out z]
      exact ub.tups b xs (by rw [hideC_out z]; exact e)
    · have z := nz b _ e (by intro _ z; cases z)
      rw [backC_out z]
      exact ub.frzs b o xs (by rw [hideC_out z]; exact e)
    · have z := nz b _ e (by intro _ z; cases z)
      rw [backC_out z]
      exact ub.tbls b ps (by rw [hideC_out z]; exact e)
  | ok fl =>
    cases fl with
    | next => exact False.elim q
    | brk => exact False.elim q
    | cont => exact False.elim q
    | ret u =>
      obtain ⟨v, H', os, ag, un, ok', rv, q⟩ := q
      have fr : ∀ c, Z c → H' c = none := fun c z => by
        obtain ⟨o, e⟩ := there c z
        exact un.free c o e (hideC_in z) (by simp)
      have kp : ∀ c o, Z c → s.heap.get? c = some o → s'.heap.get? c = some o := fun c o z e => un.keep c o e (hideC_in z) (nfs c z) (by simp)
      refine ⟨v, backC Z H H', os, ag, ?_, hok_back hz e0.hok kp fr ok', rv, q⟩
      refine ⟨fun b o e n nf nx => un.keep b o e (hideC_none n) nf nx, fun b o e n hf nx => un.slot b o e (hideC_none n) hf nx, fun b o e n nx => ?_, un.there, fun b xs e => ?_, fun b o xs e => ?_, fun b ps e => ?_⟩
      · rw [backC_out (nn b n)]
        exact un.free b o e (hideC_none n) nx
      · have z := nz b _ e (by intro _ z; cases z)
        rw [backC_out z]
        exact un.tups b xs (by rw [hideC_out z]; exact e)
      · have z := nz b _ e (by intro _ z; cases z)
        rw [backC_out z]
        exact un.frzs b o xs (by rw [hideC_out z]; exact e)
      · have z := nz b _ e (by intro _ z; cases z)
        rw [backC_out z]
        exact un.tbls b ps (by rw [hideC_out z]; exact e)
end
/-! ### a function that is called with nothing, told by what its call does -/
def Calls (P : Program) (w : World) (K : PySem.W.Frag) (mg : Str → Option Value) (base : Heap) (k : Nat) (f : Addr) (H : Hp) (Q : VK) (E : XK) : Prop :=
  ∀ (A : Around) (outer : List Env) (s : Shared), Room k A → Env0 P w K mg base A outer s H → PySem.W.FnAt f s.heap ∧ codeAny (model P w) A (.call (.ref f) ⟨[], []⟩) (CR (L2.CX P w) outer P w H s Q E) s
def tCalls (P : Program) (w : World) (K : PySem.W.Frag) (mg : Str → Option Value) (base : Heap) (k i : Nat) (W : WX) : TE := fun σ H Q => ∃ f, σ[i]? = some (some (.ref f)) ∧ Calls P w K mg base k f H Q (fun cls d H' => W cls d σ H')
theorem pe_callC {X : Cx} {pn : List (Addr × Obj)} {xe : Value → Shared → Prop} {i j k : Nat} {x : Str} {W : WX} {p pos : Pos} (tk : Takes (X.tr pn xe) W) (hr : Room j X.A) (hk : k ≤ j) (hN : X.N[i]? = some x) (hv : Vis X.env.scope x)
    (hd : (x == ("__debug__" : Str)) = false := by decide) (hcd : (x == ("__classdict__" : Str)) = false := by decide) :
    PE (X.tr pn xe) (.Call (.Name x p) [] [] pos) (tCalls X.prog X.w X.K X.mg X.base k i W) :=
  ⟨fun pins s σ H Q I ⟨f, hs, h⟩ => (pe_callF (p := p) (pos := pos) tk hN hv hd hcd).run pins s σ H Q I ⟨f, hs, fun pn' xe' pins' s' I' => h X.A X.stack s' (hr.mono hk) I'.env0⟩⟩
/-- the cells that a function took are shown, and hold ws -/
structure Shown (cl : List (Str × Addr)) (fr : List Str) (ws : List (Option V)) (H : Hp) : Prop where
  len : ws.length = fr.length
  all : ∀ y c, cl.lookup y = some c → ∃ o v, H c = some (CellX c o) ∧ o.data = .cell v
  inj : ∀ x y c, cl.lookup x = some c → cl.lookup y = some c → x = y
  has : ∀ (i : Nat) (y : Str), fr[i]? = some y → ∃ c, cl.lookup y = some c ∧ ∀ v, ws[i]? = some (some v) → CellAt H c v
def CellOf (cl : List (Str × Addr)) : Addr → Prop := fun b => ∃ y, cl.lookup y = some b
theorem Shown.mono {cl : List (Str × Addr)} {fr : List Str} {ws : List (Option V)} {H H' : Hp} (s : Shown cl fr ws H) (h : ∀ b φ, H b = some (.ext φ) → H' b = some (.ext φ)) : Shown cl fr ws H' :=
  ⟨s.len, fun y c e => let ⟨o, v, e1, e2⟩ := s.all y c e; ⟨o, v, h _ _ e1, e2⟩, s.inj, fun i y e => let ⟨c, e1, e2⟩ := s.has i y e; ⟨c, e1, fun v ev => let ⟨o, u, z1, z2⟩ := e2 v ev; ⟨o, u, h _ _ z1, z2⟩⟩⟩
section
variable {P : Program} {w : World} {K : PySem.W.Frag} {mg : Str → Option Value} {base : Heap} {N ps fr : List Str} {F : LF} {f : Addr} {k : Nat} {H : Hp} {Q : VK} {E : XK} {vs : List V} {ws : List (Option V)}
theorem Shown.z (s : Shown F.cl fr ws H) : ∀ c, CellOf F.cl c → ∃ o, H c = some (CellX c o) := fun c ⟨y, e⟩ => let ⟨o, _, z, _⟩ := s.all y c e; ⟨o, z⟩
/-- a lambda whose cells are shown -/
theorem calls_lam {t : XK → TE} (S : NScope N ps fr F.scope) (hf : H f = some (LamO f F)) (hc : H F.c = some (CodeO F.c F.qual)) (sh : Shown F.cl fr ws H)
    (hb : ∀ s : Shared, HOk P w H s.heap → ∃ us : List Value, Vals vs us ∧ ∀ doc pm ctv : Value, BindsTo s (F.fd doc pm ctv) ⟨[], []⟩ (ps.zip us)) (hl : vs.length = ps.length)
    (hbody : ∀ (A : Around) (outer : List Env) (s : Shared) (H : Hp) (E : XK), Room k (A.deeper (envF F.nf f s.heap.objs.size)) → PE (ncx (L2.CX P w) P w K mg base N F.nf f A outer s H E) F.body (t E))
    (ht : t (fun cls d H' => E cls d (backC (CellOf F.cl) H H')) (startF N vs ws) (hideC (CellOf F.cl) H) (fun v H' => Q v (backC (CellOf F.cl) H H'))) :
    Calls P w K mg base (k + 1) f H Q E := fun A outer s hr e0 => by
  refine ⟨lamO_fn e0.hok hf, run_hid sh.z e0 ?_⟩
  obtain ⟨us, r, hb⟩ := hb s e0.hok
  have no : ∀ {b : Addr} {o : HO}, H b = some o → (∀ c o', o ≠ CellX c o') → ¬ CellOf F.cl b := fun {b o} e n z => by
    obtain ⟨o', e'⟩ := sh.z b z
    rw [e] at e'
    exact n _ _ (Option.some.inj e')
  have dif : ∀ {b : Addr} {o : HO}, H b = some o → (∀ g : Heap, ∀ c o', ObjOk P w H g b o → g.get? b = some o' → c = b → (∃ v, o'.data = .cell v) → False) → ¬ CellOf F.cl b := fun {b o} e n z => by
    obtain ⟨y, ey⟩ := z
    obtain ⟨o', v, e1, e2⟩ := sh.all y b ey
    exact n s.heap b o' (e0.hok b o e) (cellX_at e0.hok e1) rfl ⟨v, e2⟩
  have nf : ¬ CellOf F.cl f := dif hf fun g c o' ok e _ ⟨v, ev⟩ => by
    obtain ⟨⟨od, sl, doc, pm, ctv, r⟩, _, _⟩ := ok
    rw [e] at r
    cases r
    cases ev
  have nc : ¬ CellOf F.cl F.c := dif hc fun g c o' ok e _ ⟨v, ev⟩ => by
    obtain ⟨⟨oc, vs, t, r, r2, _⟩, _, _⟩ := ok
    rw [e] at r
    cases r
    rw [r2] at ev
    cases ev
  refine lam_run (t := t _) S hr (Env0.hide sh.z e0) (by rw [hideC_out nf]; exact hf) (by rw [hideC_out nc]; exact hc) ⟨sh.len, fun y c e => ?_, sh.inj, fun i y e => ?_⟩ hb r hl (fun hr' => hbody A outer s _ _ hr') ht
  · obtain ⟨o, v, e1, e2⟩ := sh.all y c e
    exact ⟨hideC_in ⟨y, e⟩, v, o, cellX_at e0.hok e1, e2⟩
  · obtain ⟨c, e1, e2⟩ := sh.has i y e
    refine ⟨c, e1, fun v ev => ?_⟩
    obtain ⟨o, u, z1, z2, z3⟩ := e2 v ev
    exact ⟨u, z3, o, cellX_at e0.hok z1, z2⟩
theorem binds0 (h : ∀ (s : Shared) (doc pm ctv : Value), BindsTo s (F.fd doc pm ctv) ⟨[], []⟩ []) : ∀ s : Shared, HOk P w H s.heap → ∃ us : List Value, Vals [] us ∧ ∀ doc pm ctv : Value, BindsTo s (F.fd doc pm ctv) ⟨[], []⟩ (([] : List Str).zip us) := fun s _ => ⟨[], .nil, fun doc pm ctv => h s doc pm ctv⟩
end
end IC
namespace IC
open PySem PySem.Spec PyProof.Rows L2 LamX NdefX
/-! ### a frame's own cells, shown to others -/
structure ShowC (env : Env) (N : List Str) (σ : L2.St) (H H2 : Hp) : Prop where
  out : ∀ b, ¬ CellOf env.cells b → H2 b = H b
  cel : ∀ y c, env.cells.lookup y = some c → H c = none ∧ ∃ o v, H2 c = some (CellX c o) ∧ o.data = .cell v
  val : ∀ (i : Nat) (y : Str) (v : V) (c : Addr), N[i]? = some y → σ[i]? = some (some v) → (env.scope.names.lookup y = some .cell ∨ env.scope.names.lookup y = some .free) → env.cells.lookup y = some c → CellAt H2 c v
  inj : ∀ x y c, env.cells.lookup x = some c → env.cells.lookup y = some c → x = y
theorem ShowC.same {env : Env} {N : List Str} {σ : L2.St} {H H2 : Hp} (s : ShowC env N σ H H2) : Same H H2 := fun a o e => by
  rw [s.out]
  · exact e
  · rintro ⟨y, z⟩
    rw [(s.cel y a z).1] at e
    cases e
theorem ShowC.none {env : Env} {N : List Str} {σ : L2.St} {H H2 : Hp} (s : ShowC env N σ H H2) {a : Addr} (e : H2 a = none) : H a = none := by
  cases q : H a with
  | none => rfl
  | some o =>
    rw [s.same a o q] at e
    cases e
/-- what a lambda of that frame has taken is shown -/
theorem ShowC.shown {X : Cx} {σ : L2.St} {H H2 : Hp} {scope : Scope} {fr : List Str} {js : List Nat} (s : ShowC X.env X.N σ H H2) (ok : X.Ok) (hf : lamFree X.env.scope scope = true) (hfr : ∀ y ∈ fr, (y, NameKind.free) ∈ scope.names) (hjs : js.map (fun j => X.N[j]?) = fr.map some) :
    Shown (cloFrom X.env.cells scope.names []) fr (js.map (slotAt σ)) H2 := by
  have c : Caps X (cloFrom X.env.cells scope.names []) fr js := Caps.made ok (lamFree_of hf) hfr hjs
  refine ⟨?_, fun y a e => (s.cel y a (c.sub y a e)).2, fun x y a e1 e2 => s.inj x y a (c.sub x a e1) (c.sub y a e2), fun i y e => ?_⟩
  · have q := congrArg List.length c.at_
    rw [List.length_map, List.length_map] at q
    rw [List.length_map]
    exact q
  · have e2 : (js.map fun j => X.N[j]?)[i]? = some (some y) := by
      rw [c.at_, List.getElem?_map, e] <;> rfl
    rw [List.getElem?_map] at e2
    cases ej : js[i]? with
    | none =>
      rw [ej] at e2
      cases e2
    | some j =>
      rw [ej] at e2
      have hj : X.N[j]? = some y := Option.some.inj (show some (X.N[j]?) = some (some y) from e2)
      have k := c.kin y (List.mem_of_getElem? e)
      obtain ⟨a, ha⟩ : ∃ a, X.env.cells.lookup y = some a := k.elim (fun z => ok.has y (.inl z)) fun z => ok.has y (.inr z)
      refine ⟨a, c.sup y (List.mem_of_getElem? e) a ha, fun v ev => ?_⟩
      rw [List.getElem?_map, ej] at ev
      exact s.val j y v a hj (slotAt_some (Option.some.inj (show some (slotAt σ j) = some (some v) from ev))) k ha
noncomputable def showC (cl : List (Str × Addr)) (H : Hp) (g : Heap) : Hp := fun b => open Classical in if CellOf cl b then (g.get? b).map (CellX b) else H b
theorem showC_in {cl : List (Str × Addr)} {H : Hp} {g : Heap} {b : Addr} (h : CellOf cl b) : showC cl H g b = (g.get? b).map (CellX b) := if_pos h
theorem showC_out {cl : List (Str × Addr)} {H : Hp} {g : Heap} {b : Addr} (h : ¬ CellOf cl b) : showC cl H g b = H b := if_neg h
section
variable {X : Cx} {pins : List (Addr × Obj)} {σ : L2.St} {H : Hp} {s : Shared}
theorem show_of (I : Inv X pins σ H s) : ShowC X.env X.N σ H (showC X.env.cells H s.heap) := by
  refine ⟨fun b n => showC_out n, fun y c e => ?_, fun i y v c e1 e2 e3 e4 => ?_, I.ok.inj⟩
  · obtain ⟨v, o, ho, hd⟩ := I.cell y c e
    exact ⟨I.freeC y c e, o, v, by rw [showC_in ⟨y, e⟩, ho]; rfl, hd⟩
  · obtain ⟨m, hn, hl⟩ := I.loc
    obtain ⟨u, r, l⟩ := hl i y v e1 e2 (e3.elim (fun z => .inr (.inl z)) fun z => .inr (.inr z))
    rcases l with ⟨z, _⟩ | ⟨_, c', ec, o, ho, hd⟩
    · have z' : X.env.scope.names.lookup y = some .local := z
      rcases e3 with k | k <;> rw [k] at z' <;> cases z'
    · rw [e4] at ec
      cases ec
      exact ⟨o, u, by rw [showC_in ⟨y, e4⟩, ho]; rfl, hd, r⟩
theorem show_hok (I : Inv X pins σ H s) : HOk X.prog X.w (showC X.env.cells H s.heap) s.heap := fun b o e => by
  have S := show_of I
  by_cases h : CellOf X.env.cells b
  · obtain ⟨y, ey⟩ := h
    obtain ⟨v, ob, ho, hd⟩ := I.cell y b ey
    rw [showC_in ⟨y, ey⟩, ho] at e
    cases e
    exact cellX_ok ho
  · rw [showC_out h] at e
    exact (I.hok b o e).stay (fun _ _ _ q => q) (fun c q => S.same c _ q) fun c xs q => S.same c _ q
theorem show_env0 (I : Inv X pins σ H s) (hfn : ∀ y, X.fn y = true) : Env0 X.prog X.w X.K X.mg X.base X.A X.stack s (showC X.env.cells H s.heap) := by
  have e0 := I.env0
  have S := show_of I
  have nc : ∀ b, b ∈ frs X.stack → ¬ CellOf X.env.cells b := fun b hb z => by
    obtain ⟨y, ey⟩ := z
    rcases List.mem_cons.mp (I.stkSub b hb) with z | z
    · exact I.cne y b ey z
    · obtain ⟨_, o, ho, _⟩ := I.ok.funs.mem z
      exact Nat.lt_irrefl _ (Nat.lt_of_lt_of_le (Heap.lt_size ho) (I.ok.cab y b (hfn y) ey))
  refine ⟨e0.frames, e0.mod, fun b o e => ⟨(e0.bs b o e).1, ?_⟩, e0.bsz, e0.funs, fun b hb => ?_, show_hok I, e0.bare⟩
  · rw [showC_out]
    · exact (e0.bs b o e).2
    · rintro ⟨y, ey⟩
      exact Nat.lt_irrefl _ (Nat.lt_of_lt_of_le (Heap.lt_size e) (Nat.le_trans I.ok.bsz (I.ok.cab y b (hfn y) ey)))
  · rw [showC_out (nc b hb)]
    exact e0.frf b hb
/-- behind a call to which the cells were shown -/
theorem show_after {s' : Shared} {Q : VK} {u : Value} (I : Inv X pins σ H s) (hfn : ∀ y, X.fn y = true) (h : CE X.stack X.prog X.w (showC X.env.cells H s.heap) s (fun v H' => (∀ b, CellOf X.env.cells b → H' b = showC X.env.cells H s.heap b) ∧ Q v (hideC (CellOf X.env.cells) H')) u s') : EP X pins σ Q u s' := by
  obtain ⟨v, H', os, bare, un, hok, r, kp, q⟩ := h
  have S := show_of I
  have hk0 := show_hok I
  have cz : ∀ c, CellOf X.env.cells c → ∃ o, H' c = some (CellX c o) := fun c hc => by
    obtain ⟨y, ey⟩ := hc
    obtain ⟨_, o, v, e, _⟩ := S.cel y c ey
    exact ⟨o, by rw [kp c ⟨y, ey⟩]; exact e⟩
  have exact_ : ∀ c o, CellOf X.env.cells c → s.heap.get? c = some o → s'.heap.get? c = some o := fun c o hc e => by
    obtain ⟨o', e'⟩ := cz c hc
    have e1 := cellX_at hok e'
    rw [kp c hc] at e'
    have e2 := cellX_at hk0 e'
    rw [e] at e2
    cases e2
    exact e1
  have nz : ∀ b u, H b = some u → ¬ CellOf X.env.cells b := fun b u e ⟨y, ey⟩ => by
    rw [(S.cel y b ey).1] at e
    cases e
  refine ⟨v, hideC (CellOf X.env.cells) H', I.call' (ch := []) os ?_ (hok_hide cz hok) bare (fun b z => absurd z (by simp)), r, q⟩
  refine ⟨fun b o e n nf nx => ?_, fun b o e n hf nx => ?_, fun b o e n nx => ?_, un.there, fun b xs e => ?_, fun b o xs e => ?_, fun b ps e => ?_⟩
  · by_cases hc : CellOf X.env.cells b
    · exact exact_ b o hc e
    · exact un.keep b o e (by rw [showC_out hc]; exact n) nf nx
  · by_cases hc : CellOf X.env.cells b
    · exact ⟨o.slots, exact_ b o hc e⟩
    · exact un.slot b o e (by rw [showC_out hc]; exact n) hf nx
  · by_cases hc : CellOf X.env.cells b
    · exact hideC_in hc
    · rw [hideC_out hc]
      exact un.free b o e (by rw [showC_out hc]; exact n) nx
  · rw [hideC_out (nz b _ e)]
    exact un.tups b xs (S.same b _ e)
  · rw [hideC_out (nz b _ e)]
    exact un.frzs b o xs (S.same b _ e)
  · rw [hideC_out (nz b _ e)]
    exact un.tbls b ps (S.same b _ e)
end
/-- f(..), the frame's own cells shown to f -/
def tCallSh (OK : Prop) (env : Env) (N : List Str) (sp : Sp) (t : TA) : TE := fun σ H Q => t σ H fun vs H1 => OK → ∀ H2, ShowC env N σ H1 H2 → sp vs H2 (fun v H' => (∀ b, CellOf env.cells b → H' b = H2 b) ∧ Q v (hideC (CellOf env.cells) H')) C8.E0
theorem pe_callSh {X : Cx} {k j : Nat} {x : Str} {sp : Sp} {p pos : Pos} {e : Expr} {es : List Expr} {t : TA} (c : C8.Cal X.prog X.w X.K X.mg X.base k x sp []) (hr : Room j X.A) (hk : k ≤ j) (hg : Gl X x) (hfn : ∀ y, X.fn y = true) (ha : PA X (e :: es) t)
    (hdb : (x == ("__debug__" : Str)) = false := by decide) (he : starEach (e :: es) X.env = (false, eval e X.env) :: starEach es X.env := by rfl) (hpl : (backTo pos (starEach es X.env)).any (·.1) = false := by rfl) :
    PE X (.Call (.Name x p) (e :: es) [] pos) (tCallSh X.Ok X.env X.N sp t) := by
  obtain ⟨f, fd, ps, ds, F, hm, kp, b, d⟩ := c.ex
  cases d
  refine ⟨fun pins s σ H Q I h => ?_⟩
  refine wpAny_Call_Name_kw (ld_glob I hg hm ?_ hdb)
  refine PySem.W.callWith_K (h₀ := X.base) I.ok.mod.kin kp (thn (ha.run pos pins s σ H _ I h) fun us s1 ⟨vs, H1, I1, r, q⟩ => ⟨I1.kIn, ?_⟩) he hpl
  have q' := q I1.ok _ (show_of I1)
  have hl : (us ++ []).length = ps.length := by rw [List.append_nil, ← r.length]; exact F.len _ _ _ _ q'
  have hb := b s1 us I1.kIn hl
  rw [List.append_nil] at hb
  refine wpAny_call (codeAny_mono (F.run X.A X.stack s1 _ ⟨us, []⟩ us vs _ _ (hr.mono hk) (show_env0 I1 hfn) hb r q') fun rr s' hq => ?_)
  cases rr with
  | error e => exact (show False from hq).elim
  | ok fl =>
    cases fl with
    | ret u => exact show_after I1 hfn hq
    | next => exact False.elim hq
    | brk => exact False.elim hq
    | cont => exact False.elim hq
/-! ### a def that gives lambdas out: its body, the slots told at the end -/
abbrev TX := (V → L2.St → Hp → Prop) → L2.St → Hp → Prop
structure PX (X : Cx) (body : List Stmt) (t : TX) : Prop where
  run : ∀ (pins : List (Addr × Obj)) (s : Shared) (σ : L2.St) (H : Hp) (R : V → L2.St → Hp → Prop), Inv X pins σ H s → t R σ H → wpAny (model X.prog X.w) X.A (execs body X.env) (fun fl s' => ∃ u v σ' H', fl = .ret u ∧ Inv X pins σ' H' s' ∧ RelV v u ∧ R v σ' H') X.xe s
section
variable {X : Cx} {st : Stmt} {rest a : List Stmt} {t : TS} {u ta : TX} {e c : Expr} {te : TE} {tc : TT} {pos : Pos}
def xSeq (t : TS) (u : TX) : TX := fun R σ H => t { nx := u R, rt := fun _ _ => False } σ H
theorem px_cons (h1 : PS X st t) (h2 : PX X rest u) : PX X (st :: rest) (xSeq t u) := by
  refine ⟨fun pins s σ H R I h => ?_⟩
  refine wpAny_execs_cons (thn (h1.run pins s σ H _ I h) fun f s1 q => ?_)
  cases f with
  | next =>
    obtain ⟨σ', H', I', q⟩ := q
    exact h2.run pins s1 σ' H' R I' q
  | ret v => obtain ⟨_, _, _, _, _, z⟩ := q; exact z.elim
  | brk => obtain ⟨_, _, _, z⟩ := q; exact False.elim z
  | cont => obtain ⟨_, _, _, z⟩ := q; exact False.elim z
def xRet (te : TE) : TX := fun R σ H => te σ H fun v H1 => R v σ H1
theorem px_ret (he : PE X e te) : PX X [.Return (some e) pos] (xRet te) := by
  refine ⟨fun pins s σ H R I h => ?_⟩
  exact wpAny_execs_cons (wpAny_Return_some (thn (he.run pins s σ H _ I h) fun v s1 ⟨x, H1, I1, r1, q1⟩ => ⟨v, x, σ, H1, rfl, I1, r1, q1⟩))
def xIf (tc : TT) (ta u : TX) : TX := fun R σ H => tc σ H fun b H1 => if b = true then ta R σ H1 else u R σ H1
theorem px_if (hc : PT X c tc) (ha : PX X a ta) (h2 : PX X rest u) : PX X (.If c a [] pos :: rest) (xIf tc ta u) := by
  refine ⟨fun pins s σ H R I h => ?_⟩
  refine wpAny_execs_cons (wpAny_If (thn (hc.run pins s σ H _ I h) fun d s1 ⟨H1, I1, q1⟩ => ?_))
  cases d with
  | true =>
    refine thn (ha.run pins s1 σ H1 R I1 q1) fun fl s2 q => ?_
    obtain ⟨u, v, σ', H', e, z⟩ := q
    subst e
    exact ⟨u, v, σ', H', rfl, z⟩
  | false => exact wpAny_execs_nil (h2.run pins s1 σ H1 R I1 q1)
theorem PX.nox (h : PX X.nox rest u) : PX X rest u := ⟨fun pins s σ H R I hw =>
  wpAny_mono (h.run pins s σ H R (I.wish _) hw) (fun _ _ ⟨a, v, σ', H', e, J, r, q⟩ => ⟨a, v, σ', H', e, J.unwish, r, q⟩) fun _ _ z => False.elim z⟩
end
section
variable {P : Program} {w : World} {K : PySem.W.Frag} {mg : Str → Option Value} {base : Heap}
/-- a def by its body; its cells are shown behind it -/
theorem okL {x qual : Str} {st : Stmt} {f c : Addr} {fd : FuncData} {N ps : List Str} {k : Nat} {sp : Sp} (F : L2.Fun K x qual st f fd) (hc : fd.code = .ref c) (S : FnScope N ps (defScope st)) (len : ∀ vs H Q E, sp vs H Q E → vs.length = ps.length)
    (hbody : ∀ (A : Around) (outer : List Env) (s : Shared) (H : Hp) (vs : List V) (Q : VK) (E : XK), Room k (A.deeper (envOfC qual (defScope st) s.heap.objs.size f (.ref c))) → sp vs H Q E →
      ∃ t, PX (cxOf CX0 P w K mg base N qual (defScope st) f (.ref c) A outer s H E).nox (defBody st) t ∧ t (fun v σ' H' => (cxOf CX0 P w K mg base N qual (defScope st) f (.ref c) A outer s H E).Ok → ∀ H2, ShowC (envOfC qual (defScope st) s.heap.objs.size f (.ref c)) N σ' H' H2 → Q v H2) (start N vs) H) : FnOk P w K mg base CX0 (k + 1) f fd ps sp := by
  obtain ⟨oc, od, kV, doc, pm, an, cdv, ct, osl, rfl, lk, hcd⟩ := F.ex
  have e : cdv = .ref c := hc
  subst e
  refine ⟨len, fun A outer s H args us vs Q E hr e0 hb r hsp => ?_⟩
  have hl := len _ _ _ _ hsp
  have KX : K.In s.heap := e0.mod.kin.keeps fun b o e => (e0.bs b o e).1
  have lim : s.heap.NoLimit := e0.mod.nolimit.keeps fun b o e => (e0.bs b o e).1
  have kinds : ∀ y ∈ ps.zip us, (defScope st).names.lookup y.1 = some .local ∨ ((defScope st).names.lookup y.1 = some .cell ∧ ((cellsFrom (s.heap.objs.size + 1) (defScope st).names []).lookup y.1).isSome = true) := fun ⟨n, v⟩ hy => by
    rcases S.par n (List.of_mem_zip hy).1 with q | q
    · exact .inl q
    · exact .inr ⟨q, PySem.W.cellsFrom_some _ _ _ (.inl q)⟩
  refine codeAny_call_function hr.depth (KX _ _ lk) rfl S.co S.gen rfl (PySem.W.codeRec_of KX hcd) (hb _ _ _ _ ?_)
  refine wpAny_newFunctionEnv_cells S.kind kinds fun env he s1 x => ?_
  subst he
  refine ⟨lim.keeps x.toInCall.keep, codeAny_func ?_⟩
  obtain ⟨t, ht, hq⟩ := hbody A outer s H vs Q E (hr.deeper _) hsp
  have I : Inv (cxOf CX0 P w K mg base N qual (defScope st) f (.ref c) A outer s H E) [] (start N vs) H s1 := inv_start S hr.hd e0 hl r x
  refine wpAny_mono (ht.nox.run [] s1 (start N vs) H _ I hq) (fun fl s' hs => ?_) fun e s' hs => hs
  obtain ⟨u, v, σ', H', rfl, J, rv, q⟩ := hs
  have SH := show_of J
  have nz : ∀ b u, H' b = some u → ¬ CellOf (envOfC qual (defScope st) s.heap.objs.size f (.ref c)).cells b := fun b u e ⟨y, ey⟩ => by
    rw [(SH.cel y b ey).1] at e
    cases e
  refine ⟨v, _, J.os, J.bare, ?_, show_hok J, rv, q J.ok _ SH⟩
  refine ⟨J.base.keep, J.base.slot, fun b o e n nx => ?_, J.base.there, fun b xs e => SH.same b _ (J.base.tups b xs e), fun b o xs e => SH.same b _ (J.base.frzs b o xs e), fun b ps e => ?_⟩
  · rw [showC_out]
    · exact J.base.free b o e n nx
    · rintro ⟨y, ey⟩
      exact Nat.lt_irrefl _ (Nat.lt_of_lt_of_le (Heap.lt_size e) (J.ok.cab y b rfl ey))
  · obtain ⟨more, z⟩ := J.base.tbls b ps e
    exact ⟨more, SH.same b _ z⟩
end
/-- what is no function and no cell stays -/
def KeepX (H H' : Hp) : Prop := ∀ b o, H b = some o → (∀ φ, o ≠ .ext φ) → H' b = some o
theorem keepX_hide {H : Hp} {Z : Addr → Prop} (hz : ∀ c, Z c → ∃ o, H c = some (CellX c o)) : KeepX H (hideC Z H) := fun b o e n => by
  rw [hideC_out]
  · exact e
  · intro z
    obtain ⟨o', e'⟩ := hz b z
    rw [e] at e'
    exact n _ (Option.some.inj e')
theorem back_hide {H : Hp} {Z : Addr → Prop} : backC Z H (hideC Z H) = H := by
  funext b
  by_cases z : Z b
  · rw [backC_in z]
  · rw [backC_out z, hideC_out z]
/-- a lambda of the frame whose cells are shown -/
theorem calls_show {X : Cx} {σ : L2.St} {H1 H2 : Hp} {F : LF} {f : Addr} {N ps fr : List Str} {js : List Nat} {sc : Scope} {t : XK → TE} {k : Nat} {Q : VK} {E : XK} {vs : List V} (sh : ShowC X.env X.N σ H1 H2) (ok : X.Ok) (hf : H1 f = some (LamO f F)) (hc : H1 F.c = some (CodeO F.c F.qual))
    (S : NScope N ps fr F.scope) (hfree : lamFree sc F.scope = true) (hfr : ∀ y ∈ fr, (y, NameKind.free) ∈ F.scope.names) (hjs : js.map (fun j => X.N[j]?) = fr.map some)
    (hb : ∀ s : Shared, HOk X.prog X.w H2 s.heap → ∃ us : List Value, Vals vs us ∧ ∀ doc pm ctv : Value, BindsTo s (F.fd doc pm ctv) ⟨[], []⟩ (ps.zip us)) (hl : vs.length = ps.length)
    (hbody : ∀ (A : Around) (outer : List Env) (s : Shared) (H : Hp) (E : XK), Room k (A.deeper (envF F.nf f s.heap.objs.size)) → PE (ncx (L2.CX X.prog X.w) X.prog X.w X.K X.mg X.base N F.nf f A outer s H E) F.body (t E))
    (ht : ∀ Z : Addr → Prop, (∀ c, Z c → ∃ o, H2 c = some (CellX c o)) → t (fun cls d H' => E cls d (backC Z H2 H')) (startF N vs (js.map (slotAt σ))) (hideC Z H2) (fun v H' => Q v (backC Z H2 H')))
    (hcl : F.cl = cloFrom X.env.cells F.scope.names [] := by rfl) (hsc : X.env.scope = sc := by rfl) : Calls X.prog X.w X.K X.mg X.base (k + 1) f H2 Q E := by
  have Sh := sh.shown (scope := F.scope) (fr := fr) (js := js) ok (by rw [hsc]; exact hfree) hfr hjs
  rw [← hcl] at Sh
  exact calls_lam (t := t) S (sh.same _ _ hf) (sh.same _ _ hc) Sh hb hl hbody (ht _ Sh.z)
end IC
namespace IC
open PySem PySem.Spec PyProof.Rows L2 LamX NdefX
/-! ### lambda choice: (len(choice), choice), called while a sort runs -/
/-- the key of a tuple of numbers -/
def keyD (c : List Int) : PyData := .tuple [.int c.length, .tuple (c.map .int)]
structure KeyFn (F : LF) (x : Str) : Prop where
  scope : F.scope = { kind := .function, names := F.scope.names, isGenerator := false, isCoroutine := false }
  par : F.scope.names.lookup x = some .local
  len : F.scope.names.lookup ("len" : Str) = some .globalImplicit
  nocell : ∀ y ∈ F.scope.names, y.2 ≠ .cell
  bind : ∀ (doc pm ctv u : Value), bindArgs (F.fd doc pm ctv) ⟨[u], []⟩ = pure [(x, u)]
  body : ∃ (p1 p2 p3 p4 p5 : Pos) (j : Nat), F.body = .Tuple [.Call (.Name "len" p1) [.Name x p2] [] p3, .Name x p4] j p5
section
variable {P : Program} {w : World} {A : Around} {s : Shared} {mg mb : Str → Option Value} {F : LF} {f t : Addr} {x : Str} {its : List Value} {c : List Int}
theorem key_turn (kf : KeyFn F x) (hx : (x == ("__debug__" : Str)) = false) {od : Option Addr} {sl : Array (Option Value)} {doc pm ctv : Value} (ho : s.heap.get? f = some (⟨.type "function", od, .func (F.fd doc pm ctv), sl⟩ : Obj)) (hcd : s.heap.CodeRec (.ref F.c) F.qual) (hroom : A.depth < recursionLimit)
    (hg : s.heap.Ns mainGlobals mg) (hb : s.heap.Ns builtinsNs mb) (hm : mg "len" = none) (hmb : mb "len" = bootBuiltins "len") (lim : s.heap.NoLimit) (ht : IsTup s.heap t its.toArray) (hi : IntsAre its c) (hl : its.length ≤ 1000) :
    wpAny (model P w) A (call (.ref f) [.ref t]) (PySem.W.KeyPure (keyD c) s) (fun _ _ => False) s := by
  obtain ⟨p1, p2, p3, p4, p5, j, hbd⟩ := kf.body
  have hkind : F.scope.kind = .function := by rw [kf.scope]
  have run : codeAny (model P w) A (.call (.ref f) ⟨[.ref t], []⟩) (fun r s' => ∃ v, r = .ok (.ret v) ∧ PySem.W.KeyPure (keyD c) s v s') s := by
    refine PySem.W.kla_callFunE hroom ho rfl (by show F.scope.isCoroutine = false; rw [kf.scope]) (by show F.scope.isGenerator = false; rw [kf.scope]) rfl hcd ?_
    rw [kf.bind]
    refine wpAny_pure (wpAny_newFunctionEnv kf.nocell (fun y hy => ?_) (fun g hns hsb => ⟨lim.fresh _ hsb, ?_⟩) hkind)
    · rw [List.mem_singleton.mp hy]
      exact kf.par
    show codeAny _ _ (.expr F.body (envF F.nf f s.heap.objs.size)) _ _
    have kp : ∀ b o, s.heap.get? b = some o → g.get? b = some o := fun b o q => hsb.extBut b o (Nat.ne_of_lt (Heap.lt_size q)) (Heap.get?_push_of_some _ q)
    have name : ∀ {pos : Pos} {A' : Around} {s' : Shared} {Q : Value → Shared → Prop} {E : Value → Shared → Prop}, s'.heap = g → Q (.ref t) s' → wpAny (model P w) A' (eval (.Name x pos) (envF F.nf f s.heap.objs.size)) Q E s' := fun {pos A' s' Q E} e q => by
      refine wpAny_Name (wpAny_loadName_local hkind kf.par (by rw [e]; exact hns) ?_ q) hx
      simp [List.lookup]
    rw [hbd]
    refine PySem.W.kla_codeExpr (wpAny_Tuple_spliced ?_)
    refine Calls.spliced_cons ?_
    refine wpAny_Call_Name_kw (Calls.Name_function_global hkind kf.len (Calls.loadGlobal_builtin (hg.keeps kp) hm (hb.keeps kp) (hmb.trans boot_len) ?_) (by decide))
    refine PyProof.Rows.callWith_builtin1 (Calls.spliced_cons (name rfl (Calls.spliced_nil ?_))) rfl rfl
    refine PyProof.Rows.len_tuple (ht.keeps kp) (by rw [List.size_toArray]; omega) ?_
    refine Calls.spliced_cons (name rfl (Calls.spliced_nil ⟨(by show 2 ≤ sizeLine; decide), ?_⟩))
    refine ⟨_, rfl, _, _, rfl, fun b o q => Heap.get?_push_of_some _ (kp b o q), ?_⟩
    have hlen : c.length = its.length := hi.length.symm
    refine Reads.tuple (n := 0) (as := []) (Heap.get?_push_size _ rfl) rfl rfl ?_
    show ReadsAll _ [.int (its.toArray.size : Int) _, .ref t] [.int (c.length : Int), .tuple (c.map .int)] []
    rw [List.size_toArray, hlen]
    obtain ⟨o, e1, e2, n, e3⟩ := ht.keeps kp
    have e1' := Heap.get?_push_of_some ({ cls := .type "tuple", data := .seq (#[Value.int (its.length : Int) (s.toks + 1 + 1), Value.ref t]) } : Obj) e1
    refine .cons (as := []) (bs := []) (.int _ _) (.cons (as := []) (bs := []) ?_ .nil)
    exact Reads.tuple (as := []) (Heap.get?_push_of_some _ e1) e2 e3 (hi.reads _)
  refine wpAny_call (codeAny_mono run fun r s' ⟨v, e, q⟩ => ?_)
  subst e
  exact q
end
/-! ### sorted(xs, key=lambda choice: (len(choice), choice)) of tuples of numbers -/
def srtC (cs : List (V × List Int)) : List (V × List Int) := cs.mergeSort (PySem.W.dataLe false fun p => keyD p.2)
def rSortKey (K : PySem.W.Frag) (x : Str) : List V → List V → Hp → VK → Prop := fun vs zs H Q => ∃ (a f : Addr) (F : LF) (cs : List (V × List Int)), vs = [.ref a] ∧ zs = [.ref f] ∧ SqL K H a (cs.map (·.1)) ∧ (∀ p ∈ cs, ∃ t, p.1 = .ref t ∧ H t = some (.tup (p.2.map V.int)) ∧ p.2.length ≤ 100) ∧
  H f = some (LamO f F) ∧ H F.c = some (CodeO F.c F.qual) ∧ KeyFn F x ∧ ∀ p, H p = none → Q (.ref p) (upd H p (.lst ((srtC cs).map (·.1))))
theorem alike_ints : ∀ xs ys : List Int, PySem.W.alikeAll (xs.map .int) (ys.map .int) = true
  | [], _ => by cases ‹List Int› <;> rfl
  | x :: xs, [] => rfl
  | x :: xs, y :: ys => by
    rw [List.map_cons, List.map_cons, PySem.W.alikeAll, alike_ints xs ys]
    rfl
theorem alike_key (x y : List Int) : PySem.W.alike (keyD x) (keyD y) = true := by
  unfold keyD
  rw [PySem.W.alike, PySem.W.alikeAll, PySem.W.alikeAll, PySem.W.alike, PySem.W.alike, alike_ints]
  rfl
theorem depth_ints : ∀ xs : List Int, PyData.depthAll (xs.map .int) = 0
  | [] => by simp [PyData.depthAll]
  | x :: xs => by rw [List.map_cons, PyData.depthAll, depth_ints xs, PyData.depth]; rfl
theorem depth_key (x : List Int) : (keyD x).depth = 2 := by
  unfold keyD
  rw [PyData.depth, PyData.depthAll, PyData.depthAll, PyData.depth, PyData.depth, depth_ints, PyData.depthAll]
  rfl
theorem vals_zipC : ∀ {cs : List (V × List Int)} {us : List Value}, Vals (cs.map (·.1)) us → PySem.W.EachIs (fun u (p : V × List Int) => RelV p.1 u) us cs
  | [], _, .nil => .nil
  | _ :: _, _, .cons r t => .cons r (vals_zipC t)
theorem each_valsC : ∀ {us : List Value} {bs : List (V × List Int)}, PySem.W.EachIs (fun u (b : V × List Int) => RelV b.1 u) us bs → Vals (bs.map (·.1)) us
  | _, _, .nil => .nil
  | _, _, .cons r t => .cons r (each_valsC t)
section
variable {X : Cx}
theorem cr_sortKey {x : Str} {k : Nat} (hx : (x == ("__debug__" : Str)) = false) (hm : X.mg "len" = none) (hr : Room (k + 1) X.A) : CallRK X (.builtin "sorted") [Str.ofString "key"] (rSortKey X.K x) := by
  intro pins s σ H vs zs us ws Q I r rz h
  obtain ⟨a, f, F, cs, rfl, rfl, hs, hc, hf, hco, kf, q⟩ := h
  obtain ⟨its, rv, hl, hz⟩ := I.list hs
  rw [Vals.ref1 r, Vals.ref1 rz]
  have hlen : its.length = cs.length := by rw [← rv.length, List.length_map]
  obtain ⟨mb, hb, hbb⟩ := I.mod.blt
  refine PySem.W.sorted_key_data (R := fun u (p : V × List Int) => RelV p.1 u) (f := .ref f) (b := false) (fun p : V × List Int => keyD p.2) hl.isList (vals_zipC rv) (fun d hd d' hd' => ?_) (.inl fun d hd => ?_) ?_ (fun p hp => ?_) ?a1 ?a2 ?tr (fun v p hR hp g tk kp => ?_) fun out c h' tk kp fr ho hlo he => ?_
  · obtain ⟨p, _, rfl⟩ := List.mem_map.mp hd
    obtain ⟨p', _, rfl⟩ := List.mem_map.mp hd'
    exact alike_key _ _
  · obtain ⟨p, _, rfl⟩ := List.mem_map.mp hd
    exact ⟨_, _, rfl⟩
  · rw [List.length_map] at hz
    exact hz
  · rw [depth_key]
    have := hr.un
    omega
  case a1 => exact PyProof.Rows.ksk_s1 _ _
  case a2 => exact fun _ => PyProof.Rows.ksk_l1 _ _
  case tr => exact fun x => PyProof.Rows.ksk_t1 f x
  · obtain ⟨t, e1, e2, e3⟩ := hc p hp
    rw [e1] at hR
    obtain rfl : v = Value.ref t := hR
    obtain ⟨_, tv, rt, tup⟩ := I.hok t _ e2
    have hi : IntsAre tv p.2 := ints_of_vals rt
    obtain ⟨od, sl, doc, pm, ctv, hof⟩ := lamO_at I.hok hf
    obtain ⟨c2, oc, vs2, t2, h1, h2, h3, h4⟩ := codeO_at I.hok hco
    refine key_turn (mg := X.mg) (mb := mb) kf hx (kp _ _ hof) ⟨c2, oc, vs2, t2, h1, kp _ _ h2, h3, h4⟩ ?_ ((I.mod.glob.keeps I.bk).keeps kp) ((hb.keeps I.bk).keeps kp) hm (hbb _ (by decide +kernel)) (I.nolimit.keeps kp) (tup.keeps kp) hi ?_
    · have := hr.dp
      show X.A.depth < _
      omega
    · rw [hi.length]
      omega
  · have hv := each_valsC he
    have hlen' : ((srtC cs).map (·.1)).length ≤ sizeLine := by
      unfold srtC
      rw [List.length_map, List.length_mergeSort]
      rw [List.length_map] at hz
      exact hz
    exact ⟨.ref _, upd H (s.heap.objs.size + 1) (.lst ((srtC cs).map (·.1))), I.laid (t' := tk) kp (Nat.le_succ _) ⟨hlen', out, c, hv, ho⟩, rfl, q _ (I.hok.fresh (Nat.le_succ _))⟩
end
end IC
namespace IC
open PySem PySem.Spec PyProof.Rows L2
/-! ### set(xs), xs a list of ints -/
abbrev emptyO (w : World) : Obj := { cls := .type "set", dict := none, data := .set #[] 0 (.fresh 0 0 (!w.params.followText "set-order")) }
section
variable {P : Program} {w : World} {A : Around} {E : Value → Shared → Prop} {s : Shared}
theorem setL_raw {l : Addr} {its : Array Value} (ns : List Int) {Q : Value → Shared → Prop} (hh : A.handled = none) (lis : s.heap.IsList l its) (hit : IntsAre its.toList ns) (room : ns.length + 1 < scanBound)
    (fin : ∀ (h' : Heap) (tk c : Nat), SetR w h' s.heap.objs.size (fun j => decide (j ∈ ns)) c → c ≤ ns.length → (∀ b o, s.heap.get? b = some o → h'.get? b = some o) → Q (.ref s.heap.objs.size) { s with heap := h', toks := tk }) :
    wpAny (model P w) A (call (.type "set") [.ref l]) Q E s := by
  have lenE : its.size = ns.length := by rw [← Array.length_toList]; exact IntsAre.length hit
  obtain ⟨_, _, m1⟩ := F.called_set.mro
  have m2 := F.called_set.made; have m3 := F.called_set.sub; have m4 := F.called_set.notType; have m5 := F.called_set.canCreate; have m6 := F.typeCall_set_1 (.ref l)
  refine wpAny_call (codeAny_of_tree (?_ : wpAny _ _ (callAny (.type "set") _) _ _ _))
  refine wpAny_pure (⟨Code.quiet_builtin _ (by decide +kernel), codeAny_builtin F.entry_type_call ?_⟩)
  rw [Around.under_plain (weight_type_call_type "set" [Value.ref l] []) rfl]
  repeat (any_goals first | assumption | wp_step)
  refine codeAny_mono (code_set_led1 (.ref l) (E := E) (Q₁ := fun ob t1 => ob = .ref s.heap.objs.size ∧ t1 = { s with heap := s.heap.push (emptyO w) }) ⟨rfl, rfl⟩) fun res t1 hres => ?_
  cases res with
  | error er => exact hres
  | ok fl =>
    cases fl with
    | ret ob =>
      obtain ⟨rfl, rfl⟩ := hres
      have at0 : (s.heap.push (emptyO w)).get? s.heap.objs.size = some (emptyO w) := Heap.get?_push_size _ rfl
      have ty0 : Shared.TypeIs { s with heap := s.heap.push (emptyO w) } (.ref s.heap.objs.size) "set" := ⟨_, at0, rfl⟩
      have i1 := F.called_set.init.lookup; have i2 := F.called_set.init.bind (.ref s.heap.objs.size)
      repeat (any_goals first | assumption | wp_step)
      refine codeAny_mono (codeAny_call_builtin (R := wants (fun r t2 => r = .none ∧ ∃ h' tk c, t2 = { s with heap := h', toks := tk } ∧ SetR w h' s.heap.objs.size (fun j => decide (j ∈ ns)) c ∧ c ≤ ns.length ∧ (∀ b o, s.heap.get? b = some o → h'.get? b = some o)) E)
        F.called_set.init.plain F.entry_set_init (check_set_init_1 ty0 ?_)) fun r2 t2 h2 => ?_
      · obtain ⟨⟨oc, odi, oda, osl⟩, hol, hcl, nl, hdl⟩ := lis
        simp only at hcl hdl
        subst hcl hdl
        have hol2 : (s.heap.push (emptyO w)).get? l = some { cls := .type "list", dict := odi, data := .seq its nl, slots := osl } := Heap.get?_push_of_some _ hol
        have k1 := F.sub_list_set; have k2 := F.sub_list_frozenset
        have k3 : (Value.type "list" == Value.type "dict") = false := by decide
        have lis2 : (s.heap.push (emptyO w)).IsList l its := ⟨_, hol2, rfl, nl, rfl⟩
        unfold Builtin.«set.__init__» noKeywords Builtin.Frozenset.updateFrom; generalize hG : pyIter = GI; wp_walk; subst hG
        refine wpAny_pyIter_list lis2 (wpAny_bind (wpAny_runValue ?_))
        have lt0 : l < s.heap.objs.size := Heap.lt_size hol
        have hd3 : A.in1.in1.in1.handled = none := by simp [hh]
        have ne0 : l ≠ (s.heap.push (emptyO w)).objs.size := by rw [Heap.size_push]; exact Nat.ne_of_lt (Nat.lt_succ_of_lt lt0)
        have out0 : s.heap.objs.size ∉ [(s.heap.push (emptyO w)).objs.size, l] := by
          rw [Heap.size_push]; intro z; simp only [List.mem_cons, List.not_mem_nil, or_false] at z
          rcases z with z | z
          · exact absurd z (Nat.ne_of_lt (Nat.lt_succ_self _))
          · exact absurd z.symm (Nat.ne_of_lt lt0)
        have vals : ∀ (i : Nat) (v : Value), its[i]? = some v → ∃ k t, ns[i]? = some k ∧ v = .int k t := fun i v hv => by
          have hi : i < ns.length := lenE ▸ (Array.getElem?_eq_some_iff.mp hv).1
          obtain ⟨t, e⟩ := PyProof.Rows.IntsAre.int_at hit i v (by rw [Array.getElem?_toList]; exact hv)
          exact ⟨ns[i], t, List.getElem?_eq_getElem hi, by rw [e, List.getD_eq_getElem?_getD, List.getElem?_eq_getElem hi] <;> rfl⟩
        refine set_update_ints ((Walks.list hd3 _ l ne0 its).toS) s.heap.objs.size out0 ns lenE room vals (its.size - 0) 0 _ (by omega) (Nat.zero_le _) ⟨⟨_, Heap.get?_push_size _ rfl, rfl, rfl⟩, lis2.push _⟩ ⟨0, Nat.le_refl 0, setR_new_at (Heap.get?_push_of_some _ at0)⟩ ?_
        intro t3 c3 mv hc3 hS3
        obtain ⟨h', g2, d', tk', os'⟩ := t3
        obtain rfl : g2 = s.gens := mv.gens
        obtain rfl : d' = s.drawn := mv.drawn
        obtain rfl : os' = s.os := mv.os
        show wpAny _ _ (_ : Sem _) _ _ _
        refine wpAny_pure (show wpAny _ _ (ret Value.none) _ _ _ from ?_)
        have hc4 : c3 ≤ ns.length := lenE ▸ hc3
        refine wpAny_pure ⟨rfl, h', tk', c3, rfl, hS3, hc4, fun b o e => ?_⟩
        have hb0 : b < s.heap.objs.size := Heap.lt_size e
        refine mv.heap b o (fun z => ?_) (Heap.get?_push_of_some _ (Heap.get?_push_of_some _ e))
        simp only [List.mem_cons, List.not_mem_nil, or_false, Heap.size_push] at z
        rcases z with z | z
        · exact absurd z (Nat.ne_of_lt hb0)
        · exact absurd z (Nat.ne_of_lt (Nat.lt_succ_of_lt hb0))
      · cases r2 with
        | error er => exact h2
        | ok fl2 =>
          cases fl2 with
          | ret r =>
            obtain ⟨rfl, h', tk, c', rfl, g1, g2, g3⟩ := h2
            repeat (any_goals first | assumption | wp_step)
            exact fin _ _ _ g1 g2 g3
          | _ => exact h2.elim
    | _ => exact hres.elim
end
section
variable {X : Cx} {K : PySem.W.Frag} {w : World}
def rSetL (K : PySem.W.Frag) (w : World) : List V → Hp → VK → Prop := fun vs H Q => ∃ (a : Addr) (ns : List Int), vs = [.ref a] ∧ SqL K H a (ns.map V.int) ∧ ns.length ≤ 1000 ∧
  ∀ (p : Addr) (c : Nat) (out : List Int), H p = none → out.Nodup → (∀ k, k ∈ out ↔ k ∈ ns) → c = out.length → Q (.ref p) (L2.upd H p (SetO w p (fun j => decide (j ∈ ns)) c))
theorem cr_setL (hc : X.calm = true) : CallR X (.type "set") (rSetL X.K X.w) := by
  intro pins s σ H vs us Q I r h
  obtain ⟨a, ns, rfl, hs, hl, q⟩ := h
  obtain ⟨its, rv, pl, _⟩ := I.list hs
  rw [Vals.ref1 r]
  refine setL_raw ns (I.ok.hd hc) pl.isList (intsAre_of rv) (by unfold scanBound; omega) fun h' tk c R1 _ k => ?_
  obtain ⟨o, es, ep, t, ho, hex, hdt, g, nd, hm2, hb, hf, hn, hr, hl2⟩ := id R1
  refine ⟨.ref s.heap.objs.size, L2.upd H s.heap.objs.size (SetO X.w s.heap.objs.size (fun j => decide (j ∈ ns)) c), I.laid (t' := tk) k (Nat.le_refl _) (setO_new R1), rfl, q _ c (es.toList.map keyOf) (I.hok.fresh (Nat.le_refl _)) nd (fun j => ?_) (by rw [List.length_map, Array.length_toList, hn])⟩
  rw [← hm2 j, decide_eq_true_eq]
end
end IC
namespace IC
open PySem PySem.Spec PyProof.Rows L2
open LamX (Tabs TabB CodeO)
section
variable {X : Cx} {K : PySem.W.Frag} {w : World}
theorem cr_setLK (hc : X.calm = true) (hK : X.K = K := by rfl) (hw : X.w = w := by rfl) : CallR X (.type "set") (rSetL K w) := by subst hK; subst hw; exact cr_setL hc
theorem cr_lenSetO (hw : X.w = w := by rfl) : CallR X (.builtin "len") (fun vs H Q => ∃ (p : Addr) (S : Int → Bool) (c : Nat), vs = [.ref p] ∧ H p = some (SetO w p S c) ∧ Q (.int (c : Int)) H) := by
  intro pins s σ H vs us Q I r h
  obtain ⟨p, S, c, rfl, hp, q⟩ := h
  rw [Vals.ref1 r]
  obtain ⟨⟨o, es, ep, t, ho, hex, hd, _, _, _, hsc, hf, hn, _⟩, _, _⟩ := I.hok p _ hp
  have hb : (es.size : Int) < 2 ^ 63 := by
    unfold scanBound at hsc
    omega
  exact call_len_set ho hex hd hf hb ⟨.int (c : Int), H, I.tok _, ⟨_, by rw [hn]⟩, q⟩
end
/-- [e for x in xs], xs a list of tuples, e a new tuple -/
theorem lc_mkT {K : PySem.W.Frag} {α : Type} {enc : α → List V} {l : List α} {xs : List V} {a j : Nat} {te : TE} {vs : List Nat} {σ : L2.St} {H1 : Hp} {D : Addr} {Qd : Hp → Prop} (d : α → List V) (hx : TupsAt H1 xs (l.map enc)) (ha : SqL K H1 a xs) (nD : H1 D = none) (hl : l.length ≤ 100000) (hw : ∀ x, wipe ((wipe σ vs).set j (some x)) vs = wipe σ vs)
    (he : ∀ x tA, x ∈ l → H1 tA = some (.tup (enc x)) → ∀ H2, Same H1 H2 → ∀ Q : VK, (∀ t H3, Same H2 H3 → H3 t = some (.tup (d x)) → Q (.ref t) H3) → te ((wipe σ vs).set j (some (.ref tA))) H2 Q)
    (k : ∀ ys H', Same H1 H' → H' D = some (.lst ys) → TupsAt H' ys (l.map d) → Qd H') :
    ∃ W : Nat → Nat → Hp → Prop, (∃ m, W 0 m (upd H1 D (.lst []))) ∧ ∀ i m H, W i m H →
      ((Itl K a).stop i H ∧ Qd H) ∨ ((Itl K a).go i H ∧ ∃ Nx : Hp → Prop, (∀ H', Nx H' → ∃ m', m' < m ∧ W (i + 1) m' H') ∧ ∀ x H', (Itl K a).yld i H x H' → gName j x (wipe σ vs) H' fun σ2 H2 => wipe σ2 vs = wipe σ vs ∧ tYes σ2 H2 fun b H3 =>
        if b = true then te σ2 H3 fun y H4 => ∃ acc, H4 D = some (.lst acc) ∧ acc.length < sizeLine ∧ Nx (upd H4 D (.lst (acc ++ [y]))) else Nx H3) := by
  have hxl : xs.length = l.length := by have := hx.length; rw [List.length_map] at this; exact this
  refine lc_list (K := K) (a := a) (xs := xs) (fun i H2 => ∃ ys, Same H1 H2 ∧ H2 D = some (.lst ys) ∧ TupsAt H2 ys ((l.take i).map d)) ⟨[], Same.new nD, upd_same, .nil⟩ (fun i H2 _ ⟨_, sH, _⟩ => sH.seq ha) ?_ ?_
  · rintro i y H2 hi ⟨ys, sH, hD, hy⟩
    obtain ⟨dd, hd, tA, rfl, hta⟩ := Paired.getL hx hi
    rw [List.getElem?_map] at hd
    obtain ⟨x, hx', rfl⟩ := Option.map_eq_some_iff.mp hd
    have hm : x ∈ l := List.mem_of_getElem? hx'
    have yl : ys.length ≤ l.length := by
      have := hy.length
      rw [List.length_map, List.length_take] at this
      omega
    refine ⟨hw _, ?_⟩
    show te _ _ _
    refine he x tA hm hta H2 sH _ fun t H3 s3 ht => ⟨ys, s3 _ _ hD, szl (by omega), ys ++ [.ref t], Same.mut (sH.trans s3) nD, upd_same, ?_⟩
    have tS : TupS H3 (L2.upd H3 D (.lst (ys ++ [.ref t]))) := TupS.upd (TupS.refl _) (by rw [s3 _ _ hD]; intro xs z; cases z)
    rw [List.take_succ, hx', List.map_append]
    exact Paired.append ((hy.mono (.of_same s3)).mono tS) (.cons ⟨t, rfl, tS _ _ ht⟩ .nil)
  · rintro H2 ⟨ys, sH, hD, hy⟩
    rw [hxl, List.take_length] at hy
    exact k ys H2 sH hD hy
/-! ### the mirror of looks.py -/
theorem nd_sub {α : Type} : ∀ {l1 l2 : List α}, l1.Nodup → (∀ x ∈ l1, x ∈ l2) → l1.length ≤ l2.length
  | [], _, _, _ => Nat.zero_le _
  | a :: l1, l2, nd, h => by
    haveI : DecidableEq α := fun a b => Classical.propDecidable _
    have h1 := nd_sub (l1 := l1) (l2 := l2.erase a) (List.nodup_cons.mp nd).2 fun x hx => (List.mem_erase_of_ne (fun e => (List.nodup_cons.mp nd).1 (by rw [← e]; exact hx))).mpr (h x (List.mem_cons_of_mem _ hx))
    have h2 := h a List.mem_cons_self
    have h3 := List.length_pos_of_mem h2
    rw [List.length_erase_of_mem h2] at h1
    show l1.length + 1 ≤ _
    omega
def colAt (ss : List (List Int)) (i : Nat) : List Int := ss.map fun s => s.getD i 0
def unsureAt (ss : List (List Int)) (i : Nat) : Bool := (colAt ss i).any fun x => decide (x ≠ (colAt ss i).headD 0)
def unsureL (ss : List (List Int)) (n : Nat) : List Int := ((List.range n).filter (unsureAt ss)).map fun i => ((i + 1 : Nat) : Int)
theorem set_two {ns out : List Int} (hne : ns ≠ []) (nd : out.Nodup) (hm : ∀ k, k ∈ out ↔ k ∈ ns) : decide (1 < out.length) = ns.any fun x => decide (x ≠ ns.headD 0) := by
  rw [Bool.eq_iff_iff, decide_eq_true_eq, List.any_eq_true]
  cases ns with
  | nil => exact absurd rfl hne
  | cons y ys =>
    show 1 < out.length ↔ ∃ x, x ∈ y :: ys ∧ decide (x ≠ y) = true
    constructor
    · intro h
      refine Classical.byContradiction fun hn => ?_
      have all : ∀ x ∈ out, x ∈ [y] := fun x hx => by
        have hx' := (hm x).mp hx
        refine List.mem_singleton.mpr (Classical.byContradiction fun z => hn ⟨x, hx', decide_eq_true z⟩)
      have := nd_sub nd all
      simp at this
      omega
    · rintro ⟨x, hx, hxy⟩
      have hxy' : x ≠ y := of_decide_eq_true hxy
      have := nd_sub (l1 := [x, y]) (l2 := out) (by simp [hxy']) (fun z hz => by
        rcases List.mem_cons.mp hz with e | e
        · rw [e]; exact (hm x).mpr hx
        · rw [List.mem_singleton.mp e]; exact (hm y).mpr List.mem_cons_self)
      simp at this
      omega
def choicesRaw (ms : List Int) : List (List Int) := ms.foldl (fun found m => found ++ found.map (· ++ [m])) [[]]
def choicesL (ms : List Int) : List (List Int) := (choicesRaw ms).mergeSort (PySem.W.dataLe false keyD)
def seenAt (s c : List Int) : List Int := c.map fun m => s.getD (m - 1).toNat 0
def alikeTo (ss : List (List Int)) (c : List Int) : Nat → Option (List Int × List Int)
  | 0 => none
  | n + 1 => match alikeTo ss c n with
    | some p => some p
    | none => match (ss.take n).find? (fun s => decide (seenAt s c = seenAt (ss.getD n []) c)) with
      | some s => some (s, ss.getD n [])
      | none => none
def alikeL (ss : List (List Int)) (c : List Int) : Option (List Int × List Int) := alikeTo ss c ss.length
def looksGo (ss : List (List Int)) : List (List Int) → List (List Int × List Int × List Int) → Option (List Int × List (List Int × List Int × List Int))
  | [], _ => none
  | c :: cs, acc => match alikeL ss c with
    | none => some (c, acc)
    | some p => looksGo ss cs (acc ++ [(c, p.1, p.2)])
def looksL (ss : List (List Int)) (n : Nat) : Option (List Int × List (List Int × List Int × List Int)) := looksGo ss (choicesL (unsureL ss n)) []
section
variable {P : Program} {w : World} {K : PySem.W.Frag} {mg : Str → Option Value} {base : Heap} {dI C TM cM PM : Addr} {T : List (Addr × Str)}
/-! ### unsure_moments -/
/-! ### choices_of -/
def sp_choices (PM : Addr) (T : List (Addr × Str)) : Sp := fun vs H Q _ => ∃ (mA : Addr) (ms : List Int), vs = [.ref mA] ∧ H mA = some (.lst (ms.map V.int)) ∧ ms.length ≤ 8 ∧ Tabs T H ∧
  ∀ (a : Addr) (xs : List V) (H' : Hp), Keeps [PM] H H' → Tabs T H' → H a = none → H' a = some (.lst xs) → TupsAt H' xs ((choicesL ms).map encS) → Q (.ref a) H'
theorem raw_succ (ms : List Int) (m : Int) : choicesRaw (ms ++ [m]) = choicesRaw ms ++ (choicesRaw ms).map (· ++ [m]) := by
  unfold choicesRaw
  rw [List.foldl_append]
  rfl
theorem raw_len : ∀ (ms : List Int) (i : Nat), i ≤ ms.length → (choicesRaw (ms.take i)).length = 2 ^ i ∧ ∀ c ∈ choicesRaw (ms.take i), c.length ≤ i
  | ms, 0, _ => by
    rw [List.take_zero]
    exact ⟨rfl, fun c hc => by rw [List.mem_singleton.mp hc]; exact Nat.le_refl _⟩
  | ms, i + 1, h => by
    obtain ⟨h1, h2⟩ := raw_len ms i (by omega)
    have e : ms.take (i + 1) = ms.take i ++ [ms[i]'(by omega)] := by rw [List.take_succ, List.getElem?_eq_getElem (by omega)]; rfl
    rw [e, raw_succ]
    refine ⟨by rw [List.length_append, List.length_map, h1, Nat.pow_succ]; omega, fun c hc => ?_⟩
    rcases List.mem_append.mp hc with z | z
    · have := h2 c z
      omega
    · obtain ⟨d, hd, rfl⟩ := List.mem_map.mp z
      have := h2 d hd
      rw [List.length_append]
      simp
      omega
theorem tups_zip {H : Hp} {cs : List (List Int)} {xs : List V} (t : TupsAt H xs (cs.map encS)) : ∀ p ∈ xs.zip cs, IsTupV H p.1 (encS p.2) := by
  induction cs generalizing xs with
  | nil =>
    intro p hp
    rw [List.zip_nil_right] at hp
    cases hp
  | cons c cs ih =>
    cases t with
    | cons r rs =>
      intro p hp
      rw [List.zip_cons_cons] at hp
      rcases List.mem_cons.mp hp with e | e
      · rw [e]; exact r
      · exact ih rs p e
theorem tups_map {H : Hp} : ∀ (l : List (V × List Int)), (∀ p ∈ l, IsTupV H p.1 (encS p.2)) → TupsAt H (l.map (·.1)) (l.map (encS ∘ fun p => p.2))
  | [], _ => .nil
  | p :: l, h => .cons (h p List.mem_cons_self) (tups_map l fun q hq => h q (List.mem_cons_of_mem _ hq))
/-! ### alike_at -/
end
end IC
namespace IC
open PySem L2
open LamX (Tabs TabB CodeO ExtN)
/-! ### there is a story -/
def selJ (p : Int × Int) (o : Int) : Int := if o = 0 then p.1 else p.2
theorem lvl_some {kn : Kn} {late : Int} {T : Nat} {most : Int} (h0 : (behindP kn late T T).1 ≤ most) : ∀ i, i ≤ T → ∃ x ∈ lvl kn late T most i, (x.2.1 = 0 ∨ x.2.1 = 1) ∧ x.2.2 + selJ (behindP kn late T (T - i)) x.2.1 ≤ most
  | 0, _ => ⟨([], 0, 0), List.mem_singleton.mpr rfl, .inl rfl, by show (0 : Int) + selJ (behindP kn late T T) 0 ≤ most; unfold selJ; rw [if_pos rfl]; omega⟩
  | i + 1, hi => by
    obtain ⟨x, hx, h01, hp⟩ := lvl_some h0 i (by omega)
    obtain ⟨k, hk⟩ : ∃ k, T - i = k + 1 := ⟨T - (i + 1), by omega⟩
    have hk' : T - (i + 1) = k := by omega
    have em : (T : Int) - (k : Int) = ((i + 1 : Nat) : Int) := by omega
    have eB : behindP kn late T (k + 1) = (min ((behindP kn late T k).1 + stepP kn late T ((T : Int) - k) 0 0) ((behindP kn late T k).2 + stepP kn late T ((T : Int) - k) 0 1), min ((behindP kn late T k).1 + stepP kn late T ((T : Int) - k) 1 0) ((behindP kn late T k).2 + stepP kn late T ((T : Int) - k) 1 1)) := rfl
    rw [em] at eB
    rw [hk, eB] at hp
    have step : ∀ o : Nat, o < 2 → x.2.2 + stepP kn late T ((i + 1 : Nat) : Int) x.2.1 o + sel (behindP kn late T k) o ≤ most → ∃ y ∈ lvl kn late T most (i + 1), (y.2.1 = 0 ∨ y.2.1 = 1) ∧ y.2.2 + selJ (behindP kn late T (T - (i + 1))) y.2.1 ≤ most := fun o ho hle => by
      refine ⟨(x.1 ++ [(o : Int)], (o : Int), x.2.2 + stepP kn late T ((i + 1 : Nat) : Int) x.2.1 o), ?_, ?_, ?_⟩
      · show _ ∈ stNext kn late T (i + 1) (behindP kn late T (T - (i + 1))) most (lvl kn late T most i)
        unfold stNext
        refine List.mem_flatMap.mpr ⟨x, hx, List.mem_flatMap.mpr ⟨o, List.mem_range.mpr ho, ?_⟩⟩
        unfold stOne
        rw [hk', if_pos hle]
        exact List.mem_singleton.mpr rfl
      · show (o : Int) = 0 ∨ (o : Int) = 1
        omega
      · show x.2.2 + stepP kn late T ((i + 1 : Nat) : Int) x.2.1 o + selJ (behindP kn late T (T - (i + 1))) (o : Int) ≤ most
        rw [hk']
        have : selJ (behindP kn late T k) (o : Int) = sel (behindP kn late T k) o := by
          unfold selJ sel
          by_cases z : o = 0
          · rw [if_pos z, if_pos (by omega)]
          · rw [if_neg z, if_neg (by omega)]
        rw [this]
        exact hle
    have s0 := step 0 (by decide)
    have s1 := step 1 (by decide)
    unfold sel at s0 s1
    rw [if_pos rfl] at s0
    rw [if_neg (by decide)] at s1
    unfold selJ at hp
    rcases h01 with e | e
    · rw [e, if_pos rfl] at hp
      rw [e] at s0 s1
      simp only at hp
      by_cases c : (behindP kn late T k).1 + stepP kn late T ((i + 1 : Nat) : Int) 0 0 ≤ (behindP kn late T k).2 + stepP kn late T ((i + 1 : Nat) : Int) 0 1
      · have z : x.2.2 + stepP kn late T ((i + 1 : Nat) : Int) 0 0 + (behindP kn late T k).1 ≤ most := by
          clear s0 s1 step
          generalize stepP kn late T ((i + 1 : Nat) : Int) 0 0 = u0 at *
          generalize stepP kn late T ((i + 1 : Nat) : Int) 0 1 = u1 at *
          omega
        exact s0 z
      · have z : x.2.2 + stepP kn late T ((i + 1 : Nat) : Int) 0 1 + (behindP kn late T k).2 ≤ most := by
          clear s0 s1 step
          generalize stepP kn late T ((i + 1 : Nat) : Int) 0 0 = u0 at *
          generalize stepP kn late T ((i + 1 : Nat) : Int) 0 1 = u1 at *
          omega
        exact s1 z
    · rw [e, if_neg (by decide)] at hp
      rw [e] at s0 s1
      simp only at hp
      by_cases c : (behindP kn late T k).1 + stepP kn late T ((i + 1 : Nat) : Int) 1 0 ≤ (behindP kn late T k).2 + stepP kn late T ((i + 1 : Nat) : Int) 1 1
      · have z : x.2.2 + stepP kn late T ((i + 1 : Nat) : Int) 1 0 + (behindP kn late T k).1 ≤ most := by
          clear s0 s1 step
          generalize stepP kn late T ((i + 1 : Nat) : Int) 1 0 = u0 at *
          generalize stepP kn late T ((i + 1 : Nat) : Int) 1 1 = u1 at *
          omega
        exact s0 z
      · have z : x.2.2 + stepP kn late T ((i + 1 : Nat) : Int) 1 1 + (behindP kn late T k).2 ≤ most := by
          clear s0 s1 step
          generalize stepP kn late T ((i + 1 : Nat) : Int) 1 0 = u0 at *
          generalize stepP kn late T ((i + 1 : Nat) : Int) 1 1 = u1 at *
          omega
        exact s1 z
def stsL (h : Hs) (T b : Nat) : List (List Int) := (lvlH h T b T).map (·.1)
theorem sts_some {h : Hs} {T b : Nat} (o : HsOk h T) (hT : T ≤ 60) (s : soundH h = true) (hb : b < h.kns.length) (hnow : h.now = T) : stsL h T b ≠ [] := by
  have nt : noTwice (wantsOf b (h.kns.getD b []) h.late T) := fun x hx => (sound_iff s).1 x (by unfold allWants; rw [hnow]; exact mem_aw.mpr ⟨b, hb, hx⟩)
  have l1 := (least_once (o.at hb) hT b h.late nt).1
  have sp := (spare_sum o s).2
  have tm := tot_min' (h.kns.getD b []) h.late (Nat.zero_le T)
  have bn := behind_nn (h.kns.getD b []) h.late T T
  have e0 : totP (h.kns.getD b []) h.late T 0 0 = (behindP (h.kns.getD b []) h.late T T).1 := by
    unfold totP sel
    show (0 : Int) + _ = _
    rw [if_pos rfl]
    exact Int.zero_add _
  have e1 : totP (h.kns.getD b []) h.late T 0 1 = NEV + (behindP (h.kns.getD b []) h.late T T).2 := rfl
  have h0 : (behindP (h.kns.getD b []) h.late T T).1 ≤ mostPr h T b := by
    unfold mostPr
    omega
  obtain ⟨x, hx, _⟩ := lvl_some h0 T (Nat.le_refl _)
  intro z
  unfold stsL lvlH at z
  rw [List.map_eq_nil_iff.mp z] at hx
  cases hx
/-! ### choices -/
theorem raw_mem : ∀ {ms : List Int} {acc : List (List Int)} {c : List Int} {m : Int}, c ∈ ms.foldl (fun found m => found ++ found.map (· ++ [m])) acc → m ∈ c → m ∈ ms ∨ ∃ d ∈ acc, m ∈ d
  | [], acc, c, m, hc, hm => .inr ⟨c, hc, hm⟩
  | a :: ms, acc, c, m, hc, hm => by
    rcases raw_mem (ms := ms) hc hm with z | ⟨d, hd, hmd⟩
    · exact .inl (List.mem_cons_of_mem _ z)
    · rcases List.mem_append.mp hd with z | z
      · exact .inr ⟨d, z, hmd⟩
      · obtain ⟨d', hd', rfl⟩ := List.mem_map.mp z
        rcases List.mem_append.mp hmd with y | y
        · exact .inr ⟨d', hd', y⟩
        · rw [List.mem_singleton.mp y]
          exact .inl List.mem_cons_self
theorem ch_mem {ms c : List Int} {m : Int} (hc : c ∈ choicesL ms) (hm : m ∈ c) : m ∈ ms := by
  unfold choicesL at hc
  have hc' : c ∈ choicesRaw ms := List.mem_mergeSort.mp hc
  rcases raw_mem hc' hm with z | ⟨d, hd, hmd⟩
  · exact z
  · rw [List.mem_singleton.mp hd] at hmd
    cases hmd
theorem ch_len {ms c : List Int} (hc : c ∈ choicesL ms) : c.length ≤ ms.length := by
  unfold choicesL at hc
  have hc' : c ∈ choicesRaw ms := List.mem_mergeSort.mp hc
  have := (raw_len ms ms.length (Nat.le_refl _)).2 c (by rw [List.take_length]; exact hc')
  exact this
theorem ch_many {ms : List Int} (h : ms.length ≤ 8) : (choicesL ms).length ≤ 256 := by
  unfold choicesL
  rw [List.length_mergeSort]
  have := (raw_len ms ms.length (Nat.le_refl _)).1
  rw [List.take_length] at this
  rw [this]
  exact Nat.le_trans (Nat.pow_le_pow_right (by decide) h) (by decide)
theorem uns_mem {ss : List (List Int)} {n : Nat} {m : Int} (h : m ∈ unsureL ss n) : 1 ≤ m ∧ m ≤ n := by
  unfold unsureL at h
  obtain ⟨i, hi, rfl⟩ := List.mem_map.mp h
  have := List.mem_range.mp (List.mem_filter.mp hi).1
  omega
theorem uns_len {ss : List (List Int)} {n : Nat} : (unsureL ss n).length ≤ n := by
  unfold unsureL
  rw [List.length_map]
  have := List.length_filter_le (unsureAt ss) (List.range n)
  rw [List.length_range] at this
  exact this
/-! ### looks -/
def IsTrip (H : Hp) (v : V) (p : List Int × List Int × List Int) : Prop := ∃ t a b c : Addr, v = .ref t ∧ H t = some (.tup [.ref a, .ref b, .ref c]) ∧ H a = some (.tup (encS p.1)) ∧ H b = some (.tup (encS p.2.1)) ∧ H c = some (.tup (encS p.2.2))
abbrev TripsAt (H : Hp) : List V → List (List Int × List Int × List Int) → Prop := Paired (IsTrip H)
theorem TripsAt.mono {H H' : Hp} {xs : List V} {ps : List (List Int × List Int × List Int)} (h : TripsAt H xs ps) (t : TupS H H') : TripsAt H' xs ps := Paired.mapP h fun _ _ ⟨t1, a, b, c, e, h1, h2, h3, h4⟩ => ⟨t1, a, b, c, e, t _ _ h1, t _ _ h2, t _ _ h3, t _ _ h4⟩
def LooksAt (H H' : Hp) (r : V) : Option (List Int × List (List Int × List Int × List Int)) → Prop
  | none => r = .non
  | some x => ∃ (t cA pA : Addr) (xs : List V), r = .ref t ∧ H' t = some (.tup [.ref cA, .ref pA]) ∧ H' cA = some (.tup (encS x.1)) ∧ H' pA = some (.lst xs) ∧ H pA = none ∧ TripsAt H' xs x.2
def manyS (h : Hs) (T b : Nat) : Prop := ∃ i, i ≤ T ∧ 200 < (lvlH h T b i).length
def manyL (h : Hs) (T b : Nat) : Prop := manyS h T b ∨ 8 < (unsureL (stsL h T b) T).length
section
variable {P : Program} {w : World} {K : PySem.W.Frag} {mg : Str → Option Value} {base : Heap} {dI C TM PM : Addr} {T : List (Addr × Str)}
end
end IC
namespace IC
open PySem L2
/-! ### the order of tuples of one length -/
def lx : List Int → List Int → Prop
  | x :: xs, y :: ys => x < y ∨ (x = y ∧ lx xs ys)
  | _, _ => False
theorem lx_asym : ∀ {a b : List Int}, lx a b → lx b a → False
  | [], _, h, _ => h
  | _ :: _, [], h, _ => h
  | x :: xs, y :: ys, h1, h2 => by
    rcases h1 with h1 | ⟨h1, g1⟩ <;> rcases h2 with h2 | ⟨h2, g2⟩
    · omega
    · omega
    · omega
    · exact lx_asym g1 g2
theorem lx_irr {a : List Int} (h : lx a a) : False := lx_asym h h
theorem lx_app : ∀ {a b : List Int} (c d : List Int), lx a b → lx (a ++ c) (b ++ d)
  | [], _, _, _, h => False.elim h
  | _ :: _, [], _, _, h => False.elim h
  | x :: xs, y :: ys, c, d, h => by
    rcases h with h | ⟨e, h⟩
    · exact .inl h
    · exact .inr ⟨e, lx_app c d h⟩
theorem lx_snoc : ∀ (a : List Int) {x y : Int}, x < y → lx (a ++ [x]) (a ++ [y])
  | [], _, _, h => .inl h
  | _ :: a, _, _, h => .inr ⟨rfl, lx_snoc a h⟩
theorem lx_lexLt : ∀ {a b : List Int}, lx a b → HT.lexLt a b = true
  | [], _, h => False.elim h
  | _ :: _, [], h => False.elim h
  | x :: xs, y :: ys, h => by
    rw [HT.lexLt_cons]
    rcases h with h | ⟨e, h⟩
    · rw [if_neg (by omega)]
      exact decide_eq_true h
    · rw [if_pos e]
      exact lx_lexLt h
theorem lx_lt : ∀ {a b : List Int}, lx a b → a < b
  | [], _, h => False.elim h
  | _ :: _, [], h => False.elim h
  | x :: xs, y :: ys, h => by
    rw [List.cons_lt_cons_iff]
    rcases h with h | ⟨e, h⟩
    · exact .inl h
    · exact .inr ⟨e, lx_lt h⟩
theorem lx_total : ∀ {a b : List Int}, a.length = b.length → a = b ∨ lx a b ∨ lx b a
  | [], [], _ => .inl rfl
  | [], _ :: _, h => by simp at h
  | _ :: _, [], h => by simp at h
  | x :: xs, y :: ys, h => by
    rcases Int.lt_trichotomy x y with e | e | e
    · exact .inr (.inl (.inl e))
    · rcases lx_total (a := xs) (b := ys) (by simpa using h) with z | z | z
      · exact .inl (by rw [e, z])
      · exact .inr (.inl (.inr ⟨e, z⟩))
      · exact .inr (.inr (.inr ⟨e.symm, z⟩))
    · exact .inr (.inr (.inl e))
theorem nd_of {α : Type} {R : α → α → Prop} {l : List α} (h : l.Pairwise R) (irr : ∀ a, R a a → False) : l.Nodup := by
  unfold List.Nodup
  refine h.imp fun {a b} z => ?_
  intro e
  rw [e] at z
  exact irr b z
theorem snoc_cases {α : Type} (l : List α) : l = [] ∨ ∃ d y, l = d ++ [y] := by
  rcases List.eq_nil_or_concat l with h | ⟨d, y, h⟩
  · exact .inl h
  · exact .inr ⟨d, y, by rw [h, List.concat_eq_append]⟩
/-! ### stories rise -/
theorem lvl_rise {kn : Kn} {late : Int} {T : Nat} {most : Int} : ∀ i, (lvl kn late T most i).Pairwise fun x y => lx x.1 y.1
  | 0 => by simp [lvl]
  | i + 1 => by
    show (stNext kn late T (i + 1) _ most (lvl kn late T most i)).Pairwise _
    unfold stNext
    have mem : ∀ (x : It) (bh : Int × Int) (y : It), y ∈ (List.range 2).flatMap (stOne kn late T (i + 1) bh most x) → ∃ o : Nat, y.1 = x.1 ++ [(o : Int)] := fun x bh y hy => by
      obtain ⟨o, _, h⟩ := List.mem_flatMap.mp hy
      unfold stOne at h
      split at h
      · rw [List.mem_singleton.mp h]
        exact ⟨o, rfl⟩
      · cases h
    rw [List.pairwise_flatMap]
    refine ⟨fun x _ => ?_, (lvl_rise i).imp fun {x y} h u hu v hv => ?_⟩
    · rw [List.pairwise_flatMap]
      refine ⟨fun o _ => ?_, (List.pairwise_lt_range (n := 2)).imp fun {o o'} lt u hu v hv => ?_⟩
      · unfold stOne
        split <;> simp
      · unfold stOne at hu hv
        split at hu
        · split at hv
          · rw [List.mem_singleton.mp hu, List.mem_singleton.mp hv]
            exact lx_snoc _ (by omega)
          · cases hv
        · cases hu
    · obtain ⟨o, e⟩ := mem x _ u hu
      obtain ⟨o', e'⟩ := mem y _ v hv
      rw [e, e']
      exact lx_app _ _ h
theorem sts_rise (h : Hs) (T b : Nat) : (stsL h T b).Pairwise lx := by
  unfold stsL lvlH
  rw [List.pairwise_map]
  exact lvl_rise T
theorem sts_nd (h : Hs) (T b : Nat) : (stsL h T b).Nodup := nd_of (sts_rise h T b) fun _ => lx_irr
/-! ### choices, level by level -/
def lastLt (c : List Int) (m : Int) : Bool := decide (c = []) || decide (c.getLastD 0 < m)
def chLevel (ms : List Int) : Nat → List (List Int)
  | 0 => [[]]
  | k + 1 => (chLevel ms k).flatMap fun c => (ms.filter (lastLt c)).map fun m => c ++ [m]
def chTo (ms : List Int) : Nat → List (List Int)
  | 0 => [[]]
  | k + 1 => chTo ms k ++ chLevel ms (k + 1)
def Asc1 (c : List Int) : Prop := c.Pairwise (· < ·)
theorem asc_snoc {c : List Int} {m : Int} : Asc1 (c ++ [m]) ↔ Asc1 c ∧ ∀ x ∈ c, x < m := by
  unfold Asc1
  rw [List.pairwise_append]
  simp
theorem lastLt_iff {c : List Int} (h : Asc1 c) (m : Int) : lastLt c m = true ↔ ∀ x ∈ c, x < m := by
  unfold lastLt
  rw [Bool.or_eq_true, decide_eq_true_eq, decide_eq_true_eq]
  rcases snoc_cases c with rfl | ⟨d, y, rfl⟩
  · simp
  · obtain ⟨_, hy⟩ := asc_snoc.mp h
    constructor
    · rintro (z | z)
      · simp at z
      · have z' : y < m := by simpa using z
        intro x hx
        rcases List.mem_append.mp hx with q | q
        · have := hy x q
          omega
        · rw [List.mem_singleton.mp q]
          exact z'
    · intro z
      right
      have := z y (by simp)
      simpa using this
theorem mem_level {ms : List Int} : ∀ {k : Nat} {c : List Int}, c ∈ chLevel ms k ↔ Asc1 c ∧ (∀ m ∈ c, m ∈ ms) ∧ c.length = k
  | 0, c => by
    show c ∈ [[]] ↔ _
    rw [List.mem_singleton, List.length_eq_zero_iff]
    constructor
    · rintro rfl
      exact ⟨.nil, (fun _ h => nomatch h), rfl⟩
    · exact fun h => h.2.2
  | k + 1, c => by
    show c ∈ (chLevel ms k).flatMap _ ↔ _
    rw [List.mem_flatMap]
    constructor
    · rintro ⟨d, hd, h⟩
      obtain ⟨a1, a2, a3⟩ := mem_level.mp hd
      obtain ⟨m, hm, rfl⟩ := List.mem_map.mp h
      obtain ⟨m1, m2⟩ := List.mem_filter.mp hm
      refine ⟨asc_snoc.mpr ⟨a1, (lastLt_iff a1 m).mp m2⟩, fun x hx => ?_, by simp [a3]⟩
      rcases List.mem_append.mp hx with q | q
      · exact a2 x q
      · rw [List.mem_singleton.mp q]; exact m1
    · rintro ⟨a1, a2, a3⟩
      rcases snoc_cases c with rfl | ⟨d, y, rfl⟩
      · simp at a3
      · obtain ⟨b1, b2⟩ := asc_snoc.mp a1
        refine ⟨d, mem_level.mpr ⟨b1, fun m hm => a2 m (by simp [hm]), by simpa using a3⟩, List.mem_map.mpr ⟨y, List.mem_filter.mpr ⟨a2 y (by simp), (lastLt_iff b1 y).mpr b2⟩, rfl⟩⟩
theorem mem_chTo {ms : List Int} : ∀ {k : Nat} {c : List Int}, c ∈ chTo ms k ↔ Asc1 c ∧ (∀ m ∈ c, m ∈ ms) ∧ c.length ≤ k
  | 0, c => by
    have := mem_level (ms := ms) (k := 0) (c := c)
    rw [Nat.le_zero]
    exact this
  | k + 1, c => by
    show c ∈ chTo ms k ++ chLevel ms (k + 1) ↔ _
    rw [List.mem_append, mem_chTo, mem_level]
    constructor
    · rintro (⟨a1, a2, a3⟩ | ⟨a1, a2, a3⟩)
      · exact ⟨a1, a2, by omega⟩
      · exact ⟨a1, a2, by omega⟩
    · rintro ⟨a1, a2, a3⟩
      by_cases e : c.length = k + 1
      · exact .inr ⟨a1, a2, e⟩
      · exact .inl ⟨a1, a2, by omega⟩
theorem asc_len {ms : List Int} : ∀ {c : List Int}, Asc1 c → (∀ m ∈ c, m ∈ ms) → c.length ≤ ms.length := fun {c} h1 h2 => nd_sub (h1.imp fun {a b} h => by omega) h2
/-- fewer ones first, then as they ascend -/
def chLt (c d : List Int) : Prop := c.length < d.length ∨ (c.length = d.length ∧ lx c d)
theorem chLt_asym {c d : List Int} (h1 : chLt c d) (h2 : chLt d c) : False := by
  rcases h1 with h1 | ⟨_, g1⟩ <;> rcases h2 with h2 | ⟨_, g2⟩
  · omega
  · omega
  · omega
  · exact lx_asym g1 g2
theorem level_rise {ms : List Int} (h : Asc1 ms) : ∀ k, (chLevel ms k).Pairwise lx
  | 0 => by simp [chLevel]
  | k + 1 => by
    show ((chLevel ms k).flatMap _).Pairwise lx
    rw [List.pairwise_flatMap]
    refine ⟨fun c _ => ?_, (level_rise h k).imp fun {c d} hl u hu v hv => ?_⟩
    · rw [List.pairwise_map]
      exact (List.Pairwise.filter _ h).imp fun {x y} lt => lx_snoc c lt
    · obtain ⟨m, _, rfl⟩ := List.mem_map.mp hu
      obtain ⟨m', _, rfl⟩ := List.mem_map.mp hv
      exact lx_app _ _ hl
theorem chTo_rise {ms : List Int} (h : Asc1 ms) : ∀ k, (chTo ms k).Pairwise chLt
  | 0 => by simp [chTo]
  | k + 1 => by
    show (chTo ms k ++ chLevel ms (k + 1)).Pairwise chLt
    rw [List.pairwise_append]
    refine ⟨chTo_rise h k, ?_, fun c hc d hd => ?_⟩
    · refine List.Pairwise.imp_of_mem (fun {c d} hc hd z => .inr ⟨?_, z⟩) (level_rise h (k + 1))
      rw [(mem_level.mp hc).2.2, (mem_level.mp hd).2.2]
    · have h1 := (mem_chTo.mp hc).2.2
      have h2 := (mem_level.mp hd).2.2
      exact .inl (by omega)
theorem mem_raw {ms : List Int} (h : Asc1 ms) {c : List Int} : c ∈ choicesRaw ms ↔ Asc1 c ∧ ∀ m ∈ c, m ∈ ms := by
  have key : ∀ (n : Nat) (ms : List Int), ms.length = n → Asc1 ms → ∀ c, c ∈ choicesRaw ms ↔ Asc1 c ∧ ∀ m ∈ c, m ∈ ms := by
    intro n
    induction n with
    | zero =>
      intro ms e h c
      obtain rfl := List.length_eq_zero_iff.mp e
      show c ∈ [[]] ↔ _
      rw [List.mem_singleton]
      constructor
      · rintro rfl
        exact ⟨.nil, fun _ h => nomatch h⟩
      · rintro ⟨_, h⟩
        cases c with
        | nil => rfl
        | cons x c => exact absurd (h x List.mem_cons_self) (by simp)
    | succ n ih =>
      intro ms e h c
      rcases snoc_cases ms with rfl | ⟨ds, m, rfl⟩
      · simp at e
      · obtain ⟨h1, h2⟩ := asc_snoc.mp h
        have ih' := ih ds (by simpa using e) h1
        rw [raw_succ, List.mem_append, ih', List.mem_map]
        constructor
        · rintro (⟨a1, a2⟩ | ⟨d, hd, rfl⟩)
          · exact ⟨a1, fun x hx => by simp [a2 x hx]⟩
          · obtain ⟨a1, a2⟩ := (ih' d).mp hd
            refine ⟨asc_snoc.mpr ⟨a1, fun x hx => h2 x (a2 x hx)⟩, fun x hx => ?_⟩
            rcases List.mem_append.mp hx with q | q
            · simp [a2 x q]
            · simp [List.mem_singleton.mp q]
        · rintro ⟨a1, a2⟩
          by_cases hm : m ∈ c
          · right
            rcases snoc_cases c with rfl | ⟨d, y, rfl⟩
            · cases hm
            · obtain ⟨b1, b2⟩ := asc_snoc.mp a1
              have ym : y = m := by
                rcases List.mem_append.mp hm with q | q
                · have hy := b2 m q
                  rcases List.mem_append.mp (a2 y (by simp)) with z | z
                  · have := h2 y z
                    omega
                  · exact List.mem_singleton.mp z
                · exact (List.mem_singleton.mp q).symm
              subst ym
              refine ⟨d, (ih' d).mpr ⟨b1, fun x hx => ?_⟩, rfl⟩
              rcases List.mem_append.mp (a2 x (by simp [hx])) with z | z
              · exact z
              · have := b2 x hx
                rw [List.mem_singleton.mp z] at this
                omega
          · left
            refine ⟨a1, fun x hx => ?_⟩
            rcases List.mem_append.mp (a2 x hx) with z | z
            · exact z
            · exact absurd (List.mem_singleton.mp z ▸ hx) hm
  exact key _ ms rfl h c
theorem key_lt (c d : List Int) : PySem.W.dataLt (keyD c) (keyD d) = decide (c.length < d.length ∨ (c.length = d.length ∧ c < d)) := by
  unfold keyD
  have a1 : PySem.W.alike (.int (c.length : Int)) (.int (d.length : Int)) = true := by simp [PySem.W.alike]
  have a2 : PySem.W.alike (.tuple (c.map .int)) (.tuple (d.map .int)) = true := by
    rw [PySem.W.alike]
    exact alike_ints c d
  rw [PySem.W.dataLt_pair a1 a2, PySem.W.dataLt_int, PySem.W.dataLt_tuple]
  have e2 : PySem.W.rowLt (c.map .int) (d.map .int) = decide (c < d) := PySem.W.dataLt_ints c d
  unfold PySem.W.rowLt at e2
  rw [e2]
  have e3 : PyData.eqv (.int (c.length : Int)) (.int (d.length : Int)) = decide (c.length = d.length) := by
    rw [Bool.eq_iff_iff]
    simp only [PyData.eqv, beq_iff_eq, decide_eq_true_eq]
    omega
  rw [e3]
  by_cases l : c.length = d.length
  · rw [if_pos (decide_eq_true l)]
    by_cases eq : PyData.eqv (.tuple (c.map .int)) (.tuple (d.map .int)) = true
    · have : c = d := by
        have key : ∀ (c d : List Int), PyData.eqvAll (c.map .int) (d.map .int) = true → c = d := by
          intro c
          induction c with
          | nil => intro d h; cases d with
            | nil => rfl
            | cons y d => simp [PyData.eqvAll] at h
          | cons x c ih => intro d h; cases d with
            | nil => simp [PyData.eqvAll] at h
            | cons y d =>
              simp only [List.map_cons, PyData.eqvAll, Bool.and_eq_true] at h
              have h1 : x = y := by simpa [PyData.eqv] using h.1
              rw [h1, ih d h.2]
        refine key c d ?_
        rw [PyData.eqv] at eq
        exact eq
      subst this
      rw [if_pos eq]
      simp [List.lt_irrefl]
    · rw [if_neg eq]
      simp [l]
  · rw [if_neg (by simpa using l)]
    simp [l]
theorem choices_eq {ms : List Int} (h : Asc1 ms) : choicesL ms = chTo ms ms.length := by
  have nd : (chTo ms ms.length).Nodup := nd_of (chTo_rise h _) fun _ z => chLt_asym z z
  have mem : ∀ c, c ∈ choicesL ms ↔ c ∈ chTo ms ms.length := fun c => by
    unfold choicesL
    rw [List.mem_mergeSort, mem_raw h, mem_chTo]
    exact ⟨fun ⟨a, b⟩ => ⟨a, b, asc_len a b⟩, fun ⟨a, b, _⟩ => ⟨a, b⟩⟩
  have len : (choicesL ms).length = 2 ^ ms.length := by
    unfold choicesL
    rw [List.length_mergeSort]
    have := (raw_len ms ms.length (Nat.le_refl _)).1
    rwa [List.take_length] at this
  have rnd : (choicesRaw ms).Nodup := by
    have key : ∀ (n : Nat) (ms : List Int), ms.length = n → Asc1 ms → (choicesRaw ms).Nodup := by
      intro n
      induction n with
      | zero =>
        intro ms e _
        obtain rfl := List.length_eq_zero_iff.mp e
        show ([[]] : List (List Int)).Nodup
        simp
      | succ n ih =>
        intro ms e h
        rcases snoc_cases ms with rfl | ⟨ds, m, rfl⟩
        · simp at e
        · obtain ⟨h1, h2⟩ := asc_snoc.mp h
          have ih' := ih ds (by simpa using e) h1
          rw [raw_succ]
          refine List.nodup_append.mpr ⟨ih', ?_, fun a ha b hb e => ?_⟩
          · unfold List.Nodup at ih' ⊢
            rw [List.pairwise_map]
            exact ih'.imp fun {a b} ne e => ne (List.append_cancel_right e)
          · obtain ⟨d, hd, rfl⟩ := List.mem_map.mp hb
            have := ((mem_raw h1).mp ha).2 m (by rw [e]; simp)
            have := h2 m this
            omega
    exact key _ ms rfl h
  have cnd : (choicesL ms).Nodup := by
    unfold choicesL
    exact (List.mergeSort_perm ..).nodup_iff.mpr rnd
  have pm : (choicesL ms).Perm (chTo ms ms.length) := (List.perm_ext_iff_of_nodup cnd nd).mpr mem
  have srt : (choicesL ms).Pairwise chLt := by
    have s1 : (choicesL ms).Pairwise fun a b => PySem.W.dataLe false keyD a b = true := PySem.W.sort_pairwise (PySem.W.sortLe_total _ _ _) _
    have s2 := List.Pairwise.and s1 cnd
    refine s2.imp fun {a b} ⟨z, ne⟩ => ?_
    have z1 : PySem.W.dataLt (keyD b) (keyD a) = false := by
      rw [PySem.W.dataLe_eq] at z
      simpa using z
    rw [key_lt, decide_eq_false_iff_not] at z1
    by_cases l : a.length = b.length
    · rcases lx_total l with e | e | e
      · exact absurd e ne
      · exact .inr ⟨l, e⟩
      · exact absurd (.inr ⟨l.symm, lx_lt e⟩) z1
    · exact .inl (by omega)
  exact pm.eq_of_pairwise (fun a b _ _ h1 h2 => (chLt_asym h1 h2).elim) srt (chTo_rise h _)
theorem uns_asc (ss : List (List Int)) (n : Nat) : Asc1 (unsureL ss n) := by
  unfold unsureL Asc1
  rw [List.pairwise_map]
  exact (List.Pairwise.filter _ List.pairwise_lt_range).imp fun {a b} h => by omega
theorem ch_nd {ms : List Int} (h : Asc1 ms) : (choicesL ms).Nodup := by
  rw [choices_eq h]
  exact nd_of (chTo_rise h _) fun _ z => chLt_asym z z
/-! ### what looks tells -/
theorem alike_none {ss : List (List Int)} {c : List Int} : ∀ n, n ≤ ss.length → alikeTo ss c n = none → ((ss.take n).map fun s => seenAt s c).Nodup
  | 0, _, _ => by simp
  | n + 1, hn, h => by
    unfold alikeTo at h
    cases e : alikeTo ss c n with
    | some p => rw [e] at h; cases h
    | none =>
      rw [e] at h
      have ih := alike_none n (by omega) e
      have en : ss[n]? = some (ss.getD n []) := by rw [List.getD_eq_getElem?_getD, List.getElem?_eq_getElem (by omega)]; rfl
      cases f : (ss.take n).find? (fun s => decide (seenAt s c = seenAt (ss.getD n []) c)) with
      | some s => rw [f] at h; cases h
      | none =>
        rw [List.take_succ, en, List.map_append]
        refine List.nodup_append.mpr ⟨ih, by simp, fun a ha b hb e2 => ?_⟩
        obtain ⟨s, hs, rfl⟩ := List.mem_map.mp ha
        have hb' : b = seenAt (ss.getD n []) c := by simpa using hb
        have := List.find?_eq_none.mp f s hs
        exact this (decide_eq_true (by rw [e2, hb']))
theorem alike_some {ss : List (List Int)} {c : List Int} {p : List Int × List Int} : ∀ n, n ≤ ss.length → alikeTo ss c n = some p → ∃ i j : Nat, i < j ∧ ss[i]? = some p.1 ∧ ss[j]? = some p.2 ∧ seenAt p.1 c = seenAt p.2 c
  | 0, _, h => by cases h
  | n + 1, hn, h => by
    unfold alikeTo at h
    cases e : alikeTo ss c n with
    | some q =>
      rw [e] at h
      cases h
      exact alike_some n (by omega) e
    | none =>
      rw [e] at h
      have en : ss[n]? = some (ss.getD n []) := by rw [List.getD_eq_getElem?_getD, List.getElem?_eq_getElem (by omega)]; rfl
      cases f : (ss.take n).find? (fun s => decide (seenAt s c = seenAt (ss.getD n []) c)) with
      | none => rw [f] at h; cases h
      | some s =>
        rw [f] at h
        cases h
        have h1 := List.mem_of_find?_eq_some f
        obtain ⟨i, hi, ei⟩ := List.getElem_of_mem h1
        have hi' : i < n := by
          rw [List.length_take] at hi
          omega
        refine ⟨i, n, hi', ?_, en, ?_⟩
        · rw [List.getElem_take] at ei
          rw [← ei]
          exact List.getElem?_eq_getElem _
        · have := List.find?_some f
          exact of_decide_eq_true this
theorem looks_go {ss : List (List Int)} : ∀ {cs : List (List Int)} {acc : List (List Int × List Int × List Int)} {r : List Int × List (List Int × List Int × List Int)}, looksGo ss cs acc = some r →
    ∃ i : Nat, cs[i]? = some r.1 ∧ alikeL ss r.1 = none ∧ r.2.map (·.1) = acc.map (·.1) ++ cs.take i ∧ ∀ p ∈ r.2, p ∈ acc ∨ alikeL ss p.1 = some (p.2.1, p.2.2)
  | [], _, _, h => by cases h
  | c :: cs, acc, r, h => by
    unfold looksGo at h
    cases e : alikeL ss c with
    | none =>
      rw [e] at h
      cases h
      exact ⟨0, rfl, e, by simp, fun p hp => .inl hp⟩
    | some q =>
      rw [e] at h
      obtain ⟨i, h1, h2, h3, h4⟩ := looks_go h
      refine ⟨i + 1, by simpa using h1, h2, by rw [h3]; simp, fun p hp => ?_⟩
      rcases h4 p hp with z | z
      · rcases List.mem_append.mp z with y | y
        · exact .inl y
        · rw [List.mem_singleton.mp y]
          exact .inr e
      · exact .inr z
theorem looks_none {ss : List (List Int)} : ∀ {cs : List (List Int)} {acc : List (List Int × List Int × List Int)}, looksGo ss cs acc = none → ∀ c ∈ cs, alikeL ss c ≠ none
  | [], _, _, _, h => nomatch h
  | c :: cs, acc, h, d, hd => by
    unfold looksGo at h
    cases e : alikeL ss c with
    | none => rw [e] at h; cases h
    | some q =>
      rw [e] at h
      rcases List.mem_cons.mp hd with z | z
      · rw [z, e]; simp
      · exact looks_none h d z
theorem sure_same {ss : List (List Int)} {i : Nat} (h : unsureAt ss i = false) {a b : List Int} (ha : a ∈ ss) (hb : b ∈ ss) : a.getD i 0 = b.getD i 0 := by
  have all : ∀ s ∈ ss, s.getD i 0 = (colAt ss i).headD 0 := fun s hs => by
    unfold unsureAt at h
    rw [List.any_eq_false] at h
    have := h (s.getD i 0) (List.mem_map.mpr ⟨s, hs, rfl⟩)
    simpa using this
  rw [all a ha, all b hb]
theorem looks_some {ss : List (List Int)} {n : Nat} (nd : ss.Nodup) (hl : ∀ s ∈ ss, s.length = n) : ∃ r, looksL ss n = some r := by
  cases e : looksL ss n with
  | some r => exact ⟨r, rfl⟩
  | none =>
    exfalso
    have hc : unsureL ss n ∈ choicesL (unsureL ss n) := by
      rw [choices_eq (uns_asc ss n), mem_chTo]
      exact ⟨uns_asc ss n, fun _ h => h, Nat.le_refl _⟩
    cases f : alikeL ss (unsureL ss n) with
    | none => exact looks_none e _ hc f
    | some p =>
      obtain ⟨i, j, lt, h1, h2, h3⟩ := alike_some ss.length (Nat.le_refl _) f
      have m1 := List.mem_of_getElem? h1
      have m2 := List.mem_of_getElem? h2
      have eq : p.1 = p.2 := by
        refine List.ext_getElem? fun k => ?_
        by_cases hk : k < n
        · have g1 : p.1[k]? = some (p.1.getD k 0) := by rw [List.getD_eq_getElem?_getD, List.getElem?_eq_getElem (by rw [hl _ m1]; exact hk)]; rfl
          have g2 : p.2[k]? = some (p.2.getD k 0) := by rw [List.getD_eq_getElem?_getD, List.getElem?_eq_getElem (by rw [hl _ m2]; exact hk)]; rfl
          rw [g1, g2]
          congr 1
          by_cases u : unsureAt ss k = true
          · have mk : ((k + 1 : Nat) : Int) ∈ unsureL ss n := List.mem_map.mpr ⟨k, List.mem_filter.mpr ⟨List.mem_range.mpr hk, u⟩, rfl⟩
            unfold seenAt at h3
            have := List.map_inj_left.mp h3 _ mk
            rw [show (((k + 1 : Nat) : Int) - 1).toNat = k by omega] at this
            exact this
          · exact sure_same (Bool.eq_false_iff.mpr u) m1 m2
        · rw [List.getElem?_eq_none (by rw [hl _ m1]; omega), List.getElem?_eq_none (by rw [hl _ m2]; omega)]
      rw [eq] at h1
      obtain ⟨i1, e1⟩ := List.getElem?_eq_some_iff.mp h1
      obtain ⟨j1, e2⟩ := List.getElem?_eq_some_iff.mp h2
      exact absurd ((List.getElem_inj nd).mp (e1.trans e2.symm)) (by omega)
end IC
namespace IC
open PySem L2
/-! ### the levels, by trying all -/
theorem stS_pre {s t : List Int} {i : Nat} (h : i ≤ s.length) : stS (s ++ t) i = stS s i := by
  cases i with
  | zero => rfl
  | succ i =>
    show (s ++ t).getD i 0 = s.getD i 0
    rw [List.getD_eq_getElem?_getD, List.getD_eq_getElem?_getD, List.getElem?_append_left (by omega)]
theorem sum_pre (kn : Kn) (late : Int) (T : Nat) {s t : List Int} : ∀ {i : Nat}, i ≤ s.length → sumTo kn late T (s ++ t) i = sumTo kn late T s i
  | 0, _ => rfl
  | i + 1, h => by
    rw [sum_step, sum_step, sum_pre kn late T (by omega), stS_pre (by omega), stS_pre h]
theorem stS_snoc {s : List Int} {o : Int} {i : Nat} (h : s.length = i) : stS (s ++ [o]) (i + 1) = o := by
  show (s ++ [o]).getD i 0 = o
  rw [List.getD_eq_getElem?_getD, List.getElem?_append_right (by omega), h, Nat.sub_self]
  rfl
theorem sum_snoc7 (kn : Kn) (late : Int) (T : Nat) {s : List Int} {o : Int} {i : Nat} (h : s.length = i) : sumTo kn late T (s ++ [o]) (i + 1) = sumTo kn late T s i + stepP kn late T ((i + 1 : Nat) : Int) (stS s i) o := by
  rw [sum_step, sum_pre kn late T (by omega), stS_pre (by omega), stS_snoc h]
theorem filt_flat {α β : Type} {p : α → Bool} {F : α → List β} : ∀ {l : List α}, (∀ x ∈ l, p x = false → F x = []) → (l.filter p).flatMap F = l.flatMap F
  | [], _ => rfl
  | x :: l, h => by
    have ih := filt_flat (p := p) (F := F) (l := l) fun y hy => h y (List.mem_cons_of_mem _ hy)
    rw [List.filter_cons, List.flatMap_cons]
    cases e : p x with
    | true => rw [if_pos rfl, List.flatMap_cons, ih]
    | false => rw [if_neg (by decide), ih, h x List.mem_cons_self e, List.nil_append]
theorem flatMap_congr' {α β : Type} {F G : α → List β} : ∀ {l : List α}, (∀ x ∈ l, F x = G x) → l.flatMap F = l.flatMap G
  | [], _ => rfl
  | x :: l, h => by rw [List.flatMap_cons, List.flatMap_cons, h x List.mem_cons_self, flatMap_congr' fun y hy => h y (List.mem_cons_of_mem _ hy)]
def okAt (kn : Kn) (late : Int) (T : Nat) (most : Int) (i : Nat) (s : List Int) : Bool := decide (sumTo kn late T s i + selI (behindP kn late T (T - i)) (stS s i) ≤ most)
def itOf (kn : Kn) (late : Int) (T i : Nat) (s : List Int) : It := (s, stS s i, sumTo kn late T s i)
section
variable {kn : Kn} {late : Int} {T : Nat} {most : Int}
theorem behind_step {i : Nat} (hi : i < T) : behindP kn late T (T - i) = (min ((behindP kn late T (T - (i + 1))).1 + stepP kn late T ((i + 1 : Nat) : Int) 0 0) ((behindP kn late T (T - (i + 1))).2 + stepP kn late T ((i + 1 : Nat) : Int) 0 1), min ((behindP kn late T (T - (i + 1))).1 + stepP kn late T ((i + 1 : Nat) : Int) 1 0) ((behindP kn late T (T - (i + 1))).2 + stepP kn late T ((i + 1 : Nat) : Int) 1 1)) := by
  obtain ⟨k, hk⟩ : ∃ k, T - i = k + 1 := ⟨T - (i + 1), by omega⟩
  rw [hk, show T - (i + 1) = k by omega]
  have e : ((T : Int) - (k : Int)) = ((i + 1 : Nat) : Int) := by omega
  show (_, _) = _
  rw [← e]
theorem down {i : Nat} (hi : i < T) {a : Int} (ha : a = 0 ∨ a = 1) (o : Nat) (ho : o < 2) : selI (behindP kn late T (T - i)) a ≤ stepP kn late T ((i + 1 : Nat) : Int) a o + selI (behindP kn late T (T - (i + 1))) (o : Int) := by
  rw [behind_step hi]
  obtain rfl | rfl : o = 0 ∨ o = 1 := by omega
  · rcases ha with rfl | rfl
    · show min _ _ ≤ stepP kn late T _ 0 0 + (behindP kn late T (T - (i + 1))).1
      omega
    · show min _ _ ≤ stepP kn late T _ 1 0 + (behindP kn late T (T - (i + 1))).1
      omega
  · rcases ha with rfl | rfl
    · show min _ _ ≤ stepP kn late T _ 0 1 + (behindP kn late T (T - (i + 1))).2
      omega
    · show min _ _ ≤ stepP kn late T _ 1 1 + (behindP kn late T (T - (i + 1))).2
      omega
theorem some_down {i : Nat} (hi : i < T) {a : Int} (ha : a = 0 ∨ a = 1) : ∃ o : Nat, o < 2 ∧ selI (behindP kn late T (T - i)) a = stepP kn late T ((i + 1 : Nat) : Int) a o + selI (behindP kn late T (T - (i + 1))) (o : Int) := by
  rw [behind_step hi]
  rcases ha with rfl | rfl
  · rcases Int.le_total ((behindP kn late T (T - (i + 1))).1 + stepP kn late T ((i + 1 : Nat) : Int) 0 0) ((behindP kn late T (T - (i + 1))).2 + stepP kn late T ((i + 1 : Nat) : Int) 0 1) with e | e
    · exact ⟨0, by decide, by show min _ _ = stepP kn late T _ 0 0 + (behindP kn late T (T - (i + 1))).1; omega⟩
    · exact ⟨1, by decide, by show min _ _ = stepP kn late T _ 0 1 + (behindP kn late T (T - (i + 1))).2; omega⟩
  · rcases Int.le_total ((behindP kn late T (T - (i + 1))).1 + stepP kn late T ((i + 1 : Nat) : Int) 1 0) ((behindP kn late T (T - (i + 1))).2 + stepP kn late T ((i + 1 : Nat) : Int) 1 1) with e | e
    · exact ⟨0, by decide, by show min _ _ = stepP kn late T _ 1 0 + (behindP kn late T (T - (i + 1))).1; omega⟩
    · exact ⟨1, by decide, by show min _ _ = stepP kn late T _ 1 1 + (behindP kn late T (T - (i + 1))).2; omega⟩
/-- one story's longer ones -/
theorem one_next {i : Nat} {s : List Int} (hs : s.length = i) : (List.range 2).flatMap (stOne kn late T (i + 1) (behindP kn late T (T - (i + 1))) most (itOf kn late T i s)) = ((two2 s).filter (okAt kn late T most (i + 1))).map (itOf kn late T (i + 1)) := by
  have key : ∀ o : Nat, o < 2 → stOne kn late T (i + 1) (behindP kn late T (T - (i + 1))) most (itOf kn late T i s) o = ([s ++ [(o : Int)]].filter (okAt kn late T most (i + 1))).map (itOf kn late T (i + 1)) := fun o ho => by
    unfold stOne okAt itOf
    have e1 := sum_snoc7 kn late T (o := (o : Int)) hs
    have e2 := stS_snoc (o := (o : Int)) hs
    rw [List.filter_cons, e1, e2, sel_selI _ ho]
    simp only [decide_eq_true_eq]
    split
    · rw [List.filter_nil, List.map_cons, List.map_nil, e1, e2]
    · rfl
  have r2 : List.range 2 = [0, 1] := rfl
  rw [r2, List.flatMap_cons, List.flatMap_cons, List.flatMap_nil, List.append_nil, key 0 (by decide), key 1 (by decide), ← List.map_append, ← List.filter_append]
  rfl
theorem lvl_all (h0 : (behindP kn late T T).1 ≤ most) : ∀ i, i ≤ T → lvl kn late T most i = ((allS i).filter (okAt kn late T most i)).map (itOf kn late T i)
  | 0, _ => by
    have : okAt kn late T most 0 [] = true := by
      unfold okAt
      rw [decide_eq_true_eq]
      show (0 : Int) + (behindP kn late T (T - 0)).1 ≤ most
      rw [Nat.sub_zero, Int.zero_add]
      exact h0
    show [([], 0, 0)] = (([[]] : List (List Int)).filter (okAt kn late T most 0)).map (itOf kn late T 0)
    rw [List.filter_cons, if_pos this]
    rfl
  | i + 1, hi => by
    have ih := lvl_all h0 i (by omega)
    show stNext kn late T (i + 1) _ most (lvl kn late T most i) = _
    rw [ih]
    unfold stNext
    rw [List.flatMap_map]
    have step1 : ((allS i).filter (okAt kn late T most i)).flatMap (fun s => (List.range 2).flatMap (stOne kn late T (i + 1) (behindP kn late T (T - (i + 1))) most (itOf kn late T i s))) = ((allS i).filter (okAt kn late T most i)).flatMap (fun s => ((two2 s).filter (okAt kn late T most (i + 1))).map (itOf kn late T (i + 1))) :=
      flatMap_congr' fun s hs => one_next (mem_allS.mp (List.mem_filter.mp hs).1).1
    rw [step1, filt_flat]
    · show _ = (((allS i).flatMap two2).filter _).map _
      rw [List.filter_flatMap, List.map_flatMap]
    · intro s hs e
      obtain ⟨l, bin⟩ := mem_allS.mp hs
      have e' : ¬ (sumTo kn late T s i + selI (behindP kn late T (T - i)) (stS s i) ≤ most) := by
        unfold okAt at e
        exact of_decide_eq_false e
      have none : ∀ o : Nat, o < 2 → okAt kn late T most (i + 1) (s ++ [(o : Int)]) = false := fun o ho => by
        unfold okAt
        rw [sum_snoc7 kn late T l, stS_snoc l]
        refine decide_eq_false fun z => e' ?_
        have := down (kn := kn) (late := late) (T := T) (i := i) (by omega) (stS01 bin i) o ho
        omega
      have n0 := none 0 (by decide)
      have n1 := none 1 (by decide)
      show ([s ++ [((0 : Nat) : Int)], s ++ [((1 : Nat) : Int)]].filter _).map _ = []
      rw [List.filter_cons, if_neg (by rw [n0]; decide), List.filter_cons, if_neg (by rw [n1]; decide)]
      rfl
theorem lvl_mono (h0 : (behindP kn late T T).1 ≤ most) {i : Nat} (hi : i < T) : (lvl kn late T most i).length ≤ (lvl kn late T most (i + 1)).length := by
  have e : lvl kn late T most (i + 1) = stNext kn late T (i + 1) (behindP kn late T (T - (i + 1))) most (lvl kn late T most i) := rfl
  rw [e]
  have pos : ∀ x ∈ lvl kn late T most i, 1 ≤ ((List.range 2).flatMap (stOne kn late T (i + 1) (behindP kn late T (T - (i + 1))) most x)).length := fun x hx => by
    rw [lvl_all h0 i (by omega)] at hx
    obtain ⟨s, hs, rfl⟩ := List.mem_map.mp hx
    obtain ⟨m1, m2⟩ := List.mem_filter.mp hs
    obtain ⟨l, bin⟩ := mem_allS.mp m1
    rw [one_next l, List.length_map]
    unfold okAt at m2
    rw [decide_eq_true_eq] at m2
    obtain ⟨o, ho, eo⟩ := some_down (kn := kn) (late := late) (T := T) hi (stS01 bin i)
    have hm : s ++ [(o : Int)] ∈ (two2 s).filter (okAt kn late T most (i + 1)) := by
      rw [List.mem_filter]
      refine ⟨?_, ?_⟩
      · obtain rfl | rfl : o = 0 ∨ o = 1 := by omega
        · exact List.mem_cons_self
        · exact List.mem_cons_of_mem _ (List.mem_singleton.mpr rfl)
      · unfold okAt
        rw [sum_snoc7 kn late T l, stS_snoc l, decide_eq_true_eq]
        omega
    exact List.length_pos_of_mem hm
  have key : ∀ l : List It, (∀ x ∈ l, 1 ≤ ((List.range 2).flatMap (stOne kn late T (i + 1) (behindP kn late T (T - (i + 1))) most x)).length) → l.length ≤ (stNext kn late T (i + 1) (behindP kn late T (T - (i + 1))) most l).length := by
    intro l
    induction l with
    | nil => intro _; exact Nat.zero_le _
    | cons x l ih =>
      intro h
      have h1 := h x List.mem_cons_self
      have h2 := ih fun y hy => h y (List.mem_cons_of_mem _ hy)
      unfold stNext at h2 ⊢
      rw [List.flatMap_cons, List.length_append, List.length_cons]
      omega
  exact key _ pos
theorem lvl_le (h0 : (behindP kn late T T).1 ≤ most) : ∀ k i, i + k = T → (lvl kn late T most i).length ≤ (lvl kn late T most T).length
  | 0, i, e => by rw [show i = T by omega]; exact Nat.le_refl _
  | k + 1, i, e => Nat.le_trans (lvl_mono h0 (by omega)) (lvl_le h0 k (i + 1) (by omega))
end
theorem start_le {h : Hs} {T b : Nat} (o : HsOk h T) (hT : T ≤ 60) (s : soundH h = true) (hb : b < h.kns.length) (hnow : h.now = T) : (behindP (h.kns.getD b []) h.late T T).1 ≤ mostPr h T b := by
  have nt : noTwice (wantsOf b (h.kns.getD b []) h.late T) := fun x hx => (sound_iff s).1 x (by unfold allWants; rw [hnow]; exact mem_aw.mpr ⟨b, hb, hx⟩)
  have l1 := (least_once (o.at hb) hT b h.late nt).1
  have sp := (spare_sum o s).2
  have tm := tot_min' (h.kns.getD b []) h.late (Nat.zero_le T)
  have bn := behind_nn (h.kns.getD b []) h.late T T
  have e0 : totP (h.kns.getD b []) h.late T 0 0 = (behindP (h.kns.getD b []) h.late T T).1 := by
    unfold totP sel
    show (0 : Int) + _ = _
    rw [if_pos rfl]
    exact Int.zero_add _
  have e1 : totP (h.kns.getD b []) h.late T 0 1 = NEV + (behindP (h.kns.getD b []) h.late T T).2 := rfl
  unfold mostPr
  omega
/-- the stories that stand, by trying all -/
def stood (h : Hs) (T b : Nat) : List (List Int) := (allS T).filter fun s => decide (sumTo (h.kns.getD b []) h.late T s T ≤ mostPr h T b)
theorem sts_all {h : Hs} {T b : Nat} (o : HsOk h T) (s : soundH h = true) (hb : b < h.kns.length) : stsL h T b = stood h T b := by
  unfold stsL lvlH stood
  rw [lvl_all (start_le o o.tm.le s hb o.tm.now) T (Nat.le_refl _), List.map_map]
  have e : (okAt (h.kns.getD b []) h.late T (mostPr h T b) T) = fun s => decide (sumTo (h.kns.getD b []) h.late T s T ≤ mostPr h T b) := by
    funext s
    unfold okAt
    rw [Nat.sub_self]
    have : selI (behindP (h.kns.getD b []) h.late T 0) (stS s T) = 0 := by
      show selI (0, 0) _ = 0
      unfold selI
      split <;> rfl
    rw [this, Int.add_zero]
  rw [e]
  exact List.map_id _
theorem many_iff {h : Hs} {T b : Nat} (o : HsOk h T) (s : soundH h = true) (hb : b < h.kns.length) : manyS h T b ↔ 200 < (stsL h T b).length := by
  have h0 := start_le o o.tm.le s hb o.tm.now
  have e : (stsL h T b).length = (lvlH h T b T).length := by unfold stsL; rw [List.length_map]
  rw [e]
  constructor
  · rintro ⟨i, hi, hl⟩
    have := lvl_le h0 (T - i) i (by omega)
    unfold lvlH at hl ⊢
    omega
  · intro hl
    exact ⟨T, Nat.le_refl _, hl⟩
/-! ### the law's own count -/
def wayN (kn : Kn) (late : Int) (T : Nat) (lost : Int) (i : Nat) (p : Int × Int) : List (Int × Int) := [((0 : Int), p.2 + stepP kn late T ((i + 1 : Nat) : Int) p.1 0), ((1 : Int), p.2 + stepP kn late T ((i + 1 : Nat) : Int) p.1 1)].filter fun q => decide (q.2 ≤ lost)
def waysP (kn : Kn) (late : Int) (T : Nat) (lost : Int) (i : Nat) : List (Int × Int) := ((allS i).map fun s => (stS s i, sumTo kn late T s i)).filter fun q => decide (q.2 ≤ lost)
theorem step_nn7 (kn : Kn) (late now m a b : Int) : 0 ≤ stepP kn late now m a b := by
  unfold stepP turnP NEV
  split
  · split
    · dsimp only
      split <;> decide
    · decide
  · dsimp only
    split <;> decide
theorem ways_step (kn : Kn) (late : Int) (T : Nat) (lost : Int) (i : Nat) : waysP kn late T lost (i + 1) = (waysP kn late T lost i).flatMap (wayN kn late T lost i) := by
  unfold waysP
  rw [filt_flat]
  · rw [List.flatMap_map]
    show (((allS i).flatMap two2).map _).filter _ = _
    rw [List.map_flatMap, List.filter_flatMap]
    refine flatMap_congr' fun s hs => ?_
    have l := (mem_allS.mp hs).1
    unfold wayN two2
    rw [List.map_cons, List.map_cons, List.map_nil, sum_snoc7 kn late T l, sum_snoc7 kn late T l, stS_snoc l, stS_snoc l]
  · intro p hp e
    have e' : ¬ p.2 ≤ lost := of_decide_eq_false e
    unfold wayN
    have n0 := step_nn7 kn late T ((i + 1 : Nat) : Int) p.1 0
    have n1 := step_nn7 kn late T ((i + 1 : Nat) : Int) p.1 1
    have b0 : ¬ p.2 + stepP kn late T ((i + 1 : Nat) : Int) p.1 0 ≤ lost := by omega
    have b1 : ¬ p.2 + stepP kn late T ((i + 1 : Nat) : Int) p.1 1 ≤ lost := by omega
    rw [List.filter_cons, if_neg (fun z => b0 (of_decide_eq_true z)), List.filter_cons, if_neg (fun z => b1 (of_decide_eq_true z))]
    rfl
theorem ways_end {h : Hs} {T b : Nat} (o : HsOk h T) (s : soundH h = true) (hb : b < h.kns.length) : ((waysP (h.kns.getD b []) h.late T h.lost T).filter fun k => decide (k.2 + othersN h b ≤ h.lost)).length = (stsL h T b).length := by
  rw [sts_all o s hb]
  have ot := (others_is o s hb).1
  have em : mostPr h T b = h.lost - othersN h b := by
    unfold mostPr leastH at *
    omega
  unfold waysP stood
  rw [List.filter_filter, List.filter_map, List.length_map]
  congr 1
  refine List.filter_congr fun s _ => ?_
  show (decide _ && decide _) = decide _
  rw [em]
  by_cases z : sumTo (h.kns.getD b []) h.late T s T ≤ h.lost - othersN h b
  · simp only [decide_eq_true z, Bool.and_eq_true, decide_eq_true_eq]
    omega
  · have z' : ¬ (sumTo (h.kns.getD b []) h.late T s T + othersN h b ≤ h.lost) := by omega
    rw [decide_eq_false z]
    show (decide (sumTo (h.kns.getD b []) h.late T s T + othersN h b ≤ h.lost) && _) = false
    rw [decide_eq_false z']
    rfl
/-! ### counted in a dict -/
abbrev KN := List ((Int × Int) × Nat)
def addN : KN → Int × Int → Nat → KN
  | [], k, c => [(k, c)]
  | e :: r, k, c => if e.1 = k then (k, e.2 + c) :: r else e :: addN r k c
def lookN (kv : KN) (k : Int × Int) : Nat := ((kv.find? fun e => decide (e.1 = k)).map (·.2)).getD 0
def expN (kv : KN) : List (Int × Int) := kv.flatMap fun e => List.replicate e.2 e.1
theorem addN_keys : ∀ (kv : KN) (k : Int × Int) (c : Nat), ∀ x ∈ (addN kv k c).map (·.1), x = k ∨ x ∈ kv.map (·.1)
  | [], k, c, x, h => by
    have : x = k := by simpa [addN] using h
    exact .inl this
  | e :: r, k, c, x, h => by
    unfold addN at h
    split at h
    · rcases List.mem_cons.mp h with z | z
      · exact .inl z
      · exact .inr (List.mem_cons_of_mem _ z)
    · rcases List.mem_cons.mp h with z | z
      · exact .inr (by rw [z]; exact List.mem_cons_self)
      · rcases addN_keys r k c x z with y | y
        · exact .inl y
        · exact .inr (List.mem_cons_of_mem _ y)
theorem addN_nd : ∀ {kv : KN} {k : Int × Int} {c : Nat}, (kv.map (·.1)).Nodup → ((addN kv k c).map (·.1)).Nodup
  | [], k, c, _ => by simp [addN]
  | e :: r, k, c, h => by
    obtain ⟨h1, h2⟩ := List.nodup_cons.mp (show (e.1 :: r.map (·.1)).Nodup from h)
    unfold addN
    split
    · rename_i z
      rw [z] at h1
      exact List.nodup_cons.mpr ⟨h1, h2⟩
    · rename_i z
      refine List.nodup_cons.mpr ⟨fun hm => ?_, addN_nd h2⟩
      rcases addN_keys r k c e.1 hm with y | y
      · exact z y
      · exact h1 y
theorem addN_exp : ∀ (kv : KN) (k : Int × Int) (c : Nat), (expN (addN kv k c)).Perm (expN kv ++ List.replicate c k)
  | [], k, c => by
    unfold addN expN
    simp
  | e :: r, k, c => by
    unfold addN
    split
    · rename_i z
      show (List.replicate (e.2 + c) k ++ expN r).Perm (List.replicate e.2 e.1 ++ expN r ++ List.replicate c k)
      rw [z, ← List.replicate_append_replicate, List.append_assoc, List.append_assoc]
      exact (List.perm_append_comm).append_left _
    · show (List.replicate e.2 e.1 ++ expN (addN r k c)).Perm (List.replicate e.2 e.1 ++ expN r ++ List.replicate c k)
      rw [List.append_assoc]
      exact (addN_exp r k c).append_left _
theorem exp_flat {g : Int × Int → List (Int × Int)} : ∀ (kv : KN), ((expN kv).flatMap g).Perm (kv.flatMap fun e => (g e.1).flatMap fun k => List.replicate e.2 k) := by
  intro kv
  have one : ∀ (n : Nat) (l : List (Int × Int)), ((List.replicate n l).flatten).Perm (l.flatMap fun k => List.replicate n k) := by
    intro n l
    induction n with
    | zero =>
      have : (l.flatMap fun k => List.replicate 0 k) = [] := by
        induction l with
        | nil => rfl
        | cons x l ih => rw [List.flatMap_cons, ih]; rfl
      rw [this]
      exact List.Perm.refl _
    | succ n ih =>
      have e : (l.flatMap fun k => List.replicate (n + 1) k).Perm (l ++ l.flatMap fun k => List.replicate n k) := by
        clear ih
        induction l with
        | nil => exact List.Perm.refl _
        | cons x l ih =>
          rw [List.flatMap_cons, List.flatMap_cons, List.replicate_succ, List.cons_append, List.cons_append]
          refine List.Perm.cons x ?_
          refine (ih.append_left _).trans ?_
          rw [← List.append_assoc, ← List.append_assoc]
          exact (List.perm_append_comm).append_right _
      rw [List.replicate_succ, List.flatten_cons]
      exact (ih.append_left l).trans e.symm
  induction kv with
  | nil => exact List.Perm.refl _
  | cons e r ih =>
    show ((List.replicate e.2 e.1 ++ expN r).flatMap g).Perm _
    rw [List.flatMap_append, List.flatMap_cons]
    refine List.Perm.append ?_ ih
    have : (List.replicate e.2 e.1).flatMap g = (List.replicate e.2 (g e.1)).flatten := by
      rw [List.flatMap_def, List.map_replicate]
    rw [this]
    exact one e.2 (g e.1)
theorem exp_filt {p : Int × Int → Bool} : ∀ (kv : KN), ((expN kv).filter p).length = ((kv.filter fun e => p e.1).map (·.2)).sum
  | [] => rfl
  | e :: r => by
    show ((List.replicate e.2 e.1 ++ expN r).filter p).length = _
    rw [List.filter_append, List.length_append, exp_filt r, List.filter_replicate, List.filter_cons]
    split
    · rw [List.length_replicate, List.map_cons, List.sum_cons]
    · simp
end IC
namespace IC
open PySem PySem.Spec PyProof.Rows L2
/-- {(..): v} -/
def tDisp1T (tk tv : TE) : TE := fun σ H Q => ∀ p, H p = none → tk σ (L2.upd H p (.dT [])) fun x H1 => tv σ H1 fun y H2 => H2 p = some (.dT []) ∧ ∃ (b : Addr) (k : List Key), x = .ref b ∧ H2 b = some (.tup (k.map kV)) ∧ Q (.ref p) (L2.upd H2 p (.dT [(k, y)]))
def onePair (f : V → V → Hp → Prop) : List (V × V) → Hp → Prop
  | [(x, y)], H => f x y H
  | _, _ => False
theorem pe_disp1T {X : Cx} {pos : Pos} {k v : Expr} {tk tv : TE} (hu : X.A.units + 1 < cLine) (hk : PE X k tk) (hv : PE X v tv) : PE X (.Dict [some k] [v] pos) (tDisp1T tk tv) := by
  refine ⟨fun pins s σ H Q I q => ?_⟩
  have new := I.hok.fresh (Nat.le_refl s.heap.objs.size)
  have I1 := I.laid (a := s.heap.objs.size) (o := .dT []) (h' := s.heap.push { cls := .type "dict", data := .dict #[] }) (t' := s.toks) (fun _ _ z => Heap.get?_push_of_some _ z) (Nat.le_refl _) (dt_empty s.heap I.big)
  have q1 : tPairs [(tk, tv)] σ (L2.upd H s.heap.objs.size (.dT [])) (onePair fun x y H2 => H2 s.heap.objs.size = some (.dT []) ∧ ∃ (b : Addr) (k : List Key), x = .ref b ∧ H2 b = some (.tup (k.map kV)) ∧ Q (.ref s.heap.objs.size) (L2.upd H2 s.heap.objs.size (.dT [(k, y)]))) := q _ new
  refine wpAny_Dict_any (by rfl) rfl (by simp) (by show 1 ≤ 15; decide) (thn ((pps_cons hk hv pps_nil).run pins _ σ _ _ I1 q1) fun ws s2 hh => ?_)
  obtain ⟨ps, H2, I2, rel, qq⟩ := hh
  cases rel with
  | nil => exact False.elim qq
  | @cons p1 w1 ps2 ws2 r1 r2 =>
    cases r2 with
    | cons _ _ => obtain ⟨x, y⟩ := p1; exact False.elim qq
    | nil =>
      obtain ⟨x, y⟩ := p1
      obtain ⟨hp, b, kk, rfl, hb, q2⟩ := qq
      obtain ⟨u, r⟩ := w1
      obtain ⟨ru, rr⟩ := r1
      have eu : u = Value.ref b := ru
      subst eu
      obtain ⟨z, hd, xs, rl, dd⟩ := dt_of I2.hok hp
      cases rl
      unfold storeAll
      rw [List.forIn_cons]
      refine wpAny_bind ?_
      refine wpAny_bind (wpAny_dictSet_heap (knd := tupleKind (mixKind X.prog X.w)) (k := kk) (xs := []) (by show X.A.units < cLine; omega) (key_of I2.hok hb) dd (fun h' dd' hs => ?_) (by show 0 ≤ sizeLine; exact Nat.zero_le _))
      refine wpAny_pure ?_
      dsimp only
      rw [List.forIn_nil]
      refine wpAny_pure ?_
      obtain ⟨o2, es, ep, hq, h2, h3, h4, _, h5⟩ := dd'
      have hl : (putK ([] : List (List Key × V)) kk y).length ≤ sizeLine := by show 1 ≤ sizeLine; decide
      have J := d_write (t' := s2.toks + (tupleKind (mixKind X.prog X.w)).draws kk) (ob := .dT (putK [] kk y)) I2 (by rw [hp]; exact True.intro) hs ⟨o2, hq⟩ ⟨hl, hd, _, (KT.put (kvs := []) (xs := []) .nil kk hb rr).keeps fun c ys ec => (by
        rw [upd_ne (ne_of ec hp (fun z => nomatch z))]
        exact ec), o2, es, ep, hq, h2, h3, h4, h5⟩
      exact ⟨.ref s.heap.objs.size, _, J, rfl, q2⟩
end IC
namespace IC
open PySem L2
/-! ### counts in a dict keyed by pairs -/
def eK (k : Int × Int) : List Key := [Sum.inl k.1, Sum.inl k.2]
theorem eK_inj {a b : Int × Int} (h : eK a = eK b) : a = b := by
  unfold eK at h
  injection h with h1 h2
  injection h2 with h2 _
  exact Prod.ext (Sum.inl.inj h1) (Sum.inl.inj h2)
def encN (kv : KN) : List (List Key × V) := kv.map fun e => (eK e.1, V.int (e.2 : Int))
theorem val_cons {k k' : List Key} {v : V} {r : List (List Key × V)} : valV ((k', v) :: r) k = if k' = k then some v else valV r k := by
  unfold valV
  rw [List.find?_cons]
  by_cases e : k' = k
  · rw [decide_eq_true e, if_pos e]
    rfl
  · rw [decide_eq_false e, if_neg e]
theorem val_look : ∀ (kv : KN) (k : Int × Int), (valV (encN kv) (eK k)).getD (.int 0) = .int (lookN kv k : Nat)
  | [], _ => rfl
  | e :: r, k => by
    show (valV ((eK e.1, V.int (e.2 : Int)) :: encN r) (eK k)).getD _ = _
    rw [val_cons]
    unfold lookN
    rw [List.find?_cons]
    by_cases z : e.1 = k
    · rw [if_pos (by rw [z]), decide_eq_true z]
      rfl
    · rw [if_neg (fun q => z (eK_inj q)), decide_eq_false z]
      exact val_look r k
theorem val_at : ∀ {kv : KN} {j : Nat} {e : (Int × Int) × Nat}, (kv.map (·.1)).Nodup → kv[j]? = some e → valV (encN kv) (eK e.1) = some (.int (e.2 : Int))
  | [], _, _, _, h => by simp at h
  | x :: r, 0, e, _, h => by
    have : x = e := by simpa using h
    subst this
    show valV ((eK x.1, _) :: encN r) _ = _
    rw [val_cons, if_pos rfl]
  | x :: r, j + 1, e, nd, h => by
    obtain ⟨n1, n2⟩ := List.nodup_cons.mp (show (x.1 :: r.map (·.1)).Nodup from nd)
    have h' : r[j]? = some e := by simpa using h
    show valV ((eK x.1, _) :: encN r) _ = _
    rw [val_cons, if_neg (fun q => n1 (by rw [eK_inj q]; exact List.mem_map.mpr ⟨e, List.mem_of_getElem? h', rfl⟩))]
    exact val_at n2 h'
theorem put_nil {k : List Key} {v : V} : putK ([] : List (List Key × V)) k v = [(k, v)] := rfl
theorem put_ne {k k' : List Key} {v v' : V} {r : List (List Key × V)} (h : k' ≠ k) : putK ((k', v') :: r) k v = (k', v') :: putK r k v := by
  unfold putK
  rw [List.any_cons, decide_eq_false h, Bool.false_or]
  split
  · rw [List.map_cons, if_neg h]
  · rfl
theorem put_eq {k : List Key} {v v' : V} {r : List (List Key × V)} (h : ∀ p ∈ r, p.1 ≠ k) : putK ((k, v') :: r) k v = (k, v) :: r := by
  unfold putK
  rw [if_pos (by simp), List.map_cons, if_pos rfl]
  congr 1
  have key : ∀ l : List (List Key × V), (∀ p ∈ l, p.1 ≠ k) → l.map (fun kv => if kv.1 = k then (kv.1, v) else kv) = l := by
    intro l
    induction l with
    | nil => intro _; rfl
    | cons p l ih =>
      intro hh
      rw [List.map_cons, if_neg (hh p List.mem_cons_self), ih fun q hq => hh q (List.mem_cons_of_mem _ hq)]
  exact key r h
theorem put_enc : ∀ {kv : KN} {k : Int × Int} {c : Nat}, (kv.map (·.1)).Nodup → putK (encN kv) (eK k) (.int ((lookN kv k : Nat) + (c : Nat) : Int)) = encN (addN kv k c)
  | [], k, c, _ => by
    show putK [] _ _ = [(eK k, V.int (c : Int))]
    rw [put_nil]
    show [(eK k, V.int ((0 : Nat) + (c : Nat) : Int))] = _
    rw [show (((0 : Nat) : Int) + (c : Int)) = (c : Int) by omega]
  | x :: r, k, c, nd => by
    obtain ⟨n1, n2⟩ := List.nodup_cons.mp (show (x.1 :: r.map (·.1)).Nodup from nd)
    show putK ((eK x.1, V.int (x.2 : Int)) :: encN r) _ _ = _
    unfold lookN addN
    rw [List.find?_cons]
    by_cases z : x.1 = k
    · rw [decide_eq_true z, if_pos z, z, put_eq]
      · show (eK k, V.int (((x.2 : Nat) : Int) + (c : Int))) :: encN r = (eK k, V.int ((x.2 + c : Nat) : Int)) :: encN r
        rw [Int.natCast_add]
      · intro p hp e
        unfold encN at hp
        obtain ⟨y, hy, rfl⟩ := List.mem_map.mp hp
        exact n1 (by rw [z, ← eK_inj e]; exact List.mem_map.mpr ⟨y, hy, rfl⟩)
    · rw [decide_eq_false z, if_neg z, put_ne (fun q => z (eK_inj q))]
      show (eK x.1, V.int (x.2 : Int)) :: putK (encN r) (eK k) (.int ((lookN r k : Nat) + (c : Nat) : Int)) = (eK x.1, V.int (x.2 : Int)) :: encN (addN r k c)
      rw [put_enc n2]
theorem sum_cast : ∀ (l : KN), (l.map fun e => ((e.2 : Nat) : Int)).sum = (((l.map (·.2)).sum : Nat) : Int)
  | [] => rfl
  | e :: r => by
    rw [List.map_cons, List.map_cons, List.sum_cons, List.sum_cons, sum_cast r]
    push_cast
    rfl
def KeyOk (k : Int × Int) : Prop := (k.1 = 0 ∨ k.1 = 1) ∧ 0 ≤ k.2 ∧ k.2 ≤ 6
def keys14 : List (Int × Int) := [(0, 0), (0, 1), (0, 2), (0, 3), (0, 4), (0, 5), (0, 6), (1, 0), (1, 1), (1, 2), (1, 3), (1, 4), (1, 5), (1, 6)]
theorem key_mem {k : Int × Int} (h : KeyOk k) : k ∈ keys14 := by
  obtain ⟨a, b⟩ := k
  obtain ⟨h1, h2, h3⟩ := h
  have h1' : a = 0 ∨ a = 1 := h1
  have h2' : 0 ≤ b := h2
  have h3' : b ≤ 6 := h3
  obtain rfl | rfl | rfl | rfl | rfl | rfl | rfl : b = 0 ∨ b = 1 ∨ b = 2 ∨ b = 3 ∨ b = 4 ∨ b = 5 ∨ b = 6 := by omega
  all_goals rcases h1' with rfl | rfl <;> decide
structure KvOk (kv : KN) : Prop where
  nd : (kv.map (·.1)).Nodup
  ok : ∀ e ∈ kv, KeyOk e.1
theorem KvOk.few {kv : KN} (h : KvOk kv) : kv.length ≤ 14 := by
  have := nd_sub h.nd (l2 := keys14) fun k hk => by
    obtain ⟨e, he, rfl⟩ := List.mem_map.mp hk
    exact key_mem (h.ok e he)
  rw [List.length_map] at this
  exact this
theorem KvOk.add {kv : KN} (h : KvOk kv) {k : Int × Int} (hk : KeyOk k) (c : Nat) : KvOk (addN kv k c) := by
  refine ⟨addN_nd h.nd, fun e he => ?_⟩
  rcases addN_keys kv k c e.1 (List.mem_map.mpr ⟨e, he, rfl⟩) with z | z
  · rw [z]; exact hk
  · obtain ⟨y, hy, ey⟩ := List.mem_map.mp z
    rw [← ey]
    exact h.ok y hy
/-- those of the first states -/
def wayTo (kn : Kn) (late : Int) (T : Nat) (lost : Int) (i : Nat) (p : Int × Int) (n : Nat) : List (Int × Int) := ((List.range n).map fun (o : Nat) => ((o : Int), p.2 + stepP kn late T ((i + 1 : Nat) : Int) p.1 (o : Int))).filter fun q => decide (q.2 ≤ lost)
theorem wayTo_two (kn : Kn) (late : Int) (T : Nat) (lost : Int) (i : Nat) (p : Int × Int) : wayTo kn late T lost i p 2 = wayN kn late T lost i p := rfl
theorem wayTo_succ (kn : Kn) (late : Int) (T : Nat) (lost : Int) (i : Nat) (p : Int × Int) (n : Nat) : wayTo kn late T lost i p (n + 1) = wayTo kn late T lost i p n ++ if p.2 + stepP kn late T ((i + 1 : Nat) : Int) p.1 (n : Int) ≤ lost then [((n : Int), p.2 + stepP kn late T ((i + 1 : Nat) : Int) p.1 (n : Int))] else [] := by
  unfold wayTo
  rw [List.range_succ, List.map_append, List.filter_append, List.map_cons, List.map_nil, List.filter_cons]
  congr 1
  by_cases z : p.2 + stepP kn late T ((i + 1 : Nat) : Int) p.1 (n : Int) ≤ lost
  · rw [if_pos (decide_eq_true z), if_pos z]
    rfl
  · rw [if_neg (fun q => z (of_decide_eq_true q)), if_neg z]
    rfl
section
variable {P : Program} {w : World} {K : PySem.W.Frag} {mg : Str → Option Value} {base : Heap} {dI C : Addr}
def othersM (m : Ms) (b : Nat) : Nat := ((allWants m.kns m.late m.time).filter (notOf b)).length
def countM (m : Ms) (T b : Nat) : Nat := ((waysP (m.kns.getD b []) m.late T m.lost T).filter fun k => decide (k.2 + othersM m b ≤ m.lost)).length
def sp_many : Sp := fun vs H Q _ => ∃ (q0 L : Addr) (ds : List Addr) (m : Ms) (T b : Nat), vs = [.ref q0, .int b] ∧ MAt H q0 L ds m ∧ MOk m T ∧ b < m.kns.length ∧ 0 ≤ m.lost ∧ m.lost ≤ 6 ∧ ∀ H', Same H H' → Q (.int (countM m T b : Nat)) H'
theorem sc__law_many : FnScope ["_law_m", "_law_badge", "_law_ways", "_law_moment", "_law_word", "_law_found", "_law_state", "_law_price_here", "_law_other", "_law_lost", "_law_good", "_law_key", "_law_others", "_law_want"] ["_law_m", "_law_badge"] (defScope s__law_many) := ⟨rfl, rfl, rfl, by decide +kernel, rfl, by decide +kernel, by decide +kernel⟩
theorem ok_many {f : Addr} {fd : FuncData} (F : Fun K "_law_many" "_law_many" s__law_many f fd) (G : Glb K w mg dI) (c__law_wants : C8.Cal P w K mg base 1 "_law_wants" sp_lwants []) : FnOk P w K mg base CX0 2 f fd ["_law_m", "_law_badge"] sp_many := by
  refine F.ok sc__law_many (fun vs H Q E h => ?_) (fun cdv A outer s H vs Q E hr h => ?_)
  · obtain ⟨q0, L, ds, m, T, b, rfl, _⟩ := h
    rfl
  · obtain ⟨q0, L, ds, m, T, b, rfl, ma, mo, hb, lo0, lo6, q⟩ := h
    have hu := hu_of hr
    have htm := mo.tm
    have hT := mo.le
    obtain ⟨ek, hkm⟩ := getD_mem hb
    obtain ⟨d, hd, hdk⟩ := Paired.get ma.kn.at_ ek
    have kt := mo.kn _ hkm
    obtain ⟨kn, ekn⟩ : ∃ kn, kn = m.kns.getD b [] := ⟨_, rfl⟩
    rw [← ekn] at hdk kt
    have q' : ∀ H', Same H H' → Q (.int (((waysP kn m.late T m.lost T).filter fun k => decide (k.2 + othersM m b ≤ m.lost)).length : Nat)) H' := by rw [ekn]; exact q
    clear q
    refine ⟨_, (pss_cons (ps_set (i := 2) sc__law_many.nd rfl (Or.inr rfl) (pe_disp1T hu (pe_tup (pa_cons pe_int (pa_cons pe_int pa_nil))) pe_int))
      (pss_cons (ps_for PassesOwn.never rfl (pi_range2 rfl G.range (pa_cons pe_int (pa_cons (pe_op op_add (pe_dget hu (pv 0) pe_str (fun _ _ => rfl)) pe_int) pa_nil))) (pg_name (i := 3) sc__law_many.nd rfl (Or.inl rfl))
        (pss_cons (ps_set (i := 4) sc__law_many.nd rfl (Or.inl rfl) (pe_dget1 hu (pe_ix ix_list (pe_dget hu (pv 0) pe_str (fun _ _ => rfl)) (pv 1) (fun _ _ => rfl)) (pv 3) ⟨rfl, rfl, rfl, rfl⟩))
          (pss_cons (ps_set (i := 5) sc__law_many.nd rfl (Or.inl rfl) pe_dnewT)
          (pss_cons (ps_lock (ps_for PassesOwn.never rfl (pi_keys (pv 2)) (pg_tup rfl (pgs_cons (pg_name (i := 6) sc__law_many.nd rfl (Or.inl rfl)) (pgs_cons (pg_name (i := 7) sc__law_many.nd rfl (Or.inl rfl)) pgs_nil)))
            (pss_one (ps_for PassesOwn.never rfl (pi_range1 rfl G.range (pa_cons pe_int pa_nil)) (pg_name (i := 8) sc__law_many.nd rfl (Or.inl rfl))
                (C8.pss_cut (ps_set (i := 9) sc__law_many.nd rfl (Or.inl rfl) (pe_callTy call_int1 (by rfl) G.int (by decide +kernel) (pa_cons (pe_and (pe_cmpR op_isN (pv 4) pe_non (nomark _)) (pe_and (pe_cmpR op_ne (pv 8) (pv 6) (nomark _)) (pe_one (pe_cmpR op_lt (pe_op op_add (pv 3) (pe_dget hu (pv 0) pe_str (fun _ _ => rfl))) (pe_dget hu (pv 0) pe_str (fun _ _ => rfl)) (nomark _))))) pa_nil)))
                  (C8.pss_cut (ps_set (i := 10) sc__law_many.nd rfl (Or.inl rfl) (pe_or (pe_cmpR op_isN (pv 4) pe_non (nomark _)) (pe_one (pe_and (pe_cmpR op_ne (pv 8) (pv 6) (nomark _)) (pe_one (pe_cmpR op_eq (pe_ix ix_list (pe_lst (pa_cons pe_str (pa_cons pe_str pa_nil))) (pv 8) (fun _ _ => rfl)) (pv 4) (nomark _)))))))
                  (pss_one (ps_if (PW.pt (pw_and (pt_val (pv 10)) (pw_and1 (pt_cmpR op_le (pe_op op_add (pv 7) (pv 9)) (pe_dget hu (pv 0) pe_str (fun _ _ => rfl)) (nomark _)))))
                    (pss_cons (ps_set (i := 11) sc__law_many.nd rfl (Or.inl rfl) (pe_tup (pa_cons (pv 8) (pa_cons (pe_op op_add (pv 7) (pv 9)) pa_nil))))
                      (pss_one (ps_dput hu (pv 5) (pv 11) (pe_op op_add (pe_dget2 hu (pv 5) (pv 11) pe_int ⟨rfl, rfl, rfl, rfl⟩) (pe_dget hu (pv 2) (pe_tup (pa_cons (pv 6) (pa_cons (pv 7) pa_nil))) (fun _ _ => rfl))) rfl)))
                    pss_nil))))))))
          (pss_one (ps_set (i := 2) sc__law_many.nd rfl (Or.inr rfl) (pv 5)))))))
      (pss_cons (ps_set (i := 12) sc__law_many.nd rfl (Or.inr rfl) (pe_callB call_len_seq (by rfl) G.len (by decide +kernel) (pa_cons (pe_lc (own := [("_law_want", 13)]) (g := gName 13) rfl sc__law_many.nd (pi_list (C8.pe_c c__law_wants hr (by decide) rfl (pa_cons (pv 0) pa_nil))) (blkOk_by (own := [("_law_want", 13)]) (N := ["_law_m", "_law_badge", "_law_ways", "_law_moment", "_law_word", "_law_found", "_law_state", "_law_price_here", "_law_other", "_law_lost", "_law_good", "_law_key", "_law_others", "_law_want"]) (sc := defScope s__law_many) (by decide +kernel)) (fun _ _ _ _ _ => (pg_name (i := 13) sc__law_many.nd rfl (Or.inl rfl))) (fun _ _ _ _ _ => (pts_one (pt_cmpR op_ne (pe_ix (ix_tupK (K := K)) (pv 13) pe_int (fun _ _ => rfl)) (pv 1) (nomark _)))) (fun _ _ _ _ _ => (pv 13))) pa_nil)))
      (pss_one (ps_ret (pe_callB (cr_sum rfl) (by rfl) G.sum (by decide +kernel) (pa_cons (pe_lock (pe_lc (own := [("_law_key", 11)]) (g := gName 11) rfl sc__law_many.nd (pi_keys (pv 2)) (blkOk_by (own := [("_law_key", 11)]) (N := ["_law_m", "_law_badge", "_law_ways", "_law_moment", "_law_word", "_law_found", "_law_state", "_law_price_here", "_law_other", "_law_lost", "_law_good", "_law_key", "_law_others", "_law_want"]) (sc := defScope s__law_many) (by decide +kernel)) (fun _ _ _ _ _ => (pg_name (i := 11) sc__law_many.nd rfl (Or.inl rfl))) (fun _ _ _ _ _ => (pts_one (pt_cmpR op_le (pe_op op_add (pe_ix (ix_tupK (K := K)) (pv 11) pe_int (fun _ _ => rfl)) (pv 12)) (pe_dget hu (pv 0) pe_str (fun _ _ => rfl)) (nomark _)))) (fun _ _ _ _ _ => (pe_dget hu (pv 2) (pv 11) (fun _ _ => rfl))))) pa_nil))))))), ?_⟩
    refine fun wA nwA => ⟨sz (by simp), fun t0 nt0 => ?_⟩
    have n01 : wA ≠ t0 := fun z => by rw [← z, upd_same] at nt0; cases nt0
    refine ⟨by rw [upd_ne n01, upd_same], t0, eK (0, 0), rfl, upd_same, ?_⟩
    have s1 : Same H (upd (upd (upd H wA (.dT [])) t0 (.tup [.int 0, .int 0])) wA (.dT [(eK (0, 0), .int 1)])) := Same.mut ((Same.new nwA).trans (Same.new nt0)) nwA
    have hw1 : upd (upd (upd H wA (.dT [])) t0 (.tup [.int 0, .int 0])) wA (.dT [(eK (0, 0), .int 1)]) wA = some (.dT (encN [((0, 0), 1)])) := upd_same
    generalize upd (upd (upd H wA (.dT [])) t0 (.tup [.int 0, .int 0])) wA (.dT [(eK (0, 0), .int 1)]) = H1 at *
    have m1 := ma.same s1
    refine ⟨_, rfl, q0, _, rfl, m1.g_time, _, _, rfl, rfl, 1, m.time + 1, rfl, ⟨by omega, by omega, by omega, by omega⟩, ?_⟩
    rw [show (m.time + 1 - 1).toNat = T by omega]
    refine for_range (lo := 1) (n := T) (fun i σ H2 => ∃ (wA : Addr) (kv : KN) (o3 o4 o5 o6 o7 o8 o9 o10 o11 o12 o13 : Option V), σ = [some (.ref q0), some (.int (b : Int)), some (.ref wA), o3, o4, o5, o6, o7, o8, o9, o10, o11, o12, o13] ∧ Same H H2 ∧ H2 wA = some (.dT (encN kv)) ∧ H wA = none ∧ KvOk kv ∧ (expN kv).Perm (waysP kn m.late T m.lost i))
      ⟨wA, [((0, 0), 1)], _, _, _, _, _, _, _, _, _, _, _, rfl, s1, hw1, nwA, ⟨by simp, fun e he => by rw [List.mem_singleton.mp he]; exact ⟨.inl rfl, by decide, by decide⟩⟩, ?_⟩ ?_ ?_
    · have : waysP kn m.late T m.lost 0 = [((0 : Int), (0 : Int))] := by
        unfold waysP
        show ([((0 : Int), (0 : Int))].filter _) = _
        rw [List.filter_cons, if_pos (decide_eq_true lo0)]
        rfl
      rw [this]
      exact List.Perm.refl _
    · rintro i σ H2 hi ⟨wA, kv, o3, o4, o5, o6, o7, o8, o9, o10, o11, o12, o13, rfl, s2, hwA, nwA, ok, pm⟩
      rw [show (1 : Int) + (i : Int) = ((i + 1 : Nat) : Int) by push_cast; omega]
      have m2 := ma.same s2
      have hdk2 := s2 _ _ hdk
      have hg : DGet H2 d (.int ((i + 1 : Nat) : Int)) ((lookK kn ((i + 1 : Nat) : Int)).map V.str) := by
        have e : DGet H2 d (kV (Sum.inl ((i + 1 : Nat) : Int))) (valV (encK kn) (Sum.inl ((i + 1 : Nat) : Int))) := DGet.k hdk2
        rw [valV_enc] at e
        exact e
      refine ⟨_, rfl, q0, _, rfl, m2.g_known, _, rfl, L, _, _, .ref d, rfl, rfl, SqL.of m2.kn.lst, atI_nat (by rw [List.getElem?_map, hd]; rfl), d, rfl, .inl ⟨_, .inl hdk2⟩, _, rfl, _, hg, ?_⟩
      refine fun fA nfA => ?_
      have nfA0 : H fA = none := by
        cases z : H fA with
        | none => rfl
        | some o => rw [s2 _ _ z] at nfA; cases nfA
      have nwf : wA ≠ fA := fun z => by rw [← z, hwA] at nfA; cases nfA
      have s3 : Same H2 (upd H2 fA (.dT [])) := Same.new nfA
      have hf3 : upd H2 fA (.dT []) fA = some (.dT (encN [])) := upd_same
      have hw3 := s3 _ _ hwA
      have s03 := s2.trans s3
      generalize upd H2 fA (.dT []) = H3 at *
      obtain ⟨wd, ewd⟩ : ∃ wd, wd = ((lookK kn ((i + 1 : Nat) : Int)).map V.str).getD .non := ⟨_, rfl⟩
      rw [← ewd]
      refine ⟨wA, .dT (encN kv), hw3, trivial, fun od => ⟨_, rfl, wA, od, rfl, .inr ⟨encN kv, upd_same, ?_⟩⟩⟩
      have s4 : Same H (upd H3 wA (.frz od (.dT (encN kv)))) := Same.mut s03 nwA
      refine for_it walk_keysT (fun j σ H4 => ∃ (kv2 : KN) (o6 o7 o8 o9 o10 o11 o12 o13 : Option V), σ = [some (.ref q0), some (.int (b : Int)), some (.ref wA), some (.int ((i + 1 : Nat) : Int)), some wd, some (.ref fA), o6, o7, o8, o9, o10, o11, o12, o13] ∧ Same H H4 ∧ H4 wA = some (.frz od (.dT (encN kv))) ∧ H4 fA = some (.dT (encN kv2)) ∧ KvOk kv2 ∧ (expN kv2).Perm ((kv.take j).flatMap fun e => (wayN kn m.late T m.lost i e.1).flatMap fun k => List.replicate e.2 k))
        ⟨[], _, _, _, _, _, _, _, _, rfl, s4, upd_same, by rw [upd_ne nwf.symm]; exact hf3, ⟨by simp, fun e he => by cases he⟩, List.Perm.refl _⟩ (fun j σ H4 _ ⟨_, _, _, _, _, _, _, _, _, _, _, h, _⟩ => h) ?_ ?_
      · rintro j x σ H4 H5 hj ⟨kv2, o6, o7, o8, o9, o10, o11, o12, o13, rfl, s4, hw4, hf4, ok2, pm2⟩ ⟨rfl, k, v, qA, hk, rfl, hq⟩
        obtain ⟨e, he, rfl, rfl⟩ : ∃ e, kv[j]? = some e ∧ k = eK e.1 ∧ v = V.int (e.2 : Int) := by
          unfold encN at hk
          rw [List.getElem?_map] at hk
          obtain ⟨e, he, z⟩ := Option.map_eq_some_iff.mp hk
          cases z
          exact ⟨e, he, rfl, rfl⟩
        obtain ⟨⟨st, pr⟩, c⟩ := e
        have kp : KeyOk (st, pr) := ok.ok _ (List.mem_of_getElem? he)
        have hst : st = 0 ∨ st = 1 := kp.1
        have hpr0 : 0 ≤ pr := kp.2.1
        have hpr6 : pr ≤ 6 := kp.2.2
        have etk : kv.take (j + 1) = kv.take j ++ [((st, pr), c)] := by
          rw [List.take_succ, he]
          rfl
        refine ⟨qA, _, rfl, SqT.of hq, rfl, _, _, rfl, _, _, rfl, rfl, ?_⟩
        refine ⟨2, rfl, by decide, by decide, ?_⟩
        refine for_range0 (n := 2) (fun (o : Nat) σ H5 => ∃ (kv3 : KN) (o8 o9 o10 o11 o12 o13 : Option V), σ = [some (.ref q0), some (.int (b : Int)), some (.ref wA), some (.int ((i + 1 : Nat) : Int)), some wd, some (.ref fA), some (.int st), some (.int pr), o8, o9, o10, o11, o12, o13] ∧ Same H H5 ∧ H5 wA = some (.frz od (.dT (encN kv))) ∧ H5 fA = some (.dT (encN kv3)) ∧ KvOk kv3 ∧ (expN kv3).Perm (((kv.take j).flatMap fun e => (wayN kn m.late T m.lost i e.1).flatMap fun k => List.replicate e.2 k) ++ (wayTo kn m.late T m.lost i (st, pr) o).flatMap fun k => List.replicate c k))
          ⟨kv2, _, _, _, _, _, _, rfl, s4, hw4, hf4, ok2, by rw [show wayTo kn m.late T m.lost i (st, pr) 0 = [] from rfl, List.flatMap_nil, List.append_nil]; exact pm2⟩ ?_ ?_
        · rintro o σ H5 ho ⟨kv3, o8, o9, o10, o11, o12, o13, rfl, s5, hw5, hf5, ok3, pm3⟩
          have m5 := ma.same s5
          refine ⟨fun σ H6 => ∃ (lv : Int), σ = [some (.ref q0), some (.int (b : Int)), some (.ref wA), some (.int ((i + 1 : Nat) : Int)), some wd, some (.ref fA), some (.int st), some (.int pr), some (.int (o : Int)), some (.int lv), o10, o11, o12, o13] ∧ H6 = H5 ∧ lv = (if (decide (wd = .non) && (!decide (st = (o : Int)) && isLost ((i + 1 : Nat) : Int) m.late T)) = true then 1 else 0), ?_, ?_⟩
          · refine ⟨_, rfl, rfl, _, rfl, ?_⟩
            by_cases z1 : wd = .non
            · refine ifT (decide_eq_true z1) ⟨_, rfl, _, rfl, rfl, _, rfl, ?_⟩
              by_cases z2 : st = (o : Int)
              · refine ifF ?_ (.inr ⟨_, rfl, _, rfl, rfl, ?_⟩)
                · rw [z2]; simp
                · rw [decide_eq_true z1, decide_eq_true z2]
                  rfl
              · refine ifT ?_ ⟨_, rfl, _, rfl, q0, _, rfl, m5.g_late, _, _, rfl, rfl, _, rfl, q0, _, rfl, m5.g_time, _, _, rfl, rfl, .inr ⟨_, rfl, _, rfl, rfl, ?_⟩⟩
                · rw [decide_eq_false (fun q => z2 (by injection q with q; exact q.symm))]; rfl
                · rw [decide_eq_true z1, decide_eq_false z2, htm]
                  rfl
            · refine ifF (decide_eq_false z1) (.inr ⟨_, rfl, _, rfl, rfl, ?_⟩)
              rw [decide_eq_false z1]
              rfl
          rintro σ H6 ⟨lv, rfl, rfl, elv⟩
          refine ⟨fun σ H7 => ∃ (gv : Bool), σ = [some (.ref q0), some (.int (b : Int)), some (.ref wA), some (.int ((i + 1 : Nat) : Int)), some wd, some (.ref fA), some (.int st), some (.int pr), some (.int (o : Int)), some (.int lv), some (.bl gv), o11, o12, o13] ∧ Same H6 H7 ∧ ((gv = true ∧ lv = stepP kn m.late T ((i + 1 : Nat) : Int) st (o : Int)) ∨ (gv = false ∧ NEV ≤ stepP kn m.late T ((i + 1 : Nat) : Int) st (o : Int))), ?_, ?_⟩
          · refine ⟨_, rfl, rfl, _, rfl, ?_⟩
            cases elk : lookK kn ((i + 1 : Nat) : Int) with
            | none =>
              have ewd' : wd = .non := by rw [ewd, elk]; rfl
              refine ifT (decide_eq_true ewd') ⟨true, rfl, Same.refl _, .inl ⟨rfl, ?_⟩⟩
              rw [elv, decide_eq_true ewd', Bool.true_and]
              unfold stepP
              rw [elk]
              rfl
            | some z =>
              have wz : Wd z := by
                obtain ⟨y, h1, h2⟩ := kt.ok.look (look_iff.mp (by rw [elk]; rfl))
                rw [elk] at h1
                cases h1
                exact h2
              have ewd' : wd = .str z := by rw [ewd, elk]; rfl
              have nn : ¬ wd = .non := by rw [ewd']; exact fun q => nomatch q
              rw [decide_eq_false nn, Bool.false_and] at elv
              have elv0 : lv = 0 := elv
              subst elv0
              have estp : stepP kn m.late T ((i + 1 : Nat) : Int) st (o : Int) = if insOf z = (o : Int) then (if (!decide (st = (o : Int))) = true then 0 else NEV) else NEV := by
                unfold stepP
                rw [elk]
                rfl
              refine ifF (decide_eq_false nn) ⟨_, rfl, _, rfl, rfl, _, rfl, ?_⟩
              by_cases z2 : st = (o : Int)
              · refine ifF (by rw [z2]; simp) ⟨false, rfl, Same.refl _, .inr ⟨rfl, ?_⟩⟩
                rw [estp, decide_eq_true z2]
                split <;> exact Int.le_refl _
              · refine ifT (by rw [decide_eq_false (fun q => z2 (by injection q with q; exact q.symm))]; rfl) ?_
                obtain ⟨y, hy, hyz⟩ := word_at (st := (o : Int)) (by omega)
                refine ⟨sz (by simp), fun pl npl => ⟨_, rfl, pl, _, _, _, rfl, rfl, SqL.of upd_same, hy, _, rfl, ?_⟩⟩
                subst ewd'
                refine ⟨rfl, _, rfl, Same.new npl, ?_⟩
                rw [hyz z wz]
                by_cases z3 : insOf z = (o : Int)
                · refine .inl ⟨decide_eq_true z3, ?_⟩
                  rw [estp, if_pos z3, decide_eq_false z2]
                  rfl
                · refine .inr ⟨decide_eq_false z3, ?_⟩
                  rw [estp, if_neg z3]
                  exact Int.le_refl _
          rintro σ H7 ⟨gv, rfl, s7, hgv⟩
          have m7 := m5.same s7
          have hw7 := s7 _ _ hw5
          have hf7 := s7 _ _ hf5
          have s07 := s5.trans s7
          have NE : NEV = 1000000 := rfl
          have wts := wayTo_succ kn m.late T m.lost i (st, pr) o
          have keep : ¬ (pr + stepP kn m.late T ((i + 1 : Nat) : Int) st (o : Int) ≤ m.lost) → ∃ (kv3 : KN) (o8' o9' o10' o11' o12' o13' : Option V), [some (.ref q0), some (.int (b : Int)), some (.ref wA), some (.int ((i + 1 : Nat) : Int)), some wd, some (.ref fA), some (.int st), some (.int pr), some (.int (o : Int)), some (.int lv), some (.bl gv), o11, o12, o13] = [some (.ref q0), some (.int (b : Int)), some (.ref wA), some (.int ((i + 1 : Nat) : Int)), some wd, some (.ref fA), some (.int st), some (.int pr), o8', o9', o10', o11', o12', o13'] ∧ Same H H7 ∧ H7 wA = some (.frz od (.dT (encN kv))) ∧ H7 fA = some (.dT (encN kv3)) ∧ KvOk kv3 ∧ (expN kv3).Perm (((kv.take j).flatMap fun e => (wayN kn m.late T m.lost i e.1).flatMap fun k => List.replicate e.2 k) ++ (wayTo kn m.late T m.lost i (st, pr) (o + 1)).flatMap fun k => List.replicate c k) := by
            intro z
            refine ⟨kv3, _, _, _, _, _, _, rfl, s07, hw7, hf7, ok3, ?_⟩
            rw [wts, if_neg z, List.append_nil]
            exact pm3
          rcases hgv with ⟨rfl, rfl⟩ | ⟨rfl, big⟩
          · refine ⟨_, rfl, _, rfl, ifT rfl ?_⟩
            refine ⟨_, rfl, _, rfl, _, _, rfl, rfl, _, rfl, q0, _, rfl, m7.g_lost, _, _, rfl, rfl, _, rfl, ?_⟩
            by_cases z : pr + stepP kn m.late T ((i + 1 : Nat) : Int) st (o : Int) ≤ m.lost
            · refine ifT (decide_eq_true z) ?_
              obtain ⟨np, enp⟩ : ∃ np, np = pr + stepP kn m.late T ((i + 1 : Nat) : Int) st (o : Int) := ⟨_, rfl⟩
              refine ⟨_, rfl, _, rfl, _, rfl, _, _, rfl, rfl, sz (by simp), fun t nt => ?_⟩
              dsimp only
              rw [← enp] at z wts ⊢
              have kn2 : KeyOk ((o : Int), np) := ⟨by show (o : Int) = 0 ∨ (o : Int) = 1; omega, by have := step_nn7 kn m.late T ((i + 1 : Nat) : Int) st (o : Int); show 0 ≤ np; omega, by show np ≤ 6; omega⟩
              have s8 : Same H7 (upd H7 t (.tup [.int (o : Int), .int np])) := Same.new nt
              have ht8 : upd H7 t (.tup [.int (o : Int), .int np]) t = some (.tup ((eK ((o : Int), np)).map kV)) := upd_same
              generalize upd H7 t (.tup [.int (o : Int), .int np]) = H8 at *
              have hw8 := s8 _ _ hw7
              have hf8 := s8 _ _ hf7
              refine ⟨_, rfl, fA, rfl, .inr ⟨_, .inl hf8⟩, _, rfl, _, DGet.t hf8 ht8, ?_⟩
              refine ⟨_, rfl, _, rfl, _, rfl, sz (by simp), fun t2 nt2 => ?_⟩
              have s9 : Same H8 (upd H8 t2 (.tup [.int st, .int pr])) := Same.new nt2
              have ht9 : upd H8 t2 (.tup [.int st, .int pr]) t2 = some (.tup ((eK (st, pr)).map kV)) := upd_same
              generalize upd H8 t2 (.tup [.int st, .int pr]) = H9 at *
              have hw9 := s9 _ _ hw8
              have hf9 := s9 _ _ hf8
              have ht9' := s9 _ _ ht8
              have va := val_at ok.nd he
              refine ⟨wA, .int (c : Int), rfl, .inr ⟨_, _, t2, .inr ⟨_, hw9⟩, rfl, ht9, va.symm⟩, ?_⟩
              rw [val_look]
              refine ⟨_, _, rfl, rfl, ?_⟩
              refine ⟨_, rfl, _, rfl, fA, _, rfl, DPut.t hf9 ht9' (by have := ok3.few; have el : (encN kv3).length = kv3.length := List.length_map _; rw [el]; exact szl (by omega)), ?_⟩
              rw [put_enc ok3.nd]
              refine ⟨addN kv3 ((o : Int), np) c, _, _, _, _, _, _, rfl, Same.mut ((s07.trans s8).trans s9) nfA0, by rw [upd_ne nwf]; exact hw9, upd_same, ok3.add kn2 c, ?_⟩
              rw [wts, if_pos z, List.flatMap_append, List.flatMap_cons, List.flatMap_nil, List.append_nil, ← List.append_assoc]
              exact (addN_exp _ _ _).trans (pm3.append_right _)
            · exact ifF (decide_eq_false z) (keep z)
          · refine ⟨_, rfl, _, rfl, ifF rfl ?_⟩
            exact ifF rfl (keep (by omega))
        · rintro σ H5 ⟨kv3, o8, o9, o10, o11, o12, o13, rfl, s5, hw5, hf5, ok3, pm3⟩
          refine ⟨kv3, _, _, _, _, _, _, _, _, rfl, s5, hw5, hf5, ok3, ?_⟩
          rw [etk, List.flatMap_append, List.flatMap_cons, List.flatMap_nil, List.append_nil, ← wayTo_two]
          exact pm3
      · rintro σ H4 ⟨kv2, o6, o7, o8, o9, o10, o11, o12, o13, rfl, s4, hw4, hf4, ok2, pm2⟩
        refine ⟨hw4, _, rfl, fA, kv2, _, _, _, _, _, _, _, _, _, _, _, rfl, Same.mut s4 nwA, by rw [upd_ne nwf.symm]; exact hf4, nfA0, ok2, ?_⟩
        have el : (encN kv).length = kv.length := List.length_map _
        rw [el, List.take_length] at pm2
        rw [ways_step]
        exact (pm2.trans (exp_flat kv).symm).trans (pm.flatMap_right _)
    · rintro σ H2 ⟨wA, kv, o3, o4, o5, o6, o7, o8, o9, o10, o11, o12, o13, rfl, s2, hwA, nwA, ok, pm⟩
      have m2 := ma.same s2
      refine ⟨_, rfl, q0, L, ds, m, T, rfl, m2, mo, fun wB xs H3 s3 nwB hwB tw => ⟨wB, rfl, ⟨_, SqL.of hwB⟩, fun D2 nD2 => ?_⟩⟩
      have few := aw_few ma.kn m.late m.time
      refine lc_filt (K := K) (enc := Want.vs) (l := allWants m.kns m.late m.time) (f := notOf b) tw hwB nD2 (by omega) (fun _ => rfl) (fun _ => rfl)
        (fun i' y tA H2 _ _ hta Q qq => ⟨_, rfl, tA, _, _, _, rfl, rfl, SqT.of hta, rfl, _, rfl, rfl, _, rfl, qq⟩) fun ys H4 s4 hD2 ty => ?_
      have hyl : ys.length = othersM m b := by
        have := ty.length
        rw [List.length_map] at this
        exact this
      refine ⟨D2, _, rfl, .inl (SqL.of hD2), ?_⟩
      rw [hyl]
      have s24 := s3.trans s4
      have hw4 := s24 _ _ hwA
      have s04 := s2.trans s24
      obtain ⟨oth, eoth⟩ : ∃ oth, oth = othersM m b := ⟨_, rfl⟩
      rw [← eoth] at q' ⊢
      clear hyl hD2 ty
      refine ⟨wA, .dT (encN kv), hw4, trivial, fun od => ⟨_, rfl, wA, od, rfl, .inr ⟨encN kv, upd_same, fun D nD => ?_⟩⟩⟩
      have nDw : wA ≠ D := fun z => by rw [← z, upd_same] at nD; cases nD
      have nD0 : H D = none := by
        cases z : H D with
        | none => rfl
        | some o => rw [upd_ne nDw.symm, s04 _ _ z] at nD; cases nD
      refine lc_it walk_keysT (fun j H6 => Same H H6 ∧ H6 wA = some (.frz od (.dT (encN kv))) ∧ H6 D = some (.lst ((((kv.take j).filter fun e => decide (e.1.2 + oth ≤ m.lost)).map fun e => ((e.2 : Nat) : Int)).map V.int)))
        ⟨(Same.mut s04 nwA).trans (Same.new nD), (Same.new nD) _ _ upd_same, upd_same⟩ (fun j H6 _ h => h.2.1) ?_ ?_
      · rintro j x H6 H7 hj ⟨s6, hw6, hD6⟩ ⟨rfl, k, v, qA, hk, rfl, hq⟩
        obtain ⟨e, he, rfl, rfl⟩ : ∃ e, kv[j]? = some e ∧ k = eK e.1 ∧ v = V.int (e.2 : Int) := by
          unfold encN at hk
          rw [List.getElem?_map] at hk
          obtain ⟨e, he, z⟩ := Option.map_eq_some_iff.mp hk
          cases z
          exact ⟨e, he, rfl, rfl⟩
        have etk : kv.take (j + 1) = kv.take j ++ [e] := by
          rw [List.take_succ, he]
          rfl
        have va := val_at ok.nd he
        have m6 := ma.same s6
        refine ⟨rfl, _, rfl, qA, _, _, _, rfl, rfl, SqT.of hq, rfl, _, rfl, _, _, rfl, rfl, _, rfl, q0, _, rfl, m6.g_lost, _, _, rfl, rfl, _, rfl, ?_⟩
        by_cases z : e.1.2 + (oth : Int) ≤ m.lost
        · refine ifT (decide_eq_true z) ⟨_, rfl, _, rfl, wA, _, rfl, .inr ⟨_, _, qA, .inr ⟨_, hw6⟩, rfl, hq, va.symm⟩, _, hD6, ?_, ?_⟩
          · have := ok.few
            rw [List.length_map, List.length_map]
            have l1 := List.length_filter_le (fun e : (Int × Int) × Nat => decide (e.1.2 + (oth : Int) ≤ m.lost)) (kv.take j)
            have l2 : (kv.take j).length ≤ kv.length := by rw [List.length_take]; omega
            exact szl (by omega)
          · refine ⟨Same.mut s6 nD0, by rw [upd_ne nDw]; exact hw6, ?_⟩
            rw [upd_same, etk, List.filter_append, List.filter_cons, if_pos (decide_eq_true z), List.map_append, List.map_append]
            rfl
        · refine ifF (decide_eq_false z) ⟨s6, hw6, ?_⟩
          rw [etk, List.filter_append, List.filter_cons, if_neg (fun q => z (of_decide_eq_true q)), List.filter_nil, List.append_nil]
          exact hD6
      · rintro H6 ⟨s6, hw6, hD6⟩
        refine ⟨hw6, D, _, rfl, SqL.of (by rw [upd_ne nDw.symm]; exact hD6), ?_⟩
        have el : (encN kv).length = kv.length := List.length_map _
        rw [el, List.take_length, sum_cast, ← exp_filt (p := fun k => decide (k.2 + (oth : Int) ≤ m.lost)), (pm.filter _).length_eq]
        exact q' _ (Same.mut s6 nwA)
end
end IC
namespace IC
open PySem PySem.Spec PyProof.Rows L2
/-! ### tables of sets, of up to 512 slots -/
def orb (m : Nat) : Nat → Nat → List Nat
  | 0, _ => []
  | n + 1, x => x :: orb m n ((x * 5 + 1) % (m + 1))
theorem orb_mem {m : Nat} : ∀ (n b y : Nat), y ∈ orb m n (lcgN m b) → ∃ k, k < n ∧ lcgN m (b + k) = y
  | 0, _, _, h => nomatch h
  | n + 1, b, y, h => by
    rcases List.mem_cons.mp h with e | e
    · exact ⟨0, by omega, e.symm⟩
    · obtain ⟨k, hk, ek⟩ := orb_mem n (b + 1) y e
      exact ⟨k + 1, by omega, by rw [← ek, show b + (k + 1) = b + 1 + k by omega]⟩
structure Msk (m : Nat) : Prop where
  odd : m % 2 = 1
  few : m ≤ 511
  all : ∀ j, j ≤ m → ∃ b, b ≤ m ∧ lcgN m b = j
  rnd : lcgN m (m + 1) = 0
theorem msk_of {m : Nat} (h1 : m % 2 = 1) (h2 : m ≤ 511) (h3 : ((List.range (m + 1)).all fun j => (orb m (m + 1) 0).contains j) = true) (h4 : lcgN m (m + 1) = 0) : Msk m := by
  refine ⟨h1, h2, fun j hj => ?_, h4⟩
  have hc := List.all_eq_true.mp h3 j (List.mem_range.mpr (by omega))
  have hj' : j ∈ orb m (m + 1) 0 := by simpa using hc
  obtain ⟨k, hk, ek⟩ := orb_mem (m := m) (m + 1) 0 j hj'
  exact ⟨k, by omega, by rw [← ek, Nat.zero_add]⟩
theorem msk7 : Msk 7 := msk_of (by decide) (by decide) (by decide +kernel) (by decide +kernel)
theorem msk31 : Msk 31 := msk_of (by decide) (by decide) (by decide +kernel) (by decide +kernel)
theorem msk127 : Msk 127 := msk_of (by decide) (by decide) (by decide +kernel) (by decide +kernel)
theorem msk511 : Msk 511 := msk_of (by decide) (by decide) (by decide +kernel) (by decide +kernel)
section
variable {m : Nat}
theorem Msk.mod (M : Msk m) : ∀ k, lcgN m (m + 1 + k) = lcgN m k
  | 0 => M.rnd
  | k + 1 => by
    have ih := M.mod k
    show (lcgN m (m + 1 + k) * 5 + 1) % (m + 1) = _
    rw [ih]
    rfl
theorem Msk.goes (M : Msk m) {i j : Nat} (hi : i ≤ m) (hj : j ≤ m) : ∃ k, k ≤ m ∧ lcgI m i k = j := by
  obtain ⟨x, hx, rfl⟩ := M.all i hi
  obtain ⟨y, hy, rfl⟩ := M.all j hj
  by_cases c : x ≤ y
  · exact ⟨y - x, by omega, by rw [lcgN_add, show x + (y - x) = y by omega]⟩
  · exact ⟨m + 1 + y - x, by omega, by rw [lcgN_add, show x + (m + 1 + y - x) = m + 1 + y by omega, M.mod]⟩
theorem Msk.run (M : Msk m) (h : Int) {j : Nat} (hj : j ≤ m) : ∃ n, n ≤ m + 12 ∧ runI m (SetTable.bits h) n = j := by
  obtain ⟨k, hk, ek⟩ := M.goes (runI_le m (SetTable.bits h) 12) hj
  refine ⟨12 + k, by omega, ?_⟩
  rw [runI_tail (bits_lt h), ek]
theorem Msk.met (M : Msk m) (h : Int) {j : Nat} (hj : j ≤ m) : ∃ k, k < 10 * SetTable.turns m ∧ way m h k = j := by
  obtain ⟨n, hn, rfl⟩ := M.run h hj
  obtain ⟨k, hk, ek⟩ := run_nth m (SetTable.bits h) n
  exact ⟨k, by unfold SetTable.turns; omega, by show (nth m _ k).j = _; rw [ek]; rfl⟩
theorem way_in (m : Nat) (h : Int) (k : Nat) : way m h k ≤ m := by
  have b0 : SetTable.bits h % (m + 1) ≤ m := Nat.le_of_lt_succ (Nat.mod_lt _ (Nat.succ_pos _))
  have b1 := runEnd_bd b0
  have b2 : ∀ x, x ≤ m → (runAt m x (SetTable.bits h)).j + (runAt m x (SetTable.bits h)).more ≤ m := fun x hx => by
    have := runEnd_bd hx
    show x + (SetTable.runEnd m x - x) ≤ m
    omega
  exact Nat.le_trans (Nat.le_add_right _ _) (nth_in (m := m) k _ (b2 _ b0))
end
/-- what a table keeps: each slot lies on its hash's way, behind full ones alone -/
structure TbS (t : SetTable) (hs : List Int) : Prop where
  r : Ris t.place.toList
  d : t.dummies = #[]
  n : t.place.size = hs.length
  m : Msk t.mask
  b : ∀ x ∈ t.place.toList, x ≤ t.mask
  w : ∀ (i : Nat) (g : Int) (x : Nat), hs[i]? = some g → t.place.toList[i]? = some x → ∃ c, way t.mask g c = x ∧ ∀ c', c' < c → way t.mask g c' ∈ t.place.toList
theorem TbS.first {t : SetTable} {hs : List Int} (T : TbS t hs) (few : hs.length ≤ t.mask) (g : Int) : ∃ c, c < 10 * SetTable.turns t.mask ∧ way t.mask g c ∉ t.place.toList ∧ ∀ c', c' < c → way t.mask g c' ∈ t.place.toList := by
  have l1 : t.place.toList.length = hs.length := by rw [Array.length_toList, T.n]
  obtain ⟨x, hx, nx⟩ := st_missing t.place.toList (t.mask + 1) (by omega)
  obtain ⟨c, hc, ec⟩ := T.m.met g (j := x) (by omega)
  obtain ⟨e, he, h1, h2⟩ := st_least (p := fun c => way t.mask g c ∉ t.place.toList) c (by show way t.mask g c ∉ _; rw [ec]; exact nx)
  exact ⟨e, by omega, h1, fun c' lt => Classical.byContradiction fun no => h2 c' lt no⟩
theorem TbS.ahead {t : SetTable} {hs : List Int} (T : TbS t hs) {g : Int} {c i x : Nat} (hc : way t.mask g c ∉ t.place.toList) (hi : hs[i]? = some g) (hx : t.place.toList[i]? = some x) : ∃ e, e < c ∧ way t.mask g e = x := by
  obtain ⟨e, he, full⟩ := T.w i g x hi hx
  refine ⟨e, ?_, he⟩
  by_cases lt : e < c
  · exact lt
  · exfalso
    by_cases eq : e = c
    · exact hc (by rw [← eq, he]; exact List.mem_of_getElem? hx)
    · exact hc (full c (by omega))
theorem TbS.put {t : SetTable} {hs : List Int} (T : TbS t hs) {g : Int} {c : Nat} (hc : way t.mask g c ∉ t.place.toList) (full : ∀ c', c' < c → way t.mask g c' ∈ t.place.toList) :
    ∃ (p : Nat) (t1 : SetTable), t.put (way t.mask g c) = (t1, p) ∧ p = SetTable.below t.place (way t.mask g c) ∧ p ≤ hs.length ∧ TbS t1 (hs.take p ++ g :: hs.drop p) ∧ t1.mask = t.mask ∧ t1.led = t.led ∧ t1.plain = t.plain ∧ t1.fill = hs.length + 1 := by
  have xm : way t.mask g c ≤ t.mask := way_in _ _ _
  obtain ⟨x, ex⟩ : ∃ x, x = way t.mask g c := ⟨_, rfl⟩
  rw [← ex] at hc xm ⊢
  obtain ⟨low, _, _⟩ := below_cut T.r x
  have l0 : SetTable.below t.place x ≤ t.place.toList.length := by rw [Array.length_toList]; exact low
  have l1 : SetTable.below t.place x ≤ hs.length := by rw [← T.n]; exact low
  have l2 : t.place.toList.length = hs.length := by rw [Array.length_toList, T.n]
  have new : t.place[SetTable.below t.place x]? ≠ some x := fun e => hc (List.mem_of_getElem? (i := SetTable.below t.place x) (by rw [Array.getElem?_toList, e]))
  have pp := put_place t x
  have sz : (t.put x).1.place.size = hs.length + 1 := by rw [← Array.length_toList, pp, len_ins _ l0, l2]
  have old : ∀ y, y ∈ t.place.toList → y ∈ (t.put x).1.place.toList := fun y hy => by
    rw [pp]
    exact mem_ins.mpr (Or.inr hy)
  refine ⟨(t.put x).2, (t.put x).1, rfl, rfl, l1, ⟨ris_insert T.r new, put_dm T.d x, by show _ = (hs.take (SetTable.below t.place x) ++ g :: hs.drop (SetTable.below t.place x)).length; rw [len_ins _ l1]; exact sz, T.m, fun y hy => ?_, fun i g' y h1 h2 => ?_⟩, rfl, rfl, rfl, ?_⟩
  · rw [pp] at hy
    rcases mem_ins.mp hy with e | e
    · rw [e]; exact xm
    · exact T.b y e
  · have h1' : (hs.take (SetTable.below t.place x) ++ g :: hs.drop (SetTable.below t.place x))[i]? = some g' := h1
    rw [tins_get hs l1] at h1'
    rw [pp, tins_get _ l0] at h2
    show ∃ e, way t.mask g' e = y ∧ ∀ e', e' < e → way t.mask g' e' ∈ (t.put x).1.place.toList
    by_cases a1 : i < SetTable.below t.place x
    · rw [if_pos a1] at h1' h2
      obtain ⟨e, he, z⟩ := T.w i g' y h1' h2
      exact ⟨e, he, fun e' lt => old _ (z e' lt)⟩
    · rw [if_neg a1] at h1' h2
      by_cases a2 : i = SetTable.below t.place x
      · rw [if_pos a2] at h1' h2
        injection h1' with h1'
        injection h2 with h2
        subst h1' h2
        exact ⟨c, ex.symm, fun e' lt => old _ (full e' lt)⟩
      · rw [if_neg a2] at h1' h2
        obtain ⟨e, he, z⟩ := T.w (i - 1) g' y h1' h2
        exact ⟨e, he, fun e' lt => old _ (z e' lt)⟩
  · show (t.put x).1.place.size + (t.put x).1.dummies.size = _
    rw [put_dm T.d x, sz]
    rfl
/-! ### a table laid anew -/
theorem free_first {m : Nat} (M : Msk m) (owner : Array (Option Nat)) (g : Int) {x : Nat} (hx : x ≤ m) (hf : oAt owner x = none) :
    ∃ c, SetTable.layClean.free m owner (SetTable.turns m) (SetTable.bits g % (m + 1)) (SetTable.bits g) = some (way m g c) ∧ oAt owner (way m g c) = none ∧ ∀ c', c' < c → oAt owner (way m g c') ≠ none := by
  obtain ⟨n, hn, en⟩ := M.run g hx
  obtain ⟨o, ho⟩ : ∃ o, o = off m (SetTable.bits g % (m + 1)) (SetTable.bits g) n := ⟨_, rfl⟩
  have e1 : way m g o = x := by
    show (nth m _ o).j = x
    rw [ho, nth_off, itL_run]
    exact en
  obtain ⟨c, hc, c1, c2⟩ := st_least (p := fun c => oAt owner (way m g c) = none) o (by show oAt owner (way m g o) = none; rw [e1]; exact hf)
  refine ⟨c, free_spec m owner (SetTable.turns m) n _ _ c (by unfold SetTable.turns; omega) (by rw [← ho]; exact hc) (fun c' lt => ?_) ?_, c1, c2⟩
  · have z := c2 c' lt
    revert z
    show oAt owner (way m g c') ≠ none → (oAt owner (way m g c')).isNone = false
    cases oAt owner (way m g c') with
    | none => intro z; exact absurd rfl z
    | some _ => intro _; rfl
  · show (oAt owner (way m g c)).isNone = true
    rw [c1]
    rfl
theorem own_step {m : Nat} (M : Msk m) {done : List Int} {owner : Array (Option Nat)} (W : Own m done owner) (hl : done.length ≤ m) (g : Int) :
    ∃ x, SetTable.layClean.free m owner (SetTable.turns m) (SetTable.bits g % (m + 1)) (SetTable.bits g) = some x ∧ Own m (done ++ [g]) (owner.setIfInBounds x (some done.length)) := by
  obtain ⟨ps, lps, hps⟩ := W.ps
  obtain ⟨y, hy, ny⟩ := st_missing ps (m + 1) (by omega)
  have fy : oAt owner y = none := Classical.byContradiction fun no => ny (hps y (by omega) no)
  obtain ⟨c, c0, c1, c2⟩ := free_first M owner g (x := y) (by omega) fy
  have xm := way_in m g c
  obtain ⟨x, ex⟩ : ∃ x, x = way m g c := ⟨_, rfl⟩
  rw [← ex] at c0 c1 xm
  have xs : x < owner.size := by rw [W.sz]; omega
  have at_x := oAt_set_self (some done.length) xs
  have stay : ∀ i, oAt owner i ≠ none → oAt (owner.setIfInBounds x (some done.length)) i ≠ none := fun i hi => by
    by_cases e : i = x
    · rw [e, at_x]; simp
    · rw [oAt_set_ne _ e]; exact hi
  refine ⟨x, c0, by rw [Array.size_setIfInBounds, W.sz], fun j k hj e => ?_, fun k hk => ?_, x :: ps, by simp [lps], fun j hj e => ?_⟩
  · by_cases q : j = x
    · rw [q, at_x] at e
      injection e with e
      subst e
      exact ⟨g, c, by simp, by rw [q, ex], fun k' lt => stay _ (c2 k' lt)⟩
    · rw [oAt_set_ne _ q] at e
      obtain ⟨g', c', z1, z2, z3⟩ := W.at_ j k hj e
      exact ⟨g', c', by rw [List.getElem?_append_left (List.getElem?_eq_some_iff.mp z1).1, z1], z2, fun k' lt => stay _ (z3 k' lt)⟩
  · by_cases q : k < done.length
    · obtain ⟨j, hj, e⟩ := W.all k q
      refine ⟨j, hj, ?_⟩
      rw [oAt_set_ne _ (fun z => by rw [z, c1] at e; cases e), e]
    · have hk' : k < done.length + 1 := by simpa using hk
      exact ⟨x, xm, by rw [at_x, show k = done.length by omega]⟩
  · by_cases q : j = x
    · rw [q]; exact List.mem_cons_self
    · rw [oAt_set_ne _ q] at e
      exact List.mem_cons_of_mem _ (hps j hj e)
theorem own_all {m : Nat} (M : Msk m) : ∀ (rest done : List Int) (owner : Array (Option Nat)), Own m done owner → done.length + rest.length ≤ m →
    ∃ o', rest.foldl (stepF m) (some (owner, done.length)) = some (o', (done ++ rest).length) ∧ Own m (done ++ rest) o'
  | [], done, owner, W, _ => ⟨owner, by simp, by simpa using W⟩
  | g :: rest, done, owner, W, hl => by
    have hl' : done.length + (rest.length + 1) ≤ m := by simpa using hl
    obtain ⟨x, e1, W1⟩ := own_step M W (by omega) g
    obtain ⟨o', e2, W2⟩ := own_all M rest (done ++ [g]) _ W1 (by simp; omega)
    have ap : done ++ [g] ++ rest = done ++ g :: rest := by simp
    rw [ap] at e2 W2
    refine ⟨o', ?_, W2⟩
    rw [List.foldl_cons, stepF_some e1, ← e2]
    simp
theorem relay_tab (t : SetTable) {hs : Array Int} {wanted m : Nat} (hw : SetTable.sizeAbove wanted - 1 = m) (M : Msk m) (hn : hs.size ≤ m) :
    ∃ t1 order, t.relaid hs wanted = some (t1, order) ∧ order.toList.Perm (List.range hs.size) ∧ TbS t1 (order.toList.map fun i => hs.getD i 0) ∧ t1.mask = m ∧ t1.led = t.led ∧ t1.plain = t.plain ∧ t1.dummies = #[] := by
  obtain ⟨o', f, W⟩ := own_all M hs.toList [] _ (Own.init m) (by simpa using hn)
  rw [List.nil_append] at W f
  have lay : SetTable.layClean m hs = some o' := by
    rw [layClean_eq]
    have f' : hs.toList.foldl (stepF m) (some (Array.replicate (m + 1) none, 0)) = some (o', hs.toList.length) := f
    rw [f']
    rfl
  have hr : t.relaid hs wanted = some (tabOf t m o', ((liveOf m o').map (·.2)).toArray) := by
    rw [relaid_eq, hw, lay]
    rfl
  obtain ⟨r1, r2⟩ := ris_live (fun j => o'.getD j none) (List.range (m + 1)) List.pairwise_lt_range
  have r1' : Ris ((liveOf m o').map (·.1)) := r1
  have r2' : ∀ x ∈ (liveOf m o').map (·.1), x ∈ List.range (m + 1) := r2
  have hsz : hs.toList.length = hs.size := Array.length_toList
  have len : (liveOf m o').length = hs.size := by
    obtain ⟨ps, p1, p2⟩ := W.ps
    have nd : List.Nodup ((liveOf m o').map (·.1)) := by
      unfold List.Nodup
      exact r1'.imp fun h => Nat.ne_of_lt h
    have up := nat_nodup_len ((liveOf m o').map (·.1)) ps nd fun x hx => by
      obtain ⟨⟨y, k⟩, hq, rfl⟩ := List.mem_map.mp hx
      obtain ⟨b1, b2⟩ := (mem_live W.sz).mp hq
      exact p2 y b1 (by rw [b2]; simp)
    have dn := nat_nodup_len (List.range hs.size) ((liveOf m o').map (·.2)) List.nodup_range fun k hk => by
      obtain ⟨j, b1, b2⟩ := W.all k (by rw [hsz]; exact List.mem_range.mp hk)
      exact List.mem_map.mpr ⟨(j, k), (mem_live W.sz).mpr ⟨b1, b2⟩, rfl⟩
    rw [List.length_map] at up
    rw [List.length_map, List.length_range] at dn
    omega
  refine ⟨_, _, hr, perm_range hs.size _ (by simpa using len) fun k hk => ?_, ⟨r1', rfl, by simp [tabOf], M, fun x hx => ?_, fun i g x h1 h2 => ?_⟩, rfl, rfl, rfl, rfl⟩
  · obtain ⟨j, b1, b2⟩ := W.all k (by rw [hsz]; exact hk)
    exact List.mem_map.mpr ⟨(j, k), (mem_live W.sz).mpr ⟨b1, b2⟩, rfl⟩
  · exact Nat.le_of_lt_succ (List.mem_range.mp (r2' x hx))
  · have h1' : (((liveOf m o').map (·.2)).map fun i => hs.getD i 0)[i]? = some g := h1
    have h2' : ((liveOf m o').map (·.1))[i]? = some x := h2
    rw [List.getElem?_map, List.getElem?_map] at h1'
    rw [List.getElem?_map] at h2'
    obtain ⟨⟨y, k⟩, hq, rfl⟩ := Option.map_eq_some_iff.mp h2'
    rw [hq] at h1'
    have eg : hs.getD k 0 = g := by simpa using h1'
    obtain ⟨b1, b2⟩ := (mem_live W.sz).mp (List.mem_of_getElem? hq)
    obtain ⟨g0, c, z1, z2, z3⟩ := W.at_ y k b1 b2
    have e0 : g0 = g := by rw [← eg, Array.getD_eq_getD_getElem?, ← Array.getElem?_toList, z1]; rfl
    subst e0
    refine ⟨c, z2, fun c' lt => ?_⟩
    show way m g0 c' ∈ (liveOf m o').map (·.1)
    cases z : oAt o' (way m g0 c') with
    | none => exact absurd z (z3 c' lt)
    | some k2 => exact List.mem_map.mpr ⟨(way m g0 c', k2), (mem_live W.sz).mpr ⟨way_in _ _ _, z⟩, rfl⟩
end IC
namespace IC
open PySem PySem.Spec PyProof.Rows L2
/-! ### sets of up to 200 tuples of ints -/
abbrev stnd (m : Nat) (g : Int) (c : Nat) : SetTable.Probe := nth m (runAt m (SetTable.bits g % (m + 1)) (SetTable.bits g)) c
theorem stnd_add (m : Nat) (g : Int) (c q : Nat) : nth m (stnd m g c) q = stnd m g (c + q) := by rw [← nth_add]
theorem nth_dm (m : Nat) : ∀ (n : Nat) (p : SetTable.Probe), p.dummy = none → (nth m p n).dummy = none
  | 0, _, e => e
  | n + 1, p, e => nth_dm m n _ (by unfold adv; split <;> exact e)
structure StT (P : Program) (w : World) (h : Heap) (a : Addr) (L : List (Addr × List Int)) (es : Array (Int × Value)) (ep : Nat) (t : SetTable) : Prop where
  ob : ∃ o, h.get? a = some o ∧ o.ExactSet ∧ o.data = .set es ep t
  rw_ : es.toList = rowsOf P w L
  tb : TbS t (L.map fun q => thash P w q.2)
  nd : (L.map (·.2)).Nodup
  tu : ∀ q ∈ L, IsT P w h q.2 q.1
  pl : t.plain = true
  ld : w.params.followText "set-order" = true ∨ t.led = true
  rm : L.length * 5 < t.mask * 3
  fw : L.length ≤ 200
  mm : t.mask = 7 ∨ t.mask = 31 ∨ t.mask = 127 ∨ t.mask = 511
theorem rows_len {P : Program} {w : World} {L : List (Addr × List Int)} {es : Array (Int × Value)} (e : es.toList = rowsOf P w L) : es.size = L.length := by
  rw [← Array.length_toList, e]
  exact List.length_map _
theorem rows_at {P : Program} {w : World} {L : List (Addr × List Int)} {es : Array (Int × Value)} (e : es.toList = rowsOf P w L) {i : Nat} {q : Addr × List Int} (hq : L[i]? = some q) : es[i]? = some (thash P w q.2, Value.ref q.1) := by
  rw [← Array.getElem?_toList, e]
  show (L.map _)[i]? = _
  rw [List.getElem?_map, hq]
  rfl
theorem fits_of {t : SetTable} {n : Nat} (h1 : t.place.size = n) (h2 : t.dummies = #[]) (h3 : n ≤ t.mask) : t.fits n = true := by
  unfold SetTable.fits SetTable.fill
  rw [h2, h1]
  simpa using h3
section
variable {P : Program} {w : World} {A : Around} {E : Value → Shared → Prop} {s : Shared} {a : Addr} {L : List (Addr × List Int)} {es : Array (Int × Value)} {ep : Nat} {t : SetTable}
theorem StT.pn (S0 : StT P w s.heap a L es ep t) : t.place.size = L.length := by rw [S0.tb.n, List.length_map]
theorem StT.ft (S0 : StT P w s.heap a L es ep t) : t.fits es.size = true := by
  rw [rows_len S0.rw_]
  have := S0.rm
  exact fits_of S0.pn S0.tb.d (by omega)
/-- the search, from a step of the way on -/
theorem srch_from (S0 : StT P w s.heap a L es ep t) {x : Addr} {k : List Int} (isx : IsT P w s.heap k x) (un : A.units < cLine) {c0 : Nat} (cf : c0 < 10 * SetTable.turns t.mask) (cn : way t.mask (thash P w k) c0 ∉ t.place.toList)
    (cb : ∀ c, c < c0 → way t.mask (thash P w k) c ∈ t.place.toList) {Q : SetFound → Shared → Prop} (yes : k ∈ L.map (·.2) → Q (.there none) s) (no : k ∉ L.map (·.2) → Q (.free (way t.mask (thash P w k) c0) false) s) :
    ∀ (fu c : Nat) (st : Option SetTable.Probe), st.getD (t.probeStart (thash P w k)) = stnd t.mask (thash P w k) c → c ≤ c0 → c0 - c < fu →
      (∀ (i : Nat) q, L[i]? = some q → q.2 = k → ∃ e, c ≤ e ∧ e < c0 ∧ t.place.toList[i]? = some (way t.mask (thash P w k) e)) → wpAny (model P w) A (setSearchFrom a (.ref x) (thash P w k) true fu st) Q E s
  | 0, _, _, _, _, lt, _ => absurd lt (Nat.not_lt_zero _)
  | fu + 1, c, st, est, hc, lt, kept => by
    obtain ⟨o, go, gx, gd⟩ := S0.ob
    obtain ⟨g, eg⟩ : ∃ g, g = thash P w k := ⟨_, rfl⟩
    have ft := S0.ft
    rw [setSearchFrom_succ]
    refine wpAny_bind (wpAny_setState_of go gd ft ?_)
    dsimp only
    refine wp_if_neg (by unfold SetTable.gaveWay; rw [S0.tb.m.odd]; decide) ?_
    try refine wpAny_bind (wpAny_pure ?_)
    have jj : ∀ q, (nth t.mask (stnd t.mask (thash P w k) c) q).j = way t.mask (thash P w k) (c + q) := fun q => by rw [stnd_add]
    have sp := go_spec t S0.tb.r S0.tb.d (fun i => (es[i]?.map (·.1)).getD 0) (thash P w k) (10 * SetTable.turns t.mask) (c0 - c) (stnd t.mask (thash P w k) c) (nth_dm _ _ _ rfl) (by omega)
      (fun q lq => by rw [jj]; exact cb _ (by omega)) (by rw [jj, show c + (c0 - c) = c0 by omega]; exact cn)
    have hat : ∀ (i : Nat) q, L[i]? = some q → (es[i]?.map (·.1)).getD 0 = thash P w q.2 := fun i q hq => by
      rw [rows_at S0.rw_ hq]
      rfl
    rcases sp with ⟨q, i, lq, pi, _, miss, found⟩ | ⟨miss, found⟩
    · rw [jj] at pi
      have f2 : t.probe (fun i => (es[i]?.map (·.1)).getD 0) (thash P w k) (stnd t.mask (thash P w k) c) = _ := found
      rw [est, f2, jj, stnd_add]
      dsimp only
      have il : i < L.length := by
        have z : i < t.place.toList.length := (List.getElem?_eq_some_iff.mp pi).1
        rw [Array.length_toList, S0.pn] at z
        exact z
      obtain ⟨y, hy⟩ : ∃ y, L[i]? = some y := ⟨_, List.getElem?_eq_getElem il⟩
      have ym : y ∈ L := List.mem_of_getElem? hy
      have go_on : wpAny (model P w) A (searchRest a (.ref x) (thash P w k) true fu es t (way t.mask (thash P w k) (c + q)) i (stnd t.mask (thash P w k) (c + (q + 1)))) Q E s := by
        unfold searchRest
        rw [rows_at S0.rw_ hy]
        dsimp only
        refine wpAny_bind (wpAny_holding (wpAny_eqBool_tuple un (S0.tu y ym) isx ?_))
        refine wpAny_bind (wpAny_setState_of go gd ft ?_)
        dsimp only
        by_cases same : y.2 = k
        · refine wp_if_pos (by simp [same]) (wpAny_pure (yes ?_))
          rw [← same]
          exact List.mem_map_of_mem ym
        · refine wp_if_neg (by simp [same]) ?_
          try refine wpAny_bind (wpAny_pure ?_)
          rw [sameMem]
          dsimp only
          have live : t.slot (way t.mask (thash P w k) (c + q)) = .live i := slot_live S0.tb.r pi
          simp only [if_true, live, rows_at S0.rw_ hy]
          refine wpAny_bind (wpAny_isSame_ref_self (wpAny_bind (wpAny_pure ?_)))
          simp only [if_true]
          refine wp_if_neg (by simp [same]) (srch_from S0 isx un cf cn cb yes no fu (c + (q + 1)) _ rfl (by omega) (by omega) fun i2 q2 h2 k2 => ?_)
          obtain ⟨e, e1, e2, e3⟩ := kept i2 q2 h2 k2
          refine ⟨e, Classical.byContradiction fun ne => ?_, e2, e3⟩
          by_cases eq : e = c + q
          · rw [eq] at e3
            have z := slot_live S0.tb.r e3
            rw [live] at z
            injection z with z
            rw [← z, hy] at h2
            injection h2 with h2
            exact same (by rw [h2]; exact k2)
          · exact miss (e - c) i2 (by omega) (by rw [jj, show c + (e - c) = e by omega]; exact e3) (by rw [hat i2 q2 h2, k2])
      by_cases led : t.led = true
      · refine wp_if_neg (by simp [led]) ?_
        try refine wpAny_bind (wpAny_pure ?_)
        exact go_on
      · refine wp_if_pos (by simp [led]) (wpAny_bind (seen_tup isx (fun v hv => ?_) ?_))
        · obtain ⟨u, hu1, rfl⟩ := List.mem_map.mp hv
          have hu2 : u ∈ es.toList := by
            have z : u ∈ es ∧ u.1 = thash P w k := by simpa using hu1
            simpa using z.1
          rw [S0.rw_] at hu2
          obtain ⟨q2, m2, rfl⟩ := List.mem_map.mp hu2
          exact ⟨q2.2, q2.1, rfl, S0.tu q2 m2⟩
        · refine wp_if_neg (by decide) ?_
          try refine wpAny_bind (wpAny_pure ?_)
          exact go_on
    · rw [jj, show c + (c0 - c) = c0 by omega] at found
      have f2 : t.probe (fun i => (es[i]?.map (·.1)).getD 0) (thash P w k) (stnd t.mask (thash P w k) c) = _ := found
      rw [est, f2]
      dsimp only
      refine wpAny_pure (no fun mem => ?_)
      obtain ⟨q2, m2, k2⟩ := List.mem_map.mp mem
      obtain ⟨i2, l2, h2⟩ := List.getElem_of_mem m2
      have h2' : L[i2]? = some q2 := by rw [List.getElem?_eq_getElem l2, h2]
      obtain ⟨e, e1, e2, e3⟩ := kept i2 q2 h2' k2
      exact miss (e - c) i2 (by omega) (by rw [jj, show c + (e - c) = e by omega]; exact e3) (by rw [hat i2 q2 h2', k2])
theorem srch (S0 : StT P w s.heap a L es ep t) {x : Addr} {k : List Int} (isx : IsT P w s.heap k x) (un : A.units < cLine) {Q : SetFound → Shared → Prop} (yes : k ∈ L.map (·.2) → Q (.there none) s)
    (no : ∀ c, k ∉ L.map (·.2) → way t.mask (thash P w k) c ∉ t.place.toList → (∀ c', c' < c → way t.mask (thash P w k) c' ∈ t.place.toList) → Q (.free (way t.mask (thash P w k) c) false) s) : wpAny (model P w) A (setSearch a (.ref x) (thash P w k) true) Q E s := by
  have rm := S0.rm
  obtain ⟨c, cf, cn, cb⟩ := S0.tb.first (by rw [List.length_map]; omega) (thash P w k)
  have big : c < 100000 := by
    have := S0.tb.m.few
    unfold SetTable.turns at cf
    omega
  unfold setSearch
  refine srch_from S0 isx un cf cn cb yes (fun z => no c z cn cb) 100000 0 none rfl (Nat.zero_le _) (by omega) fun i q hq kq => ?_
  have il : i < t.place.toList.length := by
    rw [Array.length_toList, S0.pn]
    exact (List.getElem?_eq_some_iff.mp hq).1
  have pi := List.getElem?_eq_getElem il
  obtain ⟨e, e1, e2⟩ := S0.tb.ahead cn (i := i) (by rw [List.getElem?_map, hq, ← kq]; rfl) pi
  exact ⟨e, Nat.zero_le _, e1, by rw [pi, e2]⟩
/-- the table grows -/
theorem relay_set {o : Obj} (go : s.heap.get? a = some o) (gx : o.ExactSet) (gd : o.data = .set es ep t) (er : es.toList = rowsOf P w L) (pn : t.place.size = L.length) (dm : t.dummies = #[]) (lm : L.length ≤ t.mask) (nd : (L.map (·.2)).Nodup)
    (tu : ∀ q ∈ L, IsT P w s.heap q.2 q.1) (pl : t.plain = true) (ld : w.params.followText "set-order" = true ∨ t.led = true) (fw : L.length ≤ 200) {wanted m : Nat} (hw : SetTable.sizeAbove wanted = m + 1) (M : Msk m) (rm : L.length * 5 < m * 3) (mk : m = 7 ∨ m = 31 ∨ m = 127 ∨ m = 511) {Q : Unit → Shared → Prop}
    (fin : ∀ h' L' es' ep' t', Heap.SameBut a s.heap h' → StT P w h' a L' es' ep' t' → L'.Perm L → Q () { s with heap := h' }) : wpAny (model P w) A (setRelay a wanted) Q E s := by
  have sl := rows_len er
  obtain ⟨t1, order, r0, r1, r2, r3, r4, r5, r6⟩ := relay_tab t (hs := es.map (·.1)) (wanted := wanted) (m := m) (by omega) M (by rw [Array.size_map, sl]; omega)
  rw [Array.size_map, sl] at r1
  obtain ⟨L1, z1, z2, z3⟩ := order_rows L es order er r1
  rw [← z3] at r2
  have sz1 : (order.filterMap (es[·]?)).size = es.size := by rw [rows_len z1, z2.length_eq, sl]
  have few := M.few
  rw [setRelay_eq]
  refine wpAny_bind (wpAny_setState_of go gd (by rw [sl]; exact fits_of pn dm lm) ?_)
  dsimp only
  refine wp_if_neg (by rw [sizeLine_eq, hw]; omega) ?_
  try refine wpAny_bind (wpAny_pure ?_)
  rw [r0]
  refine wpAny_bind (wp_if_neg (by rw [sz1]; simp) ?_)
  try refine wpAny_bind (wpAny_pure ?_)
  refine wpAny_pure ?_
  dsimp only
  refine wpAny_storeSet_of go gd ?_ (by rw [sz1, sl, sizeLine_eq]; omega)
  have sb : Heap.SameBut a s.heap (s.heap.update a (Obj.putSet (order.filterMap (es[·]?)) t1)) := Heap.SameBut.update ..
  refine fin _ L1 _ _ t1 sb ⟨⟨_, store_at go gd, ⟨gx.1, gx.2.1, gx.2.2⟩, rfl⟩, z1, r2, (z2.map (·.2)).nodup_iff.mpr nd, fun q hq => isT_same (tu q (z2.mem_iff.mp hq)) go gd sb, by rw [r5, pl], by rw [r4]; exact ld, by rw [z2.length_eq, r3]; exact rm, by rw [z2.length_eq]; exact fw, by rw [r3]; exact mk⟩ z2
theorem grow5 : SetTable.sizeAbove (SetTable.grown 5) = 31 + 1 := by decide +kernel
theorem grow19 : SetTable.sizeAbove (SetTable.grown 19) = 127 + 1 := by decide +kernel
theorem grow77 : SetTable.sizeAbove (SetTable.grown 77) = 511 + 1 := by decide +kernel
/-- one is added -/
theorem add_set (S0 : StT P w s.heap a L es ep t) {x : Addr} {k : List Int} (isx : IsT P w s.heap k x) (un : A.units < cLine) (few : L.length < 200) {Q : Bool → Shared → Prop}
    (fin : ∀ b h' L' es' ep' t', Heap.SameBut a s.heap h' → StT P w h' a L' es' ep' t' → (k ∈ L.map (·.2) → L' = L) → (k ∉ L.map (·.2) → L'.Perm ((x, k) :: L)) → Q b { s with heap := h' }) : wpAny (model P w) A (setAddHashed a (.ref x) (thash P w k)) Q E s := by
  obtain ⟨o, go, gx, gd⟩ := S0.ob
  have sl := rows_len S0.rw_
  have rm := S0.rm
  have ft := S0.ft
  unfold setAddHashed
  refine wpAny_holding ?_
  rw [show (100000 : Nat) = 99999 + 1 from rfl, setAddHashedIn_succ]
  refine wpAny_bind (wpAny_setState_of go gd ft ?_)
  dsimp only
  refine wp_if_neg (by simp [byScan, Value.scannable]) ?_
  try refine wpAny_bind (wpAny_pure ?_)
  refine wpAny_bind (srch S0 isx un (fun mem => ?_) fun c mem cn cb => ?_)
  · dsimp only
    exact wpAny_pure (fin false s.heap L es ep t (Heap.SameBut.refl a s.heap) S0 (fun _ => rfl) fun z => absurd mem z)
  · dsimp only
    refine wpAny_bind (wpAny_setState_of go gd ft ?_)
    dsimp only
    obtain ⟨p, t1, e0, ep1, lp, T1, m1, l1, p1, f1⟩ := S0.tb.put cn cb
    rw [List.length_map] at f1
    have pl1 : t1.plain = true := by rw [p1, S0.pl]
    rw [e0]
    dsimp only
    first
      | (refine wpAny_bind ?_; refine wp_if_pos pl1 ?_; refine hashBy_tup isx ?_)
      | refine wp_if_pos pl1 (wpAny_bind (hashBy_tup isx ?_))
    simp only [if_true]
    obtain ⟨L1, eL1⟩ : ∃ L1, L1 = L.take p ++ (x, k) :: L.drop p := ⟨_, rfl⟩
    have er1 : (SetTable.insertAt es p (thash P w k, Value.ref x)).toList = rowsOf P w L1 := by rw [SetTable.toList_insertAt, eL1, rows_put, S0.rw_]
    have pm : L1.Perm ((x, k) :: L) := by rw [eL1]; exact put_perm L p (x, k)
    have len : L1.length = L.length + 1 := pm.length_eq
    have T2 : TbS t1 (L1.map fun q => thash P w q.2) := by
      rw [eL1, List.map_append, List.map_cons, List.map_take, List.map_drop]
      exact T1
    have nd1 : (L1.map (·.2)).Nodup := (pm.map (·.2)).nodup_iff.mpr (List.nodup_cons.mpr ⟨mem, S0.nd⟩)
    have sz1 := rows_len er1
    generalize SetTable.insertAt es p (thash P w k, Value.ref x) = es1 at er1 sz1 ⊢
    refine wpAny_bind (wpAny_storeSet_of go gd ?_ (by rw [sz1, len, sizeLine_eq]; omega))
    have sb : Heap.SameBut a s.heap (s.heap.update a (Obj.putSet es1 t1)) := Heap.SameBut.update ..
    have go1 := store_at (es' := es1) (t' := t1) go gd
    generalize s.heap.update a (Obj.putSet es1 t1) = h1 at sb go1 ⊢
    have tu1 : ∀ q ∈ L1, IsT P w h1 q.2 q.1 := fun q hq => by
      rcases List.mem_cons.mp (pm.mem_iff.mp hq) with e | e
      · rw [e]; exact isT_same isx go gd sb
      · exact isT_same (S0.tu q e) go gd sb
    have ld1 : w.params.followText "set-order" = true ∨ t1.led = true := by rw [l1]; exact S0.ld
    have pn1 : t1.place.size = L1.length := by rw [T2.n, List.length_map]
    by_cases full : t1.tooFull = true
    · first
        | (refine wpAny_bind ?_; refine wp_if_pos (by simp [full]) ?_)
        | (refine wp_if_pos (by simp [full]) ?_; refine wpAny_bind ?_)
      have fl : (L.length + 1) * 5 ≥ t.mask * 3 := by
        unfold SetTable.tooFull at full
        rw [decide_eq_true_eq, f1, m1] at full
        exact full
      rw [sl]
      have nxt : ∃ m, SetTable.sizeAbove (SetTable.grown (L.length + 1)) = m + 1 ∧ Msk m ∧ (L.length + 1) * 5 < m * 3 ∧ L.length + 1 ≤ t.mask ∧ (m = 7 ∨ m = 31 ∨ m = 127 ∨ m = 511) := by
        rcases S0.mm with e | e | e | e
        · rw [e] at fl rm ⊢
          exact ⟨31, by rw [show L.length + 1 = 5 by omega, grow5], msk31, by omega, by omega, by omega⟩
        · rw [e] at fl rm ⊢
          exact ⟨127, by rw [show L.length + 1 = 19 by omega, grow19], msk127, by omega, by omega, by omega⟩
        · rw [e] at fl rm ⊢
          exact ⟨511, by rw [show L.length + 1 = 77 by omega, grow77], msk511, by omega, by omega, by omega⟩
        · rw [e] at fl
          omega
      obtain ⟨m, w1, w2, w3, w4, w5⟩ := nxt
      refine relay_set (s := { s with heap := h1 }) go1 ⟨gx.1, gx.2.1, gx.2.2⟩ rfl er1 pn1 T2.d (by rw [len, m1]; exact w4) nd1 tu1 pl1 ld1 (by omega) w1 w2 (by rw [len]; exact w3) w5 fun h2 L2 es2 ep2 t2 sb2 S2 pm2 => ?_
      exact wpAny_pure (fin true h2 L2 es2 ep2 t2 (sb.trans sb2) S2 (fun z => absurd z mem) fun _ => pm2.trans pm)
    · first
        | refine wp_if_neg (by simp [full]) ?_
        | (refine wpAny_bind ?_; refine wp_if_neg (by simp [full]) ?_; refine wpAny_pure ?_)
      refine wpAny_pure (fin true h1 L1 es1 (ep + 1) t1 sb ⟨⟨_, go1, ⟨gx.1, gx.2.1, gx.2.2⟩, rfl⟩, er1, T2, nd1, tu1, pl1, ld1, ?_, by omega, by rw [m1]; exact S0.mm⟩ (fun z => absurd z mem) fun _ => pm)
      unfold SetTable.tooFull at full
      rw [decide_eq_true_eq, f1] at full
      omega
end
end IC
namespace IC
open PySem PySem.W L2
/-! ### sorted of a list of data, any length -/
def srtV (xs : List V) (ds : List PyData) : List (V × PyData) := (xs.zip ds).mergeSort (PySem.W.dataLe false fun p : V × PyData => p.2)
def rSortD (K : PySem.W.Frag) : List V → Hp → VK → Prop := fun vs H Q => ∃ (a : Addr) (xs : List V) (ds : List PyData), vs = [.ref a] ∧ SqL K H a xs ∧ DpAll K H xs ds ∧ xs.length = ds.length ∧ PySem.W.AllAlike ds ∧ PySem.W.Sortable ds ∧ (∀ d ∈ ds, d.depth ≤ 60) ∧
  ∀ p, H p = none → Q (.ref p) (upd H p (.lst ((srtV xs ds).map (·.1))))
theorem zip_snd {α β : Type} : ∀ {xs : List α} {ds : List β}, xs.length = ds.length → (xs.zip ds).map (fun p => p.2) = ds
  | [], [], _ => rfl
  | x :: xs, d :: ds, h => by rw [List.zip_cons_cons, List.map_cons, zip_snd (by simpa using h)]
  | [], _ :: _, h => by simp at h
  | _ :: _, [], h => by simp at h
theorem zip_fst {α β : Type} : ∀ {xs : List α} {ds : List β}, xs.length = ds.length → (xs.zip ds).map (fun p => p.1) = xs
  | [], [], _ => rfl
  | x :: xs, d :: ds, h => by rw [List.zip_cons_cons, List.map_cons, zip_fst (by simpa using h)]
  | [], _ :: _, h => by simp at h
  | _ :: _, [], h => by simp at h
theorem each_vals : ∀ {us : List Value} {bs : List (V × PyData)}, EachIs (fun u (b : V × PyData) => RelV b.1 u) us bs → Vals (bs.map (·.1)) us
  | _, _, .nil => .nil
  | _, _, .cons r t => .cons r (each_vals t)
theorem vals_each : ∀ {xs : List V} {us : List Value} {ds : List PyData}, xs.length = ds.length → Vals xs us → EachIs (fun u (b : V × PyData) => RelV b.1 u) us (xs.zip ds)
  | _, _, [], _, .nil => .nil
  | _, _, _ :: _, h, .nil => by simp at h
  | _, _, [], h, .cons _ _ => by simp at h
  | _, _, d :: ds, h, .cons r t => .cons r (vals_each (by simpa using h) t)
theorem reads_each {h : Heap} : ∀ {xs : List V} {us : List Value} {ds : List PyData} {as : List Addr}, xs.length = us.length → ReadsAll h us ds as → EachIs (fun u (b : V × PyData) => ∃ as, Reads h u b.2 as) us (xs.zip ds)
  | [], _, _, _, _, .nil => .nil
  | _ :: _, _, _, _, e, .nil => by simp at e
  | [], _, _, _, e, .cons _ _ => by simp at e
  | x :: xs, _, _, _, e, .cons r t => .cons ⟨_, r⟩ (reads_each (by simpa using e) t)
section
variable {X : Cx} {K : PySem.W.Frag}
theorem cr_sortD (hc : X.calm = true) (hu : X.A.units + 65 < cLine) : CallR X (.builtin "sorted") (rSortD X.K) := by
  intro pins s σ H vs us Q I r h
  obtain ⟨a, xs, ds, rfl, hs, hd, hlen, hal, hso, hdep, q⟩ := h
  obtain ⟨its, rv, hl, hz⟩ := I.list hs
  rw [Vals.ref1 r]
  obtain ⟨as, hr⟩ := Dp.readsAll I _ _ its hd rv
  have e2 := zip_snd hlen
  refine PySem.W.sorted_data (R := fun u (b : V × PyData) => RelV b.1 u) (enc := fun b : V × PyData => b.2) (bs := xs.zip ds) hl.isList (vals_each hlen rv) (reads_each rv.length hr) (by rw [e2]; exact hal) (by rw [e2]; exact hso) ?_ (fun b hb => ?_) fun out ho he => ?_
  · rw [List.length_zip]
    have := hz
    omega
  · have := hdep b.2 (by rw [← e2]; exact List.mem_map.mpr ⟨b, hb, rfl⟩)
    omega
  · obtain ⟨ep, he'⟩ := PyProof.Rows.sortedAll_at s.heap its out.toArray
    have hv := each_vals he
    have hlen' : ((srtV xs ds).map (·.1)).length ≤ sizeLine := by
      unfold srtV
      rw [List.length_map, List.length_mergeSort, List.length_zip]
      have := hz
      omega
    exact ⟨.ref _, upd H (s.heap.objs.size + 1) (.lst ((srtV xs ds).map (·.1))), I.laid (t' := s.toks) (fun _ _ => PyProof.Rows.sortedAll_old) (Nat.le_succ _) ⟨hlen', out, ep, hv, he'⟩, rfl, q _ (I.hok.fresh (Nat.le_succ _))⟩
theorem cr_sortDK (hc : X.calm = true) (hu : X.A.units + 65 < cLine) (hK : X.K = K := by rfl) : CallR X (.builtin "sorted") (rSortD K) := by subst hK; exact cr_sortD hc hu
end
theorem srtV_perm (xs : List V) (ds : List PyData) : (srtV xs ds).Perm (xs.zip ds) := List.mergeSort_perm ..
theorem srtV_sorted (xs : List V) (ds : List PyData) : (srtV xs ds).Pairwise fun a b => PySem.W.dataLt b.2 a.2 = false := by
  have h : (srtV xs ds).Pairwise fun a b => PySem.W.dataLe false (fun p : V × PyData => p.2) a b = true := sort_pairwise (sortLe_total _ _ _) _
  refine h.imp fun {a b} e => ?_
  rw [PySem.W.dataLe_eq] at e
  simpa using e
end IC
namespace IC
open PySem PySem.Spec PyProof.Rows L2
section
variable {P : Program} {w : World} {A : Around} {E : Value → Shared → Prop} {s : Shared}
theorem StT.on {h h' : Heap} {a : Addr} {L : List (Addr × List Int)} {es : Array (Int × Value)} {ep : Nat} {t : SetTable} (S0 : StT P w h a L es ep t) (ka : ∀ o, h.get? a = some o → h'.get? a = some o) (kt : ∀ q ∈ L, IsT P w h' q.2 q.1) : StT P w h' a L es ep t := by
  obtain ⟨o, go, rest⟩ := S0.ob
  exact ⟨⟨o, ka o go, rest⟩, S0.rw_, S0.tb, S0.nd, kt, S0.pl, S0.ld, S0.rm, S0.fw, S0.mm⟩
theorem stT_new {h : Heap} {a : Addr} (go : h.get? a = some (emptyO w)) : StT P w h a [] #[] 0 (.fresh 0 0 (!w.params.followText "set-order")) := by
  refine ⟨⟨_, go, ⟨rfl, rfl, rfl⟩, rfl⟩, rfl, ⟨.nil, rfl, rfl, msk7, (fun _ z => nomatch z), (fun i g x z => by simp at z)⟩, .nil, (fun _ z => nomatch z), rfl, ?_, by show 0 < 7 * 3; decide, Nat.zero_le _, .inl rfl⟩
  cases e : w.params.followText "set-order" with
  | true => exact .inl rfl
  | false => exact .inr rfl
/-- a list's tuples, one by one -/
theorem upd_loop {I : Addr} {fp wr : List Addr} {G : Array GenState → Array GenState → Prop} {n : Nat} {Pv : Nat → Value → Prop} {St : Nat → Shared → Prop} {R : Result → Shared → Prop} (W : WalksS P w A.in1 I fp wr G n Pv St) (S : Addr) (nS : S ∉ fp)
    (ks : List (Addr × List Int)) (nk : n = ks.length) (few : ks.length ≤ 200) (vals : ∀ i v, Pv i v → ∃ q, ks[i]? = some q ∧ v = .ref q.1) (hA : Heap) (kt : ∀ q ∈ ks, IsT P w hA q.2 q.1) (sA : hA.get? S = none) (wA : ∀ b ∈ wr, hA.get? b = none) (un : A.in1.units < cLine) :
    ∀ (left i : Nat) (s : Shared), n - i = left → i ≤ n → St i s → (∀ b o, hA.get? b = some o → s.heap.get? b = some o) → (∃ L es ep t, StT P w s.heap S L es ep t ∧ Got ks i L) →
      (∀ s1 L es ep t, Moved (S :: wr) G s s1 → StT P w s1.heap S L es ep t → Got ks n L → (∀ b o, hA.get? b = some o → s1.heap.get? b = some o) → R (.ok (.ret .none)) s1) → codeAny (model P w) A (.builtin "set.update.loop" ⟨[.ref S, .ref I], []⟩) R s := by
  have nSw : S ∉ wr := fun z => nS (W.sub _ z)
  have more : ∀ b ∈ wr, b ∈ S :: wr := fun b z => List.mem_cons_of_mem _ z
  have stay : ∀ {s0 s1 : Shared}, Moved wr G s0 s1 → (∀ b o, hA.get? b = some o → s0.heap.get? b = some o) → ∀ b o, hA.get? b = some o → s1.heap.get? b = some o := fun mv kp b o e => mv.heap b o (fun z => by rw [wA b z] at e; cases e) (kp b o e)
  intro left
  induction left with
  | zero =>
    intro i s el le st kp ⟨L, es, ep, t, S0, g⟩ fin
    obtain rfl : i = n := by omega
    refine codeAny_builtin F.entry_set_update_loop ?_
    rw [Around.under_plainId F.plain_set_update_loop _]
    show wpAny _ A.in1 (pyNext (.ref I) >>= _) _ _ s
    refine wpAny_bind (W.done s _ _ st fun s1 mv => ?_)
    show wpAny _ A.in1 (ret Value.none) _ _ s1
    have kp1 := stay mv kp
    exact wpAny_pure (fin s1 L es ep t (mv.mono more) (S0.on (fun o e => mv.heap S o nSw e) fun q hq => isT_keep (kt q (List.mem_of_mem_take (g.sub q hq))) kp1) g kp1)
  | succ left ih =>
    intro i s el le st kp ⟨L, es, ep, t, S0, g⟩ fin
    have lt : i < n := by omega
    refine codeAny_builtin F.entry_set_update_loop ?_
    rw [Around.under_plainId F.plain_set_update_loop _]
    show wpAny _ A.in1 (pyNext (.ref I) >>= _) _ _ s
    refine wpAny_bind (W.item i s _ _ lt st fun v s1 hv st1 mv => ?_)
    obtain ⟨q, hq, rfl⟩ := vals i v hv
    have kp1 := stay mv kp
    have S1 : StT P w s1.heap S L es ep t := S0.on (fun o e => mv.heap S o nSw e) fun y hy => isT_keep (kt y (List.mem_of_mem_take (g.sub y hy))) kp1
    have isq : IsT P w s1.heap q.2 q.1 := isT_keep (kt q (List.mem_of_getElem? hq)) kp1
    show wpAny _ A.in1 (holding [Value.ref q.1] (setAdd S (.ref q.1)) >>= _) _ _ s1
    refine wpAny_bind (wpAny_holding ?_)
    unfold setAdd
    refine wpAny_holding (wpAny_bind (wpAny_pyHash_tuple un isq ?_))
    refine add_set (s := { s1 with toks := s1.toks + (q.2.length + 1) }) S1 isq un (by have := g.len; omega) fun b h2 L2 es2 ep2 t2 sb S2 old new => ?_
    have g2 : Got ks (i + 1) L2 := by
      by_cases c : q.2 ∈ L.map (·.2)
      · rw [old c]; exact g.same hq c
      · exact g.more hq (new c)
    have kp2 : ∀ b o, hA.get? b = some o → h2.get? b = some o := fun b o e => by
      rw [sb.2 b (fun z => by rw [z, sA] at e; cases e)]
      exact kp1 b o e
    refine wpAny_pure ⟨plainId_quiet F.plain_set_update_loop _, ih (i + 1) _ (by omega) lt (W.frame _ s1 _ _ st1 (Nat.le_add_right _ _) fun b hb o e => ?_) kp2 ⟨L2, es2, ep2, t2, S2, g2⟩ fun s3 L3 es3 ep3 t3 mv3 S3 g3 kp3 => ?_⟩
    · show h2.get? b = some o
      rw [sb.2 b (fun z => nS (z ▸ hb))]
      exact e
    · refine fin s3 L3 es3 ep3 t3 (Moved.trans W.gtrans ((mv.mono more).then_heap (Nat.le_add_right _ _) fun b o hb e => ?_) mv3) S3 g3 kp3
      show h2.get? b = some o
      rw [sb.2 b (fun z => hb (by rw [z]; exact List.mem_cons_self))]
      exact e
theorem setT_raw {l : Addr} {its : Array Value} (ks : List (Addr × List Int)) {Q : Value → Shared → Prop} (hh : A.handled = none) (lis : s.heap.IsList l its) (hit : its.toList = ks.map fun q => Value.ref q.1) (kt : ∀ q ∈ ks, IsT P w s.heap q.2 q.1) (few : ks.length ≤ 200) (un : A.units + 3 < cLine)
    (fin : ∀ (h' : Heap) (tk : Nat) L es ep t, StT P w h' s.heap.objs.size L es ep t → Got ks ks.length L → (∀ b o, s.heap.get? b = some o → h'.get? b = some o) → Q (.ref s.heap.objs.size) { s with heap := h', toks := tk }) :
    wpAny (model P w) A (call (.type "set") [.ref l]) Q E s := by
  have lenE : its.size = ks.length := by rw [← Array.length_toList, hit, List.length_map]
  obtain ⟨_, _, m1⟩ := F.called_set.mro
  have m2 := F.called_set.made; have m3 := F.called_set.sub; have m4 := F.called_set.notType; have m5 := F.called_set.canCreate; have m6 := F.typeCall_set_1 (.ref l)
  refine wpAny_call (codeAny_of_tree (?_ : wpAny _ _ (callAny (.type "set") _) _ _ _))
  refine wpAny_pure (⟨Code.quiet_builtin _ (by decide +kernel), codeAny_builtin F.entry_type_call ?_⟩)
  rw [Around.under_plain (weight_type_call_type "set" [Value.ref l] []) rfl]
  repeat (any_goals first | assumption | wp_step)
  refine codeAny_mono (code_set_led1 (.ref l) (E := E) (Q₁ := fun ob t1 => ob = .ref s.heap.objs.size ∧ t1 = { s with heap := s.heap.push (emptyO w) }) ⟨rfl, rfl⟩) fun res t1 hres => ?_
  cases res with
  | error er => exact hres
  | ok fl =>
    cases fl with
    | ret ob =>
      obtain ⟨rfl, rfl⟩ := hres
      have at0 : (s.heap.push (emptyO w)).get? s.heap.objs.size = some (emptyO w) := Heap.get?_push_size _ rfl
      have ty0 : Shared.TypeIs { s with heap := s.heap.push (emptyO w) } (.ref s.heap.objs.size) "set" := ⟨_, at0, rfl⟩
      have i1 := F.called_set.init.lookup; have i2 := F.called_set.init.bind (.ref s.heap.objs.size)
      repeat (any_goals first | assumption | wp_step)
      refine codeAny_mono (codeAny_call_builtin (R := wants (fun r t2 => r = .none ∧ ∃ h' tk L es ep t, t2 = { s with heap := h', toks := tk } ∧ StT P w h' s.heap.objs.size L es ep t ∧ Got ks ks.length L ∧ (∀ b o, s.heap.get? b = some o → h'.get? b = some o)) E)
        F.called_set.init.plain F.entry_set_init (check_set_init_1 ty0 ?_)) fun r2 t2 h2 => ?_
      · obtain ⟨⟨oc, odi, oda, osl⟩, hol, hcl, nl, hdl⟩ := lis
        simp only at hcl hdl
        subst hcl hdl
        have hol2 : (s.heap.push (emptyO w)).get? l = some { cls := .type "list", dict := odi, data := .seq its nl, slots := osl } := Heap.get?_push_of_some _ hol
        have k1 := F.sub_list_set; have k2 := F.sub_list_frozenset
        have k3 : (Value.type "list" == Value.type "dict") = false := by decide
        have lis2 : (s.heap.push (emptyO w)).IsList l its := ⟨_, hol2, rfl, nl, rfl⟩
        unfold Builtin.«set.__init__» noKeywords Builtin.Frozenset.updateFrom; generalize hG : pyIter = GI; wp_walk; subst hG
        refine wpAny_pyIter_list lis2 (wpAny_bind (wpAny_runValue ?_))
        have lt0 : l < s.heap.objs.size := Heap.lt_size hol
        have hd3 : A.in1.in1.in1.handled = none := by simp [hh]
        have ne0 : l ≠ (s.heap.push (emptyO w)).objs.size := by rw [Heap.size_push]; exact Nat.ne_of_lt (Nat.lt_succ_of_lt lt0)
        have out0 : s.heap.objs.size ∉ [(s.heap.push (emptyO w)).objs.size, l] := by
          rw [Heap.size_push]; intro z; simp only [List.mem_cons, List.not_mem_nil, or_false] at z
          rcases z with z | z
          · exact absurd z (Nat.ne_of_lt (Nat.lt_succ_self _))
          · exact absurd z.symm (Nat.ne_of_lt lt0)
        have vals : ∀ (i : Nat) (v : Value), its[i]? = some v → ∃ q, ks[i]? = some q ∧ v = .ref q.1 := fun i v hv => by
          have z : its.toList[i]? = some v := by rw [Array.getElem?_toList, hv]
          rw [hit, List.getElem?_map] at z
          obtain ⟨q, hq, rfl⟩ := Option.map_eq_some_iff.mp z
          exact ⟨q, hq, rfl⟩
        have free : ∀ b, s.heap.objs.size ≤ b → s.heap.get? b = none := fun b hb => by
          cases e : s.heap.get? b with
          | none => rfl
          | some o =>
            exact absurd (Heap.lt_size e) (Nat.not_lt.mpr hb)
        refine upd_loop ((Walks.list hd3 _ l ne0 its).toS) s.heap.objs.size out0 ks lenE few vals s.heap kt (free _ (Nat.le_refl _)) (fun b hb => free b (by rw [List.mem_singleton.mp hb, Heap.size_push]; exact Nat.le_succ _)) un (its.size - 0) 0 _ (by omega) (Nat.zero_le _) ⟨⟨_, Heap.get?_push_size _ rfl, rfl, rfl⟩, lis2.push _⟩ (fun b o e => Heap.get?_push_of_some _ (Heap.get?_push_of_some _ e)) ⟨[], #[], 0, _, stT_new (Heap.get?_push_of_some _ at0), Got.zero ks⟩ ?_
        intro t3 L es ep t mv S3 g3 kp3
        obtain ⟨h', g2, d', tk', os'⟩ := t3
        obtain rfl : g2 = s.gens := mv.gens
        obtain rfl : d' = s.drawn := mv.drawn
        obtain rfl : os' = s.os := mv.os
        show wpAny _ _ (_ : Sem _) _ _ _
        refine wpAny_pure (show wpAny _ _ (ret Value.none) _ _ _ from ?_)
        rw [lenE] at g3
        exact wpAny_pure ⟨rfl, h', tk', L, es, ep, t, rfl, S3, g3, kp3⟩
      · cases r2 with
        | error er => exact h2
        | ok fl2 =>
          cases fl2 with
          | ret r =>
            obtain ⟨rfl, h', tk, L, es, ep, t, rfl, g1, g2, g3⟩ := h2
            repeat (any_goals first | assumption | wp_step)
            exact fin _ _ _ _ _ _ g1 g2 g3
          | _ => exact h2.elim
    | _ => exact hres.elim
end
/-- a set of tuples as a tracked object -/
structure StK (P : Program) (w : World) (h : Heap) (a : Addr) (L : List (Addr × List Int)) : Prop where
  ex : ∃ (es : Array (Int × Value)) (ep : Nat) (t : SetTable), (∃ o, h.get? a = some o ∧ o.ExactSet ∧ o.data = .set es ep t) ∧ es.toList = rowsOf P w L ∧ TbS t (L.map fun q => thash P w q.2) ∧ (L.map (·.2)).Nodup ∧ t.plain = true ∧ (w.params.followText "set-order" = true ∨ t.led = true) ∧ L.length * 5 < t.mask * 3 ∧ L.length ≤ 200 ∧ (t.mask = 7 ∨ t.mask = 31 ∨ t.mask = 127 ∨ t.mask = 511)
def StO (P : Program) (w : World) (a : Addr) (L : List (Addr × List Int)) : HO := .ext fun h => StK P w h a L
theorem stO_new {P : Program} {w : World} {H : Hp} {h : Heap} {a : Addr} {L : List (Addr × List Int)} {es : Array (Int × Value)} {ep : Nat} {t : SetTable} (S0 : StT P w h a L es ep t) : ObjOk P w H h a (StO P w a L) := by
  obtain ⟨o, go, rest⟩ := S0.ob
  refine ⟨⟨es, ep, t, ⟨o, go, rest⟩, S0.rw_, S0.tb, S0.nd, S0.pl, S0.ld, S0.rm, S0.fw, S0.mm⟩, ⟨o, go⟩, fun h1 h2 p k => ?_⟩
  obtain ⟨es', ep', t', ⟨o', go', rest'⟩, more⟩ := StK.ex p
  exact ⟨es', ep', t', ⟨o', k o' go', rest'⟩, more⟩
section
variable {X : Cx} {K : PySem.W.Frag} {P : Program} {w : World}
def rSetT (K : PySem.W.Frag) (P : Program) (w : World) : List V → Hp → VK → Prop := fun vs H Q => ∃ (l : Addr) (ks : List (Addr × List Int)), vs = [.ref l] ∧ SqL K H l (ks.map fun q => V.ref q.1) ∧ (∀ q ∈ ks, SqT K H q.1 (q.2.map V.int)) ∧ ks.length ≤ 200 ∧
  ∀ a L, H a = none → (∀ q ∈ L, q ∈ ks) → (∀ q ∈ ks, q.2 ∈ L.map (·.2)) → (L.map (·.2)).Nodup → Q (.ref a) (L2.upd H a (StO P w a L))
theorem cr_setT (hc : X.calm = true) (hu : X.A.units + 64 < cLine) : CallR X (.type "set") (rSetT X.K X.prog X.w) := by
  intro pins s σ H vs us Q I r h
  obtain ⟨l, ks, rfl, hl, hk, hf, q⟩ := h
  rw [Vals.ref1 r]
  obtain ⟨its, rv, pl, _⟩ := I.list hl
  refine setT_raw (P := X.prog) (w := X.w) ks (I.ok.hd hc) pl.isList (by simpa using refs_of_vals rv) (fun y hy => I.isT (hk y hy)) hf (by omega) fun h' tk L es ep t S0 g k => ?_
  exact ⟨.ref s.heap.objs.size, L2.upd H s.heap.objs.size (StO X.prog X.w s.heap.objs.size L), I.laid (t' := tk) k (Nat.le_refl _) (stO_new S0), rfl, q _ L (I.hok.fresh (Nat.le_refl _)) (fun y hy => List.mem_of_mem_take (g.sub y hy)) (fun y hy => g.all y (by rw [List.take_length]; exact hy)) S0.nd⟩
theorem cr_setTK (hc : X.calm = true) (hu : X.A.units + 64 < cLine) (hK : X.K = K := by rfl) (hP : X.prog = P := by rfl) (hw : X.w = w := by rfl) : CallR X (.type "set") (rSetT K P w) := by subst hK; subst hP; subst hw; exact cr_setT hc hu
theorem cr_lenSetT (hP : X.prog = P := by rfl) (hw : X.w = w := by rfl) : CallR X (.builtin "len") (fun vs H Q => ∃ (p : Addr) (L : List (Addr × List Int)), vs = [.ref p] ∧ H p = some (StO P w p L) ∧ Q (.int (L.length : Int)) H) := by
  subst hP; subst hw
  intro pins s σ H vs us Q I r h
  obtain ⟨p, L, rfl, hp, q⟩ := h
  rw [Vals.ref1 r]
  obtain ⟨⟨es, ep, t, ⟨o, go, gx, gd⟩, er, tb, _, _, _, rm, fw, _⟩, _, _⟩ := I.hok p _ hp
  have sl := rows_len er
  have pn : t.place.size = L.length := by rw [tb.n, List.length_map]
  refine call_len_set go gx gd (by rw [sl]; exact fits_of pn tb.d (by omega)) (by rw [sl]; omega) ⟨.int (L.length : Int), H, I.tok _, ⟨_, by rw [sl]⟩, q⟩
end
end IC
namespace IC
open PySem PySem.Spec PyProof.Rows L2
/-! ### sorted(..) of a set of tuples of ints -/
theorem perm_inv {α β : Type} {f : α → β} {vs w : List β} (h : vs.Perm w) : ∀ L : List α, w = L.map f → ∃ L1 : List α, L1.Perm L ∧ vs = L1.map f := by
  induction h with
  | nil =>
    intro L e
    obtain rfl := List.map_eq_nil_iff.mp e.symm
    exact ⟨[], List.Perm.refl _, rfl⟩
  | cons x _ ih =>
    intro L e
    cases L with
    | nil => cases e
    | cons y L =>
      rw [List.map_cons] at e
      injection e with e1 e2
      obtain ⟨L1, p1, e3⟩ := ih L e2
      exact ⟨y :: L1, p1.cons y, by rw [List.map_cons, ← e1, e3]⟩
  | swap x y l =>
    intro L e
    cases L with
    | nil => cases e
    | cons a L =>
      cases L with
      | nil => cases e
      | cons b L =>
        rw [List.map_cons, List.map_cons] at e
        injection e with e1 e
        injection e with e2 e
        exact ⟨b :: a :: L, List.Perm.swap a b L, by rw [List.map_cons, List.map_cons, ← e1, ← e2, e]⟩
  | trans _ _ ih1 ih2 =>
    intro L e
    obtain ⟨L2, p2, e2⟩ := ih2 L e
    obtain ⟨L1, p1, e1⟩ := ih1 L2 e2
    exact ⟨L1, p1.trans p2, e1⟩
def tEnc (q : Addr × List Int) : PyData := .tuple (q.2.map .int)
theorem reads_items {P : Program} {w : World} {h : Heap} : ∀ {k : List Int} {vs : List Value}, ItemsAre (intKind P w) k vs → ReadsAll h vs (k.map .int) [] := by
  intro k vs hi
  induction hi with
  | nil => exact .nil
  | @cons k0 v ks vs h1 _ ih =>
    obtain ⟨t, rfl⟩ := Value.isInt_shape h1
    exact ReadsAll.cons (.int k0 t) ih
theorem reads_tup {P : Program} {w : World} {h : Heap} {k : List Int} {b : Addr} (x : IsT P w h k b) : Reads h (.ref b) (.tuple (k.map .int)) [] := by
  obtain ⟨o, items, n, ho, hc, hd, hi⟩ := x
  exact .tuple ho hc hd (reads_items hi)
theorem each_refs : ∀ (L : List (Addr × List Int)), PySem.W.EachIs (fun (v : Value) (q : Addr × List Int) => v = .ref q.1) (L.map fun q => Value.ref q.1) L
  | [] => .nil
  | q :: L => .cons rfl (each_refs L)
theorem refs_each : ∀ {vs : List Value} {L : List (Addr × List Int)}, PySem.W.EachIs (fun (v : Value) (q : Addr × List Int) => v = .ref q.1) vs L → vs = L.map fun q => Value.ref q.1
  | _, _, .nil => rfl
  | _, _, .cons e t => by rw [e, refs_each t]; rfl
theorem each_reads {P : Program} {w : World} {h : Heap} (a : Addr) : ∀ (L : List (Addr × List Int)), (∀ q ∈ L, IsT P w h q.2 q.1) → PySem.W.EachIs (fun (v : Value) (q : Addr × List Int) => ∃ as, Reads h v (tEnc q) as ∧ a ∉ as) (L.map fun q => Value.ref q.1) L
  | [], _ => .nil
  | q :: L, hh => .cons ⟨[], reads_tup (hh q List.mem_cons_self), by simp⟩ (each_reads a L fun y hy => hh y (List.mem_cons_of_mem _ hy))
theorem lt_enc (a b : Addr × List Int) : PySem.W.dataLt (tEnc a) (tEnc b) = decide (a.2 < b.2) := by
  unfold tEnc
  rw [PySem.W.dataLt_tuple]
  exact PySem.W.dataLt_ints a.2 b.2
section
variable {P : Program} {w : World} {A : Around} {E : Value → Shared → Prop} {s : Shared}
/-- list.sort of a list of tuples of ints -/
theorem sort_raw {D : Addr} {L : List (Addr × List Int)} {n : Nat} {Q : Value → Shared → Prop} (go : s.heap.get? D = some (seqObj "list" (L.map fun q => Value.ref q.1).toArray n)) (tu : ∀ q ∈ L, IsT P w s.heap q.2 q.1) (few : L.length ≤ 200) (big : L.length ≤ 1 ∨ ∀ q ∈ L, q.2 ≠ []) (un : A.units + 3 < cLine)
    (fin : ∀ L' : List (Addr × List Int), L'.Perm L → (L'.Pairwise fun a b => ¬ b.2 < a.2) → Q .none { s with heap := sortedHeap s.heap D (L.map fun q => Value.ref q.1) (L'.map fun q => Value.ref q.1).toArray }) :
    wpAny (model P w) A (call (.builtin "list.sort") [.ref D]) Q E s := by
  rcases big with one | ne
  · refine wpAny_call_entry slot_list_sort ⟨_, go, rfl⟩ entry_list_sort (SK.plain_sort (r := fun _ => 0) go (by rw [List.length_map]; omega) (fun h2 => by rw [List.length_map] at h2; omega) fun ps out h1 h2 h3 => ⟨_, rfl, ?_⟩) (args_list_sort _)
    have e : out.toList = L.map fun q => Value.ref q.1 := by
      match L, one with
      | [], _ =>
        have : ps = [] := List.Perm.eq_nil (by simpa using h2)
        rw [h1, this]
        rfl
      | [q], _ =>
        have : ps = [(Value.ref q.1, Value.ref q.1)] := List.perm_singleton.mp (by simpa using h2)
        rw [h1, this]
        rfl
      | _ :: _ :: _, z => simp at z
    have eo : out = (L.map fun q => Value.ref q.1).toArray := by rw [← e, Array.toArray_toList]
    rw [eo]
    refine fin L (List.Perm.refl _) ?_
    match L, one with
    | [], _ => exact .nil
    | [q], _ => exact List.pairwise_singleton _ _
    | _ :: _ :: _, z => simp at z
  · have dep : ∀ q : Addr × List Int, (tEnc q).depth = 1 := fun q => by
      unfold tEnc
      rw [PyData.depth, depth_ints]
    refine PySem.W.list_sort_data (R := fun (v : Value) (q : Addr × List Int) => v = .ref q.1) (enc := tEnc) (bs := L) go (each_refs L) (each_reads (P := P) (w := w) D L tu) (PySem.W.AllAlike.of fun b b' => ?_) (.inl fun d hd => ?_) (by rw [sizeLine_eq]; omega) (fun b _ => by rw [dep]; omega) fun out _ he => ?_
    · unfold tEnc
      rw [PySem.W.alike]
      exact alike_ints b.2 b'.2
    · obtain ⟨q, hq, rfl⟩ := List.mem_map.mp hd
      have hne := ne q hq
      unfold tEnc
      cases e : q.2 with
      | nil => exact absurd e hne
      | cons x r => exact ⟨_, _, rfl⟩
    · have eo := refs_each he
      rw [eo]
      refine fin _ (List.mergeSort_perm ..) ?_
      have hp : (L.mergeSort (PySem.W.dataLe false tEnc)).Pairwise fun a b => PySem.W.dataLe false tEnc a b = true := PySem.W.sort_pairwise (PySem.W.sortLe_total _ _ _) _
      refine hp.imp fun {a b} z => ?_
      rw [PySem.W.dataLe_eq] at z
      have z' : PySem.W.dataLt (tEnc b) (tEnc a) = false := by simpa using z
      rw [lt_enc] at z'
      exact of_decide_eq_false z'
theorem sorted_raw {a : Addr} {L : List (Addr × List Int)} {es : Array (Int × Value)} {ep : Nat} {t : SetTable} {Q : Value → Shared → Prop} (S0 : StT P w s.heap a L es ep t) (hh : A.handled = none) (big : L.length ≤ 1 ∨ ∀ q ∈ L, q.2 ≠ []) (un : A.units + 5 < cLine)
    (fin : ∀ (s' : Shared) (p c : Nat) (L' : List (Addr × List Int)), (∀ b o, s.heap.get? b = some o → s'.heap.get? b = some o) → s'.gens = s.gens → s'.os = s.os → s.heap.objs.size ≤ p → s'.heap.get? p = some (seqObj "list" (L'.map fun q => Value.ref q.1).toArray c) → L'.Perm L → (L'.Pairwise fun a b => ¬ b.2 < a.2) → Q (.ref p) s') :
    wpAny (model P w) A (call (.builtin "sorted") [.ref a]) Q E s := by
  obtain ⟨o, go, gx, gd⟩ := S0.ob
  have fw := S0.fw
  have sl := rows_len S0.rw_
  refine Calls.call_function_entry kind_sorted plain_sorted entry_sorted (args_sorted1 _) ?_
  unfold Builtin.«sorted»
  refine wpAny_bind (m := checkCount "sorted" 1 1 _) (wpAny_pure ?_)
  refine wpAny_bind (collect_set (A := A.in1) hh ⟨o, go, gx.1, gd⟩ S0.ft (by unfold scanBound; omega) S0.tb.r S0.ld fun s1 vs k1 hz g1 o1 pm => ?_)
  have e1 : es.toList.map (·.2) = L.map fun q => Value.ref q.1 := by
    rw [S0.rw_]
    unfold rowsOf
    rw [List.map_map]
    rfl
  rw [e1] at pm
  obtain ⟨L1, p1, rfl⟩ := perm_inv pm L rfl
  have len1 : L1.length = L.length := p1.length_eq
  refine wpAny_bind (wpAny_newList ?_ (by rw [List.length_map, sizeLine_eq]; omega))
  have goL : (s1.heap.push (seqObj "list" (L1.map fun q => Value.ref q.1).toArray 0)).get? s1.heap.objs.size = some (seqObj "list" (L1.map fun q => Value.ref q.1).toArray 0) := Heap.get?_push_size _ rfl
  have tu1 : ∀ q ∈ L1, IsT P w (s1.heap.push (seqObj "list" (L1.map fun q => Value.ref q.1).toArray 0)) q.2 q.1 := fun q hq => isT_keep (S0.tu q (p1.mem_iff.mp hq)) fun b u e => Heap.get?_push_of_some _ (k1 b u e)
  refine wpAny_bind (wpAny_holding (sort_raw (s := { s1 with heap := s1.heap.push (seqObj "list" (L1.map fun q => Value.ref q.1).toArray 0) }) goL tu1 (by omega) (big.imp (fun z => by omega) fun z q hq => z q (p1.mem_iff.mp hq)) (by show A.units + 1 + 3 < cLine; omega) fun L' p2 srt => ?_))
  obtain ⟨c, hc⟩ := sortedHeap_at (vs := L1.map fun q => Value.ref q.1) (out := (L'.map fun q => Value.ref q.1).toArray) goL
  refine wpAny_pure ⟨_, rfl, fin _ s1.heap.objs.size c L' (fun b u e => ?_) g1 o1 hz hc (p2.trans p1) srt⟩
  have e2 := k1 b u e
  have lt := Heap.lt_size e2
  show (sortedHeap (s1.heap.push _) s1.heap.objs.size _ _).get? b = some u
  rw [sortedHeap_old (Nat.ne_of_lt lt) (by rw [size_push']; exact Nat.lt_succ_of_lt lt)]
  exact Heap.get?_push_of_some _ e2
end
section
variable {X : Cx} {K : PySem.W.Frag} {P : Program} {w : World}
def rSortSetT (K : PySem.W.Frag) (P : Program) (w : World) : List V → Hp → VK → Prop := fun vs H Q => ∃ (a : Addr) (L : List (Addr × List Int)), vs = [.ref a] ∧ H a = some (StO P w a L) ∧ (∀ q ∈ L, SqT K H q.1 (q.2.map V.int)) ∧ (L.length ≤ 1 ∨ ∀ q ∈ L, q.2 ≠ []) ∧
  ∀ (L' : List (Addr × List Int)) (p : Addr), L'.Perm L → (L'.Pairwise fun a b => ¬ b.2 < a.2) → H p = none → Q (.ref p) (L2.upd H p (.lst (L'.map fun q => V.ref q.1)))
theorem cr_sortSetT (hc : X.calm = true) (hu : X.A.units + 64 < cLine) (hK : X.K = K := by rfl) (hP : X.prog = P := by rfl) (hw : X.w = w := by rfl) : CallR X (.builtin "sorted") (rSortSetT K P w) := by
  subst hK; subst hP; subst hw
  intro pins s σ H vs us Q I r h
  obtain ⟨a, L, rfl, ha, hk, big, q⟩ := h
  rw [Vals.ref1 r]
  obtain ⟨⟨es, ep, t, ob, er, tb, nd, pl, ld, rm, fw, mm⟩, _, _⟩ := I.hok a _ ha
  have S0 : StT X.prog X.w s.heap a L es ep t := ⟨ob, er, tb, nd, fun y hy => I.isT (hk y hy), pl, ld, rm, fw, mm⟩
  refine sorted_raw S0 (I.ok.hd hc) big (by omega) fun s1 p c L1 keep gen os le at_ pm srt => ?_
  have new : H p = none := I.hok.fresh le
  have ll : (L1.map fun y => V.ref y.1).length ≤ sizeLine := by rw [List.length_map, pm.length_eq, sizeLine_eq]; omega
  have J : Inv X pins σ (L2.upd H p (.lst (L1.map fun y => V.ref y.1))) { s with heap := s1.heap, gens := s1.gens, drawn := s1.drawn, toks := s1.toks } :=
    I.call (ch := []) (Un.laid keep le new) (I.hok.laid keep le ⟨ll, _, c, vals_of_refs L1, at_⟩) (by rw [gen]; exact I.bare) (fun _ z => nomatch z)
  have same : s1 = { s with heap := s1.heap, gens := s1.gens, drawn := s1.drawn, toks := s1.toks } := by
    cases s1; cases s; cases os; rfl
  rw [same]
  exact ⟨.ref p, _, J, rfl, q L1 p pm srt new⟩
end
end IC
namespace IC
open PySem L2
theorem pss_sem7 {X : Cx} {b : List Stmt} {pr : TS} (h : ∀ D σ H, pr D σ H → ∃ t, PSs X b t ∧ t D σ H) : PSs X b pr := ⟨fun pins s σ H D I hh => let ⟨_, ht, hq⟩ := h D σ H hh; ht.run pins s σ H D I hq⟩
structure GlbU (K : PySem.W.Frag) (mg : Str → Option Value) (TM HE : Addr) : Prop where
  HouseError : ∃ u, mg "HouseError" = some u ∧ RelV (.ref HE) u
  ValueError : mg "ValueError" = none
  k1 : PySem.W.kitOne K (.ref TM) (.ref HE) = some true
  k2 : PySem.W.kitOne K (.ref TM) (.type "ValueError") = some true
  s1 : PySem.W.subIn K (.ref TM) (.ref TM) = some true
theorem ks_of7 {H : Hp} : ∀ {xs : List V} {ls : List (List Int)}, TupsAt H xs (ls.map encS) → ∃ ks : List (Addr × List Int), xs = ks.map (fun q => V.ref q.1) ∧ ks.map (·.2) = ls ∧ ∀ q ∈ ks, H q.1 = some (.tup (encS q.2))
  | _, [], .nil => ⟨[], rfl, rfl, fun _ h => nomatch h⟩
  | _, l :: ls, .cons ⟨a, e, h⟩ t => by
    obtain ⟨ks, e1, e2, e3⟩ := ks_of7 t
    refine ⟨(a, l) :: ks, by rw [e, e1]; rfl, by rw [List.map_cons, e2], fun q hq => ?_⟩
    rcases List.mem_cons.mp hq with z | z
    · rw [z]; exact h
    · exact e3 q z
theorem tups_ks {H : Hp} : ∀ {ks : List (Addr × List Int)}, (∀ q ∈ ks, H q.1 = some (.tup (encS q.2))) → TupsAt H (ks.map fun q => V.ref q.1) ((ks.map (·.2)).map encS)
  | [], _ => .nil
  | q :: ks, h => .cons ⟨q.1, rfl, h q List.mem_cons_self⟩ (tups_ks fun x hx => h x (List.mem_cons_of_mem _ hx))
theorem encS_ok7 (s : List Int) : ∀ v ∈ encS s, okV v = true := fun v hv => by
  unfold encS at hv
  obtain ⟨i, _, rfl⟩ := List.mem_map.mp hv
  rfl
theorem encs_ok7 (l : List (List Int)) : ∀ d ∈ l.map encS, ∀ v ∈ d, okV v = true := fun d hd => by
  obtain ⟨c, _, rfl⟩ := List.mem_map.mp hd
  exact encS_ok7 c
theorem sort_is {T : Nat} {ss ms : List (List Int)} (hs : ss.Pairwise lx) (hl : ∀ s ∈ ss, s.length = T) (hm : ms.Pairwise fun a b => ¬ b < a) (nd : ms.Nodup) (mem : ∀ s, s ∈ ms ↔ s ∈ ss) : ms = ss := by
  have p : ms.Perm ss := (List.perm_ext_iff_of_nodup nd (nd_of hs fun a h => lx_irr h)).mpr mem
  have hm' : ms.Pairwise lx := by
    refine (List.Pairwise.and_mem.mp (hm.and nd)).imp fun {a b} z => ?_
    obtain ⟨ma, mb, h1, h2⟩ := z
    rcases lx_total (a := a) (b := b) (by rw [hl a ((mem a).mp ma), hl b ((mem b).mp mb)]) with e | e | e
    · exact absurd e h2
    · exact e
    · exact absurd (lx_lt e) h1
  exact p.eq_of_pairwise (fun a b _ _ h1 h2 => (lx_asym h1 h2).elim) hm' hs
theorem one_only {ss : List (List Int)} (hs : ss.Pairwise lx) (hl : ∀ s ∈ ss, s.length = 0) : ss.length ≤ 1 := by
  match ss, hs, hl with
  | [], _, _ => simp
  | [_], _, _ => simp
  | a :: b :: r, hs, hl =>
    have h := (List.pairwise_cons.mp hs).1 b List.mem_cons_self
    have e := List.eq_nil_of_length_eq_zero (hl a List.mem_cons_self)
    rw [e] at h
    exact h.elim
theorem eqv_same {ds : List (List V)} (h : ∀ d ∈ ds, ∀ v ∈ d, okV v = true) : PyData.eqv (.list (ds.map tupD)) (.list (ds.map tupD)) = true := SeqAt.eqv_refl _ (by
  have e := shaped_tups h
  unfold SeqAt.shaped at e
  exact (Bool.and_eq_true _ _ ▸ e).1)
section
variable {P : Program} {w : World} {K : PySem.W.Frag} {mg : Str → Option Value} {base : Heap} {dI C TM HE : Addr}
def sp_told7 (C : Addr) : Sp := fun vs H Q _ => ∃ (p L : Addr) (ds : List Addr) (h : Hs) (b T : Nat), vs = [.ref p, .int b] ∧ HouseAt C H p L ds h ∧ b < h.kns.length ∧ TimeOk h T ∧ soundH h = true ∧
  (manyS h T b → ∀ H', Same H H' → Q .non H') ∧
  (¬ manyS h T b → ∀ (D : Addr) (z : List (Addr × It)) (H' : Hp), Same H H' → H D = none → H' D = some (.lst (z.map fun x => V.ref x.1)) → (∀ x ∈ z, H' x.1 = some (.tup (encS x.2.1))) → z.map (·.2) = lvlH h T b T → Q (.ref D) H')
theorem sc__law_told : FnScope ["_law_house", "_law_badge", "e"] ["_law_house", "_law_badge"] (defScope s__law_told) := ⟨rfl, rfl, rfl, by decide +kernel, rfl, by decide +kernel, by decide +kernel⟩
theorem ok_told7 {f : Addr} {fd : FuncData} (F : Fun K "_law_told" "_law_told" s__law_told f fd) (G : Glb K w mg dI) (XO : ExcOk K mg "TooMany" TM) (GX : GlbU K mg TM HE) (c_storiesX : CalX P w K mg base 7 "stories" (sp_stories C TM)) : FnOk P w K mg base CX0 8 f fd ["_law_house", "_law_badge"] (sp_told7 C) := by
  refine F.ok sc__law_told (fun vs H Q E h => ?_) (fun cdv A outer s H vs Q E hr h => ?_)
  · obtain ⟨p, L, ds, h, b, T, rfl, _⟩ := h
    rfl
  · obtain ⟨p, L, ds, h, b, T, rfl, ha, hb, tm, hs, q1, q2⟩ := h
    refine ⟨_, pss_one (ps_try_as (i := 2) (ts := fun a cls d D σ H => (cls = Value.ref TM ∧ d = none) ∧ (∃ o0 o1, σ = [o0, o1, some (.ref a)]) ∧ D.rt .non H) rfl rfl sc__law_told.nd rfl rfl ⟨rfl, by decide, .inl XO.g⟩ takes0
      (fun W pn xe tk _ => pss_one (ps_ret (pe_cT c_storiesX hr (by decide) rfl tk (pa_cons (pv 0) (pa_cons (pv 1) pa_nil)))))
      (fun a oe cls d pn hz hf => pss_given fun e => by
        obtain ⟨rfl, rfl⟩ := e
        refine pss_sem7 fun D σ H hh => ?_
        obtain ⟨⟨o0, o1, rfl⟩, q⟩ := hh
        refine ⟨_, pss_one (ps_ret (pe_ifExp (PW.pt (pw_and (pt_val (pe_callB (call_isE XO.e hz hf) (by rfl) G.isinstance (by decide +kernel) (pa_cons (pv 2) (pa_cons (C8.pe_gc rfl GX.HouseError) pa_nil)))) (pw_and1 (pt_val (pe_callB (call_isE XO.e hz hf) (by rfl) G.isinstance (by decide +kernel) (pa_cons (pv 2) (pa_cons (pe_bltn (v := .ty "ValueError") (by rfl) GX.ValueError (by decide +kernel) rfl) pa_nil))))))) pe_non (pe_lst pa_nil))), ?_⟩
        exact ⟨_, rfl, _, _, true, rfl, (fun u hu => hu), GX.k1, _, rfl, iteT ⟨_, rfl, _, _, true, rfl, (fun u hu => hu), GX.k2, _, rfl, iteT q⟩⟩)), ?_⟩
    refine ⟨_, rfl, _, rfl, p, L, ds, h, b, T, rfl, ha, hb, tm, hs, fun e H' s => ?_, fun e D z H' s nD hD hz ez => q2 (fun ⟨i, h1, h2⟩ => by have := e i h1; omega) D z H' s nD hD hz ez⟩
    exact ⟨true, XO.exm GX.s1, fun _ a na => ⟨⟨rfl, rfl⟩, ⟨_, _, rfl⟩, q1 e H' s⟩, fun z => by cases z⟩
def sp_good : Sp := fun vs H Q _ => ∃ (q0 L : Addr) (ds : List Addr) (m : Ms) (T b : Nat) (D : Addr) (xs : List V) (ss : List (List Int)), vs = [.ref q0, .int b, .ref D] ∧ MAt H q0 L ds m ∧ MOk m T ∧ b < m.kns.length ∧ H D = some (.lst xs) ∧ TupsAt H xs (ss.map encS) ∧ ss.Pairwise lx ∧
  (∀ s ∈ ss, s.length = T ∧ Bin s ∧ sumTo (m.kns.getD b []) m.late T s T + othersM m b ≤ m.lost) ∧ m.lost ≤ 6 ∧ ss.length ≤ 200 ∧ ∀ H', Same H H' → Q (.bl true) H'
theorem sc__law_are_good : FnScope ["_law_m", "_law_badge", "_law_told_here", "_law_others", "_law_want", "_law_story", "_law_price_here", "_law_one"] ["_law_m", "_law_badge", "_law_told_here"] (defScope s__law_are_good) := ⟨rfl, rfl, rfl, by decide +kernel, rfl, by decide +kernel, by decide +kernel⟩
theorem ok_good {f : Addr} {fd : FuncData} (F : Fun K "_law_are_good" "_law_are_good" s__law_are_good f fd) (G : Glb K w mg dI) (c__law_wants : C8.Cal P w K mg base 1 "_law_wants" sp_lwants []) (c__law_price : C8.Cal P w K mg base 1 "_law_price" (sp_lprice K) []) (c__law_alike : C8.Cal P w K mg base 3 "_law_alike" (sp_alike 2) []) : FnOk P w K mg base CX0 4 f fd ["_law_m", "_law_badge", "_law_told_here"] sp_good := by
  refine F.ok sc__law_are_good (fun vs H Q E h => ?_) (fun cdv A outer s H vs Q E hr h => ?_)
  · obtain ⟨q0, L, ds, m, T, b, D, xs, ss, rfl, _⟩ := h
    rfl
  · obtain ⟨q0, L, ds, m, T, b, D, xs, ss, rfl, ma, mo, hb, hD, tx, rise, ok, lo6, h200, q⟩ := h
    have hu := hu_of hr
    have htm := mo.tm
    have hT := mo.le
    have NE : NEV = 1000000 := rfl
    have few := aw_few ma.kn m.late m.time
    refine ⟨_, (pss_cons (ps_set (i := 3) sc__law_are_good.nd rfl (Or.inl rfl) (pe_callB call_len_seq (by rfl) G.len (by decide +kernel) (pa_cons (pe_lc (own := [("_law_want", 4)]) (g := gName 4) rfl sc__law_are_good.nd (pi_list (C8.pe_c c__law_wants hr (by decide) rfl (pa_cons (pv 0) pa_nil))) (blkOk_by (own := [("_law_want", 4)]) (N := ["_law_m", "_law_badge", "_law_told_here", "_law_others", "_law_want", "_law_story", "_law_price_here", "_law_one"]) (sc := defScope s__law_are_good) (by decide +kernel)) (fun _ _ _ _ _ => (pg_name (i := 4) sc__law_are_good.nd rfl (Or.inl rfl))) (fun _ _ _ _ _ => (pts_one (pt_cmpR op_ne (pe_ix (ix_tupK (K := K)) (pv 4) pe_int (fun _ _ => rfl)) (pv 1) (nomark _)))) (fun _ _ _ _ _ => (pv 4))) pa_nil)))
      (pss_cons (ps_if (PW.pt (pw_or (pt_not (pt_val (pe_callB call_isi (by rfl) G.isinstance (by decide +kernel) (pa_cons (pv 2) (pa_cons (pe_bltn (v := .ty "list") (by rfl) G.list (by decide +kernel) rfl) pa_nil))))) (pw_or1 (pt_cmpR (op_neD hr.units) (pv 2) (pe_callB (cr_sortSetT (K := K) (P := P) (w := w) rfl hr.units) (by rfl) G.sorted (by decide +kernel) (pa_cons (pe_callTy (cr_setTK (K := K) (P := P) (w := w) rfl hr.units) (by rfl) G.set (by decide +kernel) (pa_cons (pv 2) pa_nil)) pa_nil)) (nomark _)))))
        (pss_one (ps_ret pe_bl))
        pss_nil)
      (pss_cons (ps_for PassesOwn.never rfl (pi_list (pv 2)) (pg_name (i := 5) sc__law_are_good.nd rfl (Or.inl rfl))
        (pss_cons (ps_set (i := 6) sc__law_are_good.nd rfl (Or.inl rfl) (C8.pe_c c__law_price hr (by decide) rfl (pa_cons (pv 0) (pa_cons (pv 1) (pa_cons (pv 5) pa_nil)))))
          (pss_cons (ps_if (PW.pt (pw_or (pt_not (pt_val (pe_callB call_isi (by rfl) G.isinstance (by decide +kernel) (pa_cons (pv 5) (pa_cons (pe_bltn (v := .ty "tuple") (by rfl) G.tuple (by decide +kernel) rfl) pa_nil))))) (pw_or (pt_cmpR op_ne (pe_callB call_len_seq (by rfl) G.len (by decide +kernel) (pa_cons (pv 5) pa_nil)) (pe_dget hu (pv 0) pe_str (fun _ _ => rfl)) (nomark _)) (pw_or (pt_cmpR op_isN (pv 6) pe_non (nomark _)) (pw_or1 (pt_cmpR op_gt (pe_op op_add (pv 6) (pv 3)) (pe_dget hu (pv 0) pe_str (fun _ _ => rfl)) (nomark _)))))))
            (pss_one (ps_ret pe_bl))
            pss_nil)
          (pss_one (ps_if (pt_cmpR (op_neD hr.units) (pe_lc (own := [("_law_one", 7)]) (g := gName 7) rfl sc__law_are_good.nd (pi_tup (pv 5)) (blkOk_by (own := [("_law_one", 7)]) (N := ["_law_m", "_law_badge", "_law_told_here", "_law_others", "_law_want", "_law_story", "_law_price_here", "_law_one"]) (sc := defScope s__law_are_good) (by decide +kernel)) (fun _ _ _ _ _ => (pg_name (i := 7) sc__law_are_good.nd rfl (Or.inl rfl))) (fun _ _ _ _ _ => (pts_one (PW.pt (pw_or (pt_not (pt_val (C8.pe_c c__law_alike hr (by decide) rfl (pa_cons (pv 7) (pa_cons (pe_callTy call_int1 (by rfl) G.int (by decide +kernel) (pa_cons (pv 7) pa_nil)) pa_nil))))) (pw_or1 (pt_cmpR (op_notIn_seqK (K := K)) (pv 7) (pe_tup (pa_cons pe_int (pa_cons pe_int pa_nil))) (by rfl))))))) (fun _ _ _ _ _ => (pv 7))) (pe_lst pa_nil) (nomark _))
            (pss_one (ps_ret pe_bl))
            pss_nil)))))
      (pss_one (ps_ret pe_bl))))), ?_⟩
    refine ⟨_, rfl, q0, L, ds, m, T, rfl, ma, mo, fun wB ws H3 s3 nwB hwB tw => ⟨wB, rfl, ⟨_, SqL.of hwB⟩, fun D2 nD2 => ?_⟩⟩
    refine lc_filt (K := K) (enc := Want.vs) (l := allWants m.kns m.late m.time) (f := notOf b) tw hwB nD2 (by omega) (fun _ => rfl) (fun _ => rfl)
      (fun i' y tA H2 _ _ hta Q qq => ⟨_, rfl, tA, _, _, _, rfl, rfl, SqT.of hta, rfl, _, rfl, rfl, _, rfl, qq⟩) fun ys H4 s4 hD2 ty => ?_
    have hyl : ys.length = othersM m b := by
      have := ty.length
      rw [List.length_map] at this
      exact this
    refine ⟨D2, _, rfl, .inl (SqL.of hD2), ?_⟩
    rw [hyl]
    have s04 := s3.trans s4
    obtain ⟨oth, eoth⟩ : ∃ oth, oth = othersM m b := ⟨_, rfl⟩
    rw [← eoth] at ok ⊢
    clear hyl hD2 ty
    have hD4 := s04 _ _ hD
    have tx4 := tx.mono (.of_same s04)
    refine ⟨_, rfl, _, _, _, _, true, rfl, .ty _, .base (.lst hD4), kit_ty (by decide +kernel), _, rfl, ifF (by rfl) ?_⟩
    obtain ⟨ks, ek, e2, e3⟩ := ks_of7 tx
    have ksl : ks.length = ss.length := by have := congrArg List.length e2; rw [List.length_map] at this; exact this
    refine ⟨_, rfl, _, rfl, D, ks, rfl, SqL.of (by rw [← ek]; exact hD4), fun y hy => SqT.of (s04 _ _ (e3 y hy)), by omega, fun a L1 na l1 l2 l3 => ?_⟩
    have s5 : Same H4 (upd H4 a (StO P w a L1)) := Same.new na
    refine ⟨a, L1, rfl, upd_same, fun y hy => SqT.of (s5 _ _ (s04 _ _ (e3 y (l1 y hy)))), ?_, fun L2' p pm pw np => ?_⟩
    · by_cases z : T = 0
      · refine .inl ?_
        have o1 := one_only rise fun s hs => by rw [(ok s hs).1]; exact z
        have n1 := nd_sub l3 (l2 := ks.map (·.2)) fun x hx => by
          obtain ⟨y, hy, rfl⟩ := List.mem_map.mp hx
          exact List.mem_map.mpr ⟨y, l1 y hy, rfl⟩
        rw [List.length_map, List.length_map] at n1
        omega
      · refine .inr fun y hy e => z ?_
        have : y.2 ∈ ss := by rw [← e2]; exact List.mem_map.mpr ⟨y, l1 y hy, rfl⟩
        have := (ok _ this).1
        rw [e] at this
        exact this.symm
    have s6 : Same (upd H4 a (StO P w a L1)) (upd (upd H4 a (StO P w a L1)) p (.lst (L2'.map fun q => V.ref q.1))) := Same.new np
    have s46 := s5.trans s6
    have esn : L2'.map (·.2) = ss := by
      refine sort_is rise (fun s hs => (ok s hs).1) (List.pairwise_map.mpr pw) ((pm.map (·.2)).nodup_iff.mpr l3) fun s => ?_
      rw [(pm.map (·.2)).mem_iff, ← e2]
      constructor
      · intro hs
        obtain ⟨y, hy, rfl⟩ := List.mem_map.mp hs
        exact List.mem_map.mpr ⟨y, l1 y hy, rfl⟩
      · intro hs
        obtain ⟨y, hy, rfl⟩ := List.mem_map.mp hs
        exact l2 y hy
    have tp := tups_ks (H := upd (upd H4 a (StO P w a L1)) p (.lst (L2'.map fun q => V.ref q.1))) (ks := L2') fun y hy => s46 _ _ (s04 _ _ (e3 y (l1 y (pm.mem_iff.mp hy))))
    rw [esn] at tp
    refine ⟨.list ((ss.map encS).map tupD), .list ((ss.map encS).map tupD), .lst (SqL.of (s46 _ _ hD4)) (dp_tups (tx4.mono (.of_same s46)) (encs_ok7 ss)), .lst (SqL.of upd_same) (dp_tups tp (encs_ok7 ss)), shaped_tups (encs_ok7 ss), shaped_tups (encs_ok7 ss), _, rfl, ifF (by rw [eqv_same (encs_ok7 ss)]; rfl) ?_⟩
    have s06 := s04.trans s46
    clear tp s46 s6 s5
    generalize upd (upd H4 a (StO P w a L1)) p (.lst (L2'.map fun q => V.ref q.1)) = H6 at *
    refine ⟨_, rfl, D, rfl, ⟨_, SqL.of (s06 _ _ hD)⟩, ?_⟩
    refine for_list (K := K) (a := D) (xs := xs) (fun i σ H7 => ∃ (o4 o5 o6 o7 : Option V), σ = [some (.ref q0), some (.int (b : Int)), some (.ref D), some (.int (oth : Int)), o4, o5, o6, o7] ∧ Same H H7) ⟨_, _, _, _, rfl, s06⟩ (fun i σ H7 _ ⟨_, _, _, _, _, s7⟩ => SqL.of (s7 _ _ hD)) ?_ ?_
    · rintro i v σ H7 hi ⟨o4, o5, o6, o7, rfl, s7⟩
      rw [ek, List.getElem?_map] at hi
      obtain ⟨y, hy, rfl⟩ := Option.map_eq_some_iff.mp hi
      have hyk := List.mem_of_getElem? hy
      obtain ⟨yl, yb, yp⟩ := ok y.2 (by rw [← e2]; exact List.mem_map.mpr ⟨y, hyk, rfl⟩)
      have hy7 := s7 _ _ (e3 y hyk)
      refine ⟨_, rfl, _, rfl, _, rfl, q0, L, ds, m, T, b, y.1, y.2, rfl, ma.same s7, mo, hb, SqT.of hy7, yl, yb, fun H8 s8 => ?_⟩
      have ep : priceV (m.kns.getD b []) m.late T y.2 = .int (sumTo (m.kns.getD b []) m.late T y.2 T) := by
        unfold priceV
        rw [if_pos (by omega)]
      rw [ep]
      have s08 := s7.trans s8
      have m8 := ma.same s08
      have hy8 := s8 _ _ hy7
      have el : ((encS y.2).length : Int) = m.time := by
        unfold encS
        rw [List.length_map, yl, htm]
      refine ⟨_, rfl, _, _, _, _, true, rfl, .ty _, .base (.tup hy8), kit_ty (by decide +kernel), _, rfl, ifF (by rfl) ?_⟩
      refine ⟨_, rfl, y.1, _, rfl, .inr (SqT.of hy8), _, rfl, q0, _, rfl, m8.g_time, rfl, _, rfl, ifF (by rw [el]; simp) ?_⟩
      refine ⟨_, rfl, rfl, _, rfl, ifF (by rfl) ?_⟩
      refine ⟨_, rfl, _, rfl, _, _, rfl, rfl, _, rfl, q0, _, rfl, m8.g_lost, _, _, rfl, rfl, _, rfl, ifF (decide_eq_false (by omega)) ?_⟩
      refine ⟨_, rfl, y.1, rfl, ⟨_, SqT.of hy8⟩, fun D3 nD3 => ?_⟩
      refine lc_tup (K := K) (a := y.1) (xs := y.2.map V.int) (fun i H9 => Same H8 H9 ∧ H9 D3 = some (.lst [])) ⟨Same.new nD3, upd_same⟩ (fun i H9 _ ⟨sH, _⟩ => SqT.of (sH _ _ hy8)) ?_ ?_
      · rintro i x H9 hi ⟨s9, hD9⟩
        rw [List.getElem?_map] at hi
        obtain ⟨v, hv, rfl⟩ := Option.map_eq_some_iff.mp hi
        have hv01 := yb v (List.mem_of_getElem? hv)
        refine ⟨rfl, _, rfl, _, rfl, .inl ⟨_, rfl, .int v, .int v, rfl, Al.flat rfl 2, fun Ha sa => ⟨_, rfl, ifF (by rfl) ?_⟩⟩⟩
        refine ⟨_, rfl, sz (by simp), fun t nt => ⟨t, _, rfl, .inr (SqT.of upd_same), rfl, rfl, _, rfl, ?_⟩⟩
        refine ifF ?_ ⟨(s9.trans sa).trans (Same.new nt), (Same.new nt) _ _ (sa _ _ hD9)⟩
        rcases hv01 with rfl | rfl <;> decide
      · rintro H9 ⟨s9, hD9⟩
        refine ⟨by decide, fun e ne => ?_⟩
        have sa : Same H9 (upd H9 e (.lst [])) := Same.new ne
        refine ⟨.list [], .list [], dp_nil (sa _ _ hD9), dp_nil upd_same, shaped_nil, shaped_nil, _, rfl, ifF (by rw [eqv_nil]; rfl) ?_⟩
        exact ⟨_, _, _, _, rfl, (s08.trans s9).trans sa⟩
    · rintro σ H7 ⟨o4, o5, o6, o7, rfl, s7⟩
      exact q H7 s7
end
end IC
namespace IC
open PySem L2
theorem ne_f {a b : Bool} (h : a = b) : (!decide (V.bl a = V.bl b)) = false := by
  rw [h]
  simp
theorem most_is {h : Hs} {T b : Nat} (o : HsOk h T) (s : soundH h = true) (hb : b < h.kns.length) : mostPr h T b = h.lost - othersN h b := by
  have ot := (others_is o s hb).1
  unfold mostPr leastH at *
  omega
theorem sts_mem {h : Hs} {T b : Nat} (o : HsOk h T) (s : soundH h = true) (hb : b < h.kns.length) : ∀ x ∈ stsL h T b, x.length = T ∧ Bin x ∧ sumTo (h.kns.getD b []) h.late T x T + othersN h b ≤ h.lost := fun x hx => by
  rw [sts_all o s hb] at hx
  unfold stood at hx
  obtain ⟨h1, h2⟩ := List.mem_filter.mp hx
  have h3 := of_decide_eq_true h2
  rw [most_is o s hb] at h3
  obtain ⟨h4, h5⟩ := mem_allS.mp h1
  exact ⟨h4, h5, by omega⟩
theorem stand_is {h : Hs} {m : Ms} {T b : Nat} {e : Addr × List One} (o : HsOk h T) (s : soundH h = true) (hb : b < h.kns.length) (lo6 : h.lost ≤ 6) (hk : m.kns = h.kns) (hl : m.late = h.late)
    (e1 : e.2.map (·.2) = (canS (m.kns.getD b []) m.late T).map fun s => (sumTo (m.kns.getD b []) m.late T s T, s)) (emin : minPr e.2 = leastH h T b) : ((e.2.filter fun y => decide (y.2.1 ≤ minPr e.2 + spareH h)).map fun y => y.2.2) = stsL h T b := by
  have NE : NEV = 1000000 := rfl
  have em := most_is o s hb
  rw [sts_all o s hb, emin]
  rw [hk, hl] at e1
  have ec : leastH h T b + spareH h = mostPr h T b := rfl
  rw [ec]
  have e2 : ((e.2.filter fun y => decide (y.2.1 ≤ mostPr h T b)).map fun y => y.2.2) = ((e.2.map (·.2)).filter fun y : Int × List Int => decide (y.1 ≤ mostPr h T b)).map (·.2) := by
    rw [List.filter_map, List.map_map]
    rfl
  rw [e2, e1, List.filter_map, List.map_map]
  have e3 : ((fun x : Int × List Int => x.2) ∘ fun s => (sumTo (h.kns.getD b []) h.late T s T, s)) = id := rfl
  rw [e3, List.map_id]
  unfold canS stood
  rw [List.filter_filter]
  refine List.filter_congr fun x _ => ?_
  show (decide (sumTo (h.kns.getD b []) h.late T x T ≤ mostPr h T b) && decide (sumTo (h.kns.getD b []) h.late T x T < NEV)) = decide (sumTo (h.kns.getD b []) h.late T x T ≤ mostPr h T b)
  by_cases z : sumTo (h.kns.getD b []) h.late T x T ≤ mostPr h T b
  · rw [decide_eq_true z, decide_eq_true (by omega)]
    rfl
  · rw [decide_eq_false z]
    rfl
theorem one_tups {H : Hp} : ∀ {l : List One}, (∀ x ∈ l, H x.1 = some (.tup (encS x.2.2))) → TupsAt H (l.map fun x => V.ref x.1) ((l.map fun x => x.2.2).map encS)
  | [], _ => .nil
  | q :: l, h => .cons ⟨q.1, rfl, h q List.mem_cons_self⟩ (one_tups fun x hx => h x (List.mem_cons_of_mem _ hx))
theorem it_tups {H : Hp} : ∀ {l : List (Addr × It)}, (∀ x ∈ l, H x.1 = some (.tup (encS x.2.1))) → TupsAt H (l.map fun x => V.ref x.1) ((l.map fun x => x.2.1).map encS)
  | [], _ => .nil
  | q :: l, h => .cons ⟨q.1, rfl, h q List.mem_cons_self⟩ (it_tups fun x hx => h x (List.mem_cons_of_mem _ hx))
section
variable {P : Program} {w : World} {K : PySem.W.Frag} {mg : Str → Option Value} {base : Heap} {dI C TM : Addr}
def sp_law (K : PySem.W.Frag) : Sp := fun vs H Q _ => ∃ (a : Addr) (ns : List Int), vs = [.ref a] ∧ SqL K H a (ns.map V.int) ∧ ns.length ≤ 63 ∧ ∀ H', Q (.bl true) H'
theorem sc_law : FnScope ["_law_script", "_law_row", "_law_turn", "_law_house", "_law_m", "_law_badge", "_law_many_here", "_law_again", "_law_told_here", "_law_every", "_law_one"] ["_law_script"] (defScope s_law) := ⟨rfl, rfl, rfl, by decide +kernel, rfl, by decide +kernel, by decide +kernel⟩
theorem ok_law {f : Addr} {fd : FuncData} (F : Fun K "law" "law" s_law f fd) (G : Glb K w mg dI) (c__law_taken : C8.Cal P w K mg base 1 "_law_taken" (sp_taken K) []) (c__law_built : C8.Cal P w K mg base 7 "_law_built" (sp_built K C) []) (c__law_is_sound : C8.Cal P w K mg base 2 "_law_is_sound" sp_lsound [])
    (c__law_many : C8.Cal P w K mg base 2 "_law_many" sp_many []) (c__law_told : C8.Cal P w K mg base 8 "_law_told" (sp_told7 C) []) (c__law_are_good : C8.Cal P w K mg base 4 "_law_are_good" sp_good []) (c__law_stories : C8.Cal P w K mg base 2 "_law_stories" sp_lstories []) (c__law_spare : C8.Cal P w K mg base 1 "_law_spare" (sp_spare K) [])
    (c__law_standing : C8.Cal P w K mg base 1 "_law_standing" sp_standing []) (c__law_alike : C8.Cal P w K mg base 3 "_law_alike" (sp_alike 2) []) : FnOk P w K mg base CX0 9 f fd ["_law_script"] (sp_law K) := by
  refine F.ok sc_law (fun vs H Q E h => ?_) (fun cdv A outer s H vs Q E hr h => ?_)
  · obtain ⟨a, ns, rfl, _⟩ := h
    rfl
  · obtain ⟨a, ns, rfl, hS, hlen, q⟩ := h
    have hu := hu_of hr
    have NE : NEV = 1000000 := rfl
    refine ⟨_, (pss_cons (ps_set (i := 1) sc_law.nd rfl (Or.inl rfl) (pe_lst (pa_cons (pv 0) (pa_cons pe_int (pa_cons pe_int (pa_cons pe_int pa_nil))))))
      (pss_cons (ps_for PassesOwn.never rfl (pi_range1 rfl G.range (pa_cons pe_int pa_nil)) (pg_name (i := 2) sc_law.nd rfl (Or.inl rfl))
        (pss_cons (ps_asg (C8.pe_c c__law_built hr (by decide) rfl (pa_cons (pv 1) (pa_cons pe_int (pa_cons (pe_ix ix_list (pe_lst (pa_cons pe_int (pa_cons pe_int (pa_cons pe_int (pa_cons pe_int pa_nil))))) (C8.pe_c c__law_taken hr (by decide) rfl (pa_cons (pv 1) (pa_cons pe_int pa_nil))) (fun _ _ => rfl)) pa_nil)))) (pg_tup rfl (pgs_cons (pg_name (i := 3) sc_law.nd rfl (Or.inl rfl)) (pgs_cons (pg_name (i := 4) sc_law.nd rfl (Or.inr rfl)) pgs_nil))))
          (pss_one (ps_for PassesOwn.never rfl (pi_range1 rfl G.range (pa_cons (pe_op op_mul (pe_callB call_len_seq (by rfl) G.len (by decide +kernel) (pa_cons (pe_dget hu (pv 4) pe_str (fun _ _ => rfl)) pa_nil)) (pe_callTy call_int1 (by rfl) G.int (by decide +kernel) (pa_cons (C8.pe_c c__law_is_sound hr (by decide) rfl (pa_cons (pv 4) pa_nil)) pa_nil))) pa_nil)) (pg_name (i := 5) sc_law.nd rfl (Or.inl rfl))
            (pss_cons (ps_set (i := 6) sc_law.nd rfl (Or.inl rfl) (C8.pe_c c__law_many hr (by decide) rfl (pa_cons (pv 4) (pa_cons (pv 5) pa_nil))))
              (pss_one (ps_for PassesOwn.never rfl (pi_range1 rfl G.range (pa_cons pe_int pa_nil)) (pg_name (i := 7) sc_law.nd rfl (Or.inl rfl))
                (pss_cons (ps_set (i := 8) sc_law.nd rfl (Or.inl rfl) (C8.pe_c c__law_told hr (by decide) rfl (pa_cons (pv 3) (pa_cons (pv 5) pa_nil))))
                  (pss_cons (ps_if (pt_cmpR op_ne (pe_cmpR op_isN (pv 8) pe_non (nomark _)) (pe_cmpR op_gt (pv 6) pe_int (nomark _)) (nomark _))
                    (pss_one (ps_ret pe_bl))
                    pss_nil)
                  (pss_cons (ps_if (PW.pt (pw_and (pt_cmpR op_notN (pv 8) pe_non (nomark _)) (pw_and1 (pt_cmpR op_ne (pe_callB call_len_seq (by rfl) G.len (by decide +kernel) (pa_cons (pv 8) pa_nil)) (pv 6) (nomark _)))))
                    (pss_one (ps_ret pe_bl))
                    pss_nil)
                  (pss_cons (ps_if (PW.pt (pw_and (pt_cmpR op_notN (pv 8) pe_non (nomark _)) (pw_and1 (pt_not (pt_val (C8.pe_c c__law_are_good hr (by decide) rfl (pa_cons (pv 4) (pa_cons (pv 5) (pa_cons (pv 8) pa_nil)))))))))
                    (pss_one (ps_ret pe_bl))
                    pss_nil)
                  (C8.pss_cut (ps_if (PW.pt (pw_and (pt_cmpR op_notN (pv 8) pe_non (nomark _)) (pw_and1 (pt_cmpR op_lt (pe_dget hu (pv 4) pe_str (fun _ _ => rfl)) pe_int (nomark _)))))
                    (pss_cons (ps_setLc (i := 9) (own := [("_law_one", 10)]) (g := gName 10) (tt := tYes) rfl sc_law.nd rfl rfl (sw_true rfl rfl rfl (by decide +kernel)) (pi_range1 rfl G.range (pa_cons (pe_callB call_len_seq (by rfl) G.len (by decide +kernel) (pa_cons (pe_dget hu (pv 4) pe_str (fun _ _ => rfl)) pa_nil)) pa_nil)) (blkOk_by (own := [("_law_one", 10)]) (N := ["_law_script", "_law_row", "_law_turn", "_law_house", "_law_m", "_law_badge", "_law_many_here", "_law_again", "_law_told_here", "_law_every", "_law_one"]) (sc := defScope s_law) (by decide +kernel)) (fun _ _ _ _ _ => (pg_name (i := 10) sc_law.nd rfl (Or.inl rfl))) (fun _ _ _ _ _ => pts_nil) (fun _ _ _ _ _ => (C8.pe_c c__law_stories hr (by decide) rfl (pa_cons (pv 4) (pa_cons (pv 10) pa_nil)))))
                      (pss_one (ps_if (pt_not (pt_val (C8.pe_c c__law_alike hr (by decide) rfl (pa_cons (pv 8) (pa_cons (C8.pe_c c__law_standing hr (by decide) rfl (pa_cons (pv 9) (pa_cons (pv 5) (pa_cons (C8.pe_c c__law_spare hr (by decide) rfl (pa_cons (pv 4) (pa_cons (pv 9) pa_nil))) pa_nil)))) pa_nil)))))
                        (pss_one (ps_ret pe_bl))
                        pss_nil)))
                    pss_nil)
                  (pss_one (ps_if (pt_cmpR op_notN (pv 8) pe_non (nomark _))
                    (pss_cons (ps_expr (pe_bm PySem.F.plainAttrs_list PySem.F.slot_list_append PySem.F.type_list_append mt_append (pv 8) (pa_cons (pe_tup pa_nil) pa_nil)))
                      (pss_one (ps_expr (pe_bm0 PySem.F.plainAttrs_list PySem.F.slot_list_reverse PySem.F.type_list_reverse mt_reverse (pv 8)))))
                    pss_nil))))))))))))))
      (pss_one (ps_ret pe_bl)))), ?_⟩
    refine ⟨_, rfl, sz (by simp), fun r nr => ?_⟩
    have row0 : RowAt K (upd H r (.lst [.ref a, .int 0, .int 0, .int 0])) r a ns := ⟨0, 0, 0, upd_same, by decide, (Same.new nr).seq hS⟩
    generalize upd H r (.lst [.ref a, .int 0, .int 0, .int 0]) = H0 at *
    refine ⟨4, rfl, by decide, by decide, ?_⟩
    refine for_range0 (n := 4) (fun i σ H2 => ∃ (o2 o3 o4 o5 o6 o7 o8 o9 o10 : Option V), σ = [some (.ref a), some (.ref r), o2, o3, o4, o5, o6, o7, o8, o9, o10] ∧ RowAt K H2 r a ns) ⟨none, none, none, none, none, none, none, none, none, rfl, row0⟩ ?_ (fun σ H2 _ => q H2)
    rintro turn σ H2 hturn ⟨o2, o3, o4, o5, o6, o7, o8, o9, o10, rfl, row2⟩
    refine ⟨_, rfl, sz (by simp), fun l nl => ⟨_, rfl, r, a, ns, 4, rfl, row2.upd nl, by decide, by decide, fun v H3 v0 v1 row3 k3 => ?_⟩⟩
    have nlr : l ≠ r := fun z => by
      obtain ⟨i1, i2, i3, e, _⟩ := row2
      rw [z, e] at nl
      cases nl
    have hl3 := k3 l _ upd_same (by simpa using nlr)
    obtain ⟨most, hmost, hm1, hm2⟩ : ∃ most : Int, atI [V.int 7, V.int 7, V.int 7, V.int 40] v = some (.int most) ∧ 1 ≤ most ∧ most ≤ 40 := by
      obtain rfl | rfl | rfl | rfl : v = 0 ∨ v = 1 ∨ v = 2 ∨ v = 3 := by omega
      · exact ⟨7, rfl, by decide, by decide⟩
      · exact ⟨7, rfl, by decide, by decide⟩
      · exact ⟨7, rfl, by decide, by decide⟩
      · exact ⟨40, rfl, by decide, by decide⟩
    refine ⟨l, _, _, _, rfl, rfl, SqL.of hl3, hmost, r, a, ns, 4, most, rfl, row3, by decide, by decide, hm1, hm2, fun t H4 p L ds h q0 L' ds' m n T fl B nb ht row4 k4 nt => ?_⟩
    refine ⟨t, _, rfl, SqT.of ht, rfl, _, _, rfl, _, _, rfl, rfl, ?_⟩
    have mo : MOk m T := B.b.mok B.pl.ok
    have tm := B.pl.ok.tm
    have hT := mo.le
    have htm := mo.tm
    have klen := B.len
    have mlen : m.kns.length = n := by rw [B.b.kn]; exact klen
    have dlen : ds'.length = n := by rw [B.b.ma.kn.len]; exact mlen
    have o := B.pl.ok
    have n4 : n ≤ 4 := by omega
    have lo0 := B.lo0
    have lo6 := B.lo6
    -- for badge in range(len(known) * int(sound))
    refine ⟨_, rfl, q0, _, rfl, B.b.ma.g_known, L', _, rfl, .inl (SqL.of B.b.ma.kn.lst), _, rfl, q0, L', ds', m, T, rfl, B.b.ma, mo, fun H5 s5 => .inr ⟨_, rfl, _, _, rfl, rfl, .inl ⟨by rw [List.length_map]; omega, by rw [List.length_map]; omega⟩, ?_⟩⟩
    have b5 := B.b.same s5
    have row5 := row4.same s5
    have esd : borne (allWants m.kns m.late m.time) m.lost = soundH h := by
      unfold soundH
      rw [← b5.kn, ← b5.late, ← b5.lost, ← b5.time]
    obtain ⟨kk, hkk, hk1, hk2⟩ : ∃ kk : Nat, (n : Int) * (if soundH h = true then 1 else 0) = (kk : Int) ∧ kk ≤ n ∧ (0 < kk → soundH h = true) := by
      by_cases e : soundH h = true
      · exact ⟨n, by rw [if_pos e]; omega, Nat.le_refl _, fun _ => e⟩
      · exact ⟨0, by rw [if_neg e]; omega, Nat.zero_le _, fun z => absurd z (by omega)⟩
    refine ⟨(kk : Int), by rw [← hkk, esd, List.length_map, dlen], by omega, by omega, ?_⟩
    rw [Int.toNat_natCast]
    refine for_range0 (n := kk) (fun i σ H6 => ∃ (o5 o6 o7 o8 o9 o10 : Option V), σ = [some (.ref a), some (.ref r), some (.int (turn : Int)), some (.ref p), some (.ref q0), o5, o6, o7, o8, o9, o10] ∧ Same H5 H6) ⟨_, _, _, _, _, _, rfl, Same.refl _⟩ ?_ (fun σ H6 ⟨_, _, _, _, _, _, e, s6⟩ => ⟨_, _, _, _, _, _, _, _, _, e, row5.same s6⟩)
    rintro b σ H6 hb ⟨o5, o6, o7, o8, o9, o10, rfl, s6⟩
    have hs : soundH h = true := hk2 (by omega)
    have hbk : b < h.kns.length := by omega
    have hbm : b < m.kns.length := by omega
    have b6 := b5.same s6
    have emk := b5.kn
    have eml := b5.late
    have emo := b5.lost
    have emt := b5.time
    have eoth : othersM m b = othersN h b := by
      unfold othersM othersN
      rw [emk, eml, emt]
    have ecnt : countM m T b = (stsL h T b).length := by
      rw [← ways_end o hs hbk]
      unfold countM
      rw [eoth, emk, eml, emo]
    refine ⟨_, rfl, _, rfl, q0, L', ds', m, T, b, rfl, b6.ma, mo, hbm, by omega, by omega, fun H7 s7 => ?_⟩
    rw [ecnt]
    have s57 := s6.trans s7
    have miff := many_iff o hs hbk
    have smem := sts_mem o hs hbk
    have rise := sts_rise h T b
    refine ⟨2, rfl, by decide, by decide, ?_⟩
    refine for_range0 (n := 2) (fun i σ H8 => ∃ (o7 o8 o9 o10 : Option V), σ = [some (.ref a), some (.ref r), some (.int (turn : Int)), some (.ref p), some (.ref q0), some (.int (b : Int)), some (.int ((stsL h T b).length : Nat)), o7, o8, o9, o10] ∧ Same H5 H8) ⟨_, _, _, _, rfl, s57⟩ ?_ (fun σ H8 ⟨_, _, _, _, e, s8⟩ => ⟨_, _, _, _, _, _, e, s8⟩)
    rintro again σ H8 hagain ⟨o7, o8, o9, o10, rfl, s8⟩
    have b8 := b5.same s8
    refine ⟨_, rfl, _, rfl, p, L, ds, h, b, T, rfl, b8.ha, hbk, tm, hs, fun mn H9 s9 => ?_, fun nm D z H9 s9 nD hD hz ez => ?_⟩
    · have big := miff.mp mn
      refine ⟨_, rfl, rfl, _, rfl, _, _, rfl, rfl, rfl, _, rfl, ifF (ne_f ((decide_eq_true rfl).trans (decide_eq_true (show (200 : Int) < ((stsL h T b).length : Int) by omega)).symm)) ?_⟩
      refine ⟨_, rfl, rfl, _, rfl, ifF rfl (ifF rfl ?_)⟩
      refine ⟨_, rfl, rfl, _, rfl, ifF rfl (ifF rfl ?_)⟩
      refine ⟨fun σ Hx => σ = [some (.ref a), some (.ref r), some (.int (turn : Int)), some (.ref p), some (.ref q0), some (.int (b : Int)), some (.int ((stsL h T b).length : Nat)), some (.int (again : Int)), some .non, o9, o10] ∧ Hx = H9, ⟨_, rfl, rfl, _, rfl, ifF rfl (ifF rfl ⟨rfl, rfl⟩)⟩, ?_⟩
      rintro σ Hx ⟨rfl, rfl⟩
      exact ⟨_, rfl, rfl, _, rfl, ifF rfl ⟨_, _, _, _, rfl, s8.trans s9⟩⟩
    · have small : (stsL h T b).length ≤ 200 := Nat.le_of_not_lt fun x => nm (miff.mpr x)
      have ess : z.map (fun x => x.2.1) = stsL h T b := by
        unfold stsL
        rw [← ez, List.map_map]
        rfl
      have zl : z.length = (stsL h T b).length := by rw [← ess, List.length_map]
      have tz := it_tups hz
      rw [ess] at tz
      obtain ⟨xs, exs⟩ : ∃ xs, xs = z.map fun x => V.ref x.1 := ⟨_, rfl⟩
      have xl : xs.length = (stsL h T b).length := by rw [exs, List.length_map, zl]
      rw [← exs] at hD tz
      clear hz ez ess exs zl
      obtain ⟨ss, ess⟩ : ∃ ss, ss = stsL h T b := ⟨_, rfl⟩
      have s59 := s8.trans s9
      have b9 := b5.same s59
      have nD5 : H5 D = none := by
        cases z : H5 D with
        | none => rfl
        | some o => rw [s8 _ _ z] at nD; cases nD
      refine ⟨_, rfl, rfl, _, rfl, _, _, rfl, rfl, rfl, _, rfl, ifF (ne_f ((decide_eq_false (fun z => nomatch z)).trans (decide_eq_false (show ¬ (200 : Int) < ((stsL h T b).length : Int) by omega)).symm)) ?_⟩
      refine ⟨_, rfl, rfl, _, rfl, ifT rfl ⟨_, rfl, D, _, rfl, .inl (SqL.of hD), _, rfl, rfl, _, rfl, ifF (by rw [xl]; simp) ?_⟩⟩
      refine ⟨_, rfl, rfl, _, rfl, ifT rfl ⟨_, rfl, _, rfl, _, rfl, q0, L', ds', m, T, b, D, xs, stsL h T b, rfl, b9.ma, mo, hbm, hD, tz, rise, fun x hx => by rw [eoth, emk, eml, emo]; exact smem x hx, by omega, small, fun Ha sa => ⟨_, rfl, ifF rfl ?_⟩⟩⟩
      have s5a := s59.trans sa
      have ba := b5.same s5a
      have hDa := sa _ _ hD
      have tza := tz.mono (.of_same sa)
      refine ⟨fun σ Hx => ∃ (o9 o10 : Option V), σ = [some (.ref a), some (.ref r), some (.int (turn : Int)), some (.ref p), some (.ref q0), some (.int (b : Int)), some (.int ((stsL h T b).length : Nat)), some (.int (again : Int)), some (.ref D), o9, o10] ∧ Same Ha Hx, ?_, ?_⟩
      · refine ⟨_, rfl, rfl, _, rfl, ifT rfl ⟨_, rfl, q0, _, rfl, ba.ma.g_time, _, _, rfl, rfl, _, rfl, ?_⟩⟩
        by_cases t8 : m.time < 8
        · refine ifT (decide_eq_true t8) ?_
          have T7 : T ≤ 7 := by omega
          refine ⟨_, rfl, q0, _, rfl, ba.ma.g_known, L', _, rfl, .inl (SqL.of ba.ma.kn.lst), _, rfl, by omega, by rw [List.length_map]; omega, fun eA neA => ?_⟩
          rw [List.length_map, dlen, Int.toNat_natCast]
          refine lc_every (n := n) (m := m) (T := T) mlen.symm neA (by omega) (fun _ => rfl) (fun b1 hb1 => ?_) fun es Hb sb ev le => ?_
          · intro Hb sb Q5 q5
            exact ⟨_, rfl, _, rfl, q0, L', ds', m, T, b1, rfl, ba.ma.same sb, mo, T7, by omega, fun E z H6 s6 nE so ez => q5 E z H6 s6 nE so ez⟩
          obtain ⟨k1, k2⟩ := sound_try o emk eml emo le
          have hany : (es.any fun e => e.2.isEmpty) = false := by
            cases hz : es.any fun e => e.2.isEmpty with
            | false => rfl
            | true => rw [k1 hz] at hs; cases hs
          obtain ⟨e1, e2, hnev⟩ := k2 hany
          have elen : es.length = n := by rw [le.len, mlen]
          have hget : es[b]? = some es[b] := List.getElem?_eq_getElem (by omega)
          have emin : minPr es[b].2 = leastH h T b := by
            have := le.min hget (by rw [emk, eml]; exact hnev b hbk)
            rw [this, emk, eml]
            rfl
          have ene : es[b].2 ≠ [] := by
            intro z
            have := (le.nil hget).mp (by rw [z]; rfl)
            rw [emk, eml] at this
            have := hnev b hbk
            unfold leastH at this
            omega
          have hon := ev.at_ es[b] (List.getElem_mem _)
          refine ⟨_, rfl, _, rfl, _, rfl, _, rfl, _, rfl, q0, L', ds', m, eA, es, rfl, ba.ma.same sb, ev, fun hx => (by rw [hany] at hx; cases hx), fun _ Hc sc => ?_⟩
          rw [e1]
          refine ⟨eA, es, b, es[b], spareH h, rfl, ev.same sc, hget, ene, fun so Hd sd nso hso => ?_⟩
          have sbd := sc.trans sd
          have sad := sb.trans sbd
          have to := one_tups (H := Hd) (l := es[b].2.filter fun x => decide (x.2.1 ≤ minPr es[b].2 + spareH h)) fun x hx => sbd _ _ (hon.st x (List.mem_filter.mp hx).1)
          rw [stand_is o hs hbk lo6 emk eml (le.at_ b es[b] hget) emin] at to
          refine ⟨_, _, rfl, .inr (.inl ⟨D, so, xs, _, rfl, rfl, sad _ _ hDa, hso, Al.tups (tza.mono (.of_same sad)) to (encs_ok7 _) (fun d hd => ?_), by omega⟩), fun He se => ⟨_, rfl, ifF rfl ⟨_, _, rfl, sad.trans se⟩⟩⟩
          obtain ⟨x, hx, rfl⟩ := List.mem_map.mp hd
          have := (smem x hx).1
          unfold encS
          rw [List.length_map]
          omega
        · exact ifF (decide_eq_false t8) ⟨_, _, rfl, Same.refl _⟩
      · rintro σ Hb ⟨o9, o10, rfl, sb⟩
        have hDb := sb _ _ hDa
        have s5b := s5a.trans sb
        refine ⟨_, rfl, rfl, _, rfl, ifT rfl ?_⟩
        refine ⟨_, rfl, .inl ⟨rfl, _, SqL.of hDb⟩, sz (by simp), fun t nt => ⟨D, xs, _, rfl, rfl, (Same.new nt) _ _ hDb, szl (by omega), ?_⟩⟩
        refine ⟨_, rfl, .inl ⟨rfl, _, SqL.of upd_same⟩, D, _, rfl, rfl, upd_same, ?_⟩
        exact ⟨_, _, _, _, rfl, Same.mut (Same.mut (s5b.trans (Same.new nt)) nD5) nD5⟩
end
end IC
namespace IC
open PySem L2
/-! ### what the top has written -/
structure GF (K : PySem.W.Frag) (x : Str) (st : Stmt) : Prop where
  ex : ∃ f fd, L2.Fun K x x st f fd ∧ PySem.W.nsIn K mainGlobals x = some (some (.ref f))
structure MF (K : PySem.W.Frag) (C : Addr) (m qual : Str) (st : Stmt) : Prop where
  ex : ∃ f fd, L2.Fun K m qual st f fd ∧ PySem.W.findIn K (.ref C) m = some (some (.ref f)) ∧ PySem.W.isFn K (.ref f) = true
section
variable {P : Program} {w : World} {K : PySem.W.Frag} {mg : Str → Option Value} {base h : Heap} {C : Addr} {x m qual : Str} {st : Stmt} {k : Nat} {sp : Sp} {ps : List Str}
theorem mkG {f : Addr} {oc : Value} {od an : Option Addr} {osl : Array (Option Value)} {kV doc pm cdv ct : Value} (a : PySem.W.nsIn K mainGlobals x = some (some (.ref f))) (l : K.lookup f = some ⟨oc, od, .func (PySem.W.fnOf x x (defArgs st) (defBody st) (defScope st) .none kV doc pm an cdv ct), osl⟩)
    (c : PySem.W.codeIn K cdv x = true) (k : PySem.W.keepIn K (.ref f) = true) : GF K x st := ⟨f, _, fun_mk (st := st) l c k, a⟩
theorem mkM {f : Addr} {oc : Value} {od an : Option Addr} {osl : Array (Option Value)} {kV doc pm cdv ct : Value} (a : PySem.W.findIn K (.ref C) m = some (some (.ref f))) (i : PySem.W.isFn K (.ref f) = true) (l : K.lookup f = some ⟨oc, od, .func (PySem.W.fnOf m qual (defArgs st) (defBody st) (defScope st) .none kV doc pm an cdv ct), osl⟩)
    (c : PySem.W.codeIn K cdv qual = true) (k : PySem.W.keepIn K (.ref f) = true) : MF K C m qual st := ⟨f, _, fun_mk (st := st) l c k, a, i⟩
theorem GF.cal (g : GF K x st) (X : K.In h) (G : h.Ns mainGlobals mg) (b : ∀ f fd, L2.Fun K x x st f fd → Binds K fd ps []) (ok : ∀ f fd, L2.Fun K x x st f fd → FnOk P w K mg base CX0 k f fd ps sp) : C8.Cal P w K mg base k x sp [] := by
  obtain ⟨f, fd, F, a⟩ := g.ex
  exact ⟨f, fd, ps, [], ok f fd F, PySem.W.mg_of X G a, F.kp, b f fd F, .nil⟩
theorem MF.met (g : MF K C m qual st) (c : Cls K C) (b : ∀ f fd, L2.Fun K m qual st f fd → Binds K fd ps []) (ok : ∀ f fd, L2.Fun K m qual st f fd → FnOk P w K mg base CX0 k f fd ps sp) : C8.Met P w K mg base k C m sp [] := by
  obtain ⟨f, fd, F, a, i⟩ := g.ex
  exact ⟨f, fd, ps, [], c, ⟨a, i, F.kp⟩, ok f fd F, b f fd F, .nil⟩
theorem MF.mak {n : Str} (g : MF K C "__init__" qual st) (X : K.In h) (G : h.Ns mainGlobals mg) (mk : PySem.W.makesIn K C = true) (kc : PySem.W.keepIn K (.ref C) = true) (a0 : PySem.W.nsIn K mainGlobals n = some (some (.ref C))) (b : ∀ f fd, L2.Fun K "__init__" qual st f fd → Binds K fd ps []) (ok : ∀ f fd, L2.Fun K "__init__" qual st f fd → FnOk P w K mg base CX0 k f fd ps sp) : C8.Mak P w K mg base k n C sp [] := by
  obtain ⟨f, fd, F, a, i⟩ := g.ex
  exact ⟨f, fd, ps, [], ⟨mk, a, i, kc⟩, ok f fd F, PySem.W.mg_of X G a0, b f fd F, .nil⟩
end
theorem all_mk {l : PySem.W.OpenLaw} {w : World} {K : PySem.W.Frag} {h : Heap} {mg : Str → Option Value} {fa C dI TooMany HouseError : Addr} {esI : Array DictEntry} {nI : Nat} {u_MOST_TIME u_MOST_BADGES u_MOST_LATE u_MOST_LOST u_NEVER u_MOST_STORIES u_in u_out : Value} (X : K.In h) (G : h.Ns mainGlobals mg) (hfa : mg "law" = some (.ref fa))
    (g0_len : PySem.W.nsIn K mainGlobals "len" = some none)
    (g0_range : PySem.W.nsIn K mainGlobals "range" = some none)
    (g0_sorted : PySem.W.nsIn K mainGlobals "sorted" = some none)
    (g0_int : PySem.W.nsIn K mainGlobals "int" = some none)
    (g0_min : PySem.W.nsIn K mainGlobals "min" = some none)
    (g0_max : PySem.W.nsIn K mainGlobals "max" = some none)
    (g0_reversed : PySem.W.nsIn K mainGlobals "reversed" = some none)
    (g0_list : PySem.W.nsIn K mainGlobals "list" = some none)
    (g0_tuple : PySem.W.nsIn K mainGlobals "tuple" = some none)
    (g0_isinstance : PySem.W.nsIn K mainGlobals "isinstance" = some none)
    (g0_bool : PySem.W.nsIn K mainGlobals "bool" = some none)
    (g0_str : PySem.W.nsIn K mainGlobals "str" = some none)
    (g0_sum : PySem.W.nsIn K mainGlobals "sum" = some none)
    (g0_set : PySem.W.nsIn K mainGlobals "set" = some none)
    (gc_MOST_TIME : PySem.W.nsIn K mainGlobals "MOST_TIME" = some (some u_MOST_TIME)) (gr_MOST_TIME : RelV (.int 60) u_MOST_TIME)
    (gc_MOST_BADGES : PySem.W.nsIn K mainGlobals "MOST_BADGES" = some (some u_MOST_BADGES)) (gr_MOST_BADGES : RelV (.int 6) u_MOST_BADGES)
    (gc_MOST_LATE : PySem.W.nsIn K mainGlobals "MOST_LATE" = some (some u_MOST_LATE)) (gr_MOST_LATE : RelV (.int 9) u_MOST_LATE)
    (gc_MOST_LOST : PySem.W.nsIn K mainGlobals "MOST_LOST" = some (some u_MOST_LOST)) (gr_MOST_LOST : RelV (.int 6) u_MOST_LOST)
    (gc_NEVER : PySem.W.nsIn K mainGlobals "NEVER" = some (some u_NEVER)) (gr_NEVER : RelV (.int 1000000) u_NEVER)
    (gc_MOST_STORIES : PySem.W.nsIn K mainGlobals "MOST_STORIES" = some (some u_MOST_STORIES)) (gr_MOST_STORIES : RelV (.int 200) u_MOST_STORIES)
    (aI : PySem.W.nsIn K mainGlobals "INSIDE" = some (some (.ref dI))) (lI : K.lookup dI = some ⟨.type "dict", none, .dict esI nI, #[]⟩) (kI : PySem.W.KeysLit w.params esI.toList) (sI : (dI == sysModules) = false) (inI : PySem.W.nsIn K dI "in" = some (some u_in)) (inR : RelV (.int 1) u_in) (outI : PySem.W.nsIn K dI "out" = some (some u_out)) (outR : RelV (.int 0) u_out)
    (aC : PySem.W.nsIn K mainGlobals "House" = some (some (.ref C))) (pg : PySem.W.plainGet K C Str.empty = true) (hd : PySem.W.hasDictIn K C = true) (po : PySem.W.plainOver K C = true) (sa : PySem.W.findIn K (.ref C) "__setattr__" = some (some (.builtin "object.__setattr__"))) (mk : PySem.W.makesIn K C = true) (kc : PySem.W.keepIn K (.ref C) = true)
    (na_late : PySem.W.findIn K (.ref C) "late" = some none)
    (na_lost : PySem.W.findIn K (.ref C) "lost" = some none)
    (na_now : PySem.W.findIn K (.ref C) "now" = some none)
    (na_known : PySem.W.findIn K (.ref C) "known" = some none)
    (na_many : PySem.W.findIn K (.ref C) "many" = some none)
    (na_fault : PySem.W.findIn K (.ref C) "fault" = some none)
    (a_HE : PySem.W.nsIn K mainGlobals "HouseError" = some (some (.ref HouseError))) (g0_VE : PySem.W.nsIn K mainGlobals "ValueError" = some none)
    (a_TooMany : PySem.W.nsIn K mainGlobals "TooMany" = some (some (.ref TooMany))) (q_TooMany : PySem.W.excIn K TooMany [.type "ValueError", .type "Exception", .type "BaseException", .type "object"] "ValueError.__new__" = true) (k_TooMany : PySem.W.keepIn K (.ref TooMany) = true) (b_TooMany : PySem.W.subIn K (.ref TooMany) (.type "BaseException") = some true) (t_TooMany : PySem.W.typeIn K (.ref TooMany) = some (.type "type")) (s_TooMany : PySem.W.subIn K (.ref TooMany) (.ref TooMany) = some true)
    (e_TooMany : ExcC K TooMany)
    (kh_TooMany : PySem.W.kitOne K (.ref TooMany) (.ref HouseError) = some true) (kv_TooMany : PySem.W.kitOne K (.ref TooMany) (.type "ValueError") = some true)
    (g__law_taken : GF K "_law_taken" s__law_taken)
    (g__law_fresh : GF K "_law_fresh" s__law_fresh)
    (m___init__ : MF K C "__init__" "House.__init__" s_House___init__)
    (g__law_deeds : GF K "_law_deeds" s__law_deeds)
    (m_is_time : MF K C "is_time" "House.is_time" s_House_is_time)
    (g_is_lost : GF K "is_lost" s_is_lost)
    (g_wants_of : GF K "wants_of" s_wants_of)
    (g_all_wants : GF K "all_wants" s_all_wants)
    (g_are_borne : GF K "are_borne" s_are_borne)
    (m_gone_on : MF K C "gone_on" "House.gone_on" s_House_gone_on)
    (m_tick : MF K C "tick" "House.tick" s_House_tick)
    (m_come : MF K C "come" "House.come" s_House_come)
    (g__law_do : GF K "_law_do" s__law_do)
    (g__law_built : GF K "_law_built" s__law_built)
    (g__law_wants : GF K "_law_wants" s__law_wants)
    (g__law_is_sound : GF K "_law_is_sound" s__law_is_sound)
    (g__law_many : GF K "_law_many" s__law_many)
    (g_need_badge : GF K "need_badge" s_need_badge)
    (g_wants : GF K "wants" s_wants)
    (g_is_sound : GF K "is_sound" s_is_sound)
    (g_need_sound : GF K "need_sound" s_need_sound)
    (g_turn_price : GF K "turn_price" s_turn_price)
    (g_step_price : GF K "step_price" s_step_price)
    (g_prices_behind : GF K "prices_behind" s_prices_behind)
    (g_prices_ahead : GF K "prices_ahead" s_prices_ahead)
    (g_least_price : GF K "least_price" s_least_price)
    (g_spare_rows : GF K "spare_rows" s_spare_rows)
    (g_stories : GF K "stories" s_stories)
    (g__law_told : GF K "_law_told" s__law_told)
    (g__law_price : GF K "_law_price" s__law_price)
    (g__law_alike : GF K "_law_alike" s__law_alike)
    (g__law_are_good : GF K "_law_are_good" s__law_are_good)
    (g__law_stories : GF K "_law_stories" s__law_stories)
    (g__law_spare : GF K "_law_spare" s__law_spare)
    (g__law_standing : GF K "_law_standing" s__law_standing)
    (g_law : GF K "law" s_law)
    : ∃ fd : FuncData, (∀ (s : Shared) (v : Value), BindsTo s fd ⟨[v], []⟩ [("_law_script", v)]) ∧ ∀ base : Heap, K.In base → base.Ns mainGlobals mg → FnOk l.prog w K mg base CX0 9 fa fd ["_law_script"] (sp_law K) := by
  obtain ⟨f, fd, F, af⟩ := g_law.ex
  have e := hfa.symm.trans (PySem.W.mg_of X G af)
  cases e
  have kD : ∃ es n, KDict K w dI es n := ⟨esI, nI, lI, kI, sI⟩
  have GL : Glb K w mg dI := ⟨PySem.W.mg_none_of X G g0_len, PySem.W.mg_none_of X G g0_range, PySem.W.mg_none_of X G g0_sorted, PySem.W.mg_none_of X G g0_int, PySem.W.mg_none_of X G g0_min, PySem.W.mg_none_of X G g0_max, PySem.W.mg_none_of X G g0_reversed, PySem.W.mg_none_of X G g0_list, PySem.W.mg_none_of X G g0_tuple, PySem.W.mg_none_of X G g0_isinstance, PySem.W.mg_none_of X G g0_bool, PySem.W.mg_none_of X G g0_str, PySem.W.mg_none_of X G g0_sum, PySem.W.mg_none_of X G g0_set, PySem.W.mg_of X G aI, ⟨_, PySem.W.mg_of X G gc_MOST_TIME, gr_MOST_TIME⟩, ⟨_, PySem.W.mg_of X G gc_MOST_BADGES, gr_MOST_BADGES⟩, ⟨_, PySem.W.mg_of X G gc_MOST_LATE, gr_MOST_LATE⟩, ⟨_, PySem.W.mg_of X G gc_MOST_LOST, gr_MOST_LOST⟩, kD, ⟨esI, nI, _, lI, kI, inI, inR⟩, ⟨esI, nI, _, lI, kI, outI, outR⟩⟩
  have GW : GlbW mg := ⟨⟨_, PySem.W.mg_of X G gc_NEVER, gr_NEVER⟩⟩
  have GS : GlbS mg := ⟨⟨_, PySem.W.mg_of X G gc_MOST_STORIES, gr_MOST_STORIES⟩⟩
  have TX : HTxt K C := ⟨⟨pg, hd, po, sa⟩, na_late, na_lost, na_now, na_known, na_many, na_fault⟩
  have X_TooMany : ExcOk K mg "TooMany" TooMany := ⟨PySem.W.mg_of X G a_TooMany, q_TooMany, k_TooMany, b_TooMany, t_TooMany, e_TooMany⟩
  have GX_TooMany : GlbU K mg TooMany HouseError := ⟨⟨_, PySem.W.mg_of X G a_HE, rfl⟩, PySem.W.mg_none_of X G g0_VE, kh_TooMany, kv_TooMany, s_TooMany⟩
  refine ⟨fd, fun s v => ?_, fun base _ _ => ?_⟩
  · obtain ⟨oc, od, kV, doc, pm, an, cdv, ct, osl, rfl, lk, hcd⟩ := F.ex
    exact .of_eq rfl
  have c__law_taken : C8.Cal l.prog w K mg base 1 "_law_taken" (sp_taken K) [] := g__law_taken.cal X G (fun _ _ F => F.binds (ps := ["_law_row", "_law_many_here"]) fun _ _ _ _ _ _ us hl => match us, hl with | [_, _], _ => rfl) (fun _ _ F => ok_taken F GL)
  have c__law_fresh : C8.Cal l.prog w K mg base 2 "_law_fresh" (sp_fresh K) [] := g__law_fresh.cal X G (fun _ _ F => F.binds (ps := ["_law_row", "_law_most"]) fun _ _ _ _ _ _ us hl => match us, hl with | [_, _], _ => rfl) (fun _ _ F => ok_fresh F GL c__law_taken)
  have c_House : C8.Mak l.prog w K mg base 1 "House" C (sp_init C) [] := m___init__.mak X G mk kc aC (fun _ _ F => F.binds (ps := ["self", "badges", "late", "lost"]) fun _ _ _ _ _ _ us hl => match us, hl with | [_, _, _, _], _ => rfl) (fun _ _ F => ok_init F GL TX)
  have c__law_deeds : C8.Cal l.prog w K mg base 2 "_law_deeds" (sp_deeds K) [] := g__law_deeds.cal X G (fun _ _ F => F.binds (ps := ["_law_row", "_law_m", "_law_most"]) fun _ _ _ _ _ _ us hl => match us, hl with | [_, _, _], _ => rfl) (fun _ _ F => ok_deeds F GL c__law_taken)
  have c_is_time : C8.Met l.prog w K mg base 1 C "is_time" (sp_is_time C) [] := m_is_time.met TX.cl (fun _ _ F => F.binds (ps := ["self", "time"]) fun _ _ _ _ _ _ us hl => match us, hl with | [_, _], _ => rfl) (fun _ _ F => ok_is_time F GL TX)
  have c_is_lost : C8.Cal l.prog w K mg base 1 "is_lost" sp_is_lost [] := g_is_lost.cal X G (fun _ _ F => F.binds (ps := ["moment", "late", "time"]) fun _ _ _ _ _ _ us hl => match us, hl with | [_, _, _], _ => rfl) (fun _ _ F => ok_is_lost F)
  have c_wants_of : C8.Cal l.prog w K mg base 2 "wants_of" sp_wants_of [] := g_wants_of.cal X G (fun _ _ F => F.binds (ps := ["badge", "known", "late", "time"]) fun _ _ _ _ _ _ us hl => match us, hl with | [_, _, _, _], _ => rfl) (fun _ _ F => ok_wants_of F GL c_is_lost)
  have c_all_wants : C8.Cal l.prog w K mg base 3 "all_wants" sp_all_wants [] := g_all_wants.cal X G (fun _ _ F => F.binds (ps := ["known", "late", "time"]) fun _ _ _ _ _ _ us hl => match us, hl with | [_, _, _], _ => rfl) (fun _ _ F => ok_all_wants F GL c_wants_of)
  have c_are_borne : C8.Cal l.prog w K mg base 1 "are_borne" sp_are_borne [] := g_are_borne.cal X G (fun _ _ F => F.binds (ps := ["wants", "lost"]) fun _ _ _ _ _ _ us hl => match us, hl with | [_, _], _ => rfl) (fun _ _ F => ok_are_borne F GL)
  have c_gone_on : C8.Met l.prog w K mg base 4 C "gone_on" (sp_gone_on C) [] := m_gone_on.met TX.cl (fun _ _ F => F.binds (ps := ["self", "time"]) fun _ _ _ _ _ _ us hl => match us, hl with | [_, _], _ => rfl) (fun _ _ F => ok_gone_on F GL TX c_all_wants c_are_borne)
  have c_tick : C8.Met l.prog w K mg base 5 C "tick" (sp_tick C) [] := m_tick.met TX.cl (fun _ _ F => F.binds (ps := ["self", "time"]) fun _ _ _ _ _ _ us hl => match us, hl with | [_, _], _ => rfl) (fun _ _ F => ok_tick F GL TX c_is_time c_gone_on)
  have c_come : C8.Met l.prog w K mg base 5 C "come" (sp_come C) [] := m_come.met TX.cl (fun _ _ F => F.binds (ps := ["self", "time", "badge", "moment", "word"]) fun _ _ _ _ _ _ us hl => match us, hl with | [_, _, _, _, _], _ => rfl) (fun _ _ F => ok_come F GL TX c_is_time c_gone_on)
  have c__law_do : C8.Cal l.prog w K mg base 6 "_law_do" (sp_do C) [] := g__law_do.cal X G (fun _ _ F => F.binds (ps := ["_law_house", "_law_m", "_law_deed"]) fun _ _ _ _ _ _ us hl => match us, hl with | [_, _, _], _ => rfl) (fun _ _ F => ok_do F GL c_tick c_come)
  have c__law_built : C8.Cal l.prog w K mg base 7 "_law_built" (sp_built K C) [] := g__law_built.cal X G (fun _ _ F => F.binds (ps := ["_law_row", "_law_badges", "_law_most"]) fun _ _ _ _ _ _ us hl => match us, hl with | [_, _, _], _ => rfl) (fun _ _ F => ok_built F GL c__law_fresh c_House c__law_deeds c__law_do)
  have c__law_wants : C8.Cal l.prog w K mg base 1 "_law_wants" sp_lwants [] := g__law_wants.cal X G (fun _ _ F => F.binds (ps := ["_law_m"]) fun _ _ _ _ _ _ us hl => match us, hl with | [_], _ => rfl) (fun _ _ F => ok_lwants F GL)
  have c__law_is_sound : C8.Cal l.prog w K mg base 2 "_law_is_sound" sp_lsound [] := g__law_is_sound.cal X G (fun _ _ F => F.binds (ps := ["_law_m"]) fun _ _ _ _ _ _ us hl => match us, hl with | [_], _ => rfl) (fun _ _ F => ok_lsound F GL c__law_wants)
  have c__law_many : C8.Cal l.prog w K mg base 2 "_law_many" sp_many [] := g__law_many.cal X G (fun _ _ F => F.binds (ps := ["_law_m", "_law_badge"]) fun _ _ _ _ _ _ us hl => match us, hl with | [_, _], _ => rfl) (fun _ _ F => ok_many F GL c__law_wants)
  have c_need_badge : C8.Cal l.prog w K mg base 1 "need_badge" (sp_need_badge C) [] := g_need_badge.cal X G (fun _ _ F => F.binds (ps := ["house", "badge"]) fun _ _ _ _ _ _ us hl => match us, hl with | [_, _], _ => rfl) (fun _ _ F => ok_need_badge F GL TX)
  have c_wants : C8.Cal l.prog w K mg base 4 "wants" (sp_wants C) [] := g_wants.cal X G (fun _ _ F => F.binds (ps := ["house"]) fun _ _ _ _ _ _ us hl => match us, hl with | [_], _ => rfl) (fun _ _ F => ok_wants F TX c_all_wants)
  have c_is_sound : C8.Cal l.prog w K mg base 5 "is_sound" (sp_is_sound C) [] := g_is_sound.cal X G (fun _ _ F => F.binds (ps := ["house"]) fun _ _ _ _ _ _ us hl => match us, hl with | [_], _ => rfl) (fun _ _ F => ok_is_sound F TX c_wants c_are_borne)
  have c_need_sound : C8.Cal l.prog w K mg base 6 "need_sound" (sp_need_sound C) [] := g_need_sound.cal X G (fun _ _ F => F.binds (ps := ["house"]) fun _ _ _ _ _ _ us hl => match us, hl with | [_], _ => rfl) (fun _ _ F => ok_need_sound F c_is_sound)
  have c_turn_price : C8.Cal l.prog w K mg base 2 "turn_price" (sp_turn_price C) [] := g_turn_price.cal X G (fun _ _ F => F.binds (ps := ["house", "badge", "moment", "turns"]) fun _ _ _ _ _ _ us hl => match us, hl with | [_, _, _, _], _ => rfl) (fun _ _ F => ok_turn_price F GL GW TX c_is_lost)
  have c_step_price : C8.Cal l.prog w K mg base 3 "step_price" (sp_step_price C) [] := g_step_price.cal X G (fun _ _ F => F.binds (ps := ["house", "badge", "moment", "before", "behind"]) fun _ _ _ _ _ _ us hl => match us, hl with | [_, _, _, _, _], _ => rfl) (fun _ _ F => ok_step_price F GL GW TX c_turn_price)
  have c_prices_behind : C8.Cal l.prog w K mg base 4 "prices_behind" (sp_prices_behind C) [] := g_prices_behind.cal X G (fun _ _ F => F.binds (ps := ["house", "badge"]) fun _ _ _ _ _ _ us hl => match us, hl with | [_, _], _ => rfl) (fun _ _ F => ok_prices_behind F GL TX c_step_price)
  have c_prices_ahead : C8.Cal l.prog w K mg base 4 "prices_ahead" (sp_prices_ahead C) [] := g_prices_ahead.cal X G (fun _ _ F => F.binds (ps := ["house", "badge"]) fun _ _ _ _ _ _ us hl => match us, hl with | [_, _], _ => rfl) (fun _ _ F => ok_prices_ahead F GL GW TX c_step_price)
  have c_least_price : C8.Cal l.prog w K mg base 5 "least_price" (sp_least_price C) [] := g_least_price.cal X G (fun _ _ F => F.binds (ps := ["house", "badge"]) fun _ _ _ _ _ _ us hl => match us, hl with | [_, _], _ => rfl) (fun _ _ F => ok_least_price F GL c_prices_ahead)
  have c_spare_rows : C8.Cal l.prog w K mg base 5 "spare_rows" (sp_spare_rows C) [] := g_spare_rows.cal X G (fun _ _ F => F.binds (ps := ["house"]) fun _ _ _ _ _ _ us hl => match us, hl with | [_], _ => rfl) (fun _ _ F => ok_spare_rows F GL TX c_wants)
  have c_storiesX : CalX l.prog w K mg base 7 "stories" (sp_stories C TooMany) := by
    obtain ⟨f, fd, F, a⟩ := g_stories.ex
    exact ⟨f, fd, _, ok_stories F GL GS TX X_TooMany c_need_badge c_need_sound c_prices_behind c_least_price c_spare_rows c_step_price, PySem.W.mg_of X G a, F.kp, (fun (f : Addr) (fd : FuncData) (F : L2.Fun K "stories" "stories" s_stories f fd) => F.binds (ps := ["house", "badge"]) fun _ _ _ _ _ _ us hl => match us, hl with | [_, _], _ => rfl) f fd F⟩
  have c__law_told : C8.Cal l.prog w K mg base 8 "_law_told" (sp_told7 C) [] := g__law_told.cal X G (fun _ _ F => F.binds (ps := ["_law_house", "_law_badge"]) fun _ _ _ _ _ _ us hl => match us, hl with | [_, _], _ => rfl) (fun _ _ F => ok_told7 F GL X_TooMany GX_TooMany c_storiesX)
  have c__law_price : C8.Cal l.prog w K mg base 1 "_law_price" (sp_lprice K) [] := g__law_price.cal X G (fun _ _ F => F.binds (ps := ["_law_m", "_law_badge", "_law_story"]) fun _ _ _ _ _ _ us hl => match us, hl with | [_, _, _], _ => rfl) (fun _ _ F => ok_lprice F GL)
  have c__law_alike : C8.Cal l.prog w K mg base 3 "_law_alike" (sp_alike 2) [] := by
    obtain ⟨f, fd, F, a⟩ := g__law_alike.ex
    have b := (fun (f : Addr) (fd : FuncData) (F : L2.Fun K "_law_alike" "_law_alike" s__law_alike f fd) => F.binds (ps := ["_law_found", "_law_due"]) fun _ _ _ _ _ _ us hl => match us, hl with | [_, _], _ => rfl) f fd F
    exact ⟨f, fd, _, [], ok_alike F GL (PySem.W.mg_of X G a) b 2, PySem.W.mg_of X G a, F.kp, b, .nil⟩
  have c__law_are_good : C8.Cal l.prog w K mg base 4 "_law_are_good" sp_good [] := g__law_are_good.cal X G (fun _ _ F => F.binds (ps := ["_law_m", "_law_badge", "_law_told_here"]) fun _ _ _ _ _ _ us hl => match us, hl with | [_, _, _], _ => rfl) (fun _ _ F => ok_good F GL c__law_wants c__law_price c__law_alike)
  have c__law_stories : C8.Cal l.prog w K mg base 2 "_law_stories" sp_lstories [] := g__law_stories.cal X G (fun _ _ F => F.binds (ps := ["_law_m", "_law_badge"]) fun _ _ _ _ _ _ us hl => match us, hl with | [_, _], _ => rfl) (fun _ _ F => ok_lstories F GL c__law_price)
  have c__law_spare : C8.Cal l.prog w K mg base 1 "_law_spare" (sp_spare K) [] := g__law_spare.cal X G (fun _ _ F => F.binds (ps := ["_law_m", "_law_every"]) fun _ _ _ _ _ _ us hl => match us, hl with | [_, _], _ => rfl) (fun _ _ F => ok_spare F GL)
  have c__law_standing : C8.Cal l.prog w K mg base 1 "_law_standing" sp_standing [] := g__law_standing.cal X G (fun _ _ F => F.binds (ps := ["_law_every", "_law_badge", "_law_spare_here"]) fun _ _ _ _ _ _ us hl => match us, hl with | [_, _, _], _ => rfl) (fun _ _ F => ok_standing F GL)
  exact ok_law F GL c__law_taken c__law_built c__law_is_sound c__law_many c__law_told c__law_are_good c__law_stories c__law_spare c__law_standing c__law_alike
theorem walk {l : PySem.W.OpenLaw} {q : Program} {loose : List Str} {XP : (Str → Option Value) → Heap → Prop} {YP : World → Heap → Prop} {d : DefRec} {K : Params → PySem.W.Frag} (hn : l.most = some 63) (hdf : d.params.defaults = [])
    (hY : ∀ (w : World) (h : Heap), YP w h → (K w.params).In h)
    (F : ∀ (w : World) (mg : Str → Option Value) (fa : Addr) (h : Heap), (K w.params).In h → h.Ns mainGlobals mg → mg d.name = some (.ref fa) →
      ∃ fd : FuncData, (∀ (s : Shared) (u : Value), BindsTo s fd ⟨[u], []⟩ [("_law_script", u)]) ∧ ∀ base : Heap, (K w.params).In base → base.Ns mainGlobals mg → FnOk l.prog w (K w.params) mg base CX0 9 fa fd ["_law_script"] (sp_law (K w.params))) :
    PySem.W.WalkO q loose XP YP l.row.toRowW d [] (fun f vs => PySem.call f vs) :=
  L2.walk_of (n := 63) (k := 9) (x := "_law_script") (CX := fun _ => CX0) (sp := fun w => sp_law (K w.params)) hn (by decide) hdf ⟨rfl, by decide, by decide⟩ hY F (fun _ _ a ns hl _ hS => ⟨a, ns, rfl, hS, hl, fun _ => rfl⟩) fun _ _ _ _ _ z => z
end IC
open PySem PySem.W PyProof.Rows
set_option maxRecDepth 100000 in
set_option maxHeartbeats 0 in
theorem PySem.Challenge.cw_insidecount_k07_whole_all_stories_holds : PySem.Challenge.rw_insidecount_k07_whole_all_stories.Holds := by
  w_on; o_law; k_head; (case hw => w_witness2)
  k_fill
  refine IC.walk (l := PySem.Challenge.rw_insidecount_k07_whole_all_stories) rfl rfl (fun w h Y => PySem.W.kIn_of Y) ?F
  case F =>
    intro w mg fa h KX G hmg
    refine' IC.all_mk KX G hmg
      ?z1
      ?z2
      ?z3
      ?z4
      ?z5
      ?z6
      ?z7
      ?z8
      ?z9
      ?z10
      ?z11
      ?z12
      ?z13
      ?z14
      ?z15
      ?z16
      ?z17
      ?z18
      ?z19
      ?z20
      ?z21
      ?z22
      ?z23
      ?z24
      ?z25
      ?z26
      ?z27
      ?z28
      ?z29
      ?z30
      ?z31
      ?z32
      ?z33
      ?z34
      ?z35
      ?z36
      ?z37
      ?z38
      ?z39
      ?z40
      ?z41
      ?z42
      ?z43
      ?z44
      ?z45
      ?z46
      ?z47
      ?z48
      ?z49
      ?z50
      ?z51
      ?z52
      ?z53
      ?z54
      ?z55
      ⟨?z56, ?z57, ?z58, ?z59, ?z60, ?z61, ?z62, ?z63⟩
      ?z64
      ?z65
      (IC.mkG ?z66 ?z67 ?z68 ?z69)
      (IC.mkG ?z70 ?z71 ?z72 ?z73)
      (IC.mkM ?z74 ?z75 ?z76 ?z77 ?z78)
      (IC.mkG ?z79 ?z80 ?z81 ?z82)
      (IC.mkM ?z83 ?z84 ?z85 ?z86 ?z87)
      (IC.mkG ?z88 ?z89 ?z90 ?z91)
      (IC.mkG ?z92 ?z93 ?z94 ?z95)
      (IC.mkG ?z96 ?z97 ?z98 ?z99)
      (IC.mkG ?z100 ?z101 ?z102 ?z103)
      (IC.mkM ?z104 ?z105 ?z106 ?z107 ?z108)
      (IC.mkM ?z109 ?z110 ?z111 ?z112 ?z113)
      (IC.mkM ?z114 ?z115 ?z116 ?z117 ?z118)
      (IC.mkG ?z119 ?z120 ?z121 ?z122)
      (IC.mkG ?z123 ?z124 ?z125 ?z126)
      (IC.mkG ?z127 ?z128 ?z129 ?z130)
      (IC.mkG ?z131 ?z132 ?z133 ?z134)
      (IC.mkG ?z135 ?z136 ?z137 ?z138)
      (IC.mkG ?z139 ?z140 ?z141 ?z142)
      (IC.mkG ?z143 ?z144 ?z145 ?z146)
      (IC.mkG ?z147 ?z148 ?z149 ?z150)
      (IC.mkG ?z151 ?z152 ?z153 ?z154)
      (IC.mkG ?z155 ?z156 ?z157 ?z158)
      (IC.mkG ?z159 ?z160 ?z161 ?z162)
      (IC.mkG ?z163 ?z164 ?z165 ?z166)
      (IC.mkG ?z167 ?z168 ?z169 ?z170)
      (IC.mkG ?z171 ?z172 ?z173 ?z174)
      (IC.mkG ?z175 ?z176 ?z177 ?z178)
      (IC.mkG ?z179 ?z180 ?z181 ?z182)
      (IC.mkG ?z183 ?z184 ?z185 ?z186)
      (IC.mkG ?z187 ?z188 ?z189 ?z190)
      (IC.mkG ?z191 ?z192 ?z193 ?z194)
      (IC.mkG ?z195 ?z196 ?z197 ?z198)
      (IC.mkG ?z199 ?z200 ?z201 ?z202)
      (IC.mkG ?z203 ?z204 ?z205 ?z206)
      (IC.mkG ?z207 ?z208 ?z209 ?z210)
      (IC.mkG ?z211 ?z212 ?z213 ?z214)
    (case z1 => k_is)
    (case z2 => k_is)
    (case z3 => k_is)
    (case z4 => k_is)
    (case z5 => k_is)
    (case z6 => k_is)
    (case z7 => k_is)
    (case z8 => k_is)
    (case z9 => k_is)
    (case z10 => k_is)
    (case z11 => k_is)
    (case z12 => k_is)
    (case z13 => k_is)
    (case z14 => k_is)
    (case z15 => k_is)
    (case z16 => exact ⟨_, rfl⟩)
    (case z17 => k_is)
    (case z18 => exact ⟨_, rfl⟩)
    (case z19 => k_is)
    (case z20 => exact ⟨_, rfl⟩)
    (case z21 => k_is)
    (case z22 => exact ⟨_, rfl⟩)
    (case z23 => k_is)
    (case z24 => exact ⟨_, rfl⟩)
    (case z25 => k_is)
    (case z26 => exact ⟨_, rfl⟩)
    (case z27 => k_is)
    (case z28 => k_is)
    (case z29 => exact ⟨⟨_, _, rfl, rfl⟩, ⟨⟨_, _, rfl, rfl⟩, trivial⟩⟩)
    (case z30 => decide)
    (case z31 => k_is)
    (case z32 => exact ⟨_, rfl⟩)
    (case z33 => k_is)
    (case z34 => exact ⟨_, rfl⟩)
    (case z35 => k_is)
    (case z36 => k_is)
    (case z37 => k_is)
    (case z38 => k_is)
    (case z39 => k_is)
    (case z40 => k_is)
    (case z41 => k_is)
    (case z42 => k_is)
    (case z43 => k_is)
    (case z44 => k_is)
    (case z45 => k_is)
    (case z46 => k_is)
    (case z47 => k_is)
    (case z48 => k_is)
    (case z49 => k_is)
    (case z50 => k_is)
    (case z51 => k_exc)
    (case z52 => k_is)
    (case z53 => k_is)
    (case z54 => k_is)
    (case z55 => k_is)
    (case z56 => k_is)
    (case z57 => k_is)
    (case z58 => k_is)
    (case z59 => k_is)
    (case z60 => k_is)
    (case z61 => k_is)
    (case z62 => k_is)
    (case z63 => k_is)
    (case z64 => kit_is)
    (case z65 => kit_is)
    (case z66 => k_is)
    (case z67 => k_is)
    (case z68 => k_is)
    (case z69 => k_is)
    (case z70 => k_is)
    (case z71 => k_is)
    (case z72 => k_is)
    (case z73 => k_is)
    (case z74 => k_is)
    (case z75 => k_is)
    (case z76 => k_is)
    (case z77 => k_is)
    (case z78 => k_is)
    (case z79 => k_is)
    (case z80 => k_is)
    (case z81 => k_is)
    (case z82 => k_is)
    (case z83 => k_is)
    (case z84 => k_is)
    (case z85 => k_is)
    (case z86 => k_is)
    (case z87 => k_is)
    (case z88 => k_is)
    (case z89 => k_is)
    (case z90 => k_is)
    (case z91 => k_is)
    (case z92 => k_is)
    (case z93 => k_is)
    (case z94 => k_is)
    (case z95 => k_is)
    (case z96 => k_is)
    (case z97 => k_is)
    (case z98 => k_is)
    (case z99 => k_is)
    (case z100 => k_is)
    (case z101 => k_is)
    (case z102 => k_is)
    (case z103 => k_is)
    (case z104 => k_is)
    (case z105 => k_is)
    (case z106 => k_is)
    (case z107 => k_is)
    (case z108 => k_is)
    (case z109 => k_is)
    (case z110 => k_is)
    (case z111 => k_is)
    (case z112 => k_is)
    (case z113 => k_is)
    (case z114 => k_is)
    (case z115 => k_is)
    (case z116 => k_is)
    (case z117 => k_is)
    (case z118 => k_is)
    (case z119 => k_is)
    (case z120 => k_is)
    (case z121 => k_is)
    (case z122 => k_is)
    (case z123 => k_is)
    (case z124 => k_is)
    (case z125 => k_is)
    (case z126 => k_is)
    (case z127 => k_is)
    (case z128 => k_is)
    (case z129 => k_is)
    (case z130 => k_is)
    (case z131 => k_is)
    (case z132 => k_is)
    (case z133 => k_is)
    (case z134 => k_is)
    (case z135 => k_is)
    (case z136 => k_is)
    (case z137 => k_is)
    (case z138 => k_is)
    (case z139 => k_is)
    (case z140 => k_is)
    (case z141 => k_is)
    (case z142 => k_is)
    (case z143 => k_is)
    (case z144 => k_is)
    (case z145 => k_is)
    (case z146 => k_is)
    (case z147 => k_is)
    (case z148 => k_is)
    (case z149 => k_is)
    (case z150 => k_is)
    (case z151 => k_is)
    (case z152 => k_is)
    (case z153 => k_is)
    (case z154 => k_is)
    (case z155 => k_is)
    (case z156 => k_is)
    (case z157 => k_is)
    (case z158 => k_is)
    (case z159 => k_is)
    (case z160 => k_is)
    (case z161 => k_is)
    (case z162 => k_is)
    (case z163 => k_is)
    (case z164 => k_is)
    (case z165 => k_is)
    (case z166 => k_is)
    (case z167 => k_is)
    (case z168 => k_is)
    (case z169 => k_is)
    (case z170 => k_is)
    (case z171 => k_is)
    (case z172 => k_is)
    (case z173 => k_is)
    (case z174 => k_is)
    (case z175 => k_is)
    (case z176 => k_is)
    (case z177 => k_is)
    (case z178 => k_is)
    (case z179 => k_is)
    (case z180 => k_is)
    (case z181 => k_is)
    (case z182 => k_is)
    (case z183 => k_is)
    (case z184 => k_is)
    (case z185 => k_is)
    (case z186 => k_is)
    (case z187 => k_is)
    (case z188 => k_is)
    (case z189 => k_is)
    (case z190 => k_is)
    (case z191 => k_is)
    (case z192 => k_is)
    (case z193 => k_is)
    (case z194 => k_is)
    (case z195 => k_is)
    (case z196 => k_is)
    (case z197 => k_is)
    (case z198 => k_is)
    (case z199 => k_is)
    (case z200 => k_is)
    (case z201 => k_is)
    (case z202 => k_is)
    (case z203 => k_is)
    (case z204 => k_is)
    (case z205 => k_is)
    (case z206 => k_is)
    (case z207 => k_is)
    (case z208 => k_is)
    (case z209 => k_is)
    (case z210 => k_is)
    (case z211 => k_is)
    (case z212 => k_is)
    (case z213 => k_is)
    (case z214 => k_is)
