import PyProof.Rows.All
import Wide.All
import OpenK.AllK
import Wide.FinOn
import HandS.ForMost
import HandS.More
import HandS.IsInst
import HandS.Conv
import HandS.Deep
import HandS.TupAny
import HandS.TupLe
import HandS.SortInts
import HandS.SortRule
import HandS.Style
import HandS.Flow
import HandS.Wide
import HandS.Exc
import HandS.ExcOwn
import HandS.WordsExc
import HandS.TryOnly
import HandS.SetFor
import HandS.Walk
import KE.SortData
import PySem.Challenge.RW_eventloom_k03_waits
set_option Elab.async false
set_option linter.all false
set_option maxRecDepth 100000
set_option maxHeartbeats 4000000
local macro_rules | `(tactic| walk_at "len") => `(tactic| (intro vs H Q E h; first
  | (obtain ⟨e, _⟩ := h; rw [e]; rfl) | (obtain ⟨_, e, _⟩ := h; rw [e]; rfl) | (obtain ⟨_, _, e, _⟩ := h; rw [e]; rfl) | (obtain ⟨_, _, _, e, _⟩ := h; rw [e]; rfl)
  | (obtain ⟨_, _, _, _, e, _⟩ := h; rw [e]; rfl) | (obtain ⟨_, _, _, _, _, e, _⟩ := h; rw [e]; rfl) | (obtain ⟨_, _, _, _, _, _, e, _⟩ := h; rw [e]; rfl)
  | (obtain ⟨_, _, _, _, _, _, _, e, _⟩ := h; rw [e]; rfl) | (obtain ⟨_, _, _, _, _, _, _, _, e, _⟩ := h; rw [e]; rfl)))
local macro_rules | `(tactic| walk_at "nf") => `(tactic| dsimp only [L2.tNext, L2.tSeq, L2.tRet, L2.tAsg, L2.tDrop, L2.tCB, L2.tCons, L2.tNil, L2.tOp, L2.gName, L2.sFld])
namespace Ev
open PySem L2
/-! ### heaps: what an operation keeps -/
structure Kp (M : List Addr) (H H' : Hp) : Prop where
  keep : ∀ a o, a ∉ M → H a = some o → H' a = some o
  dom : ∀ a, H' a = none → H a = none
  tup : ∀ a xs, H a = some (.tup xs) → H' a = some (.tup xs)
theorem Kp.refl (M : List Addr) (H : Hp) : Kp M H H := ⟨fun _ _ _ h => h, fun _ h => h, fun _ _ h => h⟩
theorem Kp.trans {M : List Addr} {H H1 H2 : Hp} (a : Kp M H H1) (b : Kp M H1 H2) : Kp M H H2 :=
  ⟨fun p o n h => b.keep p o n (a.keep p o n h), fun p h => a.dom p (b.dom p h), fun p xs h => b.tup p xs (a.tup p xs h)⟩
theorem Kp.transM {M M1 : List Addr} {H H1 H2 : Hp} (a : Kp M H H1) (b : Kp M1 H1 H2) (s : ∀ p, p ∈ M1 → p ∈ M ∨ H p = none) : Kp M H H2 :=
  ⟨fun p o n h => b.keep p o (fun z => (s p z).elim n fun q => by rw [q] at h; cases h) (a.keep p o n h), fun p h => a.dom p (b.dom p h), fun p xs h => b.tup p xs (a.tup p xs h)⟩
theorem Kp.mono {M M1 : List Addr} {H H1 : Hp} (a : Kp M1 H H1) (s : ∀ p, p ∈ M1 → p ∈ M ∨ H p = none) : Kp M H H1 := (Kp.refl M H).transM a s
theorem Kp.keep0 {H H' : Hp} (k : Kp [] H H') {a : Addr} {o : HO} (h : H a = some o) : H' a = some o := k.keep a o (by simp) h
theorem upd_none {H : Hp} {p a : Addr} {o : HO} (h : upd H p o a = none) : a ≠ p ∧ H a = none := by
  unfold upd at h
  split at h
  · cases h
  · exact ⟨by assumption, h⟩
theorem Kp.step {M : List Addr} {H H1 : Hp} {p : Addr} {o : HO} (k : Kp M H H1) (hm : p ∈ M ∨ H p = none) (ht : ∀ xs, H1 p ≠ some (.tup xs)) : Kp M H (upd H1 p o) := by
  refine ⟨fun a u n h => ?_, fun a h => k.dom a (upd_none h).2, fun a xs h => ?_⟩
  · have ne : a ≠ p := by
      rintro rfl
      rcases hm with q | q
      · exact n q
      · rw [q] at h; cases h
    rw [upd_ne ne]; exact k.keep a u n h
  · have ne : a ≠ p := by
      rintro rfl
      exact ht xs (k.tup _ _ h)
    rw [upd_ne ne]; exact k.tup a xs h
theorem Kp.new {M : List Addr} {H H1 : Hp} {p : Addr} {o : HO} (k : Kp M H H1) (h : H1 p = none) : Kp M H (upd H1 p o) :=
  k.step (.inr (k.dom p h)) fun xs q => by rw [h] at q; cases q
theorem Kp.lst {M : List Addr} {H H1 : Hp} {p : Addr} {o : HO} {ys : List V} (k : Kp M H H1) (hm : p ∈ M ∨ H p = none) (h : H1 p = some (.lst ys)) : Kp M H (upd H1 p o) :=
  k.step hm fun xs q => by rw [h] at q; cases q
theorem Kp.ins {M : List Addr} {H H1 : Hp} {p C dx : Addr} {o : HO} {fs : List (Str × V)} (k : Kp M H H1) (hm : p ∈ M ∨ H p = none) (h : H1 p = some (.ins C dx fs)) : Kp M H (upd H1 p o) :=
  k.step hm fun xs q => by rw [h] at q; cases q
theorem Kp.dk {M : List Addr} {H H1 : Hp} {p : Addr} {o : HO} {kvs : List (Key × V)} (k : Kp M H H1) (hm : p ∈ M ∨ H p = none) (h : H1 p = some (.dK kvs)) : Kp M H (upd H1 p o) :=
  k.step hm fun xs q => by rw [h] at q; cases q
theorem Kp.ne {M : List Addr} {H H' : Hp} (k : Kp M H H') {a p : Addr} {o : HO} (h : H a = some o) (hp : H' p = none) : a ≠ p := fun e => by
  subst e
  rw [k.dom _ hp] at h
  cases h
theorem SqL.kp {K : PySem.W.Frag} {M : List Addr} {H H' : Hp} {a : Addr} {xs : List V} (k : Kp M H H') (n : a ∉ M) (h : SqL K H a xs) : SqL K H' a xs := by
  rcases h with (h | ⟨o, h⟩) | h
  · exact .inl (.inl (k.keep _ _ n h))
  · exact .inl (.inr ⟨o, k.keep _ _ n h⟩)
  · exact .inr h
theorem SqT.kp {K : PySem.W.Frag} {M : List Addr} {H H' : Hp} {a : Addr} {xs : List V} (k : Kp M H H') (n : a ∉ M) (h : SqT K H a xs) : SqT K H' a xs := by
  rcases h with (h | ⟨o, h⟩) | h
  · exact .inl (.inl (k.keep _ _ n h))
  · exact .inl (.inr ⟨o, k.keep _ _ n h⟩)
  · exact .inr h
theorem SqT.of {K : PySem.W.Frag} {H : Hp} {a : Addr} {xs : List V} (h : H a = some (.tup xs)) : SqT K H a xs := .inl (.inl h)
theorem at0 {α : Type} {x : α} {l : List α} : atI (x :: l) 0 = some x := atI_nat (j := 0) rfl
theorem at1 {α : Type} {x y : α} {l : List α} : atI (x :: y :: l) 1 = some y := atI_nat (j := 1) rfl
theorem at2 {α : Type} {x y z : α} {l : List α} : atI (x :: y :: z :: l) 2 = some z := atI_nat (j := 2) rfl
theorem at3 {α : Type} {x y z u : α} {l : List α} : atI (x :: y :: z :: u :: l) 3 = some u := atI_nat (j := 3) rfl
theorem at4 {α : Type} {x y z u v : α} {l : List α} : atI (x :: y :: z :: u :: v :: l) 4 = some v := atI_nat (j := 4) rfl
theorem atLast {α : Type} {l : List α} {v : α} (h : l.getLast? = some v) : atI l (-1) = some v := by
  obtain ⟨r, rfl⟩ := List.getLast?_eq_some_iff.mp h
  exact atI_last r v
/-! ### fields by their place -/
theorem look_ix : ∀ {l : List (Str × V)} {i : Nat} {k : Str} {v : V}, (l.map Prod.fst).Nodup → l[i]? = some (k, v) → l.lookup k = some v
  | [], _, _, _, _, h => by simp at h
  | (a, b) :: l, 0, k, v, _, h => by
    have e : (a, b) = (k, v) := Option.some.inj h
    cases e
    simp [List.lookup]
  | (a, b) :: l, i + 1, k, v, nd, h => by
    have h' : l[i]? = some (k, v) := h
    have nd' := List.nodup_cons.mp (show (a :: l.map Prod.fst).Nodup from nd)
    have ne : k ≠ a := fun e => nd'.1 (by rw [← e]; exact List.mem_map.mpr ⟨_, List.mem_of_getElem? h', rfl⟩)
    have nb : (k == a) = false := by simpa using ne
    rw [List.lookup, nb]
    exact look_ix nd'.2 h'
theorem put_ix : ∀ {l : List (Str × V)} {i : Nat} {k : Str} {u v : V}, (l.map Prod.fst).Nodup → l[i]? = some (k, u) → putF k v l = l.set i (k, v)
  | [], _, _, _, _, _, h => by simp at h
  | (a, b) :: l, 0, k, u, v, _, h => by
    have e : (a, b) = (k, u) := Option.some.inj h
    cases e
    show (if a = a then _ else _) = _
    rw [if_pos rfl]
    rfl
  | (a, b) :: l, i + 1, k, u, v, nd, h => by
    have h' : l[i]? = some (k, u) := h
    have nd' := List.nodup_cons.mp (show (a :: l.map Prod.fst).Nodup from nd)
    have ne : ¬ a = k := fun e => nd'.1 (by rw [e]; exact List.mem_map.mpr ⟨_, List.mem_of_getElem? h', rfl⟩)
    show (if a = k then _ else (a, b) :: putF k v l) = _
    rw [if_neg ne, put_ix nd'.2 h']
    rfl
theorem put_new : ∀ {l : List (Str × V)} {k : Str} {v : V}, k ∉ l.map Prod.fst → putF k v l = l ++ [(k, v)]
  | [], _, _, _ => rfl
  | (a, b) :: l, k, v, h => by
    have h1 : k ∉ a :: l.map Prod.fst := h
    have ne : ¬ a = k := fun e => h1 (by rw [e]; exact List.mem_cons_self)
    show (if a = k then _ else (a, b) :: putF k v l) = _
    rw [if_neg ne, put_new fun z => h1 (List.mem_cons_of_mem _ z)]
    rfl
theorem look_no : ∀ {l : List (Str × V)} {k : Str}, k ∉ l.map Prod.fst → l.lookup k = none
  | [], _, _ => rfl
  | (a, b) :: l, k, h => by
    have h1 : k ∉ a :: l.map Prod.fst := h
    have ne : (k == a) = false := by simpa using fun e : k = a => h1 (by rw [e]; exact List.mem_cons_self)
    rw [List.lookup, ne]
    exact look_no fun z => h1 (List.mem_cons_of_mem _ z)
/-! ### pairs of lists -/
theorem Pd.len {α : Type} {R : V → α → Prop} : ∀ {xs : List V} {ds : List α}, Paired R xs ds → xs.length = ds.length
  | _, _, .nil => rfl
  | _, _, .cons _ t => by simp [Pd.len t]
theorem Pd.at {α : Type} {R : V → α → Prop} : ∀ {xs : List V} {ds : List α} {i : Nat} {x : V}, Paired R xs ds → xs[i]? = some x → ∃ d, ds[i]? = some d ∧ R x d
  | _, _, _, _, .nil, e => by simp at e
  | _, _, 0, _, .cons r _, e => by simp at e; subst e; exact ⟨_, rfl, r⟩
  | _, _, i + 1, x, .cons _ t, e => by
    obtain ⟨d, h1, h2⟩ := Pd.at (i := i) t (by simpa using e)
    exact ⟨d, by simpa using h1, h2⟩
theorem Pd.at' {α : Type} {R : V → α → Prop} : ∀ {xs : List V} {ds : List α} {i : Nat} {d : α}, Paired R xs ds → ds[i]? = some d → ∃ x, xs[i]? = some x ∧ R x d
  | _, _, _, _, .nil, e => by simp at e
  | _, _, 0, _, .cons r _, e => by simp at e; subst e; exact ⟨_, rfl, r⟩
  | _, _, i + 1, x, .cons _ t, e => by
    obtain ⟨d, h1, h2⟩ := Pd.at' (i := i) t (by simpa using e)
    exact ⟨d, by simpa using h1, h2⟩
theorem Pd.mono {α : Type} {R S : V → α → Prop} (f : ∀ x d, R x d → S x d) : ∀ {xs : List V} {ds : List α}, Paired R xs ds → Paired S xs ds
  | _, _, .nil => .nil
  | _, _, .cons r t => .cons (f _ _ r) (Pd.mono f t)
theorem Pd.map {α : Type} {R : V → α → Prop} {f : α → V} : ∀ {ds : List α}, (∀ d, d ∈ ds → R (f d) d) → Paired R (ds.map f) ds
  | [], _ => .nil
  | d :: ds, h => .cons (h d List.mem_cons_self) (Pd.map fun e he => h e (List.mem_cons_of_mem _ he))
theorem Pd.append {α : Type} {R : V → α → Prop} : ∀ {xs ys : List V} {ds es : List α}, Paired R xs ds → Paired R ys es → Paired R (xs ++ ys) (ds ++ es)
  | _, _, _, _, .nil, s => s
  | _, _, _, _, .cons r t, s => .cons r (Pd.append t s)
theorem Pd.take {α : Type} {R : V → α → Prop} : ∀ {xs : List V} {ds : List α} (n : Nat), Paired R xs ds → Paired R (xs.take n) (ds.take n)
  | _, _, 0, _ => .nil
  | _, _, _ + 1, .nil => .nil
  | _, _, n + 1, .cons r t => .cons r (Pd.take n t)
theorem Pd.drop {α : Type} {R : V → α → Prop} : ∀ {xs : List V} {ds : List α} (n : Nat), Paired R xs ds → Paired R (xs.drop n) (ds.drop n)
  | _, _, 0, r => r
  | _, _, _ + 1, .nil => .nil
  | _, _, n + 1, .cons _ t => Pd.drop n t
theorem Pd.eqmap {α : Type} {f : α → V} : ∀ {xs : List V} {ds : List α}, Paired (fun x d => x = f d) xs ds → xs = ds.map f
  | _, _, .nil => rfl
  | _, _, .cons r t => by rw [r, Pd.eqmap t]; rfl
theorem take_snoc {α : Type} {l : List α} {i : Nat} {d : α} (h : l[i]? = some d) : l.take (i + 1) = l.take i ++ [d] := by
  rw [List.take_add_one, h]; rfl
theorem split_at {α : Type} {l : List α} {i : Nat} {d : α} (h : l[i]? = some d) : l = l.take i ++ d :: l.drop (i + 1) := by
  obtain ⟨hi, e⟩ := List.getElem?_eq_some_iff.mp h
  have q := List.take_append_drop i l
  rw [List.drop_eq_getElem_cons hi, e] at q
  exact q.symm
/-! ### loops over a list whose items read as data -/
section
variable {K : PySem.W.Frag} {a : Addr} {xs : List V} {g : TG} {tb : TS} {D : Ends} {σ : St} {H : Hp} {α : Type} {R : V → α → Prop} {ds : List α}
theorem for_pd (hx : Paired R xs ds) (Pv : List α → St → Hp → Prop) (h0 : Pv [] σ H) (hl : ∀ pre σ H, Pv pre σ H → SqL K H a xs)
    (hs : ∀ pre x d post σ H, ds = pre ++ d :: post → R x d → Pv pre σ H → g x σ H fun σ2 H2 => tb { D with nx := Pv (pre ++ [d]), ct := Pv (pre ++ [d]), bk := D.nx } σ2 H2)
    (hd : ∀ σ H, Pv ds σ H → D.nx σ H) : tFor (fun _ H R => R (Itl K a) H) g tb D σ H :=
  for_list (fun i σ H => Pv (ds.take i) σ H) (by simpa using h0) (fun i σ H _ p => hl _ σ H p)
    (fun i x σ H e p => by
      obtain ⟨d, e1, r⟩ := Pd.at hx e
      have q := hs (ds.take i) x d (ds.drop (i + 1)) σ H (split_at e1) r p
      rw [← take_snoc e1] at q
      exact q)
    (fun σ H p => hd σ H (by rw [Pd.len hx, List.take_length] at p; exact p))
theorem for_pdT (hx : Paired R xs ds) (Pv : List α → St → Hp → Prop) (h0 : Pv [] σ H) (hl : ∀ pre σ H, Pv pre σ H → SqT K H a xs)
    (hs : ∀ pre x d post σ H, ds = pre ++ d :: post → R x d → Pv pre σ H → g x σ H fun σ2 H2 => tb { D with nx := Pv (pre ++ [d]), ct := Pv (pre ++ [d]), bk := D.nx } σ2 H2)
    (hd : ∀ σ H, Pv ds σ H → D.nx σ H) : tFor (fun _ H R => R (Itt K a) H) g tb D σ H :=
  for_tup (fun i σ H => Pv (ds.take i) σ H) (by simpa using h0) (fun i σ H _ p => hl _ σ H p)
    (fun i x σ H e p => by
      obtain ⟨d, e1, r⟩ := Pd.at hx e
      have q := hs (ds.take i) x d (ds.drop (i + 1)) σ H (split_at e1) r p
      rw [← take_snoc e1] at q
      exact q)
    (fun σ H p => hd σ H (by rw [Pd.len hx, List.take_length] at p; exact p))
variable {tt : TT} {te : TE} {vs : List Nat} {Q : VK}
/-- a comprehension: at D the list acc, of which I pre acc holds -/
theorem lc_pd (hx : Paired R xs ds) (hz : ds.length < sizeLine) (Pv : Addr → List α → List V → Hp → Prop) (h0 : ∀ D, H D = none → Pv D [] [] (upd H D (.lst [])))
    (hl : ∀ D pre acc H', H D = none → H' D = some (.lst acc) → Pv D pre acc H' → SqL K H' a xs)
    (hs : ∀ D pre acc x d post H' (Yes : V → Hp → Prop) (No : Hp → Prop), H D = none → ds = pre ++ d :: post → R x d → H' D = some (.lst acc) → Pv D pre acc H' →
      (∀ y H4, H4 D = some (.lst acc) → Pv D (pre ++ [d]) (acc ++ [y]) (upd H4 D (.lst (acc ++ [y]))) → Yes y H4) → (∀ H3, H3 D = some (.lst acc) → Pv D (pre ++ [d]) acc H3 → No H3) →
      g x (wipe σ vs) H' fun σ2 H2 => wipe σ2 vs = wipe σ vs ∧ tt σ2 H2 fun b H3 => if b = true then te σ2 H3 Yes else No H3)
    (hd : ∀ D acc H', H D = none → H' D = some (.lst acc) → Pv D ds acc H' → Q (.ref D) H') : tLc (fun _ H R => R (Itl K a) H) g tt te vs σ H Q := fun D hD =>
  lc_list (fun i H' => ∃ acc, H' D = some (.lst acc) ∧ acc.length ≤ i ∧ Pv D (ds.take i) acc H') ⟨[], upd_same, Nat.le_refl _, by simpa using h0 D hD⟩ (fun i H' _ ⟨acc, e, _, p⟩ => hl D _ acc H' hD e p)
    (fun i x H' e ⟨acc, e2, hi, p⟩ => by
      obtain ⟨d, e1, r⟩ := Pd.at hx e
      have hlt : i < ds.length := (List.getElem?_eq_some_iff.mp e1).1
      have q := fun Yes No => hs D (ds.take i) acc x d (ds.drop (i + 1)) H' Yes No hD (split_at e1) r e2 p
      rw [← take_snoc e1] at q
      exact q _ _ (fun y H4 z1 z2 => ⟨acc, z1, Nat.lt_of_le_of_lt hi (Nat.lt_trans hlt hz), acc ++ [y], upd_same, by simp; exact hi, z2⟩) fun H3 z1 z2 => ⟨acc, z1, Nat.le_succ_of_le hi, z2⟩)
    (fun H' ⟨acc, e, _, p⟩ => hd D acc H' hD e (by rw [Pd.len hx, List.take_length] at p; exact p))
/-- .. over a tuple -/
theorem lc_pdT (hx : Paired R xs ds) (hz : ds.length < sizeLine) (Pv : Addr → List α → List V → Hp → Prop) (h0 : ∀ D, H D = none → Pv D [] [] (upd H D (.lst [])))
    (hl : ∀ D pre acc H', H D = none → H' D = some (.lst acc) → Pv D pre acc H' → SqT K H' a xs)
    (hs : ∀ D pre acc x d post H' (Yes : V → Hp → Prop) (No : Hp → Prop), H D = none → ds = pre ++ d :: post → R x d → H' D = some (.lst acc) → Pv D pre acc H' →
      (∀ y H4, H4 D = some (.lst acc) → Pv D (pre ++ [d]) (acc ++ [y]) (upd H4 D (.lst (acc ++ [y]))) → Yes y H4) → (∀ H3, H3 D = some (.lst acc) → Pv D (pre ++ [d]) acc H3 → No H3) →
      g x (wipe σ vs) H' fun σ2 H2 => wipe σ2 vs = wipe σ vs ∧ tt σ2 H2 fun b H3 => if b = true then te σ2 H3 Yes else No H3)
    (hd : ∀ D acc H', H D = none → H' D = some (.lst acc) → Pv D ds acc H' → Q (.ref D) H') : tLc (fun _ H R => R (Itt K a) H) g tt te vs σ H Q := fun D hD =>
  lc_tup (fun i H' => ∃ acc, H' D = some (.lst acc) ∧ acc.length ≤ i ∧ Pv D (ds.take i) acc H') ⟨[], upd_same, Nat.le_refl _, by simpa using h0 D hD⟩ (fun i H' _ ⟨acc, e, _, p⟩ => hl D _ acc H' hD e p)
    (fun i x H' e ⟨acc, e2, hi, p⟩ => by
      obtain ⟨d, e1, r⟩ := Pd.at hx e
      have hlt : i < ds.length := (List.getElem?_eq_some_iff.mp e1).1
      have q := fun Yes No => hs D (ds.take i) acc x d (ds.drop (i + 1)) H' Yes No hD (split_at e1) r e2 p
      rw [← take_snoc e1] at q
      exact q _ _ (fun y H4 z1 z2 => ⟨acc, z1, Nat.lt_of_le_of_lt hi (Nat.lt_trans hlt hz), acc ++ [y], upd_same, by simp; exact hi, z2⟩) fun H3 z1 z2 => ⟨acc, z1, Nat.le_succ_of_le hi, z2⟩)
    (fun H' ⟨acc, e, _, p⟩ => hd D acc H' hD e (by rw [Pd.len hx, List.take_length] at p; exact p))
end
/-! ### a comprehension that maps what passes a test -/
section
variable {K : PySem.W.Frag} {a : Addr} {xs : List V} {tt : TT} {te : TE} {σ : St} {H : Hp} {α : Type} {R : V → α → Prop} {ds : List α} {vs : List Nat} {Q : VK} {i : Nat}
theorem lc_fm (hx : Paired R xs ds) (hz : ds.length < sizeLine) (ha : SqL K H a xs) (f : α → V) (p : α → Bool) (hw : ∀ x, wipe ((wipe σ vs).set i (some x)) vs = wipe σ vs)
    (ht : ∀ x d H' (Q : Bool → Hp → Prop), d ∈ ds → R x d → Kp [] H H' → (∀ H'', Kp [] H' H'' → Q (p d) H'') → tt ((wipe σ vs).set i (some x)) H' Q)
    (he : ∀ x d H' (Q : VK), d ∈ ds → R x d → p d = true → Kp [] H H' → (∀ H'', Kp [] H' H'' → Q (f d) H'') → te ((wipe σ vs).set i (some x)) H' Q)
    (k : ∀ D H', H D = none → Kp [] H H' → H' D = some (.lst ((ds.filter p).map f)) → Q (.ref D) H') : tLc (fun _ H R => R (Itl K a) H) (gName i) tt te vs σ H Q := by
  refine lc_pd hx hz (fun D pre acc H' => Kp [] H H' ∧ acc = (pre.filter p).map f) (fun D hD => ⟨(Kp.refl _ _).new hD, rfl⟩) (fun D pre acc H' hD e q => SqL.kp q.1 (by simp) ha) ?_ (fun D acc H' hD e q => k D H' hD q.1 (q.2 ▸ e))
  rintro D pre acc x d post H' Yes No hD ed r e ⟨kp, rfl⟩ yes no
  have hd : d ∈ ds := by rw [ed]; simp
  refine ⟨hw x, ht x d H' _ hd r kp fun H2 k2 => ?_⟩
  cases hp : p d with
  | true =>
    rw [if_pos rfl]
    refine he x d H2 _ hd r hp (kp.trans k2) fun H3 k3 => ?_
    have e3 := (k2.trans k3).keep0 e
    exact yes _ _ e3 ⟨((kp.trans k2).trans k3).lst (.inr hD) e3, by simp [List.filter_append, hp]⟩
  | false =>
    rw [if_neg Bool.false_ne_true]
    exact no _ (k2.keep0 e) ⟨kp.trans k2, by simp [List.filter_append, hp]⟩
theorem lc_mp (hx : Paired R xs ds) (hz : ds.length < sizeLine) (ha : SqL K H a xs) (f : α → V) (hw : ∀ x, wipe ((wipe σ vs).set i (some x)) vs = wipe σ vs)
    (he : ∀ x d H' (Q : VK), d ∈ ds → R x d → Kp [] H H' → (∀ H'', Kp [] H' H'' → Q (f d) H'') → te ((wipe σ vs).set i (some x)) H' Q)
    (k : ∀ D H', H D = none → Kp [] H H' → H' D = some (.lst (ds.map f)) → Q (.ref D) H') : tLc (fun _ H R => R (Itl K a) H) (gName i) tYes te vs σ H Q :=
  lc_fm hx hz ha f (fun _ => true) hw (fun x d H' Q _ _ _ q => q H' (Kp.refl _ _)) (fun x d H' Q h1 h2 _ h3 q => he x d H' Q h1 h2 h3 q) fun D H' hD kp e => k D H' hD kp (by
    have e2 : ds.filter (fun _ => true) = ds := List.filter_eq_self.mpr fun _ _ => rfl
    rw [e2] at e
    exact e)
end
/-! ### one step of a reading, named -/
section
variable {σ : L2.St} {H : Hp} {D : Ends} {Q : VK} {te ta : TE} {tr : TA} {t u tb : TS} {wi : TI} {g : TG} {tt : TT} {vs : List Nat}
theorem next_go (h : D.nx σ H) : tNext D σ H := h
theorem ret_go (h : te σ H D.rt) : tRet te D σ H := h
theorem seq_go (h : t { D with nx := u D } σ H) : tSeq t u D σ H := h
theorem asg_go (h : te σ H fun x H1 => g x σ H1 D.nx) : tAsg te g D σ H := h
theorem drop_go (h : te σ H fun _ H1 => D.nx σ H1) : tDrop te D σ H := h
theorem cb_go {r : List V → Hp → VK → Prop} (h : tr σ H fun vs H1 => r vs H1 Q) : tCB r tr σ H Q := h
theorem cons_go {Q : List V → Hp → Prop} (h : ta σ H fun x H1 => tr σ H1 fun xs H2 => Q (x :: xs) H2) : tCons ta tr σ H Q := h
theorem op_go {r : R2} (h : te σ H fun x H1 => ta σ H1 fun y H2 => r x y H2 Q) : tOp r te ta σ H Q := h
theorem for_go (h : wi σ H fun J H1 => tFor (fun _ H R => R J H) g tb D σ H1) : tFor wi g tb D σ H := h
theorem lc_go (h : wi σ H fun J H1 => tLc (fun _ H R => R J H) g tt te vs σ H1 Q) : tLc wi g tt te vs σ H Q := h
theorem if_go {c : TT} {A B : TS} (h : c σ H fun b H1 => if b = true then A D σ H1 else B D σ H1) : tIfS c A B D σ H := h
theorem if_else {c : Prop} [Decidable c] {A B : Prop} (h1 : c → A) (h2 : ¬ c → B) : if decide c = true then A else B := by
  by_cases h : c
  · rw [decide_eq_true h, if_pos rfl]; exact h1 h
  · rw [decide_eq_false h, if_neg Bool.false_ne_true]; exact h2 h
end
/-! ### the layer's rules with K said -/
section
variable {X : Cx}
def rLn (K : PySem.W.Frag) : List V → Hp → VK → Prop := fun xs H Q => ∃ p ys, xs = [.ref p] ∧ (SqL K H p ys ∨ SqT K H p ys) ∧ Q (.int ys.length) H
def rLs (K : PySem.W.Frag) : List V → Hp → VK → Prop := fun xs H Q => ∃ p ys, xs = [.ref p] ∧ (SqL K H p ys ∨ SqT K H p ys) ∧ ∀ l, H l = none → Q (.ref l) (upd H l (.lst ys))
def rIns : V → List V → Hp → VK → Prop := fun x vs H Q => ∃ (l : Addr) (xs : List V) (i : Int) (y : V), x = .ref l ∧ vs = [.int i, y] ∧ H l = some (.lst xs) ∧
  xs.length < sizeLine ∧ 0 ≤ i ∧ i < 2 ^ 63 ∧ Q .non (upd H l (.lst (xs.take i.toNat ++ [y] ++ xs.drop i.toNat)))
theorem kInsert : MtR X "list.insert" rIns := mt_insert
def rTp (K : PySem.W.Frag) : List V → Hp → VK → Prop := fun xs H Q => ∃ p ys, xs = [.ref p] ∧ ((SqL K H p ys ∧ ∀ l, H l = none → Q (.ref l) (upd H l (.tup ys))) ∨ (SqT K H p ys ∧ Q (.ref p) H))
theorem kLen (K : PySem.W.Frag) (h : X.K = K := by rfl) : CallR X (.builtin "len") (rLn K) := by subst h; exact call_len_seq
theorem kList (K : PySem.W.Frag) (h : X.K = K := by rfl) : CallR X (.type "list") (rLs K) := by subst h; exact call_list_of
theorem kTuple (K : PySem.W.Frag) (h : X.K = K := by rfl) : CallR X (.type "tuple") (rTp K) := by subst h; exact call_tuple_of
theorem kAll (K : PySem.W.Frag) (h : X.K = K := by rfl) (hc : X.calm = true := by rfl) : CallR X (.builtin "all") (rAll K) := by subst h; exact cr_all hc
theorem kAny (K : PySem.W.Frag) (h : X.K = K := by rfl) (hc : X.calm = true := by rfl) : CallR X (.builtin "any") (rAny K) := by subst h; exact cr_any hc
theorem kSum (K : PySem.W.Frag) (h : X.K = K := by rfl) (hc : X.calm = true := by rfl) : CallR X (.builtin "sum") (rSum K) := by subst h; exact cr_sum hc
theorem kMax (K : PySem.W.Frag) (h : X.K = K := by rfl) (hc : X.calm = true := by rfl) : CallR X (.builtin "max") (rMax K) := by subst h; exact cr_max hc
theorem kIsi (K : PySem.W.Frag) (h : X.K = K := by rfl) : CallR X (.builtin "isinstance") (rIsi K) := by subst h; exact call_isi
theorem kIsiT (K : PySem.W.Frag) (h : X.K = K := by rfl) : CallR X (.builtin "isinstance") (rIsiT K) := by subst h; exact call_isiT
theorem kSortI (K : PySem.W.Frag) (h : X.K = K := by rfl) : CallR X (.builtin "sorted") (rSortedI K) := by subst h; exact cr_sortedI
theorem kSortP (K : PySem.W.Frag) (h : X.K = K := by rfl) : CallR X (.builtin "sorted") (rSortedPO K) := by subst h; exact cr_sortedPO
theorem kIxL (K : PySem.W.Frag) (h : X.K = K := by rfl) : IxR X (rIxL K) := by subst h; exact ix_list
theorem kIxT (K : PySem.W.Frag) (h : X.K = K := by rfl) : IxR X (rIxT K) := by subst h; exact ix_tup
theorem kSlL (K : PySem.W.Frag) (h : X.K = K := by rfl) : SlR X (rSlL K) := by subst h; exact sl_list
theorem kSlA (K : PySem.W.Frag) (h : X.K = K := by rfl) : SlR X (rSlA K) := by subst h; exact sl_tupA
theorem kIn (K : PySem.W.Frag) (h : X.K = K := by rfl) : OpR X (compareOp .In) (rIn K false) := by subst h; exact op_in_seq
theorem kNotIn (K : PySem.W.Frag) (h : X.K = K := by rfl) : OpR X (compareOp .NotIn) (rIn K true) := by subst h; exact op_notIn_seq
theorem kInD (K : PySem.W.Frag) (hu : X.A.units + 65 < cLine) (h : X.K = K := by rfl) : OpR X (compareOp .In) (rInD K) := by subst h; exact op_inD hu
theorem kNotInD (K : PySem.W.Frag) (hu : X.A.units + 65 < cLine) (h : X.K = K := by rfl) : OpR X (compareOp .NotIn) (rNotInD K) := by subst h; exact op_notInD hu
theorem kEqD (K : PySem.W.Frag) (hu : X.A.units + 64 < cLine) (h : X.K = K := by rfl) : OpR X (compareOp .Eq) (rEqD K) := by subst h; exact op_eqD hu
theorem kNeD (K : PySem.W.Frag) (hu : X.A.units + 64 < cLine) (h : X.K = K := by rfl) : OpR X (compareOp .NotEq) (rNeD K) := by subst h; exact op_neD hu
theorem kLtT (K : PySem.W.Frag) (hu : X.A.units < cLine) (h : X.K = K := by rfl) : OpR X (compareOp .Lt) (rLtT K) := by subst h; exact op_ltT hu
theorem kLeT (K : PySem.W.Frag) (hu : X.A.units < cLine) (h : X.K = K := by rfl) : OpR X (compareOp .LtE) (rLeT K) := by subst h; exact op_leT hu
theorem kCatA (K : PySem.W.Frag) (h : X.K = K := by rfl) : OpR X (binaryOp .Add) (rCatA K) := by subst h; exact op_catA
theorem kFld (K : PySem.W.Frag) {e : Expr} {f : Str} {pos : Pos} {ta : TE} (he : PE X e ta) (h : X.K = K := by rfl) (hb : attributeBase e f X.env (eval e X.env) = eval e X.env := by rfl) : PE X (.Attribute e f pos) (tFld K ta f) := by subst h; exact pe_fld he hb
/-! ### sorted of triples: a rank, a place, a name -/
abbrev Tri := Int × Int × Str
def triD (t : Tri) : PyData := .tuple [.int t.1, .int t.2.1, .str t.2.2]
def triLe : Tri → Tri → Bool := PySem.W.dataLe false triD
def TriAt (K : PySem.W.Frag) (H : Hp) (v : V) (t : Tri) : Prop := ∃ p, v = .ref p ∧ SqT K H p [.int t.1, .int t.2.1, .str t.2.2]
def rSort3 (K : PySem.W.Frag) : List V → Hp → VK → Prop := fun vs H Q => ∃ (a : Addr) (xs : List V) (ts : List Tri), vs = [V.ref a] ∧ SqL K H a xs ∧ Paired (TriAt K H) xs ts ∧
  ∀ ys p, Paired (TriAt K H) ys (ts.mergeSort triLe) → H p = none → Q (.ref p) (upd H p (.lst ys))
theorem TriAt.dp {K : PySem.W.Frag} {H : Hp} {v : V} {t : Tri} (h : TriAt K H v t) : Dp K H v (triD t) := by
  obtain ⟨p, rfl, h⟩ := h
  exact .tup h (.cons (.int _) (.cons (.int _) (.cons (.str _) .nil)))
theorem tri_alike (t u : Tri) : PySem.W.alike (triD t) (triD u) = true := by simp [triD, PySem.W.alike, PySem.W.alikeAll]
theorem tri_depth (t : Tri) : (triD t).depth = 1 := by simp [triD, PyData.depth, PyData.depthAll]
theorem each_of {xs : List V} {its : List Value} {ts : List Tri} {K : PySem.W.Frag} {H : Hp} : ∀ {xs : List V} {its : List Value} {ts : List Tri}, Vals xs its → Paired (TriAt K H) xs ts →
    PySem.W.EachIs (fun u (b : V × Tri) => RelV b.1 u ∧ TriAt K H b.1 b.2) its (xs.zip ts)
  | _, _, _, .nil, .nil => .nil
  | _, _, _, .cons r q, .cons r' q' => .cons ⟨r, r'⟩ (each_of (xs := []) (its := []) (ts := []) q q')
theorem each_vals {K : PySem.W.Frag} {H : Hp} : ∀ {its : List Value} {bs : List (V × Tri)}, PySem.W.EachIs (fun u (b : V × Tri) => RelV b.1 u ∧ TriAt K H b.1 b.2) its bs → Vals (bs.map Prod.fst) its ∧ Paired (TriAt K H) (bs.map Prod.fst) (bs.map Prod.snd)
  | _, _, .nil => ⟨.nil, .nil⟩
  | _, _, .cons r q => ⟨.cons r.1 (each_vals q).1, .cons r.2 (each_vals q).2⟩
theorem zip_snd {α β : Type} {R : α → β → Prop} : ∀ {xs : List α} {ts : List β}, Paired R xs ts → (xs.zip ts).map Prod.snd = ts
  | _, _, .nil => rfl
  | _, _, .cons _ q => by simp [zip_snd q]
theorem kSort3 (K : PySem.W.Frag) (hu : X.A.units + 64 < cLine) (h : X.K = K := by rfl) : CallR X (.builtin "sorted") (rSort3 K) := by
  subst h
  intro pins s σ H vs us Q I r h
  obtain ⟨a, xs, ts, rfl, hs, hx, q⟩ := h
  obtain ⟨its, rv, hl, hz⟩ := I.list hs
  obtain ⟨u, rfl, ru⟩ := vals1 r
  obtain rfl : u = Value.ref a := ru
  have e := each_of (xs := []) (its := []) (ts := []) rv hx
  have hlen : (xs.zip ts).length = its.length := by
    rw [List.length_zip, ← Pd.len hx, Nat.min_self, rv.length]
  refine PySem.W.sorted_data (enc := fun b : V × Tri => triD b.2) (R := fun u (b : V × Tri) => RelV b.1 u ∧ TriAt X.K H b.1 b.2) hl.isList e (e.mono fun u b hb => ?_) (PySem.W.AllAlike.of fun b b' => tri_alike _ _) (PySem.W.Sortable.tuples fun b => ⟨_, _, rfl⟩) ?_ ?_ ?_
  · exact Dp.reads I _ _ _ hb.2.dp hb.1
  · rw [hlen, ← rv.length]; exact hz
  · intro b _
    rw [tri_depth]
    omega
  · intro out ho eo
    obtain ⟨c, hc⟩ := PyProof.Rows.sortedAll_at s.heap its out.toArray
    obtain ⟨v1, v2⟩ := each_vals eo
    have e2 : ((xs.zip ts).mergeSort (PySem.W.dataLe false fun b : V × Tri => triD b.2)).map Prod.snd = ts.mergeSort triLe := by
      have m := List.map_mergeSort (f := Prod.snd) (r := PySem.W.dataLe false fun b : V × Tri => triD b.2) (s := triLe) (l := xs.zip ts) (fun _ _ _ _ => rfl)
      rw [m, zip_snd hx]
    rw [e2] at v2
    have hn : H (s.heap.objs.size + 1) = none := I.hok.fresh (Nat.le_succ _)
    refine ⟨.ref (s.heap.objs.size + 1), upd H (s.heap.objs.size + 1) (.lst (((xs.zip ts).mergeSort (PySem.W.dataLe false fun b : V × Tri => triD b.2)).map Prod.fst)), I.laid (t' := s.toks) (fun b o z => PyProof.Rows.sortedAll_old z) (Nat.le_succ _) ⟨?_, out, c, v1, hc⟩, rfl, q _ _ v2 hn⟩
    rw [v1.length, ho, hlen, ← rv.length]
    exact hz
/-- pairs of whole numbers, greater, or not less -/
def rGtP (K : PySem.W.Frag) : R2 := fun x y H Q => ∃ (a b : Addr) (i j k l : Int), x = .ref a ∧ y = .ref b ∧ SqT K H a [.int i, .int j] ∧ SqT K H b [.int k, .int l] ∧ Q (.bl (decide (k < i ∨ (i = k ∧ l < j)))) H
def rGeP (K : PySem.W.Frag) : R2 := fun x y H Q => ∃ (a b : Addr) (i j k l : Int), x = .ref a ∧ y = .ref b ∧ SqT K H a [.int i, .int j] ∧ SqT K H b [.int k, .int l] ∧ Q (.bl (decide (k < i ∨ (i = k ∧ l ≤ j)))) H
theorem eqInt {A : Around} {s : Shared} {i k : Int} {t u : Tok} : SeqAt.EqAt A s (.int i t) (.int k u) (decide (i = k)) := by
  have z : (i == k) = decide (i = k) := by
    by_cases q : i = k
    · rw [decide_eq_true q]; exact beq_iff_eq.mpr q
    · rw [decide_eq_false q]; exact beq_eq_false_iff_ne.mpr q
  rw [← z]
  exact SeqAt.EqAt.int_int _ _ _ _
theorem pairInts {xs : List Value} {i j : Int} (r : Vals [V.int i, V.int j] xs) : ∃ t u, xs = [.int i t, .int j u] := by
  cases r with
  | cons r1 r =>
    cases r with
    | cons r2 r =>
      cases r
      obtain ⟨t, rfl⟩ := r1
      obtain ⟨u, rfl⟩ := r2
      exact ⟨t, u, rfl⟩
def two (p q : Bool) : Nat → Bool
  | 0 => p
  | _ => q
theorem kGtP (K : PySem.W.Frag) (hu : X.A.units < cLine) (h : X.K = K := by rfl) : OpR X (compareOp .Gt) (rGtP K) := by
  subst h
  intro pins s σ H x y v u Q I rx ry h
  obtain ⟨a, b, i, j, k, l, rfl, rfl, ha, hb, q⟩ := h
  cases rx; cases ry
  obtain ⟨xs, r1, p1, _⟩ := I.tuple ha
  obtain ⟨ys, r2, p2, _⟩ := I.tuple hb
  obtain ⟨t1, u1, rfl⟩ := pairInts r1
  obtain ⟨t2, u2, rfl⟩ := pairInts r2
  have R := Ob.RcOp.tuples_gt (A := X.A) (s := s) (e := two (decide (i = k)) (decide (j = l))) (r := two (decide (i > k)) (decide (j > l))) p1 p2 hu
    (fun m h1 h2 => match m, h1, h2 with | 0, _, _ => eqInt | 1, _, _ => eqInt | m + 2, h1, _ => absurd h1 (by simp)) (fun m h1 h2 _ => match m, h1, h2 with | 0, _, _ => Ob.RcOp.gt_int _ _ _ _ | 1, _, _ => Ob.RcOp.gt_int _ _ _ _ | m + 2, h1, _ => absurd h1 (by simp))
  have e : Ob.lexAt (two (decide (i = k)) (decide (j = l))) (two (decide (i > k)) (decide (j > l))) (decide (([Value.int i t1, .int j u1] : List Value).toArray.size > ([Value.int k t2, .int l u2] : List Value).toArray.size)) 0
      (min ([Value.int i t1, .int j u1] : List Value).toArray.size ([Value.int k t2, .int l u2] : List Value).toArray.size) = decide (k < i ∨ (i = k ∧ l < j)) := by
    show (if decide (i = k) = true then (if decide (j = l) = true then decide (2 > 2) else decide (j > l)) else decide (i > k)) = _
    by_cases e1 : i = k <;> by_cases e2 : j = l <;> simp [e1, e2]
    all_goals omega
  rw [e] at R
  exact R X.prog X.w X.xe (EP X pins σ Q) ⟨.bl _, H, I, rfl, q⟩
theorem kGeP (K : PySem.W.Frag) (hu : X.A.units < cLine) (h : X.K = K := by rfl) : OpR X (compareOp .GtE) (rGeP K) := by
  subst h
  intro pins s σ H x y v u Q I rx ry h
  obtain ⟨a, b, i, j, k, l, rfl, rfl, ha, hb, q⟩ := h
  cases rx; cases ry
  obtain ⟨xs, r1, p1, _⟩ := I.tuple ha
  obtain ⟨ys, r2, p2, _⟩ := I.tuple hb
  obtain ⟨t1, u1, rfl⟩ := pairInts r1
  obtain ⟨t2, u2, rfl⟩ := pairInts r2
  have R := Ob.RcOp.tuples_ge (A := X.A) (s := s) (e := two (decide (i = k)) (decide (j = l))) (r := two (decide (i ≥ k)) (decide (j ≥ l))) p1 p2 hu
    (fun m h1 h2 => match m, h1, h2 with | 0, _, _ => eqInt | 1, _, _ => eqInt | m + 2, h1, _ => absurd h1 (by simp)) (fun m h1 h2 _ => match m, h1, h2 with | 0, _, _ => Ob.RcOp.ge_int _ _ _ _ | 1, _, _ => Ob.RcOp.ge_int _ _ _ _ | m + 2, h1, _ => absurd h1 (by simp))
  have e : Ob.lexAt (two (decide (i = k)) (decide (j = l))) (two (decide (i ≥ k)) (decide (j ≥ l))) (decide (([Value.int i t1, .int j u1] : List Value).toArray.size ≥ ([Value.int k t2, .int l u2] : List Value).toArray.size)) 0
      (min ([Value.int i t1, .int j u1] : List Value).toArray.size ([Value.int k t2, .int l u2] : List Value).toArray.size) = decide (k < i ∨ (i = k ∧ l ≤ j)) := by
    show (if decide (i = k) = true then (if decide (j = l) = true then decide (2 ≥ 2) else decide (j ≥ l)) else decide (i ≥ k)) = _
    by_cases e1 : i = k <;> by_cases e2 : j = l <;> simp [e1, e2]
    all_goals omega
  rw [e] at R
  exact R X.prog X.w X.xe (EP X pins σ Q) ⟨.bl _, H, I, rfl, q⟩
/-- a text, n times -/
def repS (z : Str) (n : Nat) : Str := ⟨(List.replicate n z.cps).foldl (· ++ ·) #[]⟩
theorem fold_cat : ∀ (l : List (Array Nat)) (a : Array Nat), (l.foldl (· ++ ·) a).toList = a.toList ++ (l.map Array.toList).flatten
  | [], a => by simp
  | b :: l, a => by
    rw [List.foldl_cons, fold_cat l (a ++ b)]
    simp
theorem repS_list (z : Str) (n : Nat) : (repS z n).cps.toList = (List.replicate n z.cps.toList).flatten := by
  unfold repS
  rw [fold_cat]
  simp
theorem str_ext {x y : Str} (h : x.cps.toList = y.cps.toList) : x = y := by
  cases x; cases y
  congr
  exact Array.toList_inj.mp h
theorem str_len (x : Str) : x.length = x.cps.toList.length := by
  show x.cps.size = _
  simp
theorem repS_len (z : Str) (n : Nat) : (repS z n).length = n * z.length := by
  rw [str_len, repS_list, str_len]
  simp
def rMulS : R2 := fun x y H Q => ∃ (z : Str) (n : Int), x = .str z ∧ y = .int n ∧ 0 ≤ n ∧ n ≤ 4000 ∧ z.length ≤ 4000 ∧ Q (.str (repS z n.toNat)) H
theorem kMulS : OpR X (binaryOp .Mult) rMulS := by
  intro pins s σ H x y v u Q I rx ry h
  obtain ⟨z, n, rfl, rfl, h0, h1, hz, q⟩ := h
  obtain ⟨t, rfl⟩ := rx
  obtain ⟨t', rfl⟩ := ry
  have big : ∀ m : Nat, m ≤ 16000000 → Builtin.Str.tooLong m = false := fun m hm => by
    unfold Builtin.Str.tooLong
    rw [sizeLine_eq]
    exact decide_eq_false (by omega)
  have hp : z.length * n.toNat ≤ 4000 * 4000 := Nat.mul_le_mul hz (by omega)
  refine P.mul_str (by rw [decide_eq_false (by omega), decide_eq_false (by omega)]; rfl) (fun hn _ hh => ?_) (fun _ _ => big _ (by omega)) ?_
  · have e1 : (4000 : Int) ≤ (2 ^ 63 - 1) / n := Int.le_ediv_of_mul_le (by omega) (by omega)
    omega
  · by_cases hn : n < 1
    · have e : n = 0 := by omega
      subst e
      rw [if_pos hn]
      exact ⟨by decide, .str _, H, I.tok _, ⟨_, rfl⟩, q⟩
    · rw [if_neg hn]
      by_cases h2 : (n == 1 || z.length == 0) = true
      · rw [if_pos h2]
        have e : repS z n.toNat = z := by
          refine str_ext ?_
          rw [repS_list]
          rcases Bool.or_eq_true_iff.mp h2 with h | h
          · have h : n = 1 := by simpa using h
            subst h
            simp
          · have h : z.length = 0 := by simpa using h
            rw [str_len] at h
            have h : z.cps.toList = [] := List.eq_nil_of_length_eq_zero h
            rw [h]
            simp
        rw [e] at q
        exact ⟨.str z, H, I, ⟨_, rfl⟩, q⟩
      · rw [if_neg h2]
        refine ⟨?_, .str _, H, I.tok _, ⟨_, rfl⟩, q⟩
        have e := repS_len z n.toNat
        unfold repS at e
        rw [e, sizeLine_eq, Nat.mul_comm]
        omega
def tTruth (K : PySem.W.Frag) (ta : TE) : TT := fun σ H Q => ta σ H fun x H' => ∃ k, TruV K x H' k ∧ Q k H'
theorem kTruth (K : PySem.W.Frag) {e : Expr} {ta : TE} (he : PE X e ta) (h : X.K = K := by rfl) (hb : ∀ whole, isTrue e X.env whole = (do let v ← whole; standAt e.pos; holding [v] (truthy v)) := by intro _; rfl) : PT X e (tTruth K ta) := by subst h; exact pt_truth he hb
theorem kTup (K : PySem.W.Frag) {es : List Expr} {k n : Nat} {t : TGs} {pos : Pos} (g : PGs X es t) (h : X.K = K := by rfl) (hc : X.calm = true := by rfl)
    (hn : (assignEach es X.env).length = n := by rfl) (hst : (assignEach es X.env).findIdx? (·.1) = none := by rfl) : PG X (.Tuple es k pos) (gTup K n t) := by subst h; exact pg_tup hc g hn hst
end
section
variable {K : PySem.W.Frag}
theorem iteT' {c : Bool} {A B : Prop} (e : c = true) (h : A) : if c = true then A else B := by rw [if_pos e]; exact h
theorem iteF' {c : Bool} {A B : Prop} (e : c = false) (h : B) : if c = true then A else B := by rw [if_neg (by rw [e]; decide)]; exact h
theorem tYes_go {σ : L2.St} {H : Hp} {Q : Bool → Hp → Prop} (h : Q true H) : tYes σ H Q := h
theorem isI {H : Hp} {i : Int} : TyX K H (.int i) (.type "int") := .base (.int _)
theorem isS {H : Hp} {x : Str} : TyX K H (.str x) (.type "str") := .base (.str _)
theorem isB {H : Hp} {x : Bool} : TyX K H (.bl x) (.type "bool") := .base (.bl _)
theorem isT {H : Hp} {p : Addr} {xs : List V} (h : H p = some (.tup xs)) : TyX K H (.ref p) (.type "tuple") := .base (.tup h)
theorem isL {H : Hp} {p : Addr} {xs : List V} (h : H p = some (.lst xs)) : TyX K H (.ref p) (.type "list") := .base (.lst h)
end
theorem flat_strs (l : List Str) : (l.map V.str).all flatV = true := by simp [flatV]
theorem inV_strs (x : Str) (l : List Str) : inV (V.str x) (l.map V.str) = decide (x ∈ l) := by
  unfold inV
  induction l with
  | nil => simp
  | cons y l ih =>
    rw [List.map_cons, List.any_cons, ih]
    have e : eqV (V.str y) (V.str x) = decide (y = x) := by
      show (y == x) = decide (y = x)
      rw [Bool.eq_iff_iff]
      simp
    rw [e]
    by_cases h : y = x <;> simp [h, eq_comm]
    by_cases h2 : x = y
    · exact absurd h2.symm h
    · simp [h2]
theorem nodup_len {α : Type} [DecidableEq α] : ∀ {l m : List α}, l.Nodup → (∀ x ∈ l, x ∈ m) → l.length ≤ m.length
  | [], _, _, _ => Nat.zero_le _
  | x :: l, m, nd, h => by
    have nd' := List.nodup_cons.mp nd
    have hx : x ∈ m := h x List.mem_cons_self
    have ih := nodup_len (l := l) (m := m.erase x) nd'.2 fun y hy => (List.mem_erase_of_ne (fun e => nd'.1 (by rw [← e]; exact hy))).mpr (h y (List.mem_cons_of_mem _ hy))
    rw [List.length_erase_of_mem hx] at ih
    have : 0 < m.length := List.length_pos_of_mem hx
    simp
    omega
/-! ### a comprehension over a range -/
section
variable {tt : TT} {te : TE} {σ : L2.St} {H : Hp} {vs : List Nat} {Q : VK} {j : Nat}
theorem range_snoc {β : Type} (f : Nat → β) (i : Nat) : (List.range (i + 1)).map f = (List.range i).map f ++ [f i] := by
  rw [List.range_succ, List.map_append]
  rfl
/-- no test; the items by S, which the list that is made at D may be part of -/
theorem lc_rg {lo : Int} {n : Nat} {β : Type} (S : Addr → Hp → V → β → Prop) (f : Nat → β) (hz : n < sizeLine) (hw : ∀ x, wipe ((wipe σ vs).set j (some x)) vs = wipe σ vs) (st : ∀ D H H' v d, Kp [D] H H' → S D H v d → S D H' v d)
    (he : ∀ D acc i H' (Q : VK), i < n → H D = none → H' D = some (.lst acc) → Kp [] H H' → (∀ v H'', Kp [] H' H'' → S D H'' v (f i) → Q v H'') → te ((wipe σ vs).set j (some (.int (lo + (i : Nat))))) H' Q)
    (k : ∀ D H' xs, H D = none → Kp [] H H' → H' D = some (.lst xs) → Paired (S D H') xs ((List.range n).map f) → Q (.ref D) H') : tLc (fun _ H R => R (Itr lo n) H) (gName j) tYes te vs σ H Q := fun D hD =>
  lc_range (fun i H' => ∃ acc, H' D = some (.lst acc) ∧ acc.length = i ∧ Kp [] H H' ∧ Paired (S D H') acc ((List.range i).map f)) ⟨[], upd_same, rfl, (Kp.refl _ _).new hD, .nil⟩
    (fun i H' hi ⟨acc, e, hl, kp, pd⟩ => by
      refine ⟨hw _, tYes_go (iteT (he D acc i H' _ hi hD e kp fun v H2 k2 s2 => ?_))⟩
      have e2 := k2.keep0 e
      have kd : Kp [D] H2 (upd H2 D (.lst (acc ++ [v]))) := (Kp.refl _ _).lst (.inl (by simp)) e2
      have k2d : Kp [D] H' H2 := k2.mono (by simp)
      refine ⟨acc, e2, by omega, acc ++ [v], upd_same, by simp [hl], (kp.trans k2).lst (.inr hD) e2, ?_⟩
      rw [range_snoc]
      exact Pd.append (Pd.mono (fun _ _ z => st _ _ _ _ _ kd (st _ _ _ _ _ k2d z)) pd) (.cons (st _ _ _ _ _ kd s2) .nil))
    (fun H' ⟨acc, e, hl, kp, pd⟩ => k D H' acc hD kp e pd)
/-- .. whose items are plain -/
theorem lc_rmp {lo : Int} {n : Nat} (f : Nat → V) (hz : n < sizeLine) (hw : ∀ x, wipe ((wipe σ vs).set j (some x)) vs = wipe σ vs)
    (he : ∀ i H' (Q : VK), i < n → Kp [] H H' → (∀ H'', Kp [] H' H'' → Q (f i) H'') → te ((wipe σ vs).set j (some (.int (lo + (i : Nat))))) H' Q)
    (k : ∀ D H', H D = none → Kp [] H H' → H' D = some (.lst ((List.range n).map f)) → Q (.ref D) H') : tLc (fun _ H R => R (Itr lo n) H) (gName j) tYes te vs σ H Q :=
  lc_rg (fun _ _ v d => v = d) f hz hw (fun _ _ _ _ _ _ e => e) (fun D acc i H' Q hi _ _ kp q => he i H' Q hi kp fun H2 k2 => q _ H2 k2 rfl)
    fun D H' xs hD kp e pd => k D H' hD kp (by
      have e2 := Pd.eqmap (f := fun v => v) pd
      rw [List.map_id'] at e2
      rw [e, e2])
end
end Ev
namespace Ev
open PySem L2
/-! ### the data of a loom -/
inductive Row where
  | send (n : Nat) | begin (n : Nat) (t : Int) | call (n : Nat) (x : Str) | make (m n : Nat) | cancel (n : Nat) (ns : List Nat)
  | join (n : Nat) (x : Str) | leave (n : Nat) (x : Str) | hush (n : Nat) | fin (n : Nat)
  deriving DecidableEq
def nV (n : Nat) : V := .int (n : Int)
def Row.tag : Row → Str
  | .send _ => "send" | .begin _ _ => "begin" | .call _ _ => "call" | .make _ _ => "make" | .cancel _ _ => "cancel"
  | .join _ _ => "join" | .leave _ _ => "leave" | .hush _ => "hush" | .fin _ => "end"
/-- what stands behind the tag; q: where a cancel's numbers stand -/
def Row.rest (q : Addr) : Row → List V
  | .send n => [nV n] | .begin n t => [nV n, .int t] | .call n x => [nV n, .str x] | .make m n => [nV m, nV n] | .cancel n _ => [nV n, .ref q]
  | .join n x => [nV n, .str x] | .leave n x => [nV n, .str x] | .hush n => [nV n] | .fin n => [nV n]
def Row.more (H : Hp) (q : Addr) : Row → Prop
  | .cancel _ ns => H q = some (.tup (ns.map nV))
  | _ => True
def RowAt (H : Hp) (v : V) (r : Row) : Prop := ∃ p q, v = .ref p ∧ H p = some (.tup (.str r.tag :: r.rest q)) ∧ r.more H q
theorem RowAt.kp {M : List Addr} {H H' : Hp} (k : Kp M H H') {v : V} {r : Row} (h : RowAt H v r) : RowAt H' v r := by
  obtain ⟨p, q, e, h1, h2⟩ := h
  refine ⟨p, q, e, k.tup _ _ h1, ?_⟩
  cases r <;> first | trivial | exact k.tup _ _ h2
def Row.isSend : Row → Bool | .send _ => true | _ => false
theorem Row.isSend_tag : ∀ r : Row, decide (V.str r.tag = V.str "send") = r.isSend
  | .send _ => (by decide +kernel : decide (V.str "send" = V.str "send") = true)
  | .begin _ _ => (by decide +kernel : decide (V.str "begin" = V.str "send") = false)
  | .call _ _ => (by decide +kernel : decide (V.str "call" = V.str "send") = false)
  | .make _ _ => (by decide +kernel : decide (V.str "make" = V.str "send") = false)
  | .cancel _ _ => (by decide +kernel : decide (V.str "cancel" = V.str "send") = false)
  | .join _ _ => (by decide +kernel : decide (V.str "join" = V.str "send") = false)
  | .leave _ _ => (by decide +kernel : decide (V.str "leave" = V.str "send") = false)
  | .hush _ => (by decide +kernel : decide (V.str "hush" = V.str "send") = false)
  | .fin _ => (by decide +kernel : decide (V.str "end" = V.str "send") = false)
def Row.isBegin : Row → Bool | .begin _ _ => true | _ => false
theorem Row.isBegin_tag : ∀ r : Row, decide (V.str r.tag = V.str "begin") = r.isBegin
  | .send _ => (by decide +kernel : decide (V.str "send" = V.str "begin") = false)
  | .begin _ _ => (by decide +kernel : decide (V.str "begin" = V.str "begin") = true)
  | .call _ _ => (by decide +kernel : decide (V.str "call" = V.str "begin") = false)
  | .make _ _ => (by decide +kernel : decide (V.str "make" = V.str "begin") = false)
  | .cancel _ _ => (by decide +kernel : decide (V.str "cancel" = V.str "begin") = false)
  | .join _ _ => (by decide +kernel : decide (V.str "join" = V.str "begin") = false)
  | .leave _ _ => (by decide +kernel : decide (V.str "leave" = V.str "begin") = false)
  | .hush _ => (by decide +kernel : decide (V.str "hush" = V.str "begin") = false)
  | .fin _ => (by decide +kernel : decide (V.str "end" = V.str "begin") = false)
def Row.isCall : Row → Bool | .call _ _ => true | _ => false
theorem Row.isCall_tag : ∀ r : Row, decide (V.str r.tag = V.str "call") = r.isCall
  | .send _ => (by decide +kernel : decide (V.str "send" = V.str "call") = false)
  | .begin _ _ => (by decide +kernel : decide (V.str "begin" = V.str "call") = false)
  | .call _ _ => (by decide +kernel : decide (V.str "call" = V.str "call") = true)
  | .make _ _ => (by decide +kernel : decide (V.str "make" = V.str "call") = false)
  | .cancel _ _ => (by decide +kernel : decide (V.str "cancel" = V.str "call") = false)
  | .join _ _ => (by decide +kernel : decide (V.str "join" = V.str "call") = false)
  | .leave _ _ => (by decide +kernel : decide (V.str "leave" = V.str "call") = false)
  | .hush _ => (by decide +kernel : decide (V.str "hush" = V.str "call") = false)
  | .fin _ => (by decide +kernel : decide (V.str "end" = V.str "call") = false)
def Row.isMake : Row → Bool | .make _ _ => true | _ => false
theorem Row.isMake_tag : ∀ r : Row, decide (V.str r.tag = V.str "make") = r.isMake
  | .send _ => (by decide +kernel : decide (V.str "send" = V.str "make") = false)
  | .begin _ _ => (by decide +kernel : decide (V.str "begin" = V.str "make") = false)
  | .call _ _ => (by decide +kernel : decide (V.str "call" = V.str "make") = false)
  | .make _ _ => (by decide +kernel : decide (V.str "make" = V.str "make") = true)
  | .cancel _ _ => (by decide +kernel : decide (V.str "cancel" = V.str "make") = false)
  | .join _ _ => (by decide +kernel : decide (V.str "join" = V.str "make") = false)
  | .leave _ _ => (by decide +kernel : decide (V.str "leave" = V.str "make") = false)
  | .hush _ => (by decide +kernel : decide (V.str "hush" = V.str "make") = false)
  | .fin _ => (by decide +kernel : decide (V.str "end" = V.str "make") = false)
def Row.isCancel : Row → Bool | .cancel _ _ => true | _ => false
theorem Row.isCancel_tag : ∀ r : Row, decide (V.str r.tag = V.str "cancel") = r.isCancel
  | .send _ => (by decide +kernel : decide (V.str "send" = V.str "cancel") = false)
  | .begin _ _ => (by decide +kernel : decide (V.str "begin" = V.str "cancel") = false)
  | .call _ _ => (by decide +kernel : decide (V.str "call" = V.str "cancel") = false)
  | .make _ _ => (by decide +kernel : decide (V.str "make" = V.str "cancel") = false)
  | .cancel _ _ => (by decide +kernel : decide (V.str "cancel" = V.str "cancel") = true)
  | .join _ _ => (by decide +kernel : decide (V.str "join" = V.str "cancel") = false)
  | .leave _ _ => (by decide +kernel : decide (V.str "leave" = V.str "cancel") = false)
  | .hush _ => (by decide +kernel : decide (V.str "hush" = V.str "cancel") = false)
  | .fin _ => (by decide +kernel : decide (V.str "end" = V.str "cancel") = false)
def Row.isJoin : Row → Bool | .join _ _ => true | _ => false
theorem Row.isJoin_tag : ∀ r : Row, decide (V.str r.tag = V.str "join") = r.isJoin
  | .send _ => (by decide +kernel : decide (V.str "send" = V.str "join") = false)
  | .begin _ _ => (by decide +kernel : decide (V.str "begin" = V.str "join") = false)
  | .call _ _ => (by decide +kernel : decide (V.str "call" = V.str "join") = false)
  | .make _ _ => (by decide +kernel : decide (V.str "make" = V.str "join") = false)
  | .cancel _ _ => (by decide +kernel : decide (V.str "cancel" = V.str "join") = false)
  | .join _ _ => (by decide +kernel : decide (V.str "join" = V.str "join") = true)
  | .leave _ _ => (by decide +kernel : decide (V.str "leave" = V.str "join") = false)
  | .hush _ => (by decide +kernel : decide (V.str "hush" = V.str "join") = false)
  | .fin _ => (by decide +kernel : decide (V.str "end" = V.str "join") = false)
def Row.isLeave : Row → Bool | .leave _ _ => true | _ => false
theorem Row.isLeave_tag : ∀ r : Row, decide (V.str r.tag = V.str "leave") = r.isLeave
  | .send _ => (by decide +kernel : decide (V.str "send" = V.str "leave") = false)
  | .begin _ _ => (by decide +kernel : decide (V.str "begin" = V.str "leave") = false)
  | .call _ _ => (by decide +kernel : decide (V.str "call" = V.str "leave") = false)
  | .make _ _ => (by decide +kernel : decide (V.str "make" = V.str "leave") = false)
  | .cancel _ _ => (by decide +kernel : decide (V.str "cancel" = V.str "leave") = false)
  | .join _ _ => (by decide +kernel : decide (V.str "join" = V.str "leave") = false)
  | .leave _ _ => (by decide +kernel : decide (V.str "leave" = V.str "leave") = true)
  | .hush _ => (by decide +kernel : decide (V.str "hush" = V.str "leave") = false)
  | .fin _ => (by decide +kernel : decide (V.str "end" = V.str "leave") = false)
def Row.isHush : Row → Bool | .hush _ => true | _ => false
theorem Row.isHush_tag : ∀ r : Row, decide (V.str r.tag = V.str "hush") = r.isHush
  | .send _ => (by decide +kernel : decide (V.str "send" = V.str "hush") = false)
  | .begin _ _ => (by decide +kernel : decide (V.str "begin" = V.str "hush") = false)
  | .call _ _ => (by decide +kernel : decide (V.str "call" = V.str "hush") = false)
  | .make _ _ => (by decide +kernel : decide (V.str "make" = V.str "hush") = false)
  | .cancel _ _ => (by decide +kernel : decide (V.str "cancel" = V.str "hush") = false)
  | .join _ _ => (by decide +kernel : decide (V.str "join" = V.str "hush") = false)
  | .leave _ _ => (by decide +kernel : decide (V.str "leave" = V.str "hush") = false)
  | .hush _ => (by decide +kernel : decide (V.str "hush" = V.str "hush") = true)
  | .fin _ => (by decide +kernel : decide (V.str "end" = V.str "hush") = false)
def Row.isFin : Row → Bool | .fin _ => true | _ => false
theorem Row.isFin_tag : ∀ r : Row, decide (V.str r.tag = V.str "end") = r.isFin
  | .send _ => (by decide +kernel : decide (V.str "send" = V.str "end") = false)
  | .begin _ _ => (by decide +kernel : decide (V.str "begin" = V.str "end") = false)
  | .call _ _ => (by decide +kernel : decide (V.str "call" = V.str "end") = false)
  | .make _ _ => (by decide +kernel : decide (V.str "make" = V.str "end") = false)
  | .cancel _ _ => (by decide +kernel : decide (V.str "cancel" = V.str "end") = false)
  | .join _ _ => (by decide +kernel : decide (V.str "join" = V.str "end") = false)
  | .leave _ _ => (by decide +kernel : decide (V.str "leave" = V.str "end") = false)
  | .hush _ => (by decide +kernel : decide (V.str "hush" = V.str "end") = false)
  | .fin _ => (by decide +kernel : decide (V.str "end" = V.str "end") = true)
end Ev
namespace Ev
open PySem L2
/-! ### the loom's data -/
inductive Deed where
  | now (w : Str) | soon (w : Str) | wait (n : Int) (w : Str) | cancel (w : Str) | join (x : Str) | leave (x : Str) | hush
  deriving DecidableEq
def Deed.vals : Deed → List V
  | .now w => [.str "now", .str w] | .soon w => [.str "soon", .str w] | .wait n w => [.str "wait", .int n, .str w] | .cancel w => [.str "cancel", .str w]
  | .join x => [.str "join", .str x] | .leave x => [.str "leave", .str x] | .hush => [.str "hush"]
structure Hnd where
  name : Str
  rank : Int
  hears : Str
  once : Bool
  deeds : List Deed
inductive Road where
  | now | soon | wait
  deriving DecidableEq
def Road.str : Road → Str
  | .now => "now" | .soon => "soon" | .wait => "wait"
structure Evt where
  word : Str
  maker : Option Nat
  road : Road
  due : Int
  deriving DecidableEq
def onV : Option Nat → V
  | none => .non
  | some n => nV n
def Evt.vals (e : Evt) : List V := [.str e.word, onV e.maker, .str e.road.str, .int e.due]
structure Frm where
  number : Nat
  called : List (Str × Nat)
  deeds : List Deed
  place : Nat
structure LoomS where
  hs : List Hnd
  time : Int
  events : List Evt
  log : List Row
  frames : List Frm
  fresh : Option Nat
  soon : List Nat
  rows : List (Int × Nat)
  stood : Nat
  stands : List (Str × Nat)
/-! ### where it stands -/
def TK (H H' : Hp) : Prop := ∀ a xs, H a = some (.tup xs) → H' a = some (.tup xs)
def DeedAt (H : Hp) (v : V) (d : Deed) : Prop := ∃ p, v = .ref p ∧ H p = some (.tup d.vals)
def HndAt (H : Hp) (v : V) (h : Hnd) : Prop := ∃ p q ds, v = .ref p ∧ H p = some (.tup [.str h.name, .int h.rank, .str h.hears, .bl h.once, .ref q]) ∧ H q = some (.tup ds) ∧ Paired (DeedAt H) ds h.deeds
def CallAt (H : Hp) (v : V) (c : Str × Nat) : Prop := ∃ p, v = .ref p ∧ H p = some (.tup [.str c.1, nV c.2])
def EvtAt (H : Hp) (v : V) (e : Evt) : Prop := ∃ p, v = .ref p ∧ H p = some (.tup e.vals)
def RwAt (H : Hp) (v : V) (r : Int × Nat) : Prop := ∃ p, v = .ref p ∧ H p = some (.tup [.int r.1, nV r.2])
theorem DeedAt.tk {H H' : Hp} (k : TK H H') {v : V} {d : Deed} (h : DeedAt H v d) : DeedAt H' v d := by
  obtain ⟨p, e, h1⟩ := h
  exact ⟨p, e, k _ _ h1⟩
theorem HndAt.tk {H H' : Hp} (k : TK H H') {v : V} {d : Hnd} (h : HndAt H v d) : HndAt H' v d := by
  obtain ⟨p, q, ds, e, h1, h2, h3⟩ := h
  exact ⟨p, q, ds, e, k _ _ h1, k _ _ h2, Pd.mono (fun _ _ => DeedAt.tk k) h3⟩
theorem CallAt.tk {H H' : Hp} (k : TK H H') {v : V} {d : Str × Nat} (h : CallAt H v d) : CallAt H' v d := by
  obtain ⟨p, e, h1⟩ := h
  exact ⟨p, e, k _ _ h1⟩
theorem EvtAt.tk {H H' : Hp} (k : TK H H') {v : V} {d : Evt} (h : EvtAt H v d) : EvtAt H' v d := by
  obtain ⟨p, e, h1⟩ := h
  exact ⟨p, e, k _ _ h1⟩
theorem RwAt.tk {H H' : Hp} (k : TK H H') {v : V} {d : Int × Nat} (h : RwAt H v d) : RwAt H' v d := by
  obtain ⟨p, e, h1⟩ := h
  exact ⟨p, e, k _ _ h1⟩
theorem RowAt.tk {H H' : Hp} (k : TK H H') {v : V} {r : Row} (h : RowAt H v r) : RowAt H' v r := by
  obtain ⟨p, q, e, h1, h2⟩ := h
  refine ⟨p, q, e, k _ _ h1, ?_⟩
  cases r <;> first | trivial | exact k _ _ h2
def Stb {α : Type} (R : Hp → V → α → Prop) : Prop := ∀ H H' v d, TK H H' → R H v d → R H' v d
theorem deedStb : Stb DeedAt := fun _ _ _ _ k h => DeedAt.tk k h
theorem hndStb : Stb HndAt := fun _ _ _ _ k h => HndAt.tk k h
theorem callStb : Stb CallAt := fun _ _ _ _ k h => CallAt.tk k h
theorem evtStb : Stb EvtAt := fun _ _ _ _ k h => EvtAt.tk k h
theorem rwStb : Stb RwAt := fun _ _ _ _ k h => RwAt.tk k h
theorem rowStb : Stb RowAt := fun _ _ _ _ k h => RowAt.tk k h
/-- at c a list of data -/
def LstAt {α : Type} (R : Hp → V → α → Prop) (H : Hp) (c : Addr) (ds : List α) : Prop := ∃ xs, H c = some (.lst xs) ∧ Paired (R H) xs ds
theorem LstAt.tr {α : Type} {R : Hp → V → α → Prop} (f : Stb R) {H H' : Hp} {c : Addr} {ds : List α} (k : TK H H') (e : H' c = H c) (h : LstAt R H c ds) : LstAt R H' c ds := by
  obtain ⟨xs, h1, h2⟩ := h
  exact ⟨xs, by rw [e]; exact h1, Pd.mono (fun _ _ => f _ _ _ _ k) h2⟩
theorem LstAt.put {α : Type} {R : Hp → V → α → Prop} (f : Stb R) {H : Hp} {c : Addr} {ds : List α} {xs : List V} (k : TK H (upd H c (.lst xs))) (h2 : Paired (R H) xs ds) : LstAt R (upd H c (.lst xs)) c ds :=
  ⟨xs, upd_same, Pd.mono (fun _ _ => f _ _ _ _ k) h2⟩
structure FrA where
  fa : Addr
  dx : Addr
  lc : Addr
def frmFs (f : Frm) (lc dq : Addr) : List (Str × V) := [("number", nV f.number), ("called", .ref lc), ("deeds", .ref dq), ("place", nV f.place)]
def DdsAt (H : Hp) (q : Addr) (ds : List Deed) : Prop := ∃ xs, H q = some (.tup xs) ∧ Paired (DeedAt H) xs ds
theorem DdsAt.tk {H H' : Hp} (k : TK H H') {q : Addr} {ds : List Deed} (h : DdsAt H q ds) : DdsAt H' q ds := by
  obtain ⟨xs, h1, h2⟩ := h
  exact ⟨xs, k _ _ h1, Pd.mono (fun _ _ => DeedAt.tk k) h2⟩
def FrmAt (CF : Addr) (H : Hp) (A : FrA) (f : Frm) : Prop :=
  ∃ dq, H A.fa = some (.ins CF A.dx (frmFs f A.lc dq)) ∧ LstAt CallAt H A.lc f.called ∧ DdsAt H dq f.deeds
theorem FrmAt.tr {CF : Addr} {H H' : Hp} (k : TK H H') {A : FrA} {f : Frm} (e1 : H' A.fa = H A.fa) (e2 : H' A.lc = H A.lc) (h : FrmAt CF H A f) : FrmAt CF H' A f := by
  obtain ⟨dq, h1, h2, h3⟩ := h
  exact ⟨dq, by rw [e1]; exact h1, h2.tr callStb k e2, h3.tk k⟩
structure LoomA where
  p : Addr
  dx : Addr
  hl : Addr
  ev : Addr
  lg : Addr
  fr : Addr
  sd : Addr
  wa : Addr
  wdx : Addr
  fo : Addr
  rw : Addr
  frs : List FrA
def frCells (l : List FrA) : List Addr := l.flatMap fun f => [f.fa, f.lc]
def LoomA.cells (A : LoomA) : List Addr := [A.p, A.hl, A.ev, A.lg, A.fr, A.sd, A.wa, A.fo, A.rw] ++ frCells A.frs
def loomFs (A : LoomA) (s : LoomS) : List (Str × V) :=
  [("handlers", .ref A.hl), ("time", .int s.time), ("events", .ref A.ev), ("log", .ref A.lg), ("frames", .ref A.fr), ("fresh", onV s.fresh), ("line", .ref A.wa), ("stood", nV s.stood), ("standings", .ref A.sd)]
def waitFs (A : LoomA) : List (Str × V) := [("first_ones", .ref A.fo), ("rows", .ref A.rw)]
def sdK (l : List (Str × Nat)) : List (Key × V) := l.map fun c => (Sum.inr c.1, nV c.2)
structure Cs where
  L : Addr
  W : Addr
  F : Addr
/-- the frames' records stand -/
inductive FrsAt (CF : Addr) (H : Hp) : List FrA → List Frm → Prop
  | nil : FrsAt CF H [] []
  | cons {A : FrA} {f : Frm} {As : List FrA} {fs : List Frm} : FrmAt CF H A f → FrsAt CF H As fs → FrsAt CF H (A :: As) (f :: fs)
structure LoomAt (C : Cs) (H : Hp) (A : LoomA) (s : LoomS) : Prop where
  nd : A.cells.Nodup
  p : H A.p = some (.ins C.L A.dx (loomFs A s))
  hl : LstAt HndAt H A.hl s.hs
  ev : LstAt EvtAt H A.ev s.events
  lg : LstAt RowAt H A.lg s.log
  fr : H A.fr = some (.lst (A.frs.map fun f => .ref f.fa))
  frs : FrsAt C.F H A.frs s.frames
  sd : H A.sd = some (.dK (sdK s.stands))
  wa : H A.wa = some (.ins C.W A.wdx (waitFs A))
  fo : H A.fo = some (.lst (s.soon.map nV))
  rw : LstAt RwAt H A.rw s.rows
theorem FrsAt.tr {CF : Addr} {H H' : Hp} (k : TK H H') : ∀ {As : List FrA} {fs : List Frm}, (∀ a ∈ frCells As, H' a = H a) → FrsAt CF H As fs → FrsAt CF H' As fs
  | _, _, _, .nil => .nil
  | A :: As, _, e, .cons h t => .cons (h.tr k (e _ (by simp [frCells])) (e _ (by simp [frCells]))) (FrsAt.tr k (fun a ha => e a (by
      unfold frCells at ha ⊢
      rw [List.flatMap_cons]
      exact List.mem_append.mpr (.inr ha))) t)
theorem FrsAt.snoc {CF : Addr} {H : Hp} {A : FrA} {f : Frm} : ∀ {As : List FrA} {fs : List Frm}, FrsAt CF H As fs → FrmAt CF H A f → FrsAt CF H (As ++ [A]) (fs ++ [f])
  | _, _, .nil, h => .cons h .nil
  | _, _, .cons g t, h => .cons g (FrsAt.snoc t h)
theorem FrsAt.len {CF : Addr} {H : Hp} : ∀ {As : List FrA} {fs : List Frm}, FrsAt CF H As fs → As.length = fs.length
  | _, _, .nil => rfl
  | _, _, .cons _ t => by simp [FrsAt.len t]
theorem FrsAt.unsnoc {CF : Addr} {H : Hp} {f : Frm} : ∀ {As : List FrA} {fs : List Frm}, FrsAt CF H As (fs ++ [f]) → ∃ Bs B, As = Bs ++ [B] ∧ FrsAt CF H Bs fs ∧ FrmAt CF H B f
  | _, [], .cons h .nil => ⟨[], _, rfl, .nil, h⟩
  | _, g :: fs, .cons h t => by
    obtain ⟨Bs, B, e, t1, t2⟩ := FrsAt.unsnoc (fs := fs) t
    exact ⟨_ :: Bs, B, by rw [e]; rfl, .cons h t1, t2⟩
theorem frCells_app (l m : List FrA) : frCells (l ++ m) = frCells l ++ frCells m := by simp [frCells]
theorem nd_ne {α : Type} {l : List α} (nd : l.Nodup) (i j : Nat) {a b : α} (h : i ≠ j) (ha : l[i]? = some a) (hb : l[j]? = some b) : a ≠ b := fun e => by
  subst e
  exact h (nd_ix nd ha hb)
theorem nd_neR {α : Type} {l m : List α} (nd : (l ++ m).Nodup) {a b : α} (ha : a ∈ l) (hb : b ∈ m) : a ≠ b := fun e => by
  subst e
  exact (List.nodup_append.mp nd).2.2 a ha a hb rfl
theorem TK.upd {H : Hp} {c : Addr} {o : HO} (h : ∀ xs, H c ≠ some (.tup xs)) : TK H (upd H c o) := fun a xs e => by
  by_cases q : a = c
  · subst q; exact absurd e (h xs)
  · rw [upd_ne q]; exact e
theorem Kp.tk {M : List Addr} {H H' : Hp} (k : Kp M H H') : TK H H' := k.tup
section
variable {C : Cs} {H H' : Hp} {A : LoomA} {s : LoomS}
theorem LoomAt.notup (L : LoomAt C H A s) : ∀ a ∈ A.cells, ∀ xs, H a ≠ some (.tup xs) := by
  have key : ∀ {As : List FrA} {fs : List Frm}, FrsAt C.F H As fs → ∀ a ∈ frCells As, ∀ xs, H a ≠ some (.tup xs) := by
    intro As fs h
    induction h with
    | nil => intro a ha; simp [frCells] at ha
    | cons h t ih =>
      intro a ha xs e
      obtain ⟨dq, h1, ⟨ys, h2, _⟩, _⟩ := h
      unfold frCells at ha
      rw [List.flatMap_cons] at ha
      rcases List.mem_append.mp ha with ha | ha
      · simp at ha
        rcases ha with rfl | rfl
        · rw [h1] at e; cases e
        · rw [h2] at e; cases e
      · exact ih a ha xs e
  intro a ha xs e
  unfold LoomA.cells at ha
  rcases List.mem_append.mp ha with ha | ha
  · obtain ⟨_, hl, _⟩ := L.hl
    obtain ⟨_, ev, _⟩ := L.ev
    obtain ⟨_, lg, _⟩ := L.lg
    obtain ⟨_, rw_, _⟩ := L.rw
    simp at ha
    rcases ha with rfl | rfl | rfl | rfl | rfl | rfl | rfl | rfl | rfl
    · rw [L.p] at e; cases e
    · rw [hl] at e; cases e
    · rw [ev] at e; cases e
    · rw [lg] at e; cases e
    · rw [L.fr] at e; cases e
    · rw [L.sd] at e; cases e
    · rw [L.wa] at e; cases e
    · rw [L.fo] at e; cases e
    · rw [rw_] at e; cases e
  · exact key L.frs a ha xs e
/-- what stands elsewhere may change -/
theorem LoomAt.tr (L : LoomAt C H A s) (k : TK H H') (e : ∀ a ∈ A.cells, H' a = H a) : LoomAt C H' A s where
  nd := L.nd
  p := by rw [e A.p (by simp [LoomA.cells])]; exact L.p
  hl := L.hl.tr hndStb k (e A.hl (by simp [LoomA.cells]))
  ev := L.ev.tr evtStb k (e A.ev (by simp [LoomA.cells]))
  lg := L.lg.tr rowStb k (e A.lg (by simp [LoomA.cells]))
  fr := by rw [e A.fr (by simp [LoomA.cells])]; exact L.fr
  frs := L.frs.tr k fun a ha => e a (List.mem_append.mpr (.inr ha))
  sd := by rw [e A.sd (by simp [LoomA.cells])]; exact L.sd
  wa := by rw [e A.wa (by simp [LoomA.cells])]; exact L.wa
  fo := by rw [e A.fo (by simp [LoomA.cells])]; exact L.fo
  rw := L.rw.tr rwStb k (e A.rw (by simp [LoomA.cells]))
theorem LoomAt.has (L : LoomAt C H A s) : ∀ a ∈ A.cells, ∃ o, H a = some o := by
  have key : ∀ {As : List FrA} {fs : List Frm}, FrsAt C.F H As fs → ∀ a ∈ frCells As, ∃ o, H a = .some o := by
    intro As fs h
    induction h with
    | nil => intro a ha; simp [frCells] at ha
    | cons h t ih =>
      intro a ha
      obtain ⟨dq, h1, ⟨ys, h2, _⟩, _⟩ := h
      unfold frCells at ha
      rw [List.flatMap_cons] at ha
      rcases List.mem_append.mp ha with ha | ha
      · simp at ha
        rcases ha with rfl | rfl
        · exact ⟨_, h1⟩
        · exact ⟨_, h2⟩
      · exact ih a ha
  intro a ha
  unfold LoomA.cells at ha
  rcases List.mem_append.mp ha with ha | ha
  · obtain ⟨_, hl, _⟩ := L.hl
    obtain ⟨_, ev, _⟩ := L.ev
    obtain ⟨_, lg, _⟩ := L.lg
    obtain ⟨_, rw_, _⟩ := L.rw
    simp at ha
    rcases ha with rfl | rfl | rfl | rfl | rfl | rfl | rfl | rfl | rfl
    · exact ⟨_, L.p⟩
    · exact ⟨_, hl⟩
    · exact ⟨_, ev⟩
    · exact ⟨_, lg⟩
    · exact ⟨_, L.fr⟩
    · exact ⟨_, L.sd⟩
    · exact ⟨_, L.wa⟩
    · exact ⟨_, L.fo⟩
    · exact ⟨_, rw_⟩
  · exact key L.frs a ha
theorem LoomAt.kp {M : List Addr} (L : LoomAt C H A s) (k : Kp M H H') (n : ∀ a ∈ A.cells, a ∉ M) : LoomAt C H' A s :=
  L.tr k.tk fun a ha => by
    obtain ⟨o, e⟩ := L.has a ha
    rw [e, k.keep _ _ (n a ha) e]
theorem LoomAt.new (L : LoomAt C H A s) {p : Addr} {o : HO} (h : H p = none) : LoomAt C (upd H p o) A s :=
  L.kp ((Kp.refl [] H).new h) (by simp)
end
/-! ### single changes -/
structure Went (C : Cs) (H : Hp) (A : LoomA) (H' : Hp) (A' : LoomA) (s' : LoomS) : Prop where
  l : LoomAt C H' A' s'
  kp : Kp A.cells H H'
  sub : ∀ a ∈ A'.cells, a ∈ A.cells ∨ H a = none
  p : A'.p = A.p
section
variable {C : Cs} {H H1 H' : Hp} {A A1 A2 : LoomA} {s s1 s2 : LoomS}
theorem Went.refl (L : LoomAt C H A s) : Went C H A H A s := ⟨L, Kp.refl _ _, fun _ h => .inl h, rfl⟩
theorem Went.trans (W : Went C H A H1 A1 s1) (V : Went C H1 A1 H' A2 s2) : Went C H A H' A2 s2 :=
  ⟨V.l, W.kp.transM V.kp W.sub, fun a h => (V.sub a h).elim (W.sub a) fun q => .inr (W.kp.dom a q), V.p.trans W.p⟩
theorem Went.new (W : Went C H A H1 A1 s1) {p : Addr} {o : HO} (h : H1 p = none) : Went C H A (upd H1 p o) A1 s1 :=
  ⟨W.l.new h, W.kp.new h, W.sub, W.p⟩
theorem Went.kp0 (W : Went C H A H1 A1 s1) (k : Kp [] H1 H') : Went C H A H' A1 s1 :=
  ⟨W.l.kp k (by simp), W.kp.transM k (by simp), W.sub, W.p⟩
/-- one cell changed, the places as before -/
theorem LoomAt.step (L : LoomAt C H A s) {c : Addr} (hc : c ∈ A.cells) (o : HO) : Kp A.cells H (upd H c o) ∧ TK H (upd H c o) := by
  have k := (Kp.refl A.cells H).step (o := o) (.inl hc) (L.notup c hc)
  exact ⟨k, k.tk⟩
theorem at_c {l m : List Addr} {a : Addr} {i : Nat} (h : l[i]? = some a) : a ∈ l ++ m := List.mem_append.mpr (.inl (List.mem_of_getElem? h))
def LoomA.fix (A : LoomA) : List Addr := [A.p, A.hl, A.ev, A.lg, A.fr, A.sd, A.wa, A.fo, A.rw]
theorem LoomAt.ne (L : LoomAt C H A s) (i j : Nat) (h : i ≠ j) {a b : Addr} (ha : A.fix[i]? = some a) (hb : A.fix[j]? = some b) : a ≠ b :=
  nd_ne (List.nodup_append.mp (show (A.fix ++ frCells A.frs).Nodup from L.nd)).1 i j h ha hb
theorem LoomAt.neR (L : LoomAt C H A s) {i : Nat} {a b : Addr} (ha : A.fix[i]? = some a) (hb : b ∈ frCells A.frs) : b ≠ a := fun e =>
  nd_neR (show (A.fix ++ frCells A.frs).Nodup from L.nd) (List.mem_of_getElem? ha) hb e.symm
theorem LoomAt.setP (L : LoomAt C H A s) (s' : LoomS) (e1 : s'.hs = s.hs) (e2 : s'.events = s.events) (e3 : s'.log = s.log) (e4 : s'.frames = s.frames) (e5 : s'.soon = s.soon) (e6 : s'.rows = s.rows) (e7 : s'.stands = s.stands) :
    Went C H A (upd H A.p (.ins C.L A.dx (loomFs A s'))) A s' := by
  obtain ⟨k, tk⟩ := L.step (c := A.p) (at_c (i := 0) rfl) (.ins C.L A.dx (loomFs A s'))
  refine ⟨⟨L.nd, upd_same, ?_, ?_, ?_, ?_, ?_, ?_, ?_, ?_, ?_⟩, k, fun _ h => .inl h, rfl⟩
  · rw [e1]; exact L.hl.tr hndStb tk (upd_ne (L.ne 1 0 (by decide) rfl rfl))
  · rw [e2]; exact L.ev.tr evtStb tk (upd_ne (L.ne 2 0 (by decide) rfl rfl))
  · rw [e3]; exact L.lg.tr rowStb tk (upd_ne (L.ne 3 0 (by decide) rfl rfl))
  · rw [upd_ne (L.ne 4 0 (by decide) rfl rfl)]; exact L.fr
  · rw [e4]; exact L.frs.tr tk fun a ha => upd_ne (L.neR (i := 0) rfl ha)
  · rw [e7, upd_ne (L.ne 5 0 (by decide) rfl rfl)]; exact L.sd
  · rw [upd_ne (L.ne 6 0 (by decide) rfl rfl)]; exact L.wa
  · rw [e5, upd_ne (L.ne 7 0 (by decide) rfl rfl)]; exact L.fo
  · rw [e6]; exact L.rw.tr rwStb tk (upd_ne (L.ne 8 0 (by decide) rfl rfl))
theorem LoomAt.setEv (L : LoomAt C H A s) {xs : List V} {es : List Evt} (h : Paired (EvtAt H) xs es) : Went C H A (upd H A.ev (.lst xs)) A { s with events := es } := by
  obtain ⟨k, tk⟩ := L.step (c := A.ev) (at_c (i := 2) rfl) (.lst xs)
  refine ⟨⟨L.nd, ?_, ?_, ?_, ?_, ?_, ?_, ?_, ?_, ?_, ?_⟩, k, fun _ h => .inl h, rfl⟩
  · rw [upd_ne (L.ne 0 2 (by decide) rfl rfl)]; exact L.p
  · exact L.hl.tr hndStb tk (upd_ne (L.ne 1 2 (by decide) rfl rfl))
  · exact LstAt.put evtStb tk h
  · exact L.lg.tr rowStb tk (upd_ne (L.ne 3 2 (by decide) rfl rfl))
  · rw [upd_ne (L.ne 4 2 (by decide) rfl rfl)]; exact L.fr
  · exact L.frs.tr tk fun a ha => upd_ne (L.neR (i := 2) rfl ha)
  · rw [upd_ne (L.ne 5 2 (by decide) rfl rfl)]; exact L.sd
  · rw [upd_ne (L.ne 6 2 (by decide) rfl rfl)]; exact L.wa
  · rw [upd_ne (L.ne 7 2 (by decide) rfl rfl)]; exact L.fo
  · exact L.rw.tr rwStb tk (upd_ne (L.ne 8 2 (by decide) rfl rfl))
theorem LoomAt.setLg (L : LoomAt C H A s) {xs : List V} {es : List Row} (h : Paired (RowAt H) xs es) : Went C H A (upd H A.lg (.lst xs)) A { s with log := es } := by
  obtain ⟨k, tk⟩ := L.step (c := A.lg) (at_c (i := 3) rfl) (.lst xs)
  refine ⟨⟨L.nd, ?_, ?_, ?_, ?_, ?_, ?_, ?_, ?_, ?_, ?_⟩, k, fun _ h => .inl h, rfl⟩
  · rw [upd_ne (L.ne 0 3 (by decide) rfl rfl)]; exact L.p
  · exact L.hl.tr hndStb tk (upd_ne (L.ne 1 3 (by decide) rfl rfl))
  · exact L.ev.tr evtStb tk (upd_ne (L.ne 2 3 (by decide) rfl rfl))
  · exact LstAt.put rowStb tk h
  · rw [upd_ne (L.ne 4 3 (by decide) rfl rfl)]; exact L.fr
  · exact L.frs.tr tk fun a ha => upd_ne (L.neR (i := 3) rfl ha)
  · rw [upd_ne (L.ne 5 3 (by decide) rfl rfl)]; exact L.sd
  · rw [upd_ne (L.ne 6 3 (by decide) rfl rfl)]; exact L.wa
  · rw [upd_ne (L.ne 7 3 (by decide) rfl rfl)]; exact L.fo
  · exact L.rw.tr rwStb tk (upd_ne (L.ne 8 3 (by decide) rfl rfl))
theorem LoomAt.setSd (L : LoomAt C H A s) (l : List (Str × Nat)) : Went C H A (upd H A.sd (.dK (sdK l))) A { s with stands := l } := by
  obtain ⟨k, tk⟩ := L.step (c := A.sd) (at_c (i := 5) rfl) (.dK (sdK l))
  refine ⟨⟨L.nd, ?_, ?_, ?_, ?_, ?_, ?_, ?_, ?_, ?_, ?_⟩, k, fun _ h => .inl h, rfl⟩
  · rw [upd_ne (L.ne 0 5 (by decide) rfl rfl)]; exact L.p
  · exact L.hl.tr hndStb tk (upd_ne (L.ne 1 5 (by decide) rfl rfl))
  · exact L.ev.tr evtStb tk (upd_ne (L.ne 2 5 (by decide) rfl rfl))
  · exact L.lg.tr rowStb tk (upd_ne (L.ne 3 5 (by decide) rfl rfl))
  · rw [upd_ne (L.ne 4 5 (by decide) rfl rfl)]; exact L.fr
  · exact L.frs.tr tk fun a ha => upd_ne (L.neR (i := 5) rfl ha)
  · exact upd_same
  · rw [upd_ne (L.ne 6 5 (by decide) rfl rfl)]; exact L.wa
  · rw [upd_ne (L.ne 7 5 (by decide) rfl rfl)]; exact L.fo
  · exact L.rw.tr rwStb tk (upd_ne (L.ne 8 5 (by decide) rfl rfl))
theorem LoomAt.setFo (L : LoomAt C H A s) (l : List Nat) : Went C H A (upd H A.fo (.lst (l.map nV))) A { s with soon := l } := by
  obtain ⟨k, tk⟩ := L.step (c := A.fo) (at_c (i := 7) rfl) (.lst (l.map nV))
  refine ⟨⟨L.nd, ?_, ?_, ?_, ?_, ?_, ?_, ?_, ?_, ?_, ?_⟩, k, fun _ h => .inl h, rfl⟩
  · rw [upd_ne (L.ne 0 7 (by decide) rfl rfl)]; exact L.p
  · exact L.hl.tr hndStb tk (upd_ne (L.ne 1 7 (by decide) rfl rfl))
  · exact L.ev.tr evtStb tk (upd_ne (L.ne 2 7 (by decide) rfl rfl))
  · exact L.lg.tr rowStb tk (upd_ne (L.ne 3 7 (by decide) rfl rfl))
  · rw [upd_ne (L.ne 4 7 (by decide) rfl rfl)]; exact L.fr
  · exact L.frs.tr tk fun a ha => upd_ne (L.neR (i := 7) rfl ha)
  · rw [upd_ne (L.ne 5 7 (by decide) rfl rfl)]; exact L.sd
  · rw [upd_ne (L.ne 6 7 (by decide) rfl rfl)]; exact L.wa
  · exact upd_same
  · exact L.rw.tr rwStb tk (upd_ne (L.ne 8 7 (by decide) rfl rfl))
theorem LoomAt.setRw (L : LoomAt C H A s) {xs : List V} {es : List (Int × Nat)} (h : Paired (RwAt H) xs es) : Went C H A (upd H A.rw (.lst xs)) A { s with rows := es } := by
  obtain ⟨k, tk⟩ := L.step (c := A.rw) (at_c (i := 8) rfl) (.lst xs)
  refine ⟨⟨L.nd, ?_, ?_, ?_, ?_, ?_, ?_, ?_, ?_, ?_, ?_⟩, k, fun _ h => .inl h, rfl⟩
  · rw [upd_ne (L.ne 0 8 (by decide) rfl rfl)]; exact L.p
  · exact L.hl.tr hndStb tk (upd_ne (L.ne 1 8 (by decide) rfl rfl))
  · exact L.ev.tr evtStb tk (upd_ne (L.ne 2 8 (by decide) rfl rfl))
  · exact L.lg.tr rowStb tk (upd_ne (L.ne 3 8 (by decide) rfl rfl))
  · rw [upd_ne (L.ne 4 8 (by decide) rfl rfl)]; exact L.fr
  · exact L.frs.tr tk fun a ha => upd_ne (L.neR (i := 8) rfl ha)
  · rw [upd_ne (L.ne 5 8 (by decide) rfl rfl)]; exact L.sd
  · rw [upd_ne (L.ne 6 8 (by decide) rfl rfl)]; exact L.wa
  · rw [upd_ne (L.ne 7 8 (by decide) rfl rfl)]; exact L.fo
  · exact LstAt.put rwStb tk h
theorem nodup_set {α : Type} : ∀ {l : List α} {i : Nat} {d : α}, l.Nodup → d ∉ l → (l.set i d).Nodup
  | [], _, _, _, _ => by simp
  | a :: l, 0, d, nd, h => List.nodup_cons.mpr ⟨fun q => h (List.mem_cons_of_mem _ q), (List.nodup_cons.mp nd).2⟩
  | a :: l, i + 1, d, nd, h => by
    refine List.nodup_cons.mpr ⟨fun q => ?_, nodup_set (List.nodup_cons.mp nd).2 fun q => h (List.mem_cons_of_mem _ q)⟩
    rcases List.mem_or_eq_of_mem_set q with q | q
    · exact (List.nodup_cons.mp nd).1 q
    · exact h (by rw [q]; exact List.mem_cons_self)
/-- places that change: a list of fixed places with one of them new -/
theorem nd_new {A : LoomA} {B : LoomA} {d : Addr} (nd : A.cells.Nodup) (hd : d ∉ A.cells) (i : Nat) (hi : i < 9) (e : B.fix = A.fix.set i d) (ef : B.frs = A.frs) : B.cells.Nodup := by
  have nd' : (A.fix ++ frCells A.frs).Nodup := nd
  have hd' : d ∉ A.fix ++ frCells A.frs := hd
  obtain ⟨n1, n2, n3⟩ := List.nodup_append.mp nd'
  show (B.fix ++ frCells B.frs).Nodup
  rw [e, ef]
  have hs : ∀ x, x ∈ A.fix.set i d → x = d ∨ x ∈ A.fix := fun x hx => (List.mem_or_eq_of_mem_set hx).symm
  refine List.nodup_append.mpr ⟨?_, n2, fun a ha b hb q => ?_⟩
  · exact nodup_set n1 fun q => hd' (List.mem_append.mpr (.inl q))
  · rcases hs a ha with r | r
    · subst r; subst q; exact hd' (List.mem_append.mpr (.inr hb))
    · exact n3 a r b hb q
theorem mem_new {A B : LoomA} {d : Addr} (i : Nat) (e : B.fix = A.fix.set i d) (ef : B.frs = A.frs) : ∀ a ∈ B.cells, a ∈ A.cells ∨ a = d := by
  intro a ha
  have ha' : a ∈ B.fix ++ frCells B.frs := ha
  rw [e, ef] at ha'
  rcases List.mem_append.mp ha' with h | h
  · rcases List.mem_or_eq_of_mem_set h with h | h
    · exact .inl (List.mem_append.mpr (.inl h))
    · exact .inr h
  · exact .inl (List.mem_append.mpr (.inr h))
theorem LoomAt.fresh (L : LoomAt C H A s) {d : Addr} (h : H d = none) : d ∉ A.cells := fun q => by
  obtain ⟨o, e⟩ := L.has d q
  rw [h] at e; cases e
variable {H0 : Hp} {A0 : LoomA}
/-- the instance, a wait's instance or a frame's record is written: what else stands, stands -/
theorem LoomAt.others (L : LoomAt C H A s) {c : Addr} (hc : c ∈ A.cells) (o : HO) : ∀ a, a ∈ A.cells → a ≠ c → upd H c o a = H a := fun a _ n => upd_ne n
theorem Went.newSd (W : Went C H0 A0 H A s) {d : Addr} (l : List (Str × Nat)) (z : H0 d = none) (n : d ∉ A.cells) (h : H d = some (.dK (sdK l))) :
    Went C H0 A0 (upd H A.p (.ins C.L A.dx (loomFs { A with sd := d } { s with stands := l }))) { A with sd := d } { s with stands := l } := by
  have L := W.l
  obtain ⟨k, tk⟩ := L.step (c := A.p) (at_c (i := 0) rfl) (.ins C.L A.dx (loomFs { A with sd := d } { s with stands := l }))
  have np : d ≠ A.p := fun e => n (by rw [e]; exact at_c (i := 0) rfl)
  refine ⟨⟨nd_new (A := A) (d := d) L.nd n 5 (by decide) rfl rfl, upd_same, ?_, ?_, ?_, ?_, ?_, ?_, ?_, ?_, ?_⟩, W.kp.transM k W.sub, fun a ha => ?_, W.p⟩
  · exact L.hl.tr hndStb tk (upd_ne (L.ne 1 0 (by decide) rfl rfl))
  · exact L.ev.tr evtStb tk (upd_ne (L.ne 2 0 (by decide) rfl rfl))
  · exact L.lg.tr rowStb tk (upd_ne (L.ne 3 0 (by decide) rfl rfl))
  · rw [upd_ne (L.ne 4 0 (by decide) rfl rfl)]; exact L.fr
  · exact L.frs.tr tk fun a ha => upd_ne (L.neR (i := 0) rfl ha)
  · exact (upd_ne np).trans h
  · rw [upd_ne (L.ne 6 0 (by decide) rfl rfl)]; exact L.wa
  · rw [upd_ne (L.ne 7 0 (by decide) rfl rfl)]; exact L.fo
  · exact L.rw.tr rwStb tk (upd_ne (L.ne 8 0 (by decide) rfl rfl))
  · rcases mem_new (A := A) (B := { A with sd := d }) (d := d) 5 rfl rfl a ha with q | q
    · exact W.sub a q
    · exact .inr (by rw [q]; exact z)
theorem Went.newFo (W : Went C H0 A0 H A s) {d : Addr} (l : List Nat) (z : H0 d = none) (n : d ∉ A.cells) (h : H d = some (.lst (l.map nV))) :
    Went C H0 A0 (upd H A.wa (.ins C.W A.wdx (waitFs { A with fo := d }))) { A with fo := d } { s with soon := l } := by
  have L := W.l
  obtain ⟨k, tk⟩ := L.step (c := A.wa) (at_c (i := 6) rfl) (.ins C.W A.wdx (waitFs { A with fo := d }))
  have np : d ≠ A.wa := fun e => n (by rw [e]; exact at_c (i := 6) rfl)
  refine ⟨⟨nd_new (A := A) (d := d) L.nd n 7 (by decide) rfl rfl, ?_, ?_, ?_, ?_, ?_, ?_, ?_, upd_same, ?_, ?_⟩, W.kp.transM k W.sub, fun a ha => ?_, W.p⟩
  · rw [upd_ne (L.ne 0 6 (by decide) rfl rfl)]; exact L.p
  · exact L.hl.tr hndStb tk (upd_ne (L.ne 1 6 (by decide) rfl rfl))
  · exact L.ev.tr evtStb tk (upd_ne (L.ne 2 6 (by decide) rfl rfl))
  · exact L.lg.tr rowStb tk (upd_ne (L.ne 3 6 (by decide) rfl rfl))
  · rw [upd_ne (L.ne 4 6 (by decide) rfl rfl)]; exact L.fr
  · exact L.frs.tr tk fun a ha => upd_ne (L.neR (i := 6) rfl ha)
  · rw [upd_ne (L.ne 5 6 (by decide) rfl rfl)]; exact L.sd
  · exact (upd_ne np).trans h
  · exact L.rw.tr rwStb tk (upd_ne (L.ne 8 6 (by decide) rfl rfl))
  · rcases mem_new (A := A) (B := { A with fo := d }) (d := d) 7 rfl rfl a ha with q | q
    · exact W.sub a q
    · exact .inr (by rw [q]; exact z)
theorem Went.newRw (W : Went C H0 A0 H A s) {d : Addr} (l : List (Int × Nat)) (z : H0 d = none) (n : d ∉ A.cells) (h : LstAt RwAt H d l) :
    Went C H0 A0 (upd H A.wa (.ins C.W A.wdx (waitFs { A with rw := d }))) { A with rw := d } { s with rows := l } := by
  have L := W.l
  obtain ⟨k, tk⟩ := L.step (c := A.wa) (at_c (i := 6) rfl) (.ins C.W A.wdx (waitFs { A with rw := d }))
  have np : d ≠ A.wa := fun e => n (by rw [e]; exact at_c (i := 6) rfl)
  refine ⟨⟨nd_new (A := A) (d := d) L.nd n 8 (by decide) rfl rfl, ?_, ?_, ?_, ?_, ?_, ?_, ?_, upd_same, ?_, ?_⟩, W.kp.transM k W.sub, fun a ha => ?_, W.p⟩
  · rw [upd_ne (L.ne 0 6 (by decide) rfl rfl)]; exact L.p
  · exact L.hl.tr hndStb tk (upd_ne (L.ne 1 6 (by decide) rfl rfl))
  · exact L.ev.tr evtStb tk (upd_ne (L.ne 2 6 (by decide) rfl rfl))
  · exact L.lg.tr rowStb tk (upd_ne (L.ne 3 6 (by decide) rfl rfl))
  · rw [upd_ne (L.ne 4 6 (by decide) rfl rfl)]; exact L.fr
  · exact L.frs.tr tk fun a ha => upd_ne (L.neR (i := 6) rfl ha)
  · rw [upd_ne (L.ne 5 6 (by decide) rfl rfl)]; exact L.sd
  · rw [upd_ne (L.ne 7 6 (by decide) rfl rfl)]; exact L.fo
  · exact h.tr rwStb tk (upd_ne np)
  · rcases mem_new (A := A) (B := { A with rw := d }) (d := d) 8 rfl rfl a ha with q | q
    · exact W.sub a q
    · exact .inr (by rw [q]; exact z)
/-- the frames' list and what else stands when a list of the same cells stands at fr -/
theorem Went.pushFr (W : Went C H0 A0 H A s) {B : FrA} {f : Frm} (hB : FrmAt C.F H B f) (n1 : B.fa ∉ A.cells) (n2 : B.lc ∉ A.cells) (n3 : B.fa ≠ B.lc) (z1 : H0 B.fa = none) (z2 : H0 B.lc = none) :
    Went C H0 A0 (upd H A.fr (.lst ((A.frs ++ [B]).map fun f => V.ref f.fa))) { A with frs := A.frs ++ [B] } { s with frames := s.frames ++ [f] } := by
  have L := W.l
  obtain ⟨k, tk⟩ := L.step (c := A.fr) (at_c (i := 4) rfl) (.lst ((A.frs ++ [B]).map fun f => V.ref f.fa))
  have q1 : B.fa ≠ A.fr := fun e => n1 (by rw [e]; exact at_c (i := 4) rfl)
  have q2 : B.lc ≠ A.fr := fun e => n2 (by rw [e]; exact at_c (i := 4) rfl)
  have ec : LoomA.cells { A with frs := A.frs ++ [B] } = A.cells ++ [B.fa, B.lc] := by
    show A.fix ++ frCells (A.frs ++ [B]) = (A.fix ++ frCells A.frs) ++ [B.fa, B.lc]
    rw [frCells_app, List.append_assoc]
    rfl
  refine ⟨⟨?_, ?_, ?_, ?_, ?_, upd_same, ?_, ?_, ?_, ?_, ?_⟩, W.kp.transM k W.sub, fun a ha => ?_, W.p⟩
  · rw [ec]
    refine List.nodup_append.mpr ⟨L.nd, by simp [n3], fun a ha b hb e => ?_⟩
    subst e
    simp at hb
    rcases hb with rfl | rfl
    · exact n1 ha
    · exact n2 ha
  · rw [upd_ne (L.ne 0 4 (by decide) rfl rfl)]; exact L.p
  · exact L.hl.tr hndStb tk (upd_ne (L.ne 1 4 (by decide) rfl rfl))
  · exact L.ev.tr evtStb tk (upd_ne (L.ne 2 4 (by decide) rfl rfl))
  · exact L.lg.tr rowStb tk (upd_ne (L.ne 3 4 (by decide) rfl rfl))
  · exact (L.frs.tr tk fun a ha => upd_ne (L.neR (i := 4) rfl ha)).snoc (hB.tr tk (upd_ne q1) (upd_ne q2))
  · rw [upd_ne (L.ne 5 4 (by decide) rfl rfl)]; exact L.sd
  · rw [upd_ne (L.ne 6 4 (by decide) rfl rfl)]; exact L.wa
  · rw [upd_ne (L.ne 7 4 (by decide) rfl rfl)]; exact L.fo
  · exact L.rw.tr rwStb tk (upd_ne (L.ne 8 4 (by decide) rfl rfl))
  · rw [ec] at ha
    rcases List.mem_append.mp ha with q | q
    · exact W.sub a q
    · simp at q
      rcases q with rfl | rfl
      · exact .inr z1
      · exact .inr z2
theorem LoomAt.popFr (L : LoomAt C H A s) {Bs : List FrA} {B : FrA} {fs : List Frm} {f : Frm} (eA : A.frs = Bs ++ [B]) (es : s.frames = fs ++ [f]) :
    Went C H A (upd H A.fr (.lst (Bs.map fun f => V.ref f.fa))) { A with frs := Bs } { s with frames := fs } := by
  obtain ⟨k, tk⟩ := L.step (c := A.fr) (at_c (i := 4) rfl) (.lst (Bs.map fun f => V.ref f.fa))
  have ec : A.cells = (A.fix ++ frCells Bs) ++ [B.fa, B.lc] := by
    show A.fix ++ frCells A.frs = _
    rw [eA, frCells_app, List.append_assoc]
    rfl
  have fr0 := L.frs
  rw [eA, es] at fr0
  obtain ⟨Bs', B', eB, t1, t2⟩ := fr0.unsnoc
  obtain ⟨rfl, hh⟩ := List.append_inj' eB rfl
  refine ⟨⟨?_, ?_, ?_, ?_, ?_, upd_same, ?_, ?_, ?_, ?_, ?_⟩, k, fun a ha => .inl ?_, rfl⟩
  · have := L.nd
    rw [ec] at this
    exact (List.nodup_append.mp this).1
  · rw [upd_ne (L.ne 0 4 (by decide) rfl rfl)]; exact L.p
  · exact L.hl.tr hndStb tk (upd_ne (L.ne 1 4 (by decide) rfl rfl))
  · exact L.ev.tr evtStb tk (upd_ne (L.ne 2 4 (by decide) rfl rfl))
  · exact L.lg.tr rowStb tk (upd_ne (L.ne 3 4 (by decide) rfl rfl))
  · exact t1.tr tk fun a ha => upd_ne (L.neR (i := 4) rfl (by rw [eA, frCells_app]; exact List.mem_append.mpr (.inl ha)))
  · rw [upd_ne (L.ne 5 4 (by decide) rfl rfl)]; exact L.sd
  · rw [upd_ne (L.ne 6 4 (by decide) rfl rfl)]; exact L.wa
  · rw [upd_ne (L.ne 7 4 (by decide) rfl rfl)]; exact L.fo
  · exact L.rw.tr rwStb tk (upd_ne (L.ne 8 4 (by decide) rfl rfl))
  · rw [ec]
    exact List.mem_append.mpr (.inl ha)
/-- what is known of the innermost frame's record -/
theorem LoomAt.last (L : LoomAt C H A s) {fs : List Frm} {f : Frm} (es : s.frames = fs ++ [f]) : ∃ Bs B, A.frs = Bs ++ [B] ∧ FrsAt C.F H Bs fs ∧ FrmAt C.F H B f ∧ B.fa ∈ A.cells ∧ B.lc ∈ A.cells ∧ B.fa ≠ B.lc ∧
    (∀ a ∈ A.fix, a ≠ B.fa ∧ a ≠ B.lc) ∧ ∀ a ∈ frCells Bs, a ≠ B.fa ∧ a ≠ B.lc := by
  have fr0 := L.frs
  rw [es] at fr0
  obtain ⟨Bs, B, eB, t1, t2⟩ := fr0.unsnoc
  have nd : (A.fix ++ (frCells Bs ++ [B.fa, B.lc])).Nodup := by
    have h := L.nd
    have e : A.cells = A.fix ++ (frCells Bs ++ [B.fa, B.lc]) := by
      show A.fix ++ frCells A.frs = _
      rw [eB, frCells_app]
      rfl
    rw [e] at h
    exact h
  have m : ∀ a, a ∈ frCells Bs ++ [B.fa, B.lc] → a ∈ A.cells := fun a ha => by
    show a ∈ A.fix ++ frCells A.frs
    rw [eB, frCells_app]
    exact List.mem_append.mpr (.inr ha)
  obtain ⟨_, n2, n3⟩ := List.nodup_append.mp nd
  obtain ⟨_, n4, n5⟩ := List.nodup_append.mp n2
  refine ⟨Bs, B, eB, t1, t2, m _ (by simp), m _ (by simp), ?_, fun a ha => ⟨n3 a ha _ (by simp), n3 a ha _ (by simp)⟩, fun a ha => ⟨n5 a ha _ (by simp), n5 a ha _ (by simp)⟩⟩
  have := n4
  simp at this
  exact this
theorem LoomAt.setFrm (L : LoomAt C H A s) {Bs : List FrA} {B : FrA} {fs : List Frm} {f : Frm} (eA : A.frs = Bs ++ [B]) (es : s.frames = fs ++ [f]) (f' : Frm) {dq : Addr} (hc : f'.called = f.called) (hd : DdsAt H dq f'.deeds) :
    Went C H A (upd H B.fa (.ins C.F B.dx (frmFs f' B.lc dq))) A { s with frames := fs ++ [f'] } := by
  obtain ⟨Bs', B', eB, t1, t2, m1, m2, ne, nf, nb⟩ := L.last es
  rw [eA] at eB
  obtain ⟨rfl, hh⟩ := List.append_inj' eB rfl
  have hh : B = B' := by simpa using hh
  subst hh
  obtain ⟨k, tk⟩ := L.step m1 (.ins C.F B.dx (frmFs f' B.lc dq))
  obtain ⟨dq0, _, g2, _⟩ := t2
  have nx : ∀ {i a}, A.fix[i]? = some a → a ≠ B.fa := fun h => (nf _ (List.mem_of_getElem? h)).1
  refine ⟨⟨L.nd, ?_, ?_, ?_, ?_, ?_, ?_, ?_, ?_, ?_, ?_⟩, k, fun _ h => .inl h, rfl⟩
  · rw [upd_ne (nx (i := 0) rfl)]; exact L.p
  · exact L.hl.tr hndStb tk (upd_ne (nx (i := 1) rfl))
  · exact L.ev.tr evtStb tk (upd_ne (nx (i := 2) rfl))
  · exact L.lg.tr rowStb tk (upd_ne (nx (i := 3) rfl))
  · rw [upd_ne (nx (i := 4) rfl)]; exact L.fr
  · rw [eA]
    refine (t1.tr tk fun a ha => upd_ne (nb a ha).1).snoc ⟨dq, upd_same, ?_, hd.tk tk⟩
    rw [hc]
    exact g2.tr callStb tk (upd_ne (Ne.symm ne))
  · rw [upd_ne (nx (i := 5) rfl)]; exact L.sd
  · rw [upd_ne (nx (i := 6) rfl)]; exact L.wa
  · rw [upd_ne (nx (i := 7) rfl)]; exact L.fo
  · exact L.rw.tr rwStb tk (upd_ne (nx (i := 8) rfl))
theorem LoomAt.setLc (L : LoomAt C H A s) {Bs : List FrA} {B : FrA} {fs : List Frm} {f : Frm} (eA : A.frs = Bs ++ [B]) (es : s.frames = fs ++ [f]) {cs : List V} {l : List (Str × Nat)} (h : Paired (CallAt H) cs l) :
    Went C H A (upd H B.lc (.lst cs)) A { s with frames := fs ++ [{ f with called := l }] } := by
  obtain ⟨Bs', B', eB, t1, t2, m1, m2, ne, nf, nb⟩ := L.last es
  rw [eA] at eB
  obtain ⟨rfl, hh⟩ := List.append_inj' eB rfl
  have hh : B = B' := by simpa using hh
  subst hh
  obtain ⟨k, tk⟩ := L.step m2 (.lst cs)
  obtain ⟨dq0, g1, g2, g3⟩ := t2
  have nx : ∀ {i a}, A.fix[i]? = some a → a ≠ B.lc := fun h => (nf _ (List.mem_of_getElem? h)).2
  refine ⟨⟨L.nd, ?_, ?_, ?_, ?_, ?_, ?_, ?_, ?_, ?_, ?_⟩, k, fun _ h => .inl h, rfl⟩
  · rw [upd_ne (nx (i := 0) rfl)]; exact L.p
  · exact L.hl.tr hndStb tk (upd_ne (nx (i := 1) rfl))
  · exact L.ev.tr evtStb tk (upd_ne (nx (i := 2) rfl))
  · exact L.lg.tr rowStb tk (upd_ne (nx (i := 3) rfl))
  · rw [upd_ne (nx (i := 4) rfl)]; exact L.fr
  · rw [eA]
    exact (t1.tr tk fun a ha => upd_ne (nb a ha).2).snoc ⟨dq0, by rw [upd_ne ne]; exact g1, LstAt.put callStb tk h, g3.tk tk⟩
  · rw [upd_ne (nx (i := 5) rfl)]; exact L.sd
  · rw [upd_ne (nx (i := 6) rfl)]; exact L.wa
  · rw [upd_ne (nx (i := 7) rfl)]; exact L.fo
  · exact L.rw.tr rwStb tk (upd_ne (nx (i := 8) rfl))
/-- the innermost frame's list of those still to be called is a new, empty one -/
theorem Went.hush (W : Went C H0 A0 H A s) {Bs : List FrA} {B : FrA} {fs : List Frm} {f : Frm} (eA : A.frs = Bs ++ [B]) (es : s.frames = fs ++ [f]) {d dq : Addr} (z : H0 d = none) (n : d ∉ A.cells) (h : H d = some (.lst []))
    (hd : DdsAt H dq f.deeds) :
    Went C H0 A0 (upd H B.fa (.ins C.F B.dx (frmFs { f with called := [] } d dq))) { A with frs := Bs ++ [{ B with lc := d }] } { s with frames := fs ++ [{ f with called := [] }] } := by
  have L := W.l
  obtain ⟨Bs', B', eB, t1, t2, m1, m2, ne, nf, nb⟩ := L.last es
  rw [eA] at eB
  obtain ⟨rfl, hh⟩ := List.append_inj' eB rfl
  have hh : B = B' := by simpa using hh
  subst hh
  obtain ⟨k, tk⟩ := L.step m1 (.ins C.F B.dx (frmFs { f with called := [] } d dq))
  have nx : ∀ {i a}, A.fix[i]? = some a → a ≠ B.fa := fun h => (nf _ (List.mem_of_getElem? h)).1
  have ndf : d ≠ B.fa := fun e => n (by rw [e]; exact m1)
  have nd : (A.fix ++ (frCells Bs ++ [B.fa, B.lc])).Nodup := by
    have q := L.nd
    have e : A.cells = A.fix ++ (frCells Bs ++ [B.fa, B.lc]) := by
      show A.fix ++ frCells A.frs = _
      rw [eA, frCells_app]
      rfl
    rw [e] at q
    exact q
  have ec : LoomA.cells { A with frs := Bs ++ [{ B with lc := d }] } = A.fix ++ (frCells Bs ++ [B.fa, d]) := by
    show A.fix ++ frCells (Bs ++ [{ B with lc := d }]) = _
    rw [frCells_app]
    rfl
  have hm : ∀ a, a ∈ A.fix ∨ a ∈ frCells Bs ∨ a = B.fa → a ∈ A.cells := fun a ha => by
    show a ∈ A.fix ++ frCells A.frs
    rw [eA, frCells_app]
    rcases ha with q | q | q
    · exact List.mem_append.mpr (.inl q)
    · exact List.mem_append.mpr (.inr (List.mem_append.mpr (.inl q)))
    · exact List.mem_append.mpr (.inr (List.mem_append.mpr (.inr (by rw [q]; simp [frCells]))))
  refine ⟨⟨?_, ?_, ?_, ?_, ?_, ?_, ?_, ?_, ?_, ?_, ?_⟩, W.kp.transM k W.sub, fun a ha => ?_, W.p⟩
  · rw [ec]
    obtain ⟨n1, n2, n3⟩ := List.nodup_append.mp nd
    obtain ⟨n4, n5, n6⟩ := List.nodup_append.mp n2
    refine List.nodup_append.mpr ⟨n1, List.nodup_append.mpr ⟨n4, by simp; exact Ne.symm ndf, fun a ha b hb e => ?_⟩, fun a ha b hb e => ?_⟩
    · subst e
      simp at hb
      rcases hb with rfl | rfl
      · exact (nb _ ha).1 rfl
      · exact n (hm _ (.inr (.inl ha)))
    · subst e
      rcases List.mem_append.mp hb with hb | hb
      · exact n3 a ha a (List.mem_append.mpr (.inl hb)) rfl
      · simp at hb
        rcases hb with rfl | rfl
        · exact (nf _ ha).1 rfl
        · exact n (hm _ (.inl ha))
  · rw [upd_ne (nx (i := 0) rfl)]; exact L.p
  · exact L.hl.tr hndStb tk (upd_ne (nx (i := 1) rfl))
  · exact L.ev.tr evtStb tk (upd_ne (nx (i := 2) rfl))
  · exact L.lg.tr rowStb tk (upd_ne (nx (i := 3) rfl))
  · rw [upd_ne (nx (i := 4) rfl), L.fr, eA]
    simp
  · exact (t1.tr tk fun a ha => upd_ne (nb a ha).1).snoc ⟨dq, upd_same, ⟨[], by rw [upd_ne ndf]; exact h, .nil⟩, hd.tk tk⟩
  · rw [upd_ne (nx (i := 5) rfl)]; exact L.sd
  · rw [upd_ne (nx (i := 6) rfl)]; exact L.wa
  · rw [upd_ne (nx (i := 7) rfl)]; exact L.fo
  · exact L.rw.tr rwStb tk (upd_ne (nx (i := 8) rfl))
  · rw [ec] at ha
    rcases List.mem_append.mp ha with q | q
    · exact W.sub a (hm a (.inl q))
    · rcases List.mem_append.mp q with q | q
      · exact W.sub a (hm a (.inr (.inl q)))
      · simp at q
        rcases q with rfl | rfl
        · exact W.sub _ m1
        · exact .inr z
end
/-! ### fields -/
theorem loomFs_nd (A : LoomA) (s : LoomS) : ((loomFs A s).map Prod.fst).Nodup := by
  show (["handlers", "time", "events", "log", "frames", "fresh", "line", "stood", "standings"] : List Str).Nodup
  decide +kernel
theorem lf_handlers (A : LoomA) (s : LoomS) : (loomFs A s).lookup ("handlers" : Str) = some (.ref A.hl) := look_ix (loomFs_nd A s) (i := 0) rfl
theorem lf_time (A : LoomA) (s : LoomS) : (loomFs A s).lookup ("time" : Str) = some (.int s.time) := look_ix (loomFs_nd A s) (i := 1) rfl
theorem lf_events (A : LoomA) (s : LoomS) : (loomFs A s).lookup ("events" : Str) = some (.ref A.ev) := look_ix (loomFs_nd A s) (i := 2) rfl
theorem lf_log (A : LoomA) (s : LoomS) : (loomFs A s).lookup ("log" : Str) = some (.ref A.lg) := look_ix (loomFs_nd A s) (i := 3) rfl
theorem lf_frames (A : LoomA) (s : LoomS) : (loomFs A s).lookup ("frames" : Str) = some (.ref A.fr) := look_ix (loomFs_nd A s) (i := 4) rfl
theorem lf_fresh (A : LoomA) (s : LoomS) : (loomFs A s).lookup ("fresh" : Str) = some (onV s.fresh) := look_ix (loomFs_nd A s) (i := 5) rfl
theorem lf_line (A : LoomA) (s : LoomS) : (loomFs A s).lookup ("line" : Str) = some (.ref A.wa) := look_ix (loomFs_nd A s) (i := 6) rfl
theorem lf_stood (A : LoomA) (s : LoomS) : (loomFs A s).lookup ("stood" : Str) = some (nV s.stood) := look_ix (loomFs_nd A s) (i := 7) rfl
theorem lf_standings (A : LoomA) (s : LoomS) : (loomFs A s).lookup ("standings" : Str) = some (.ref A.sd) := look_ix (loomFs_nd A s) (i := 8) rfl
theorem lp_time (A : LoomA) (s : LoomS) (t : Int) : putF "time" (.int t) (loomFs A s) = loomFs A { s with time := t } := put_ix (loomFs_nd A s) (i := 1) rfl
theorem lp_fresh (A : LoomA) (s : LoomS) (o : Option Nat) : putF "fresh" (onV o) (loomFs A s) = loomFs A { s with fresh := o } := put_ix (loomFs_nd A s) (i := 5) rfl
theorem lp_stood (A : LoomA) (s : LoomS) (n : Nat) : putF "stood" (nV n) (loomFs A s) = loomFs A { s with stood := n } := put_ix (loomFs_nd A s) (i := 7) rfl
theorem lp_sd (A : LoomA) (s : LoomS) (d : Addr) (l : List (Str × Nat)) : putF "standings" (.ref d) (loomFs A s) = loomFs { A with sd := d } { s with stands := l } := put_ix (loomFs_nd A s) (i := 8) rfl
theorem frmFs_nd (f : Frm) (lc dq : Addr) : ((frmFs f lc dq).map Prod.fst).Nodup := by
  show (["number", "called", "deeds", "place"] : List Str).Nodup
  decide +kernel
theorem ff_number (f : Frm) (lc dq : Addr) : (frmFs f lc dq).lookup ("number" : Str) = some (nV f.number) := look_ix (frmFs_nd f lc dq) (i := 0) rfl
theorem ff_called (f : Frm) (lc dq : Addr) : (frmFs f lc dq).lookup ("called" : Str) = some (.ref lc) := look_ix (frmFs_nd f lc dq) (i := 1) rfl
theorem ff_deeds (f : Frm) (lc dq : Addr) : (frmFs f lc dq).lookup ("deeds" : Str) = some (.ref dq) := look_ix (frmFs_nd f lc dq) (i := 2) rfl
theorem ff_place (f : Frm) (lc dq : Addr) : (frmFs f lc dq).lookup ("place" : Str) = some (nV f.place) := look_ix (frmFs_nd f lc dq) (i := 3) rfl
theorem fp_place (f : Frm) (lc dq : Addr) (n : Nat) : putF "place" (nV n) (frmFs f lc dq) = frmFs { f with place := n } lc dq := put_ix (frmFs_nd f lc dq) (i := 3) rfl
theorem fp_deeds (f : Frm) (lc dq d : Addr) (l : List Deed) : putF "deeds" (.ref d) (frmFs f lc dq) = frmFs { f with deeds := l } lc d := put_ix (frmFs_nd f lc dq) (i := 2) rfl
theorem fp_called (f : Frm) (lc dq d : Addr) (l : List (Str × Nat)) : putF "called" (.ref d) (frmFs f lc dq) = frmFs { f with called := l } d dq := put_ix (frmFs_nd f lc dq) (i := 1) rfl
/-! ### those that wait -/
structure WtA where
  wa : Addr
  wdx : Addr
  fo : Addr
  rw : Addr
def WtA.cells (A : WtA) : List Addr := [A.wa, A.fo, A.rw]
def wFs (fo rw : Addr) : List (Str × V) := [("first_ones", .ref fo), ("rows", .ref rw)]
theorem wFs_nd (fo rw : Addr) : ((wFs fo rw).map Prod.fst).Nodup := by
  show (["first_ones", "rows"] : List Str).Nodup
  decide +kernel
theorem wFs_fo (fo rw : Addr) : (wFs fo rw).lookup ("first_ones" : Str) = some (.ref fo) := look_ix (wFs_nd fo rw) (i := 0) rfl
theorem wFs_rw (fo rw : Addr) : (wFs fo rw).lookup ("rows" : Str) = some (.ref rw) := look_ix (wFs_nd fo rw) (i := 1) rfl
theorem wFs_pfo (fo rw x : Addr) : putF "first_ones" (.ref x) (wFs fo rw) = wFs x rw := put_ix (wFs_nd fo rw) (i := 0) rfl
theorem wFs_prw (fo rw x : Addr) : putF "rows" (.ref x) (wFs fo rw) = wFs fo x := put_ix (wFs_nd fo rw) (i := 1) rfl
structure WaitsAt (W : Addr) (H : Hp) (A : WtA) (soon : List Nat) (rows : List (Int × Nat)) : Prop where
  n1 : A.wa ≠ A.fo
  n2 : A.wa ≠ A.rw
  n3 : A.fo ≠ A.rw
  wa : H A.wa = some (.ins W A.wdx (wFs A.fo A.rw))
  fo : H A.fo = some (.lst (soon.map nV))
  rw : LstAt RwAt H A.rw rows
/-- what a deed of those that wait leaves -/
structure WtPost (W : Addr) (H : Hp) (A : WtA) (H' : Hp) (A' : WtA) (soon : List Nat) (rows : List (Int × Nat)) : Prop where
  w : WaitsAt W H' A' soon rows
  kp : Kp A.cells H H'
  wa : A'.wa = A.wa
  wdx : A'.wdx = A.wdx
  fo : A'.fo = A.fo ∨ H A'.fo = none
  rw : A'.rw = A.rw ∨ H A'.rw = none
def LoomA.wt (A : LoomA) : WtA := ⟨A.wa, A.wdx, A.fo, A.rw⟩
theorem WaitsAt.kp {W : Addr} {H H' : Hp} {A : WtA} {soon : List Nat} {rows : List (Int × Nat)} (w : WaitsAt W H A soon rows) {M : List Addr} (k : Kp M H H') (n : ∀ a ∈ A.cells, a ∉ M) : WaitsAt W H' A soon rows := by
  obtain ⟨xs, h1, h2⟩ := w.rw
  refine ⟨w.n1, w.n2, w.n3, k.keep _ _ (n _ (by simp [WtA.cells])) w.wa, k.keep _ _ (n _ (by simp [WtA.cells])) w.fo, ⟨xs, k.keep _ _ (n _ (by simp [WtA.cells])) h1, Pd.mono (fun _ _ => rwStb _ _ _ _ k.tk) h2⟩⟩
section
variable {C : Cs} {H H' : Hp} {A : LoomA} {s : LoomS}
theorem LoomAt.waits (L : LoomAt C H A s) : WaitsAt C.W H A.wt s.soon s.rows :=
  ⟨L.ne 6 7 (by decide) rfl rfl, L.ne 6 8 (by decide) rfl rfl, L.ne 7 8 (by decide) rfl rfl, L.wa, L.fo, L.rw⟩
theorem LoomAt.wait (L : LoomAt C H A s) {A' : WtA} {soon : List Nat} {rows : List (Int × Nat)} (p : WtPost C.W H A.wt H' A' soon rows) : Went C H A H' { A with fo := A'.fo, rw := A'.rw } { s with soon := soon, rows := rows } := by
  have mem : ∀ a ∈ A.wt.cells, a ∈ A.cells := fun a ha => by
    simp [WtA.cells, LoomA.wt] at ha
    rcases ha with rfl | rfl | rfl <;> simp [LoomA.cells]
  have k : Kp A.cells H H' := p.kp.mono fun a ha => .inl (mem a ha)
  have tk := k.tk
  have same : ∀ {a : Addr} {i : Nat}, A.fix[i]? = some a → i ≠ 6 → i ≠ 7 → i ≠ 8 → H' a = H a := fun {a i} h h6 h7 h8 => by
    obtain ⟨o, e⟩ := L.has a (List.mem_append.mpr (.inl (List.mem_of_getElem? h)))
    rw [e, p.kp.keep a o (fun z => ?_) e]
    simp [WtA.cells, LoomA.wt] at z
    rcases z with z | z | z
    · exact L.ne i 6 h6 h rfl z
    · exact L.ne i 7 h7 h rfl z
    · exact L.ne i 8 h8 h rfl z
  have sameR : ∀ a ∈ frCells A.frs, H' a = H a := fun a ha => by
    obtain ⟨o, e⟩ := L.has a (List.mem_append.mpr (.inr ha))
    rw [e, p.kp.keep a o (fun z => ?_) e]
    simp [WtA.cells, LoomA.wt] at z
    rcases z with z | z | z
    · exact L.neR (i := 6) rfl ha z
    · exact L.neR (i := 7) rfl ha z
    · exact L.neR (i := 8) rfl ha z
  have nf : ∀ {d : Addr}, H d = none → d ∉ A.cells := fun h => L.fresh h
  have nd1 : LoomA.cells { A with fo := A'.fo } |>.Nodup := by
    rcases p.fo with e | e
    · rw [e]; exact L.nd
    · exact nd_new (A := A) (d := A'.fo) L.nd (nf e) 7 (by decide) rfl rfl
  have nd2 : LoomA.cells { A with fo := A'.fo, rw := A'.rw } |>.Nodup := by
    rcases p.rw with e | e
    · rw [e]; exact nd1
    · refine nd_new (A := { A with fo := A'.fo }) (d := A'.rw) nd1 (fun z => ?_) 8 (by decide) rfl rfl
      rcases mem_new (A := A) (B := { A with fo := A'.fo }) (d := A'.fo) 7 rfl rfl _ z with z | z
      · exact nf e z
      · exact p.w.n3 z.symm
  have ewa : A'.wa = A.wa := p.wa
  have ewd : A'.wdx = A.wdx := p.wdx
  refine ⟨⟨nd2, ?_, ?_, ?_, ?_, ?_, ?_, ?_, ?_, p.w.fo, p.w.rw⟩, k, fun a ha => ?_, rfl⟩
  · rw [same (i := 0) rfl (by decide) (by decide) (by decide)]; exact L.p
  · exact L.hl.tr hndStb tk (same (i := 1) rfl (by decide) (by decide) (by decide))
  · exact L.ev.tr evtStb tk (same (i := 2) rfl (by decide) (by decide) (by decide))
  · exact L.lg.tr rowStb tk (same (i := 3) rfl (by decide) (by decide) (by decide))
  · rw [same (i := 4) rfl (by decide) (by decide) (by decide)]; exact L.fr
  · exact L.frs.tr tk sameR
  · rw [same (i := 5) rfl (by decide) (by decide) (by decide)]; exact L.sd
  · have q := p.w.wa
    rw [ewa, ewd] at q
    exact q
  · rcases mem_new (A := { A with fo := A'.fo }) (B := { A with fo := A'.fo, rw := A'.rw }) (d := A'.rw) 8 rfl rfl a ha with z | z
    · rcases mem_new (A := A) (B := { A with fo := A'.fo }) (d := A'.fo) 7 rfl rfl a z with z | z
      · exact .inl z
      · subst z
        rcases p.fo with e | e
        · exact .inl (by rw [e]; simp [LoomA.cells, LoomA.wt])
        · exact .inr e
    · subst z
      rcases p.rw with e | e
      · exact .inl (by rw [e]; simp [LoomA.cells, LoomA.wt])
      · exact .inr e
end
/-! ### the waits' mirror -/
def rowGt (r q : Int × Nat) : Bool := decide (q.1 < r.1 ∨ (r.1 = q.1 ∧ q.2 < r.2))
/-- the place of q among the first k rows, from behind -/
def placeOf (rows : List (Int × Nat)) (q : Int × Nat) : Nat → Nat
  | 0 => 0
  | k + 1 => match rows[k]? with
    | some r => if rowGt r q then placeOf rows q k else k + 1
    | none => k + 1
def laterM (rows : List (Int × Nat)) (q : Int × Nat) : List (Int × Nat) := rows.take (placeOf rows q rows.length) ++ [q] ++ rows.drop (placeOf rows q rows.length)
theorem placeOf_le (rows : List (Int × Nat)) (q : Int × Nat) : ∀ k, placeOf rows q k ≤ k
  | 0 => Nat.le_refl _
  | k + 1 => by
    unfold placeOf
    split
    · split
      · exact Nat.le_succ_of_le (placeOf_le rows q k)
      · exact Nat.le_refl _
    · exact Nat.le_refl _
/-! ### the loom's mirror -/
def lk (l : List (Str × Nat)) (x : Str) : Option Nat := (l.find? fun c => decide (c.1 = x)).map Prod.snd
theorem lk_pos {c : Str × Nat} {l : List (Str × Nat)} {x : Str} (h : c.1 = x) : lk (c :: l) x = some c.2 := by
  unfold lk
  rw [List.find?_cons, decide_eq_true h]
  rfl
theorem lk_neg {c : Str × Nat} {l : List (Str × Nat)} {x : Str} (h : ¬ c.1 = x) : lk (c :: l) x = lk l x := by
  unfold lk
  rw [List.find?_cons, decide_eq_false h]
theorem sd_val : ∀ (l : List (Str × Nat)) (x : Str), valV (sdK l) (Sum.inr x) = (lk l x).map nV
  | [], _ => rfl
  | c :: l, x => by
    have ih := sd_val l x
    show valV ((Sum.inr c.1, nV c.2) :: sdK l) (Sum.inr x) = _
    by_cases h : c.1 = x
    · rw [lk_pos h, valV_pos (show (Sum.inr c.1 : Key) = Sum.inr x by rw [h])]
      rfl
    · rw [lk_neg h, valV_neg (show ¬ (Sum.inr c.1 : Key) = Sum.inr x from fun q => h (Sum.inr.inj q)), ih]
theorem lk_none {l : List (Str × Nat)} {x : Str} : lk l x = none ↔ x ∉ l.map Prod.fst := by
  unfold lk
  rw [Option.map_eq_none_iff, List.find?_eq_none]
  constructor
  · intro h q
    obtain ⟨c, hc, e⟩ := List.mem_map.mp q
    exact h c hc (decide_eq_true e)
  · intro h c hc q
    exact h (List.mem_map.mpr ⟨c, hc, of_decide_eq_true q⟩)
theorem sd_put {l : List (Str × Nat)} {x : Str} {n : Nat} (h : lk l x = none) : putK (sdK l) (Sum.inr x) (nV n) = sdK (l ++ [(x, n)]) := by
  unfold putK
  have e : ((sdK l).any fun kv => decide (kv.1 = Sum.inr x)) = false := by
    rw [List.any_eq_false]
    intro kv hkv q
    obtain ⟨c, hc, rfl⟩ := List.mem_map.mp hkv
    have q := of_decide_eq_true q
    exact lk_none.mp h (List.mem_map.mpr ⟨c, hc, Sum.inr.inj q⟩)
  rw [if_neg (by rw [e]; decide)]
  simp [sdK]
def LoomS.come (s : LoomS) (x : Str) : LoomS := if (lk s.stands x).isSome then s else { s with stood := s.stood + 1, stands := s.stands ++ [(x, s.stood + 1)] }
def LoomS.go (s : LoomS) (x : Str) : LoomS := { s with stands := s.stands.filter fun c => decide (c.1 ≠ x) }
def LoomS.sendM (s : LoomS) (z : Str) : LoomS :=
  { s with events := s.events ++ [⟨z, none, .wait, s.time⟩], rows := laterM s.rows (s.time, s.events.length), log := s.log ++ [.send s.events.length] }
/-- an event that a deed makes -/
def LoomS.mk1 (s : LoomS) (m : Nat) (z : Str) (r : Road) (t : Int) : LoomS := { s with events := s.events ++ [⟨z, some m, r, s.time + t⟩] }
def LoomS.logd (s : LoomS) (r : Row) : LoomS := { s with log := s.log ++ [r] }
/-- a deed of the innermost event n -/
def LoomS.doM (s : LoomS) (n : Nat) : Deed → LoomS
  | .now z => LoomS.logd { (s.mk1 n z .now 0) with fresh := some s.events.length } (.make n s.events.length)
  | .soon z => LoomS.logd { (s.mk1 n z .soon 0) with soon := s.soon ++ [s.events.length] } (.make n s.events.length)
  | .wait t z => LoomS.logd { (s.mk1 n z .wait t) with rows := laterM s.rows (s.time + t, s.events.length) } (.make n s.events.length)
  | .cancel z =>
    let ns := (s.soon ++ s.rows.map Prod.snd).filter fun k => decide ((s.events[k]?.map Evt.word) = some z)
    LoomS.logd { s with soon := s.soon.filter (fun k => !decide (k ∈ ns)), rows := s.rows.filter fun r => !decide (r.2 ∈ ns) } (.cancel n (ns.mergeSort fun a b => decide (a ≤ b)))
  | .join x => (s.come x).logd (.join n x)
  | .leave x => (s.go x).logd (.leave n x)
  | .hush => LoomS.logd { s with frames := s.frames.dropLast ++ (s.frames.getLast?.map fun f => { f with called := [] }).toList } (.hush n)
def loomNs : List Str := ["handlers", "time", "events", "log", "frames", "fresh", "line", "stood", "standings"]
theorem lf_no {A : LoomA} {s : LoomS} {m : Str} (h : m ∉ loomNs) : (loomFs A s).lookup m = none := look_no h
def wNs : List Str := ["first_ones", "rows"]
theorem wf_no {fo rw : Addr} {m : Str} (h : m ∉ wNs) : (wFs fo rw).lookup m = none := look_no h
theorem Went.to {C : Cs} {H H' : Hp} {A A' : LoomA} {s s' : LoomS} (W : Went C H A H' A' s) (e : s = s') : Went C H A H' A' s' := e ▸ W
theorem LoomAt.frm {C : Cs} {H : Hp} {A : LoomA} {s : LoomS} (L : LoomAt C H A s) {Bs : List FrA} {B : FrA} {fs : List Frm} {f : Frm} (eA : A.frs = Bs ++ [B]) (es : s.frames = fs ++ [f]) : FrmAt C.F H B f := by
  obtain ⟨Bs', B', eB, t1, t2, _⟩ := L.last es
  rw [eA] at eB
  obtain ⟨rfl, hh⟩ := List.append_inj' eB rfl
  have hh : B = B' := by simpa using hh
  subst hh
  exact t2
def LoomS.last (s : LoomS) (f : Frm) : LoomS := { s with frames := s.frames.dropLast ++ [f] }
theorem last_eq {s : LoomS} {fs : List Frm} {f f' : Frm} (es : s.frames = fs ++ [f]) : s.last f' = { s with frames := fs ++ [f'] } := by
  unfold LoomS.last
  rw [es, List.dropLast_concat]
/-- a handler is called for the innermost event -/
def LoomS.callM (s : LoomS) (f : Frm) (x : Str) (h : Hnd) : LoomS :=
  let s2 := (s.last { f with deeds := h.deeds, place := 0 }).logd (.call f.number x)
  if h.once then s2.go x else s2
def frmNs : List Str := ["number", "called", "deeds", "place"]
theorem ff_no {f : Frm} {lc dq : Addr} {m : Str} (h : m ∉ frmNs) : (frmFs f lc dq).lookup m = none := look_no h
end Ev
namespace Ev
open PySem L2
def top (i : Nat) : Stmt := PySem.Challenge.pw_eventloom_k03_waits.main.body.getD i (.Pass ⟨0, 0, 0, 0⟩)
abbrev s_WaitsInit : Stmt := inClass (top 1) 0
abbrev nm_WaitsInit : List Str := ["self"]
theorem sc_WaitsInit : FnScope nm_WaitsInit ["self"] (defScope s_WaitsInit) := ⟨rfl, rfl, rfl, by decide +kernel, rfl, by decide +kernel, by decide +kernel⟩
abbrev s_WaitsSooner : Stmt := inClass (top 1) 1
abbrev nm_WaitsSooner : List Str := ["self", "number"]
theorem sc_WaitsSooner : FnScope nm_WaitsSooner ["self", "number"] (defScope s_WaitsSooner) := ⟨rfl, rfl, rfl, by decide +kernel, rfl, by decide +kernel, by decide +kernel⟩
abbrev s_WaitsLater : Stmt := inClass (top 1) 2
abbrev nm_WaitsLater : List Str := ["self", "number", "due", "place"]
theorem sc_WaitsLater : FnScope nm_WaitsLater ["self", "number", "due"] (defScope s_WaitsLater) := ⟨rfl, rfl, rfl, by decide +kernel, rfl, by decide +kernel, by decide +kernel⟩
abbrev s_WaitsLineup : Stmt := inClass (top 1) 3
abbrev nm_WaitsLineup : List Str := ["self", "row"]
theorem sc_WaitsLineup : FnScope nm_WaitsLineup ["self"] (defScope s_WaitsLineup) := ⟨rfl, rfl, rfl, by decide +kernel, rfl, by decide +kernel, by decide +kernel⟩
abbrev s_WaitsLead : Stmt := inClass (top 1) 4
abbrev nm_WaitsLead : List Str := ["self", "due", "number"]
theorem sc_WaitsLead : FnScope nm_WaitsLead ["self"] (defScope s_WaitsLead) := ⟨rfl, rfl, rfl, by decide +kernel, rfl, by decide +kernel, by decide +kernel⟩
abbrev s_WaitsDrop : Stmt := inClass (top 1) 5
abbrev nm_WaitsDrop : List Str := ["self", "numbers", "one", "row"]
theorem sc_WaitsDrop : FnScope nm_WaitsDrop ["self", "numbers"] (defScope s_WaitsDrop) := ⟨rfl, rfl, rfl, by decide +kernel, rfl, by decide +kernel, by decide +kernel⟩
abbrev s_lnumber : Stmt := top 3
abbrev nm_lnumber : List Str := ["_law_count"]
theorem sc_lnumber : FnScope nm_lnumber ["_law_count"] (defScope s_lnumber) := ⟨rfl, rfl, rfl, by decide +kernel, rfl, by decide +kernel, by decide +kernel⟩
abbrev s_lpairsRise : Stmt := top 4
abbrev nm_lpairsRise : List Str := ["_law_rows", "_law_k"]
theorem sc_lpairsRise : FnScope nm_lpairsRise ["_law_rows"] (defScope s_lpairsRise) := ⟨rfl, rfl, rfl, by decide +kernel, rfl, by decide +kernel, by decide +kernel⟩
abbrev s_lgood : Stmt := top 5
abbrev nm_lgood : List Str := ["_law_found", "_law_soon", "_law_late", "_law_number_here", "_law_rows"]
theorem sc_lgood : FnScope nm_lgood ["_law_found", "_law_soon", "_law_late"] (defScope s_lgood) := ⟨rfl, rfl, rfl, by decide +kernel, rfl, by decide +kernel, by decide +kernel⟩
abbrev s_ltaken : Stmt := top 6
abbrev nm_ltaken : List Str := ["_law_waits", "_law_soon", "_law_late", "_law_ahead", "_law_found", "_law_number_here"]
theorem sc_ltaken : FnScope nm_ltaken ["_law_waits", "_law_soon", "_law_late"] (defScope s_ltaken) := ⟨rfl, rfl, rfl, by decide +kernel, rfl, by decide +kernel, by decide +kernel⟩
abbrev s_ldropped : Stmt := top 7
abbrev nm_ldropped : List Str := ["_law_waits", "_law_cell", "_law_count", "_law_soon", "_law_late", "_law_numbers", "_law_given", "_law_stays", "_law_number_here", "_law_k"]
theorem sc_ldropped : FnScope nm_ldropped ["_law_waits", "_law_cell", "_law_count", "_law_soon", "_law_late"] (defScope s_ldropped) := ⟨rfl, rfl, rfl, by decide +kernel, rfl, by decide +kernel, by decide +kernel⟩
abbrev s_law : Stmt := top 8
abbrev nm_law : List Str := ["_law_script", "_law_waits", "_law_soon", "_law_late", "_law_count", "_law_cell", "_law_kept", "_law_ahead", "_law_kind", "_law_number_here", "_law_due"]
theorem sc_law : FnScope nm_law ["_law_script"] (defScope s_law) := ⟨rfl, rfl, rfl, by decide +kernel, rfl, by decide +kernel, by decide +kernel⟩
structure Tx (K : PySem.W.Frag) (mg : Str → Option Value) where
  c_Waits : Addr
  g_Waits : mg "Waits" = some (.ref c_Waits)
  cl_Waits : Cls K c_Waits
  n_Waits_first_ones : NoAttr K c_Waits "first_ones"
  n_Waits_rows : NoAttr K c_Waits "rows"
  f_WaitsInit : Addr
  d_WaitsInit : FuncData
  F_WaitsInit : Fun K "__init__" "Waits.__init__" s_WaitsInit f_WaitsInit d_WaitsInit
  b_WaitsInit : Binds K d_WaitsInit ["self"] []
  mk_Waits : Mk K c_Waits f_WaitsInit
  f_WaitsSooner : Addr
  d_WaitsSooner : FuncData
  F_WaitsSooner : Fun K "sooner" "Waits.sooner" s_WaitsSooner f_WaitsSooner d_WaitsSooner
  b_WaitsSooner : Binds K d_WaitsSooner ["self", "number"] []
  m_WaitsSooner : Meth K c_Waits "sooner" f_WaitsSooner
  f_WaitsLater : Addr
  d_WaitsLater : FuncData
  F_WaitsLater : Fun K "later" "Waits.later" s_WaitsLater f_WaitsLater d_WaitsLater
  b_WaitsLater : Binds K d_WaitsLater ["self", "number", "due"] []
  m_WaitsLater : Meth K c_Waits "later" f_WaitsLater
  f_WaitsLineup : Addr
  d_WaitsLineup : FuncData
  F_WaitsLineup : Fun K "lineup" "Waits.lineup" s_WaitsLineup f_WaitsLineup d_WaitsLineup
  b_WaitsLineup : Binds K d_WaitsLineup ["self"] []
  m_WaitsLineup : Meth K c_Waits "lineup" f_WaitsLineup
  f_WaitsLead : Addr
  d_WaitsLead : FuncData
  F_WaitsLead : Fun K "lead" "Waits.lead" s_WaitsLead f_WaitsLead d_WaitsLead
  b_WaitsLead : Binds K d_WaitsLead ["self"] []
  m_WaitsLead : Meth K c_Waits "lead" f_WaitsLead
  f_WaitsDrop : Addr
  d_WaitsDrop : FuncData
  F_WaitsDrop : Fun K "drop" "Waits.drop" s_WaitsDrop f_WaitsDrop d_WaitsDrop
  b_WaitsDrop : Binds K d_WaitsDrop ["self", "numbers"] []
  m_WaitsDrop : Meth K c_Waits "drop" f_WaitsDrop
  f_lnumber : Addr
  d_lnumber : FuncData
  F_lnumber : Fun K "_law_number" "_law_number" s_lnumber f_lnumber d_lnumber
  b_lnumber : Binds K d_lnumber ["_law_count"] []
  g_lnumber : mg "_law_number" = some (.ref f_lnumber)
  f_lpairsRise : Addr
  d_lpairsRise : FuncData
  F_lpairsRise : Fun K "_law_pairs_rise" "_law_pairs_rise" s_lpairsRise f_lpairsRise d_lpairsRise
  b_lpairsRise : Binds K d_lpairsRise ["_law_rows"] []
  g_lpairsRise : mg "_law_pairs_rise" = some (.ref f_lpairsRise)
  f_lgood : Addr
  d_lgood : FuncData
  F_lgood : Fun K "_law_good" "_law_good" s_lgood f_lgood d_lgood
  b_lgood : Binds K d_lgood ["_law_found", "_law_soon", "_law_late"] []
  g_lgood : mg "_law_good" = some (.ref f_lgood)
  f_ltaken : Addr
  d_ltaken : FuncData
  F_ltaken : Fun K "_law_taken" "_law_taken" s_ltaken f_ltaken d_ltaken
  b_ltaken : Binds K d_ltaken ["_law_waits", "_law_soon", "_law_late"] []
  g_ltaken : mg "_law_taken" = some (.ref f_ltaken)
  f_ldropped : Addr
  d_ldropped : FuncData
  F_ldropped : Fun K "_law_dropped" "_law_dropped" s_ldropped f_ldropped d_ldropped
  b_ldropped : Binds K d_ldropped ["_law_waits", "_law_cell", "_law_count", "_law_soon", "_law_late"] []
  g_ldropped : mg "_law_dropped" = some (.ref f_ldropped)
  f_law : Addr
  d_law : FuncData
  F_law : Fun K "law" "law" s_law f_law d_law
  b_law : Binds K d_law ["_law_script"] []
  g_law : mg "law" = some (.ref f_law)
  z_len : mg "len" = none
  z_range : mg "range" = none
  z_isinstance : mg "isinstance" = none
  z_list : mg "list" = none
  z_int : mg "int" = none
  z_bool : mg "bool" = none
  z_tuple : mg "tuple" = none
end Ev
namespace Ev
open PySem L2
section
variable {P : Program} {w : World} {K : PySem.W.Frag} {mg : Str → Option Value} {base : Heap}
theorem flat_nats (l : List Nat) : (l.map nV).all flatV = true := by simp [flatV, nV]
theorem inV_nats (x : Nat) (l : List Nat) : inV (nV x) (l.map nV) = decide (x ∈ l) := by
  unfold inV
  induction l with
  | nil => simp
  | cons y l ih =>
    rw [List.map_cons, List.any_cons, ih]
    have e : eqV (nV y) (nV x) = decide (y = x) := by
      show ((y : Int) == (x : Int)) = decide (y = x)
      rw [Bool.eq_iff_iff]
      simp
      omega
    rw [e]
    by_cases h : y = x <;> simp [h, eq_comm]
    by_cases h2 : x = y
    · exact absurd h2.symm h
    · simp [h2]
def sp_WaitsInit (W : Addr) : Sp := fun vs H Q _ => ∃ (p dx : Addr), vs = [.ref p] ∧ H p = some (.ins W dx []) ∧
  ∀ H' A', WaitsAt W H' A' [] [] → Kp [p] H H' → A'.wa = p → A'.wdx = dx → H A'.fo = none → H A'.rw = none → Q .non H'
theorem ok_WaitsInit (T : Tx K mg) : FnOk P w K mg base CX0 1 T.f_WaitsInit T.d_WaitsInit ["self"] (sp_WaitsInit T.c_Waits) := by
  refine T.F_WaitsInit.ok sc_WaitsInit (by walk_at "len") (fun cdv A outer s H vs Q E hr h => ?_)
  obtain ⟨p, dx, rfl, hp, k⟩ := h
  refine ⟨_, (pss_cons (ps_fld (pv 0) (pe_lst pa_nil) rfl)
    (pss_one (ps_fld (pv 0) (pe_lst pa_nil) rfl))), ?_⟩
  refine ⟨Nat.zero_le _, fun f hf => ?_⟩
  have k1 : Kp [p] H (upd H f (.lst [])) := (Kp.refl _ _).new hf
  have hp1 : upd H f (.lst []) p = some (.ins T.c_Waits dx []) := by rw [upd_ne (ne_of_none hp hf)]; exact hp
  refine ⟨_, rfl, p, _, dx, [], rfl, hp1, T.cl_Waits, T.n_Waits_first_ones, by decide, ?_⟩
  have k2 := k1.ins (o := .ins T.c_Waits dx (putF "first_ones" (.ref f) [])) (.inl (by simp)) hp1
  refine ⟨Nat.zero_le _, fun r hr' => ?_⟩
  have k3 := k2.new (o := .lst []) hr'
  have npr : p ≠ r := (upd_none hr').1.symm
  have hp3 : upd (upd (upd H f (.lst [])) p (.ins T.c_Waits dx (putF "first_ones" (.ref f) []))) r (.lst []) p = some (.ins T.c_Waits dx (putF "first_ones" (.ref f) [])) := by rw [upd_ne npr]; exact upd_same
  refine ⟨_, rfl, p, _, dx, _, rfl, hp3, T.cl_Waits, T.n_Waits_rows, (by show 1 < 1000; decide), ?_⟩
  have k4 := k3.ins (o := .ins T.c_Waits dx (putF "rows" (.ref r) (putF "first_ones" (.ref f) []))) (.inl (by simp)) hp3
  have nrf : r ≠ f := (upd_none (upd_none hr').2).1
  have npf : p ≠ f := ne_of_none hp hf
  have e : putF "rows" (.ref r) (putF "first_ones" (.ref f) []) = wFs f r := put_new (l := [("first_ones", V.ref f)]) (by show ("rows" : Str) ∉ (["first_ones"] : List Str); decide +kernel)
  refine k _ ⟨p, dx, f, r⟩ ⟨npf, npr, Ne.symm nrf, ?_, ?_, ?_⟩ k4 rfl rfl hf (k2.dom _ hr')
  · rw [← e]; exact upd_same
  · show upd _ p _ f = _
    rw [upd_ne (Ne.symm npf), upd_ne (Ne.symm nrf), upd_ne (Ne.symm npf)]
    exact upd_same
  · exact ⟨[], by rw [upd_ne (Ne.symm npr)]; exact upd_same, .nil⟩
def sp_WaitsSooner (W : Addr) : Sp := fun vs H Q _ => ∃ (A : WtA) (soon : List Nat) (rows : List (Int × Nat)) (n : Nat), vs = [.ref A.wa, nV n] ∧ WaitsAt W H A soon rows ∧ soon.length ≤ 100000 ∧
  ∀ H' A', WtPost W H A H' A' (soon ++ [n]) rows → Q .non H'
theorem ok_WaitsSooner (T : Tx K mg) : FnOk P w K mg base CX0 1 T.f_WaitsSooner T.d_WaitsSooner ["self", "number"] (sp_WaitsSooner T.c_Waits) := by
  refine T.F_WaitsSooner.ok sc_WaitsSooner (by walk_at "len") (fun cdv A outer s H vs Q E hr h => ?_)
  obtain ⟨A, soon, rows, n, rfl, w, hl, k⟩ := h
  refine ⟨_, (pss_one (ps_expr (pe_bm PySem.F.plainAttrs_list PySem.F.slot_list_append PySem.F.type_list_append mt_append (kFld K (pv 0)) (pa_cons (pv 1) pa_nil)))), ?_⟩
  refine ⟨_, rfl, _, _, _, _, _, rfl, w.wa, T.cl_Waits, T.n_Waits_first_ones, wFs_fo _ _, .inl ⟨rfl, _, SqL.of w.fo⟩, _, rfl, A.fo, _, _, rfl, rfl, w.fo, Nat.lt_of_le_of_lt (by simpa using hl) (by decide), ?_⟩
  have kk : Kp A.cells H (upd H A.fo (.lst (soon.map nV ++ [nV n]))) := (Kp.refl _ _).lst (.inl (by simp [WtA.cells])) w.fo
  obtain ⟨xs, h1, h2⟩ := w.rw
  refine k _ A ⟨⟨w.n1, w.n2, w.n3, by rw [upd_ne w.n1]; exact w.wa, by rw [upd_same]; simp, ⟨xs, by rw [upd_ne (Ne.symm w.n3)]; exact h1, Pd.mono (fun _ _ => rwStb _ _ _ _ kk.tk) h2⟩⟩, kk, rfl, rfl, .inl rfl, .inl rfl⟩
def sp_WaitsLineup (W : Addr) : Sp := fun vs H Q _ => ∃ (A : WtA) (soon : List Nat) (rows : List (Int × Nat)), vs = [.ref A.wa] ∧ WaitsAt W H A soon rows ∧ soon.length + rows.length ≤ 100000 ∧
  ∀ p H', H p = none → Kp [] H H' → H' p = some (.lst ((soon ++ rows.map Prod.snd).map nV)) → Q (.ref p) H'
theorem ok_WaitsLineup (T : Tx K mg) : FnOk P w K mg base CX0 1 T.f_WaitsLineup T.d_WaitsLineup ["self"] (sp_WaitsLineup T.c_Waits) := by
  refine T.F_WaitsLineup.ok sc_WaitsLineup (by walk_at "len") (fun cdv A outer s H vs Q E hr h => ?_)
  obtain ⟨A, soon, rows, rfl, w, hl, k⟩ := h
  refine ⟨_, (pss_one (ps_ret (pe_op op_cat (kFld K (pv 0)) (pe_lc (own := [("row", 1)]) (g := gName 1) (tt := tYes) rfl sc_WaitsLineup.nd (pi_list (kFld K (pv 0))) (blkOk_by (own := [("row", 1)]) (N := nm_WaitsLineup) (sc := defScope s_WaitsLineup) (by decide +kernel)) (fun _ _ _ _ _ => (pg_name (i := 1) sc_WaitsLineup.nd rfl (Or.inl rfl))) (fun _ _ _ _ _ => pts_nil) (fun _ _ _ _ _ => (pe_ix (kIxT K) (pv 1) pe_int (fun _ _ => rfl))))))), ?_⟩
  refine ⟨_, rfl, _, _, _, _, _, rfl, w.wa, T.cl_Waits, T.n_Waits_first_ones, wFs_fo _ _, ?_⟩
  walk_at "nf"
  refine lc_go ?_
  obtain ⟨xs, h1, h2⟩ := w.rw
  refine ⟨_, rfl, _, _, _, _, _, rfl, w.wa, T.cl_Waits, T.n_Waits_rows, wFs_rw _ _, _, rfl, ⟨_, SqL.of h1⟩, ?_⟩
  refine lc_mp h2 (Nat.lt_of_le_of_lt (by omega : rows.length ≤ 100000) (by decide)) (SqL.of h1) (fun r => nV r.2) (fun x => rfl) ?_ ?_
  · rintro v d H' Q' hd r kp q
    obtain ⟨p, rfl, hp⟩ := r
    exact ⟨_, rfl, p, _, _, _, rfl, rfl, SqT.of (kp.tk _ _ hp), at1, q _ (Kp.refl _ _)⟩
  · intro D H2 hD k2 hD2
    refine ⟨A.fo, D, _, _, rfl, rfl, k2.keep0 w.fo, hD2, ?_, fun p hp => ?_⟩
    · simp
      exact Nat.le_trans hl (by decide)
    · refine k _ _ (k2.dom _ hp) (k2.new hp) ?_
      rw [upd_same]
      simp
theorem sq0 {n : Nat} (h : 0 < n) : seqIndex? 0 n = some 0 := by
  unfold seqIndex?
  simp
  omega
def sp_WaitsLead (W : Addr) : Sp := fun vs H Q _ => ∃ (A : WtA) (soon : List Nat) (rows : List (Int × Nat)), vs = [.ref A.wa] ∧ WaitsAt W H A soon rows ∧
  (∀ n soon', soon = n :: soon' → ∀ p H' A', WtPost W H A H' A' soon' rows → H' p = some (.tup [nV n, .non]) → Q (.ref p) H') ∧
  (∀ d n rows', soon = [] → rows = (d, n) :: rows' → ∀ p H' A', WtPost W H A H' A' [] rows' → H' p = some (.tup [nV n, .int d]) → Q (.ref p) H') ∧
  (soon = [] → rows = [] → Q .non H)
theorem ok_WaitsLead (T : Tx K mg) : FnOk P w K mg base CX0 1 T.f_WaitsLead T.d_WaitsLead ["self"] (sp_WaitsLead T.c_Waits) := by
  refine T.F_WaitsLead.ok sc_WaitsLead (by walk_at "len") (fun cdv A outer s H vs Q E hr h => ?_)
  obtain ⟨A, soon, rows, rfl, w, k1, k2, k3⟩ := h
  refine ⟨_, (pss_cons (ps_if (kTruth K (kFld K (pv 0)))
        (pss_one (ps_ret (pe_tup (pa_cons (pe_bm PySem.F.plainAttrs_list PySem.F.slot_list_pop PySem.F.type_list_pop mt_popAt (kFld K (pv 0)) (pa_cons pe_int pa_nil)) (pa_cons pe_non pa_nil)))))
        pss_nil)
    (pss_cons (ps_if (kTruth K (kFld K (pv 0)))
        (pss_cons (ps_asg (pe_bm PySem.F.plainAttrs_list PySem.F.slot_list_pop PySem.F.type_list_pop mt_popAt (kFld K (pv 0)) (pa_cons pe_int pa_nil)) (kTup K (pgs_cons (pg_name (i := 1) sc_WaitsLead.nd rfl (Or.inl rfl)) (pgs_cons (pg_name (i := 2) sc_WaitsLead.nd rfl (Or.inl rfl)) pgs_nil))))
        (pss_one (ps_ret (pe_tup (pa_cons (pv 2) (pa_cons (pv 1) pa_nil))))))
        pss_nil)
    (pss_one (ps_ret pe_non)))), ?_⟩
  refine ⟨_, rfl, _, _, _, _, _, rfl, w.wa, T.cl_Waits, T.n_Waits_first_ones, wFs_fo _ _, _, .inl ⟨_, SqL.of w.fo, rfl⟩, ?_⟩
  obtain ⟨xs, h1, h2⟩ := w.rw
  cases soon with
  | cons n soon' =>
    refine iteT ⟨_, rfl, _, _, _, _, _, rfl, w.wa, T.cl_Waits, T.n_Waits_first_ones, wFs_fo _ _, .inl ⟨rfl, _, SqL.of w.fo⟩, A.fo, _, 0, 0, nV n, rfl, rfl, w.fo, by decide, by decide, sq0 (by simp), rfl, ?_⟩
    refine ⟨(by show 2 ≤ sizeLine; decide), fun t ht => ?_⟩
    have kk : Kp A.cells H (upd H A.fo (.lst (soon'.map nV))) := (Kp.refl _ _).lst (.inl (by simp [WtA.cells])) w.fo
    have e : ((n :: soon').map nV).eraseIdx 0 = soon'.map nV := rfl
    rw [e] at ht
    have ntf : ∀ {a : Addr} {o : HO}, upd H A.fo (.lst (soon'.map nV)) a = some o → a ≠ t := fun h => ne_of_none h ht
    have w1 : WaitsAt T.c_Waits (upd H A.fo (.lst (soon'.map nV))) A soon' rows :=
      ⟨w.n1, w.n2, w.n3, by rw [upd_ne w.n1]; exact w.wa, upd_same, ⟨xs, by rw [upd_ne (Ne.symm w.n3)]; exact h1, Pd.mono (fun _ _ => rwStb _ _ _ _ kk.tk) h2⟩⟩
    exact k1 n soon' rfl t _ A ⟨w1.kp (M := []) ((Kp.refl _ _).new ht) (by simp), kk.new ht, rfl, rfl, .inl rfl, .inl rfl⟩ upd_same
  | nil =>
    refine iteF ⟨_, rfl, _, _, _, _, _, rfl, w.wa, T.cl_Waits, T.n_Waits_rows, wFs_rw _ _, _, .inl ⟨_, SqL.of h1, rfl⟩, ?_⟩
    cases rows with
    | nil =>
      cases h2
      exact iteF (k3 rfl rfl)
    | cons r rows' =>
      cases h2 with
      | cons g1 g2 =>
        rename_i x xs'
        obtain ⟨p, rfl, hp⟩ := g1
        refine iteT ⟨_, rfl, _, _, _, _, _, rfl, w.wa, T.cl_Waits, T.n_Waits_rows, wFs_rw _ _, .inl ⟨rfl, _, SqL.of h1⟩, A.rw, _, 0, 0, V.ref p, rfl, rfl, h1, by decide, by decide, sq0 (by simp), rfl, ?_⟩
        have e : (V.ref p :: xs').eraseIdx 0 = xs' := rfl
        rw [e]
        have kk : Kp A.cells H (upd H A.rw (.lst xs')) := (Kp.refl _ _).lst (.inl (by simp [WtA.cells])) h1
        refine ⟨p, _, rfl, SqT.of (kk.tk _ _ hp), rfl, _, _, rfl, _, _, rfl, rfl, ?_⟩
        refine ⟨_, rfl, _, rfl, (by show 2 ≤ sizeLine; decide), fun t ht => ?_⟩
        have w1 : WaitsAt T.c_Waits (upd H A.rw (.lst xs')) A [] rows' :=
          ⟨w.n1, w.n2, w.n3, by rw [upd_ne w.n2]; exact w.wa, by rw [upd_ne w.n3]; exact w.fo, ⟨xs', upd_same, Pd.mono (fun _ _ => rwStb _ _ _ _ kk.tk) g2⟩⟩
        exact k2 r.1 r.2 rows' rfl rfl t _ A ⟨w1.kp (M := []) ((Kp.refl _ _).new ht) (by simp), kk.new ht, rfl, rfl, .inl rfl, .inl rfl⟩ upd_same
def sp_WaitsLater (W : Addr) : Sp := fun vs H Q _ => ∃ (A : WtA) (soon : List Nat) (rows : List (Int × Nat)) (n : Nat) (d : Int), vs = [.ref A.wa, nV n, .int d] ∧ WaitsAt W H A soon rows ∧ rows.length ≤ 100000 ∧
  ∀ H' A', WtPost W H A H' A' soon (laterM rows (d, n)) → Q .non H'
theorem ok_WaitsLater (T : Tx K mg) : FnOk P w K mg base CX0 1 T.f_WaitsLater T.d_WaitsLater ["self", "number", "due"] (sp_WaitsLater T.c_Waits) := by
  refine T.F_WaitsLater.ok sc_WaitsLater (by walk_at "len") (fun cdv A outer s H vs Q E hr h => ?_)
  obtain ⟨A, soon, rows, n, d, rfl, w, hl, k⟩ := h
  refine ⟨_, (pss_cons (ps_set (i := 3) sc_WaitsLater.nd rfl (Or.inl rfl) (pe_callB (kLen K) (by rfl) T.z_len PySem.boot_len (pa_cons (kFld K (pv 0)) pa_nil)))
    (pss_cons (ps_while PassesOwn.never (PW.pt (pw_and (pt_cmpR op_gt (pv 3) pe_int (nomark _)) (pw_and1 (pt_cmpR (kGtP K hr.units0) (pe_ix (kIxL K) (kFld K (pv 0)) (pe_op op_sub (pv 3) pe_int) (fun _ _ => rfl)) (pe_tup (pa_cons (pv 2) (pa_cons (pv 1) pa_nil))) (nomark _)))))
        (pss_one (ps_set (i := 3) sc_WaitsLater.nd rfl (Or.inl rfl) (pe_op op_sub (pv 3) pe_int))))
    (pss_one (ps_expr (pe_bm PySem.F.plainAttrs_list PySem.F.slot_list_insert PySem.F.type_list_insert kInsert (kFld K (pv 0)) (pa_cons (pv 3) (pa_cons (pe_tup (pa_cons (pv 2) (pa_cons (pv 1) pa_nil))) pa_nil))))))), ?_⟩
  obtain ⟨xs, h1, h2⟩ := w.rw
  have lx : xs.length = rows.length := Pd.len h2
  refine ⟨_, rfl, _, _, _, _, _, rfl, w.wa, T.cl_Waits, T.n_Waits_rows, wFs_rw _ _, A.rw, _, rfl, .inl (SqL.of h1), ?_⟩
  refine ⟨fun m σ H' => m ≤ rows.length ∧ placeOf rows (d, n) rows.length = placeOf rows (d, n) m ∧ Kp [] H H' ∧ σ = [some (.ref A.wa), some (nV n), some (.int d), some (nV m)], ⟨rows.length, Nat.le_refl _, rfl, Kp.refl _ _, by rw [lx]; rfl⟩, ?_⟩
  rintro m σ H1 ⟨hm, hp, kp, rfl⟩
  have w1 := w.kp kp (by simp)
  refine ⟨_, rfl, _, _, rfl, rfl, _, rfl, ?_⟩
  have fin : ∀ H2, Kp [] H1 H2 → placeOf rows (d, n) rows.length = m → tDrop (tBM K "list" rIns (tFld K (tVar 0) "rows") (tCons (tVar 3) (tCons (tTup (tCons (tVar 2) (tCons (tVar 1) tNil))) tNil))) { nx := fun x H' => Q .non H', rt := Q } [some (.ref A.wa), some (nV n), some (.int d), some (nV m)] H2 := fun H2 q2 e => by
    have w2 := w1.kp q2 (by simp)
    obtain ⟨ys, g1, g2⟩ := w2.rw
    have ly : ys.length = rows.length := Pd.len g2
    refine ⟨_, rfl, _, _, _, _, _, rfl, w2.wa, T.cl_Waits, T.n_Waits_rows, wFs_rw _ _, .inl ⟨rfl, _, SqL.of g1⟩, _, rfl, _, rfl, _, rfl, (by show 2 ≤ sizeLine; decide), fun t ht => ?_⟩
    have g3 := ((Kp.refl [] _).new (o := .tup [.int d, nV n]) ht).keep0 g1
    refine ⟨A.rw, ys, (m : Int), V.ref t, rfl, rfl, g3, Nat.lt_of_le_of_lt (by omega : ys.length ≤ 100000) (by decide), by omega, by omega, ?_⟩
    have kk : Kp A.cells H (upd (upd H2 t (.tup [.int d, nV n])) A.rw (.lst (ys.take ((m : Int).toNat) ++ [V.ref t] ++ ys.drop ((m : Int).toNat)))) :=
      ((((kp.trans q2).mono (M := A.cells) (by simp)).new ht)).lst (.inl (by simp [WtA.cells])) g3
    have em : ((m : Int)).toNat = m := Int.toNat_natCast m
    have ntr : t ≠ A.rw := fun e => by rw [e, g1] at ht; cases ht
    have kt := (Kp.refl [A.rw] (upd H2 t (.tup [.int d, nV n]))).lst (o := .lst (ys.take ((m : Int).toNat) ++ [V.ref t] ++ ys.drop ((m : Int).toNat))) (.inl (by simp)) g3
    have k2t := (((Kp.refl [] H2).new (o := .tup [.int d, nV n]) ht).tk)
    refine k _ A ⟨⟨w.n1, w.n2, w.n3, ?_, ?_, ?_⟩, kk, rfl, rfl, .inl rfl, .inl rfl⟩
    · rw [upd_ne w.n2, upd_ne (ne_of_none w2.wa ht)]; exact w2.wa
    · rw [upd_ne w.n3, upd_ne (ne_of_none w2.fo ht)]; exact w2.fo
    · refine ⟨_, upd_same, ?_⟩
      rw [em]
      unfold laterM
      rw [e]
      refine Pd.append (Pd.append (Pd.take m (Pd.mono (fun _ _ z => (RwAt.tk k2t z).tk kt.tk) g2)) (.cons ⟨t, rfl, ?_⟩ .nil)) (Pd.drop m (Pd.mono (fun _ _ z => (RwAt.tk k2t z).tk kt.tk) g2))
      rw [upd_ne ntr]
      exact upd_same
  cases m with
  | zero =>
    refine iteF ?_
    exact fin H1 (Kp.refl _ _) hp
  | succ m =>
    refine iteT' (by simp) ?_
    obtain ⟨r, hr1⟩ : ∃ r, rows[m]? = some r := ⟨rows[m]'(by omega), by simp [show m < rows.length by omega]⟩
    obtain ⟨ys, g1, g2⟩ := w1.rw
    obtain ⟨y, hy, p, rfl, hpy⟩ := Pd.at' g2 hr1
    have em : (((m + 1 : Nat) : Int) - 1) = (m : Int) := by omega
    refine ⟨_, rfl, _, _, _, _, _, rfl, w1.wa, T.cl_Waits, T.n_Waits_rows, wFs_rw _ _, _, rfl, _, _, rfl, rfl, A.rw, ys, _, _, rfl, rfl, SqL.of g1, at_of em hy, ?_⟩
    refine ⟨_, rfl, _, rfl, (by show 2 ≤ sizeLine; decide), fun t ht => ⟨p, t, _, _, _, _, rfl, rfl, SqT.of ((Kp.refl [] _).new ht |>.tk _ _ hpy), SqT.of upd_same, _, rfl, ?_⟩⟩
    have q2 : Kp [] H1 (upd H1 t (.tup [.int d, nV n])) := (Kp.refl _ _).new ht
    have eg : decide (d < r.1 ∨ (r.1 = d ∧ ((n : Nat) : Int) < ((r.2 : Nat) : Int))) = rowGt r (d, n) := by
      unfold rowGt
      simp
    rw [eg]
    have ep : placeOf rows (d, n) (m + 1) = if rowGt r (d, n) then placeOf rows (d, n) m else m + 1 := by
      rw [placeOf, hr1]
    rw [ep] at hp
    cases e : rowGt r (d, n) with
    | true =>
      rw [e, if_pos rfl] at hp
      refine iteT ⟨fun σ' H' => m ≤ rows.length ∧ placeOf rows (d, n) rows.length = placeOf rows (d, n) m ∧ Kp [] H H' ∧ σ' = [some (.ref A.wa), some (nV n), some (.int d), some (nV m)], fun σ' H' z => ⟨m, Nat.lt_succ_self _, z⟩, ?_⟩
      refine ⟨_, rfl, _, _, rfl, rfl, by omega, hp, kp.trans q2, ?_⟩
      show [some (V.ref A.wa), some (nV n), some (V.int d), some (V.int (((m + 1 : Nat) : Int) - 1))] = _
      rw [em]
      rfl
    | false =>
      rw [e, if_neg (by decide)] at hp
      exact iteF (fin _ q2 hp)
def sp_WaitsDrop (W : Addr) : Sp := fun vs H Q _ => ∃ (A : WtA) (soon : List Nat) (rows : List (Int × Nat)) (b : Addr) (ns : List Nat), vs = [.ref A.wa, .ref b] ∧ WaitsAt W H A soon rows ∧ soon.length ≤ 100000 ∧ rows.length ≤ 100000 ∧ H b = some (.lst (ns.map nV)) ∧
  ∀ H' A', WtPost W H A H' A' (soon.filter fun n => !decide (n ∈ ns)) (rows.filter fun r => !decide (r.2 ∈ ns)) → Q .non H'
theorem ok_WaitsDrop (T : Tx K mg) : FnOk P w K mg base CX0 1 T.f_WaitsDrop T.d_WaitsDrop ["self", "numbers"] (sp_WaitsDrop T.c_Waits) := by
  refine T.F_WaitsDrop.ok sc_WaitsDrop (by walk_at "len") (fun cdv A outer s H vs Q E hr h => ?_)
  obtain ⟨A, soon, rows, b, ns, rfl, w, hl, hl2, hb, k⟩ := h
  refine ⟨_, (pss_cons (ps_fld (pv 0) (pe_lc (own := [("one", 2)]) (g := gName 2) rfl sc_WaitsDrop.nd (pi_list (kFld K (pv 0))) (blkOk_by (own := [("one", 2)]) (N := nm_WaitsDrop) (sc := defScope s_WaitsDrop) (by decide +kernel)) (fun _ _ _ _ _ => (pg_name (i := 2) sc_WaitsDrop.nd rfl (Or.inl rfl))) (fun _ _ _ _ _ => pts_one (pt_cmpR (kNotIn K) (pv 2) (pv 1) rfl)) (fun _ _ _ _ _ => (pv 2))) rfl)
    (pss_one (ps_fld (pv 0) (pe_lc (own := [("row", 3)]) (g := gName 3) rfl sc_WaitsDrop.nd (pi_list (kFld K (pv 0))) (blkOk_by (own := [("row", 3)]) (N := nm_WaitsDrop) (sc := defScope s_WaitsDrop) (by decide +kernel)) (fun _ _ _ _ _ => (pg_name (i := 3) sc_WaitsDrop.nd rfl (Or.inl rfl))) (fun _ _ _ _ _ => pts_one (pt_cmpR (kNotIn K) (pe_ix (kIxT K) (pv 3) pe_int (fun _ _ => rfl)) (pv 1) rfl)) (fun _ _ _ _ _ => (pv 3))) rfl))), ?_⟩
  obtain ⟨xs, h1, h2⟩ := w.rw
  walk_at "nf"
  refine lc_go ?_
  refine ⟨_, rfl, _, _, _, _, _, rfl, w.wa, T.cl_Waits, T.n_Waits_first_ones, wFs_fo _ _, A.fo, rfl, ⟨_, SqL.of w.fo⟩, ?_⟩
  refine lc_fm (Pd.map (f := nV) (R := fun v n => v = nV n) fun _ _ => rfl) (Nat.lt_of_le_of_lt hl (by decide)) (SqL.of w.fo) nV (fun n => !decide (n ∈ ns)) (fun x => rfl) ?_ ?_ ?_
  · rintro x n H' Q' hn rfl kp q
    refine ⟨_, rfl, _, rfl, b, _, rfl, .inl (SqL.of (kp.keep0 hb)), rfl, flat_nats _, _, rfl, ?_⟩
    rw [inV_nats]
    exact q _ (Kp.refl _ _)
  · rintro x n H' Q' hn rfl hp kp q
    exact ⟨_, rfl, q _ (Kp.refl _ _)⟩
  · intro D H1 hD q1 hD1
    have w1 := w.kp q1 (by simp)
    refine ⟨_, rfl, A.wa, _, A.wdx, _, rfl, w1.wa, T.cl_Waits, T.n_Waits_first_ones, (by show 2 < 1000; decide), ?_⟩
    rw [wFs_pfo]
    have nD : D ≠ A.wa := fun e => by rw [e, w.wa] at hD; cases hD
    have nD2 : D ≠ A.rw := fun e => by rw [e, h1] at hD; cases hD
    have kA : Kp A.cells H1 (upd H1 A.wa (.ins T.c_Waits A.wdx (wFs D A.rw))) := (Kp.refl _ _).ins (.inl (by simp [WtA.cells])) w1.wa
    have nbw : b ≠ A.wa := fun e => by rw [e, w.wa] at hb; cases hb
    have hb2 : upd H1 A.wa (.ins T.c_Waits A.wdx (wFs D A.rw)) b = some (.lst (ns.map nV)) := by rw [upd_ne nbw]; exact q1.keep0 hb
    obtain ⟨ys, g1, g2⟩ := w1.rw
    have w2 : WaitsAt T.c_Waits (upd H1 A.wa (.ins T.c_Waits A.wdx (wFs D A.rw))) ⟨A.wa, A.wdx, D, A.rw⟩ (soon.filter fun n => !decide (n ∈ ns)) rows :=
      ⟨Ne.symm nD, w.n2, nD2, upd_same, (upd_ne nD).trans hD1, ⟨ys, by rw [upd_ne (Ne.symm w.n2)]; exact g1, Pd.mono (fun _ _ => rwStb _ _ _ _ kA.tk) g2⟩⟩
    refine lc_go ?_
    refine ⟨_, rfl, _, _, _, _, _, rfl, w2.wa, T.cl_Waits, T.n_Waits_rows, wFs_rw _ _, A.rw, rfl, ?_⟩
    obtain ⟨zs, e1, e2⟩ := w2.rw
    refine ⟨⟨_, SqL.of e1⟩, ?_⟩
    refine lc_pd e2 (Nat.lt_of_le_of_lt hl2 (by decide)) (fun E pre acc H' => Kp [] (upd H1 A.wa (.ins T.c_Waits A.wdx (wFs D A.rw))) H' ∧ Paired (RwAt (upd H1 A.wa (.ins T.c_Waits A.wdx (wFs D A.rw)))) acc (pre.filter fun r => !decide (r.2 ∈ ns)))
      (fun E hE => ⟨(Kp.refl _ _).new hE, .nil⟩) (fun E pre acc H' hE e q => SqL.of (q.1.keep0 e1)) ?_ ?_
    · rintro E pre acc x r post H' Yes No hE ed rr e ⟨kp, hac⟩ yes no
      obtain ⟨p, rfl, hp⟩ := id rr
      refine ⟨rfl, _, rfl, p, _, _, _, rfl, rfl, SqT.of (kp.tk _ _ hp), at1, _, rfl, b, _, rfl, .inl (SqL.of (kp.keep0 hb2)), rfl, flat_nats _, _, rfl, ?_⟩
      have en : inV (nV r.2) (ns.map nV) = decide (r.2 ∈ ns) := inV_nats _ _
      show if (if _ then !inV (nV r.2) (ns.map nV) else _) = true then _ else _
      rw [en]
      by_cases hin : r.2 ∈ ns
      · rw [decide_eq_true hin]
        refine iteF' rfl (no _ e ⟨kp, ?_⟩)
        rw [List.filter_append]
        simp [hin]
        exact hac
      · rw [decide_eq_false hin]
        refine iteT' rfl ⟨_, rfl, yes _ _ e ⟨kp.lst (.inr hE) e, ?_⟩⟩
        rw [List.filter_append]
        simp [hin]
        exact Pd.append hac (.cons rr .nil)
    · rintro E acc H2 hE e ⟨kp, hac⟩
      have w3 := w2.kp kp (by simp)
      refine ⟨_, rfl, A.wa, _, A.wdx, _, rfl, w3.wa, T.cl_Waits, T.n_Waits_rows, (by show 2 < 1000; decide), ?_⟩
      rw [wFs_prw]
      have kB : Kp A.cells H2 (upd H2 A.wa (.ins T.c_Waits A.wdx (wFs D E))) := (Kp.refl _ _).ins (.inl (by simp [WtA.cells])) w3.wa
      have nE : E ≠ A.wa := fun z => by rw [z, upd_same] at hE; cases hE
      have nED : D ≠ E := fun z => by rw [← z, upd_ne nD, hD1] at hE; cases hE
      have hE1 : H E = none := q1.dom _ (upd_none hE).2
      refine k _ ⟨A.wa, A.wdx, D, E⟩ ⟨⟨Ne.symm nD, Ne.symm nE, nED, upd_same, ?_, ⟨acc, ?_, ?_⟩⟩, ?_, rfl, rfl, .inr hD, .inr hE1⟩
      · show upd H2 A.wa _ D = _
        rw [upd_ne nD]
        exact w3.fo
      · show upd H2 A.wa _ E = _
        rw [upd_ne nE]
        exact e
      · exact Pd.mono (fun _ _ z => (RwAt.tk kp.tk z).tk kB.tk) hac
      · exact (((q1.mono (M := A.cells) (by simp)).trans kA).trans (kp.mono (by simp))).trans kB
end
end Ev
namespace Ev
open PySem L2
/-! ### those that wait, and the law's own book: the plain law -/
abbrev Late := List (Nat × Int)
def lateK (l : Late) : List (Key × V) := l.map fun c => (Sum.inl (c.1 : Int), .int c.2)
def lkN (l : Late) (n : Nat) : Option Int := (l.find? fun c => decide (c.1 = n)).map Prod.snd
theorem lkN_pos {c : Nat × Int} {l : Late} {n : Nat} (h : c.1 = n) : lkN (c :: l) n = some c.2 := by
  unfold lkN
  rw [List.find?_cons, decide_eq_true h]
  rfl
theorem lkN_neg {c : Nat × Int} {l : Late} {n : Nat} (h : ¬ c.1 = n) : lkN (c :: l) n = lkN l n := by
  unfold lkN
  rw [List.find?_cons, decide_eq_false h]
theorem keyN {a b : Nat} : (Sum.inl (a : Int) : Key) = Sum.inl (b : Int) ↔ a = b := by
  constructor
  · intro h
    have := Sum.inl.inj h
    omega
  · intro h
    rw [h]
theorem late_val : ∀ (l : Late) (n : Nat), valV (lateK l) (Sum.inl (n : Int)) = (lkN l n).map V.int
  | [], _ => rfl
  | c :: l, n => by
    have ih := late_val l n
    show valV ((Sum.inl (c.1 : Int), V.int c.2) :: lateK l) (Sum.inl (n : Int)) = _
    by_cases h : c.1 = n
    · rw [lkN_pos h, valV_pos (show (Sum.inl (c.1 : Int) : Key) = Sum.inl (n : Int) by rw [h])]
      rfl
    · rw [lkN_neg h, valV_neg (show ¬ (Sum.inl (c.1 : Int) : Key) = Sum.inl (n : Int) from fun e => h (keyN.mp e)), ih]
theorem late_put {l : Late} {n : Nat} {d : Int} (h : lkN l n = none) : putK (lateK l) (Sum.inl (n : Int)) (.int d) = lateK (l ++ [(n, d)]) := by
  rw [putK_new _ (by rw [late_val, h]; rfl)]
  simp [lateK]
theorem late_drop (l : Late) (n : Nat) : dropK (lateK l) (Sum.inl (n : Int)) = lateK (l.filter fun c => !decide (c.1 = n)) := by
  unfold dropK lateK
  rw [List.filter_map]
  congr 1
  refine List.filter_congr fun c _ => ?_
  show decide (¬ (Sum.inl (c.1 : Int) : Key) = Sum.inl (n : Int)) = _
  by_cases h : c.1 = n
  · rw [decide_eq_true h]
    simp [h]
  · rw [decide_eq_false h]
    exact decide_eq_true fun e => h (keyN.mp e)
theorem lkN_mem {l : Late} {n : Nat} {d : Int} (h : lkN l n = some d) : (n, d) ∈ l := by
  unfold lkN at h
  obtain ⟨c, hc, rfl⟩ := Option.map_eq_some_iff.mp h
  have e := of_decide_eq_true (List.find?_some (p := fun c : Nat × Int => decide (c.1 = n)) hc)
  rw [← e]
  exact List.mem_of_find?_eq_some hc
theorem lkN_of : ∀ {l : Late} {n : Nat} {d : Int}, (l.map Prod.fst).Nodup → (n, d) ∈ l → lkN l n = some d
  | c :: l, n, d, nd, h => by
    rw [List.map_cons, List.nodup_cons] at nd
    rcases List.mem_cons.mp h with rfl | h
    · exact lkN_pos rfl
    · rw [lkN_neg fun e => nd.1 (e ▸ List.mem_map.mpr ⟨_, h, rfl⟩)]
      exact lkN_of nd.2 h
theorem lkN_none {l : Late} {n : Nat} (h : n ∉ l.map Prod.fst) : lkN l n = none := by
  cases e : lkN l n with
  | none => rfl
  | some d => exact absurd (List.mem_map.mpr ⟨_, lkN_mem e, rfl⟩) h
/-! the order of the rows -/
theorem rowGt_trans {a b c : Int × Nat} (h1 : rowGt b a = true) (h2 : rowGt c b = true) : rowGt c a = true := by
  unfold rowGt at *
  have := of_decide_eq_true h1
  have := of_decide_eq_true h2
  exact decide_eq_true (by omega)
theorem rowGt_tot {a b : Int × Nat} (h : rowGt a b = false) (n : a.2 ≠ b.2) : rowGt b a = true := by
  unfold rowGt at *
  have := of_decide_eq_false h
  exact decide_eq_true (by omega)
theorem placeOf_gt (rows : List (Int × Nat)) (q : Int × Nat) : ∀ k, k ≤ rows.length → ∀ i r, placeOf rows q k ≤ i → i < k → rows[i]? = some r → rowGt r q = true
  | 0, _, i, _, _, h, _ => absurd h (Nat.not_lt_zero _)
  | k + 1, hk, i, r, h1, h2, h3 => by
    have e : rows[k]? = some (rows[k]'hk) := List.getElem?_eq_getElem hk
    unfold placeOf at h1
    rw [e] at h1
    simp only at h1
    by_cases g : rowGt rows[k] q = true
    · rw [if_pos g] at h1
      by_cases ei : i = k
      · subst ei
        rw [e] at h3
        cases h3
        exact g
      · exact placeOf_gt rows q k (by omega) i r h1 (by omega) h3
    · rw [if_neg g] at h1
      omega
theorem placeOf_ng (rows : List (Int × Nat)) (q : Int × Nat) : ∀ k, k ≤ rows.length → ∀ j, placeOf rows q k = j + 1 → ∃ r, rows[j]? = some r ∧ rowGt r q = false
  | 0, _, j, h => by
    unfold placeOf at h
    omega
  | k + 1, hk, j, h => by
    have e : rows[k]? = some (rows[k]'hk) := List.getElem?_eq_getElem hk
    unfold placeOf at h
    rw [e] at h
    simp only at h
    by_cases g : rowGt rows[k] q = true
    · rw [if_pos g] at h
      exact placeOf_ng rows q k (by omega) j h
    · rw [if_neg g] at h
      obtain rfl : k = j := by omega
      exact ⟨_, e, by simpa using g⟩
abbrev Up (l : List (Int × Nat)) : Prop := l.Pairwise fun a b => rowGt b a = true
theorem later_up {rows : List (Int × Nat)} {q : Int × Nat} (u : Up rows) (hq : q.2 ∉ rows.map Prod.snd) : Up (laterM rows q) := by
  unfold laterM
  have hp := placeOf_le rows q rows.length
  have b : ∀ r ∈ rows.drop (placeOf rows q rows.length), rowGt r q = true := fun r hr => by
    obtain ⟨i, hi⟩ := List.getElem?_of_mem hr
    rw [List.getElem?_drop] at hi
    exact placeOf_gt rows q _ (Nat.le_refl _) _ r (Nat.le_add_right _ _) (List.getElem?_eq_some_iff.mp hi).1 hi
  have a : ∀ r ∈ rows.take (placeOf rows q rows.length), rowGt q r = true := fun r hr => by
    obtain ⟨i, hi⟩ := List.getElem?_of_mem hr
    have hil : i < placeOf rows q rows.length := by
      have := (List.getElem?_eq_some_iff.mp hi).1
      rw [List.length_take] at this
      omega
    rw [List.getElem?_take_of_lt hil] at hi
    obtain ⟨r2, h2, g2⟩ := placeOf_ng rows q _ (Nat.le_refl _) (placeOf rows q rows.length - 1) (by omega)
    have n2 : r2.2 ≠ q.2 := fun e => hq (e ▸ List.mem_map.mpr ⟨_, List.mem_of_getElem? h2, rfl⟩)
    have g3 := rowGt_tot g2 n2
    by_cases e : i = placeOf rows q rows.length - 1
    · rw [e, h2] at hi
      cases hi
      exact g3
    · have hlt : i < placeOf rows q rows.length - 1 := by omega
      obtain ⟨l1, e1⟩ := List.getElem?_eq_some_iff.mp hi
      obtain ⟨l2, e2⟩ := List.getElem?_eq_some_iff.mp h2
      have := (List.pairwise_iff_getElem.mp u) i _ l1 l2 hlt
      rw [e1, e2] at this
      exact rowGt_trans this g3
  rw [List.append_assoc]
  refine List.pairwise_append.mpr ⟨u.sublist (List.take_sublist _ _), List.pairwise_cons.mpr ⟨b, u.sublist (List.drop_sublist _ _)⟩, fun x hx y hy => ?_⟩
  rcases List.mem_cons.mp hy with rfl | hy
  · exact a x hx
  · exact rowGt_trans (a x hx) (b y hy)
theorem later_perm (rows : List (Int × Nat)) (q : Int × Nat) : (laterM rows q).Perm (q :: rows) := by
  unfold laterM
  have h : (rows.take (placeOf rows q rows.length) ++ [q] ++ rows.drop (placeOf rows q rows.length)).Perm (q :: (rows.take (placeOf rows q rows.length) ++ rows.drop (placeOf rows q rows.length))) := by
    rw [List.append_assoc]
    exact List.perm_middle
  rw [List.take_append_drop] at h
  exact h
/-! what holds between two cells -/
structure I3 (count : Nat) (soon : List Nat) (rows : List (Int × Nat)) (late : Late) : Prop where
  nd : (soon ++ rows.map Prod.snd).Nodup
  lt : ∀ n ∈ soon ++ rows.map Prod.snd, ∃ i, i < count ∧ n = 7 * i
  pm : late.Perm (rows.map fun r => (r.2, r.1))
  up : Up rows
namespace I3
variable {count : Nat} {soon : List Nat} {rows : List (Int × Nat)} {late : Late}
theorem len (i : I3 count soon rows late) : late.length = rows.length := by simpa using i.pm.length_eq
theorem keys (i : I3 count soon rows late) : (late.map Prod.fst).Perm (rows.map Prod.snd) := by
  have h := i.pm.map Prod.fst
  rw [List.map_map] at h
  exact h
theorem kd (i : I3 count soon rows late) : (late.map Prod.fst).Nodup := i.keys.nodup_iff.mpr (List.nodup_append.mp i.nd).2.1
theorem look (i : I3 count soon rows late) {d : Int} {n : Nat} (h : (d, n) ∈ rows) : lkN late n = some d :=
  lkN_of i.kd (i.pm.mem_iff.mpr (List.mem_map.mpr ⟨_, h, rfl⟩))
theorem look_none (i : I3 count soon rows late) {n : Nat} (h : n ∉ rows.map Prod.snd) : lkN late n = none := lkN_none fun q => h (i.keys.mem_iff.mp q)
theorem fresh (i : I3 count soon rows late) : 7 * count ∉ soon ++ rows.map Prod.snd := fun h => by
  obtain ⟨j, h1, h2⟩ := i.lt _ h
  omega
theorem total (i : I3 count soon rows late) : soon.length + rows.length ≤ count := by
  have h : (soon ++ rows.map Prod.snd).length ≤ ((List.range count).map fun j => 7 * j).length := by
    refine nodup_len i.nd fun x hx => ?_
    obtain ⟨j, h1, h2⟩ := i.lt x hx
    exact List.mem_map.mpr ⟨j, List.mem_range.mpr h1, h2.symm⟩
  simpa using h
theorem sooner (i : I3 count soon rows late) : I3 (count + 1) (soon ++ [7 * count]) rows late := by
  have f := i.fresh
  have p : (soon ++ [7 * count] ++ rows.map Prod.snd).Perm (7 * count :: (soon ++ rows.map Prod.snd)) := by
    rw [List.append_assoc]
    exact List.perm_middle
  refine ⟨p.nodup_iff.mpr (List.nodup_cons.mpr ⟨f, i.nd⟩), fun n hn => ?_, i.pm, i.up⟩
  rcases List.mem_cons.mp (p.mem_iff.mp hn) with rfl | h
  · exact ⟨count, Nat.lt_succ_self _, rfl⟩
  · obtain ⟨j, h1, h2⟩ := i.lt n h
    exact ⟨j, by omega, h2⟩
theorem later (i : I3 count soon rows late) (d : Int) : I3 (count + 1) soon (laterM rows (d, 7 * count)) (late ++ [(7 * count, d)]) := by
  have f := i.fresh
  have q := later_perm rows (d, 7 * count)
  have p : (soon ++ (laterM rows (d, 7 * count)).map Prod.snd).Perm (7 * count :: (soon ++ rows.map Prod.snd)) := by
    have h := (q.map Prod.snd).append_left soon
    exact h.trans List.perm_middle
  refine ⟨p.nodup_iff.mpr (List.nodup_cons.mpr ⟨f, i.nd⟩), fun n hn => ?_, ?_, later_up i.up fun h => f (List.mem_append.mpr (.inr h))⟩
  · rcases List.mem_cons.mp (p.mem_iff.mp hn) with rfl | h
    · exact ⟨count, Nat.lt_succ_self _, rfl⟩
    · obtain ⟨j, h1, h2⟩ := i.lt n h
      exact ⟨j, by omega, h2⟩
  · have h1 : (late ++ [(7 * count, d)]).Perm ((7 * count, d) :: late) := List.perm_append_comm
    have h2 := q.map fun r : Int × Nat => (r.2, r.1)
    exact h1.trans ((i.pm.cons _).trans h2.symm)
theorem drop (i : I3 count soon rows late) (ns : List Nat) : I3 count (soon.filter fun n => !decide (n ∈ ns)) (rows.filter fun r => !decide (r.2 ∈ ns)) (late.filter fun c => !decide (c.1 ∈ ns)) := by
  have e : (rows.filter fun r => !decide (r.2 ∈ ns)).map Prod.snd = (rows.map Prod.snd).filter fun n => !decide (n ∈ ns) := by
    rw [List.filter_map]
    rfl
  have e2 : soon.filter (fun n => !decide (n ∈ ns)) ++ (rows.filter fun r => !decide (r.2 ∈ ns)).map Prod.snd = (soon ++ rows.map Prod.snd).filter fun n => !decide (n ∈ ns) := by
    rw [e, List.filter_append]
  refine ⟨?_, ?_, ?_, i.up.sublist List.filter_sublist⟩
  · rw [e2]
    exact i.nd.sublist List.filter_sublist
  · rw [e2]
    intro n hn
    exact i.lt n ((List.mem_filter.mp hn).1)
  · have h := i.pm.filter fun c => !decide (c.1 ∈ ns)
    rw [List.filter_map] at h
    exact h
theorem lead1 {n : Nat} (i : I3 count (n :: soon) rows late) : I3 count soon rows late :=
  ⟨(List.nodup_cons.mp i.nd).2, fun x hx => i.lt x (List.mem_cons_of_mem _ hx), i.pm, i.up⟩
theorem lead2 {n : Nat} {d : Int} (i : I3 count [] ((d, n) :: rows) late) : I3 count [] rows (late.filter fun c => !decide (c.1 = n)) := by
  have nd := i.nd
  simp only [List.nil_append, List.map_cons, List.nodup_cons] at nd
  refine ⟨by simpa using nd.2, fun x hx => i.lt x (List.mem_cons_of_mem _ hx), ?_, (List.pairwise_cons.mp i.up).2⟩
  have h := i.pm.filter fun c => !decide (c.1 = n)
  rw [List.map_cons, List.filter_cons, if_neg (by simp)] at h
  have e : (rows.map fun r => (r.2, r.1)).filter (fun c => !decide (c.1 = n)) = rows.map fun r => (r.2, r.1) := by
    rw [List.filter_eq_self]
    intro c hc
    obtain ⟨r, hr, rfl⟩ := List.mem_map.mp hc
    have : r.2 ≠ n := fun q => nd.1 (q ▸ List.mem_map.mpr ⟨r, hr, rfl⟩)
    simp [this]
  rw [e] at h
  exact h
theorem zero : I3 0 [] [] [] := ⟨List.nodup_nil, (fun _ h => nomatch h), List.Perm.nil, List.Pairwise.nil⟩
end I3
theorem filt_snoc {α : Type} [DecidableEq α] {β : Type} (f : β → α) (l : List β) (ns : List α) (x : α) : (l.filter fun c => !decide (f c ∈ ns)).filter (fun c => !decide (f c = x)) = l.filter fun c => !decide (f c ∈ ns ++ [x]) := by
  rw [List.filter_filter]
  refine List.filter_congr fun c _ => ?_
  by_cases h1 : f c ∈ ns <;> by_cases h2 : f c = x <;> simp [h1, h2]
end Ev
namespace Ev
open PySem L2
/-! ### data of any depth: what == reads -/
def okD (n : Nat) (d : PyData) : Prop := d.canLay0 = true ∧ d.depth ≤ n
theorem okD.mono {n m : Nat} {d : PyData} (h : okD n d) (l : n ≤ m) : okD m d := ⟨h.1, Nat.le_trans h.2 l⟩
theorem okD.sh {n : Nat} {d : PyData} (h : okD n d) (l : n ≤ 64 := by decide) : SeqAt.shaped d = true := by
  show (d.canLay0 && decide (d.depth ≤ 64)) = true
  rw [Bool.and_eq_true]
  exact ⟨h.1, decide_eq_true (Nat.le_trans h.2 l)⟩
theorem okD.rfl {n : Nat} {d : PyData} (h : okD n d) : PyData.eqv d d = true := SeqAt.eqv_refl d h.1
def strOkT (x : Str) : Prop := PyData.strOk x = true
theorem ok_int (i : Int) : okD 0 (.int i) := by simp [okD, PyData.canLay0, PyData.depth]
theorem ok_non : okD 0 .none := by simp [okD, PyData.canLay0, PyData.depth]
theorem ok_bl (b : Bool) : okD 0 (.bool b) := by simp [okD, PyData.canLay0, PyData.depth]
theorem ok_str {x : Str} (h : strOkT x) : okD 0 (.str x) := by
  refine ⟨?_, by simp [PyData.depth]⟩
  unfold PyData.canLay0
  exact h
theorem okAll {n : Nat} : ∀ {ds : List PyData}, (∀ d ∈ ds, okD n d) → PyData.canLayAll0 ds = true ∧ PyData.depthAll ds ≤ n
  | [], _ => ⟨by simp [PyData.canLayAll0], by simp [PyData.depthAll]⟩
  | d :: ds, h => by
    obtain ⟨h1, h2⟩ := okAll (ds := ds) fun x hx => h x (List.mem_cons_of_mem _ hx)
    obtain ⟨h3, h4⟩ := h d (List.mem_cons_self ..)
    constructor
    · rw [PyData.canLayAll0, h3, h1]
      all_goals rfl
    · simp only [PyData.depthAll]
      omega
theorem ok_lst {n : Nat} {ds : List PyData} (h : ∀ d ∈ ds, okD n d) : okD (n + 1) (.list ds) := by
  obtain ⟨h1, h2⟩ := okAll h
  refine ⟨by rw [PyData.canLay0]; exact h1, ?_⟩
  simp only [PyData.depth]
  omega
theorem ok_tup {n : Nat} {ds : List PyData} (h : ∀ d ∈ ds, okD n d) : okD (n + 1) (.tuple ds) := by
  obtain ⟨h1, h2⟩ := okAll h
  refine ⟨by rw [PyData.canLay0]; exact h1, ?_⟩
  simp only [PyData.depth]
  omega
theorem ok_cons {n : Nat} {d : PyData} {ds : List PyData} (h : okD n d) (t : ∀ x ∈ ds, okD n x) : ∀ x ∈ d :: ds, okD n x := fun x hx => (List.mem_cons.mp hx).elim (fun e => e ▸ h) (t x)
theorem ok_nil {n : Nat} : ∀ x ∈ ([] : List PyData), okD n x := fun _ h => nomatch h
section
variable {K : PySem.W.Frag} {H : Hp}
theorem dp_all {α : Type} {R : V → α → Prop} {f : α → PyData} (h : ∀ v d, R v d → Dp K H v (f d)) : ∀ {xs : List V} {ds : List α}, Paired R xs ds → DpAll K H xs (ds.map f)
  | _, _, .nil => .nil
  | _, _, .cons r t => .cons (h _ _ r) (dp_all h t)
theorem dp_lst {α : Type} {R : V → α → Prop} {f : α → PyData} (h : ∀ v d, R v d → Dp K H v (f d)) {a : Addr} {xs : List V} {ds : List α} (ha : H a = some (.lst xs)) (p : Paired R xs ds) : Dp K H (.ref a) (.list (ds.map f)) := .lst (SqL.of ha) (dp_all h p)
theorem dp_map {α : Type} {g : α → V} {f : α → PyData} (h : ∀ d, Dp K H (g d) (f d)) : ∀ ds : List α, DpAll K H (ds.map g) (ds.map f)
  | [] => .nil
  | d :: ds => .cons (h d) (dp_map h ds)
theorem dp_lmap {α : Type} {g : α → V} {f : α → PyData} (h : ∀ d, Dp K H (g d) (f d)) {a : Addr} {ds : List α} (ha : H a = some (.lst (ds.map g))) : Dp K H (.ref a) (.list (ds.map f)) := .lst (SqL.of ha) (dp_map h ds)
theorem dp_ints {a : Addr} {ns : List Nat} (ha : H a = some (.lst (ns.map nV))) : Dp K H (.ref a) (.list (ns.map fun (n : Nat) => .int (n : Int))) := dp_lmap (fun n => .int _) ha
theorem dp_strs {a : Addr} {ns : List Str} (ha : H a = some (.lst (ns.map V.str))) : Dp K H (.ref a) (.list (ns.map .str)) := dp_lmap (fun n => .str _) ha
theorem neF {p : Prop} [Decidable p] (h : p) : (!decide p) = false := by simp [h]
theorem Pd.last {α : Type} {R : V → α → Prop} {xs : List V} {ds : List α} {d : α} (p : Paired R xs ds) (h : ds.getLast? = some d) : ∃ v, xs.getLast? = some v ∧ R v d := by
  rw [List.getLast?_eq_getElem?] at h
  have l := Pd.len p
  have hl : ds.length - 1 < ds.length := (List.getElem?_eq_some_iff.mp h).1
  have hx : xs.length - 1 < xs.length := by omega
  obtain ⟨d', e, r⟩ := Pd.at p (List.getElem?_eq_getElem hx)
  rw [l, h] at e
  cases e
  exact ⟨_, by rw [List.getLast?_eq_getElem?]; exact List.getElem?_eq_getElem hx, r⟩
theorem dp_on (o : Option Nat) : Dp K H (onV o) (match o with | none => .none | some n => .int (n : Int)) := by
  cases o
  · exact .non
  · exact .int _
end
theorem ok_ints (ns : List Nat) : okD 1 (.list (ns.map fun (n : Nat) => .int (n : Int))) := ok_lst fun d hd => by
  obtain ⟨n, _, rfl⟩ := List.mem_map.mp hd
  exact ok_int _
theorem ok_intsT (ns : List Nat) : okD 1 (.tuple (ns.map fun (n : Nat) => .int (n : Int))) := ok_tup fun d hd => by
  obtain ⟨n, _, rfl⟩ := List.mem_map.mp hd
  exact ok_int _
theorem ok_strs {ns : List Str} (h : ∀ x ∈ ns, strOkT x) : okD 1 (.list (ns.map .str)) := ok_lst fun d hd => by
  obtain ⟨n, q, rfl⟩ := List.mem_map.mp hd
  exact ok_str (h n q)
/-! ### rows and events -/
def Row.restD : Row → List PyData
  | .send n => [.int n] | .begin n t => [.int n, .int t] | .call n x => [.int n, .str x] | .make m n => [.int m, .int n] | .cancel n ns => [.int n, .tuple (ns.map fun (n : Nat) => .int (n : Int))]
  | .join n x => [.int n, .str x] | .leave n x => [.int n, .str x] | .hush n => [.int n] | .fin n => [.int n]
def Row.dat (r : Row) : PyData := .tuple (.str r.tag :: r.restD)
/-- the texts of a row are texts -/
def Row.txt : Row → Prop
  | .call _ x => strOkT x | .join _ x => strOkT x | .leave _ x => strOkT x | _ => True
theorem row_dp {K : PySem.W.Frag} {H : Hp} {v : V} {r : Row} (h : RowAt H v r) : Dp K H v r.dat := by
  obtain ⟨p, q, rfl, h1, h2⟩ := h
  refine .tup (SqT.of h1) (.cons (.str _) ?_)
  cases r <;> simp only [Row.rest, Row.restD, nV] <;> first | exact .cons (.int _) .nil | exact .cons (.int _) (.cons (.int _) .nil) | exact .cons (.int _) (.cons (.str _) .nil) | skip
  exact .cons (.int _) (.cons (.tup (SqT.of h2) (dp_map (fun n => .int _) _)) .nil)
theorem tag_ok (r : Row) : strOkT r.tag := by cases r <;> simp only [Row.tag] <;> unfold strOkT <;> decide +kernel
theorem row_ok {r : Row} (h : r.txt) : okD 2 r.dat := by
  refine ok_tup (ok_cons ((ok_str (tag_ok r)).mono (by decide)) ?_)
  cases r with
  | send n => exact ok_cons ((ok_int _).mono (by decide)) ok_nil
  | hush n => exact ok_cons ((ok_int _).mono (by decide)) ok_nil
  | fin n => exact ok_cons ((ok_int _).mono (by decide)) ok_nil
  | begin n t => exact ok_cons ((ok_int _).mono (by decide)) (ok_cons ((ok_int _).mono (by decide)) ok_nil)
  | make n t => exact ok_cons ((ok_int _).mono (by decide)) (ok_cons ((ok_int _).mono (by decide)) ok_nil)
  | call n x => exact ok_cons ((ok_int _).mono (by decide)) (ok_cons ((ok_str h).mono (by decide)) ok_nil)
  | join n x => exact ok_cons ((ok_int _).mono (by decide)) (ok_cons ((ok_str h).mono (by decide)) ok_nil)
  | leave n x => exact ok_cons ((ok_int _).mono (by decide)) (ok_cons ((ok_str h).mono (by decide)) ok_nil)
  | cancel n ns => exact ok_cons ((ok_int _).mono (by decide)) (ok_cons (ok_intsT ns) ok_nil)
theorem rows_dp {K : PySem.W.Frag} {H : Hp} {a : Addr} {rs : List Row} (h : LstAt RowAt H a rs) : Dp K H (.ref a) (.list (rs.map Row.dat)) := by
  obtain ⟨xs, ha, hx⟩ := h
  exact dp_lst (fun _ _ q => row_dp q) ha hx
theorem rows_ok {rs : List Row} (h : ∀ r ∈ rs, r.txt) : okD 3 (.list (rs.map Row.dat)) := ok_lst fun d hd => by
  obtain ⟨r, q, rfl⟩ := List.mem_map.mp hd
  exact row_ok (h r q)
def onD : Option Nat → PyData | none => .none | some n => .int (n : Int)
def Evt.dat (e : Evt) : PyData := .tuple [.str e.word, onD e.maker, .str e.road.str, .int e.due]
theorem onD_ok (o : Option Nat) : okD 0 (onD o) := by
  cases o
  · exact ok_non
  · exact ok_int _
theorem onD_dp {K : PySem.W.Frag} {H : Hp} (o : Option Nat) : Dp K H (onV o) (onD o) := by
  cases o
  · exact .non
  · exact .int _
theorem evt_dp {K : PySem.W.Frag} {H : Hp} {v : V} {e : Evt} (h : EvtAt H v e) : Dp K H v e.dat := by
  obtain ⟨p, rfl, h1⟩ := h
  exact .tup (SqT.of h1) (.cons (.str _) (.cons (onD_dp _) (.cons (.str _) (.cons (.int _) .nil))))
theorem road_ok (r : Road) : strOkT r.str := by cases r <;> simp only [Road.str] <;> unfold strOkT <;> decide +kernel
theorem evt_ok {e : Evt} (h : strOkT e.word) : okD 1 e.dat :=
  ok_tup (ok_cons (ok_str h) (ok_cons (onD_ok _) (ok_cons (ok_str (road_ok _)) (ok_cons (ok_int _) ok_nil))))
theorem evts_dp {K : PySem.W.Frag} {H : Hp} {a : Addr} {es : List Evt} (h : LstAt EvtAt H a es) : Dp K H (.ref a) (.list (es.map Evt.dat)) := by
  obtain ⟨xs, ha, hx⟩ := h
  exact dp_lst (fun _ _ q => evt_dp q) ha hx
theorem evts_ok {es : List Evt} (h : ∀ e ∈ es, strOkT e.word) : okD 2 (.list (es.map Evt.dat)) := ok_lst fun d hd => by
  obtain ⟨r, q, rfl⟩ := List.mem_map.mp hd
  exact evt_ok (h r q)
end Ev
namespace Ev
open PySem L2
section
variable {P : Program} {w : World} {K : PySem.W.Frag} {mg : Str → Option Value} {base : Heap}
def sp_lnumber : Sp := fun vs H Q _ => ∃ (c : Nat), vs = [nV c] ∧ c ≤ 140 ∧ Q (nV (7 * c)) H
theorem ok_lnumber (T : Tx K mg) : FnOk P w K mg base CX0 1 T.f_lnumber T.d_lnumber ["_law_count"] (sp_lnumber) := by
  refine T.F_lnumber.ok sc_lnumber (by walk_at "len") (fun cdv A outer s H vs Q E hr h => ?_)
  obtain ⟨c, rfl, hc, k⟩ := h
  refine ⟨_, (pss_one (ps_ret (pe_op op_add (pe_op op_mod (pe_op op_mul (pv 0) pe_int) pe_int) (pe_op op_mul (pe_op op_fdiv (pv 0) pe_int) pe_int)))), ?_⟩
  refine ⟨_, rfl, _, _, rfl, rfl, .inr (by decide), _, _, rfl, rfl, (by show (0 : Int) < 1009; decide), _, rfl, _, _, rfl, rfl, ⟨by decide, by decide⟩, _, _, rfl, rfl, .inr (by decide), _, _, rfl, rfl, ?_⟩
  dsimp only
  have e : (c : Int) * 7 % 1009 + (c : Int) / 1009 * 1009 = ((7 * c : Nat) : Int) := by omega
  rw [e]
  exact k
def sp_lpairsRise (K : PySem.W.Frag) : Sp := fun vs H Q _ => ∃ (a : Addr) (rows : List (Int × Nat)), vs = [.ref a] ∧ LstAt RwAt H a rows ∧ rows.length ≤ 1000 ∧ Up rows ∧ Q (.bl true) H
theorem ok_lpairsRise (T : Tx K mg) : FnOk P w K mg base CX0 1 T.f_lpairsRise T.d_lpairsRise ["_law_rows"] (sp_lpairsRise K) := by
  refine T.F_lpairsRise.ok sc_lpairsRise (by walk_at "len") (fun cdv A outer s H vs Q E hr h => ?_)
  obtain ⟨a, rows, rfl, ⟨xs, ha, hx⟩, hl, up, k⟩ := h
  refine ⟨_, (pss_cons (ps_for PassesOwn.never rfl (pi_range2 rfl T.z_range (pa_cons pe_int (pa_cons (pe_callB (kLen K) (by rfl) T.z_len PySem.boot_len (pa_cons (pv 0) pa_nil)) pa_nil))) (pg_name (i := 1) sc_lpairsRise.nd rfl (Or.inl rfl))
        (pss_one (ps_if (pt_cmpR (kGeP K hr.units0) (pe_ix (kIxL K) (pv 0) (pe_op op_sub (pv 1) pe_int) (fun _ _ => rfl)) (pe_ix (kIxL K) (pv 0) (pv 1) (fun _ _ => rfl)) (nomark _))
            (pss_one (ps_ret pe_bl))
            pss_nil)))
    (pss_one (ps_ret pe_bl))), ?_⟩
  have lx := Pd.len hx
  refine ⟨_, rfl, a, _, rfl, .inl (SqL.of ha), _, _, rfl, ⟨by decide, by decide, by omega, by omega⟩, ?_⟩
  refine for_range (fun i σ H' => H' = H ∧ ∃ o, σ = [some (.ref a), o]) ⟨rfl, _, rfl⟩ ?_ ?_
  · rintro i σ H' hi ⟨rfl, o, rfl⟩
    have hi2 : i + 1 < rows.length := by omega
    obtain ⟨v1, e1, p1, rfl, h1⟩ := Pd.at' hx (List.getElem?_eq_getElem (by omega : i < rows.length))
    obtain ⟨v2, e2, p2, rfl, h2⟩ := Pd.at' hx (List.getElem?_eq_getElem hi2)
    have u := (List.pairwise_iff_getElem.mp up) i (i + 1) (by omega) hi2 (Nat.lt_succ_self _)
    refine ⟨_, rfl, _, rfl, _, _, rfl, rfl, a, _, _, _, rfl, rfl, SqL.of ha, at_of (j := i) (by omega) e1, ?_⟩
    refine ⟨_, rfl, _, rfl, a, _, _, _, rfl, rfl, SqL.of ha, at_of (j := i + 1) (by omega) e2, ?_⟩
    refine ⟨p1, p2, _, _, _, _, rfl, rfl, SqT.of h1, SqT.of h2, _, rfl, iteF' ?_ ?_⟩
    · unfold rowGt at u
      have := of_decide_eq_true u
      exact decide_eq_false (by omega)
    · exact ⟨rfl, _, rfl⟩
  · rintro σ H' ⟨rfl, o, rfl⟩
    exact k
theorem cut_to {xs ys : List V} {k : Int} (h : k = (xs.length : Int)) : cutV (xs ++ ys) none (some k) = xs := by
  subst h
  unfold cutV
  rw [HT.sIx_none, HT.sIx_nat, List.length_append, Nat.min_eq_left (Nat.le_add_right _ _)]
  simp
theorem cut_from {xs ys : List V} {k : Int} (h : k = (xs.length : Int)) : cutV (xs ++ ys) (some k) none = ys := by
  subst h
  unfold cutV
  rw [HT.sIx_none, HT.sIx_nat, List.length_append, Nat.min_eq_left (Nat.le_add_right _ _)]
  simp
def sp_lgood : Sp := fun vs H Q _ => ∃ (f s l : Addr) (count : Nat) (soon : List Nat) (rows : List (Int × Nat)) (late : Late), vs = [.ref f, .ref s, .ref l] ∧ I3 count soon rows late ∧ count ≤ 100 ∧
  H f = some (.lst ((soon ++ rows.map Prod.snd).map nV)) ∧ H s = some (.lst (soon.map nV)) ∧ H l = some (.dK (lateK late)) ∧ ∀ H', Kp [] H H' → Q (.bl true) H'
theorem ok_lgood (T : Tx K mg) : FnOk P w K mg base CX0 2 T.f_lgood T.d_lgood ["_law_found", "_law_soon", "_law_late"] (sp_lgood) := by
  refine T.F_lgood.ok sc_lgood (by walk_at "len") (fun cdv A outer s H vs Q E hr h => ?_)
  obtain ⟨f, s1, l, count, soon, rows, late, rfl, i, hc, hf, hs, hl, k⟩ := h
  refine ⟨_, (pss_cons (ps_if (PW.pt (pw_or (pt_not (pt_val (pe_callB (kIsi K) (by rfl) T.z_isinstance (by decide +kernel) (pa_cons (pv 0) (pa_cons (pe_bltn (v := .ty "list") (by rfl) T.z_list (by decide +kernel) rfl) pa_nil))))) (pw_or1 (pt_cmpR op_ne (pe_callB (kLen K) (by rfl) T.z_len PySem.boot_len (pa_cons (pv 0) pa_nil)) (pe_op op_add (pe_callB (kLen K) (by rfl) T.z_len PySem.boot_len (pa_cons (pv 1) pa_nil)) (pe_callB call_lenD (by rfl) T.z_len PySem.boot_len (pa_cons (pv 2) pa_nil))) (nomark _)))))
        (pss_one (ps_ret pe_bl))
        pss_nil)
    (pss_cons (ps_for PassesOwn.never rfl (pi_list (pv 0)) (pg_name (i := 3) sc_lgood.nd rfl (Or.inl rfl))
        (pss_one (ps_if (PW.pt (pw_or (pt_not (pt_val (pe_callB (kIsi K) (by rfl) T.z_isinstance (by decide +kernel) (pa_cons (pv 3) (pa_cons (pe_bltn (v := .ty "int") (by rfl) T.z_int (by decide +kernel) rfl) pa_nil))))) (pw_or1 (pt_val (pe_callB (kIsi K) (by rfl) T.z_isinstance (by decide +kernel) (pa_cons (pv 3) (pa_cons (pe_bltn (v := .ty "bool") (by rfl) T.z_bool (by decide +kernel) rfl) pa_nil)))))))
            (pss_one (ps_ret pe_bl))
            pss_nil)))
    (pss_cons (ps_if (pt_cmpR (kNeD K hr.units) (pe_slice (kSlL K) (pv 0) po_none (po_some (pe_callB (kLen K) (by rfl) T.z_len PySem.boot_len (pa_cons (pv 1) pa_nil)))) (pv 1) (nomark _))
        (pss_one (ps_ret pe_bl))
        pss_nil)
    (pss_cons (ps_set (i := 4) sc_lgood.nd rfl (Or.inl rfl) (pe_lst pa_nil))
    (pss_cons (ps_for PassesOwn.never rfl (pi_list (pe_slice (kSlL K) (pv 0) (po_some (pe_callB (kLen K) (by rfl) T.z_len PySem.boot_len (pa_cons (pv 1) pa_nil))) po_none)) (pg_name (i := 3) sc_lgood.nd rfl (Or.inl rfl))
        (pss_cons (ps_if (pt_cmp (pc_dnotin (hu_of hr) (pv 3) (pv 2)) rfl)
            (pss_one (ps_ret pe_bl))
            pss_nil)
        (pss_one (ps_expr (pe_bm PySem.F.plainAttrs_list PySem.F.slot_list_append PySem.F.type_list_append mt_append (pv 4) (pa_cons (pe_tup (pa_cons (pe_dget (hu_of hr) (pv 2) (pv 3) (fun _ _ => rfl)) (pa_cons (pv 3) pa_nil))) pa_nil))))))
    (pss_one (ps_ret (pe_call (ok_lpairsRise T) (hr.mono (by decide)) rfl T.g_lpairsRise T.F_lpairsRise.kp T.b_lpairsRise .nil pass0 (pa_cons (pv 4) pa_nil))))))))), ?_⟩
  have tot := i.total
  refine ⟨_, rfl, _, _, _, _, _, rfl, .ty _, isL hf, kit_ty (r := true) (by decide +kernel), _, rfl, iteF ?_⟩
  refine ⟨_, rfl, f, _, rfl, .inl (SqL.of hf), _, rfl, s1, _, rfl, .inl (SqL.of hs), _, rfl, l, _, rfl, hl, _, _, rfl, rfl, rfl, _, rfl, iteF' (neF ?_) ?_⟩
  · rw [List.length_map, List.length_append, List.length_map, List.length_map]
    unfold lateK
    rw [List.length_map, i.len]
    exact congrArg V.int (Int.natCast_add _ _)
  walk_at "nf"
  refine for_go ?_
  refine ⟨_, rfl, f, rfl, ⟨_, SqL.of hf⟩, ?_⟩
  refine for_pd (Pd.map (f := nV) (R := fun v x => v = nV x) fun _ _ => rfl) (fun pre σ H' => H' = H ∧ ∃ o, σ = [some (.ref f), some (.ref s1), some (.ref l), o, none]) ⟨rfl, _, rfl⟩ (fun pre σ H' q => by rw [q.1]; exact SqL.of hf) ?_ ?_
  · rintro pre v x post σ H' ed rfl ⟨rfl, o, rfl⟩
    refine ⟨_, rfl, _, _, _, _, _, rfl, .ty _, isI, kit_ty (r := true) (by decide +kernel), _, rfl, iteF ?_⟩
    refine ⟨_, rfl, _, _, _, _, _, rfl, .ty _, isI, kit_ty (r := false) (by decide +kernel), _, rfl, iteF ?_⟩
    exact ⟨rfl, _, rfl⟩
  · rintro σ H' ⟨rfl, o, rfl⟩
    have e1 : (soon ++ rows.map Prod.snd).map nV = soon.map nV ++ (rows.map Prod.snd).map nV := List.map_append
    refine ⟨_, rfl, _, rfl, s1, _, rfl, .inl (SqL.of hs), _, rfl, f, _, rfl, SqL.of hf, fun p hp => ?_⟩
    rw [e1, cut_to (by simp)]
    have k1 := (Kp.refl [] H').new (o := .lst (soon.map nV)) hp
    have hp1 : upd H' p (.lst (soon.map nV)) p = some (.lst (soon.map nV)) := upd_same
    generalize upd H' p (.lst (soon.map nV)) = H1 at k1 hp1 ⊢
    refine ⟨_, rfl, _, _, dp_ints hp1, dp_ints (k1.keep0 hs), (ok_ints _).sh, (ok_ints _).sh, _, rfl, iteF' (by rw [(ok_ints _).rfl]; rfl) ?_⟩
    refine ⟨Nat.zero_le _, fun r hr => ?_⟩
    have k2 := (Kp.refl [] H1).new (o := .lst []) hr
    have hr1 : upd H1 r (.lst []) r = some (.lst []) := upd_same
    generalize upd H1 r (.lst []) = H2 at k2 hr1 ⊢
    have k12 := k1.trans k2
    walk_at "nf"
    refine for_go ?_
    refine ⟨_, rfl, _, rfl, s1, _, rfl, .inl (SqL.of (k12.keep0 hs)), _, rfl, f, _, rfl, SqL.of (k12.keep0 hf), fun q hq => ?_⟩
    rw [e1, cut_from (by simp)]
    have e2 : (rows.map Prod.snd).map nV = rows.map fun c => nV c.2 := by rw [List.map_map]; rfl
    rw [e2]
    have k3 := (Kp.refl [] H2).new (o := .lst (rows.map fun c => nV c.2)) hq
    have hq1 : upd H2 q (.lst (rows.map fun c => nV c.2)) q = some (.lst (rows.map fun c => nV c.2)) := upd_same
    have nqr : q ≠ r := fun e => by rw [e, hr1] at hq; cases hq
    have hr3 := k3.keep0 hr1
    generalize upd H2 q (.lst (rows.map fun c => nV c.2)) = H3 at k3 hq1 hr3 ⊢
    have k13 := k12.trans k3
    have nlr : l ≠ r := fun e => by
      rw [e] at hl
      rw [k1.keep0 hl] at hr
      cases hr
    have ll : late.length = rows.length := i.len
    refine ⟨q, rfl, ⟨_, SqL.of hq1⟩, ?_⟩
    refine for_pd (Pd.map (f := fun c : Int × Nat => nV c.2) (R := fun v c => v = nV c.2) fun _ _ => rfl)
      (fun pre σ Hx => Kp [r] H3 Hx ∧ (∃ acc, Hx r = some (.lst acc) ∧ Paired (RwAt Hx) acc pre) ∧ ∃ o, σ = [some (.ref f), some (.ref s1), some (.ref l), o, some (.ref r)])
      ⟨Kp.refl _ _, ⟨[], hr3, .nil⟩, _, rfl⟩ (fun pre σ Hx z => SqL.of (z.1.keep _ _ (by simpa using nqr) hq1)) ?_ ?_
    · rintro pre v c post σ Hx ed rfl ⟨kx, ⟨acc, ha, hp⟩, o, rfl⟩
      have hlx : Hx l = some (.dK (lateK late)) := kx.keep _ _ (by simpa using nlr) (k13.keep0 hl)
      have ev : valV (lateK late) (Sum.inl (c.2 : Int)) = some (V.int c.1) := by
        rw [late_val, i.look (d := c.1) (by rw [ed]; simp)]
        rfl
      refine ⟨_, rfl, _, rfl, l, _, rfl, DGet.k (k := Sum.inl (c.2 : Int)) hlx, _, rfl, iteF' (by rw [ev]; rfl) ?_⟩
      have dg : DGet Hx l (nV c.2) (some (V.int c.1)) := ev ▸ DGet.k (k := Sum.inl (c.2 : Int)) hlx
      refine ⟨_, rfl, .inl ⟨rfl, _, SqL.of ha⟩, _, rfl, _, rfl, l, _, rfl, dg, _, rfl, (by show 2 ≤ sizeLine; decide), fun t ht => ?_⟩
      have kt := (Kp.refl [r] Hx).new (o := .tup [V.int c.1, nV c.2]) ht
      have hat := ((Kp.refl [] Hx).new (o := .tup [V.int c.1, nV c.2]) ht).keep0 ha
      refine ⟨r, acc, _, rfl, rfl, hat, ?_, ?_⟩
      · have := Pd.len hp
        have : pre.length ≤ rows.length := by rw [ed, List.length_append]; exact Nat.le_add_right _ _
        exact Nat.lt_of_le_of_lt (show acc.length ≤ 100 by omega) (by decide)
      · have km := (Kp.refl [r] (upd Hx t (.tup [V.int c.1, nV c.2]))).lst (o := .lst (acc ++ [.ref t])) (.inl (by simp)) hat
        have kk := kt.trans km
        exact ⟨kx.trans kk, ⟨_, upd_same, Pd.append (Pd.mono (fun _ _ => rwStb _ _ _ _ kk.tk) hp) (.cons ⟨t, rfl, km.tup _ _ upd_same⟩ .nil)⟩, _, rfl⟩
    · rintro σ Hx ⟨kx, ⟨acc, ha, hp⟩, o, rfl⟩
      refine ⟨_, rfl, r, rows, rfl, ⟨acc, ha, hp⟩, by omega, i.up, k Hx ?_⟩
      exact (k13.transM kx fun y hy => .inr (by rw [List.mem_singleton.mp hy]; exact k1.dom _ hr)).mono (by simp)
/-- the law's own book at s (those by soon) and l (those by wait), and the thing itself -/
structure B3 (W : Addr) (H : Hp) (A : WtA) (s l : Addr) (count : Nat) (soon : List Nat) (rows : List (Int × Nat)) (late : Late) : Prop where
  w : WaitsAt W H A soon rows
  hs : H s = some (.lst (soon.map nV))
  hl : H l = some (.dK (lateK late))
  ns : s ∉ A.cells
  nl : l ∉ A.cells
  i : I3 count soon rows late
  c : count ≤ 100
theorem WaitsAt.isin {W : Addr} {H : Hp} {A : WtA} {soon : List Nat} {rows : List (Int × Nat)} (w : WaitsAt W H A soon rows) : ∀ x ∈ A.cells, H x ≠ none := fun x hx q => by
  obtain ⟨ys, wr, _⟩ := w.rw
  simp only [WtA.cells, List.mem_cons, List.not_mem_nil, or_false] at hx
  rcases hx with rfl | rfl | rfl
  · rw [w.wa] at q; cases q
  · rw [w.fo] at q; cases q
  · rw [wr] at q; cases q
theorem WtPost.out {W : Addr} {H H' : Hp} {A A' : WtA} {soon : List Nat} {rows : List (Int × Nat)} (p : WtPost W H A H' A' soon rows) {x : Addr} {o : HO} (h : H x = some o) (n : x ∉ A.cells) : H' x = some o ∧ x ∉ A'.cells := by
  refine ⟨p.kp.keep _ _ n h, fun q => ?_⟩
  simp only [WtA.cells, List.mem_cons, List.not_mem_nil, or_false, not_or] at q n
  rcases q with q | q | q
  · exact n.1 (q.trans p.wa)
  · rcases p.fo with e | e
    · exact n.2.1 (q.trans e)
    · rw [← q, h] at e; cases e
  · rcases p.rw with e | e
    · exact n.2.2 (q.trans e)
    · rw [← q, h] at e; cases e
theorem WtPost.in0 {W : Addr} {H H' : Hp} {A A' : WtA} {soon : List Nat} {rows : List (Int × Nat)} (p : WtPost W H A H' A' soon rows) : ∀ x ∈ A'.cells, x ∈ A.cells ∨ H x = none := fun x hx => by
  simp only [WtA.cells, List.mem_cons, List.not_mem_nil, or_false] at hx ⊢
  rcases hx with rfl | rfl | rfl
  · exact .inl (.inl p.wa)
  · exact p.fo.elim (fun e => .inl (.inr (.inl e))) .inr
  · exact p.rw.elim (fun e => .inl (.inr (.inr e))) .inr
/-- what a deed of the law leaves -/
def P3 (W : Addr) (H : Hp) (A : WtA) (s l : Addr) (count : Nat) (H' : Hp) : Prop := ∃ A' soon rows late, B3 W H' A' s l count soon rows late ∧ A'.wa = A.wa ∧ Kp (A.cells ++ [s, l]) H H' ∧ ∀ x ∈ A'.cells, x ∈ A.cells ∨ H x = none
def sp_ltaken (W : Addr) : Sp := fun vs H Q _ => ∃ (A : WtA) (s l : Addr) (count : Nat) (soon : List Nat) (rows : List (Int × Nat)) (late : Late), vs = [.ref A.wa, .ref s, .ref l] ∧ B3 W H A s l count soon rows late ∧
  ∀ H', P3 W H A s l count H' → Q (.bl true) H'
theorem ok_ltaken (T : Tx K mg) : FnOk P w K mg base CX0 2 T.f_ltaken T.d_ltaken ["_law_waits", "_law_soon", "_law_late"] (sp_ltaken T.c_Waits) := by
  refine T.F_ltaken.ok sc_ltaken (by walk_at "len") (fun cdv A outer s H vs Q E hr h => ?_)
  obtain ⟨A, s1, l, count, soon, rows, late, rfl, b, k⟩ := h
  refine ⟨_, (pss_cons (ps_set (i := 3) sc_ltaken.nd rfl (Or.inl rfl) (pe_meth0 (pv 0) T.cl_Waits T.m_WaitsLineup (ok_WaitsLineup T) (hr.mono (by decide)) T.b_WaitsLineup .nil pass0))
    (pss_cons (ps_set (i := 4) sc_ltaken.nd rfl (Or.inl rfl) (pe_meth0 (pv 0) T.cl_Waits T.m_WaitsLead (ok_WaitsLead T) (hr.mono (by decide)) T.b_WaitsLead .nil pass0))
    (pss_cons (ps_if (PW.pt (pw_and (pt_not (kTruth K (pv 1))) (pw_and1 (pt_not (kTruth K (pv 2))))))
        (pss_one (ps_ret (pe_cmpR op_isN (pv 4) pe_non (nomark _))))
        pss_nil)
    (pss_cons (ps_if (PW.pt (pw_or (pt_not (pt_val (pe_callB (kIsi K) (by rfl) T.z_isinstance (by decide +kernel) (pa_cons (pv 4) (pa_cons (pe_bltn (v := .ty "tuple") (by rfl) T.z_tuple (by decide +kernel) rfl) pa_nil))))) (pw_or (pt_cmpR op_ne (pe_callB (kLen K) (by rfl) T.z_len PySem.boot_len (pa_cons (pv 4) pa_nil)) pe_int (nomark _)) (pw_or1 (pt_cmpR op_ne (pe_ix (kIxT K) (pv 4) pe_int (fun _ _ => rfl)) (pe_ix (kIxL K) (pv 3) pe_int (fun _ _ => rfl)) (nomark _))))))
        (pss_one (ps_ret pe_bl))
        pss_nil)
    (pss_cons (ps_if (kTruth K (pv 1))
        (pss_cons (ps_set (i := 5) sc_ltaken.nd rfl (Or.inl rfl) (pe_bm PySem.F.plainAttrs_list PySem.F.slot_list_pop PySem.F.type_list_pop mt_popAt (pv 1) (pa_cons pe_int pa_nil)))
        (pss_one (ps_ret (pe_and (pe_cmpR op_eq (pe_ix (kIxT K) (pv 4) pe_int (fun _ _ => rfl)) (pv 5) (nomark _)) (pe_one (pe_cmpR op_isN (pe_ix (kIxT K) (pv 4) pe_int (fun _ _ => rfl)) pe_non (nomark _)))))))
        pss_nil)
    (pss_cons (ps_if (PW.pt (pw_or (pt_cmp (pc_dnotin (hu_of hr) (pe_ix (kIxT K) (pv 4) pe_int (fun _ _ => rfl)) (pv 2)) rfl) (pw_or (pt_cmpR op_ne (pe_ix (kIxT K) (pv 4) pe_int (fun _ _ => rfl)) (pe_dget (hu_of hr) (pv 2) (pe_ix (kIxT K) (pv 4) pe_int (fun _ _ => rfl)) (fun _ _ => rfl)) (nomark _)) (pw_or1 (pt_val (pe_callB (kIsi K) (by rfl) T.z_isinstance (by decide +kernel) (pa_cons (pe_ix (kIxT K) (pv 4) pe_int (fun _ _ => rfl)) (pa_cons (pe_bltn (v := .ty "bool") (by rfl) T.z_bool (by decide +kernel) rfl) pa_nil))))))))
        (pss_one (ps_ret pe_bl))
        pss_nil)
    (pss_cons (ps_expr (pe_dpop1 (pv 2) (pe_ix (kIxT K) (pv 4) pe_int (fun _ _ => rfl)) ⟨by rfl, by rfl, by rfl, by rfl⟩))
    (pss_one (ps_ret pe_bl))))))))), ?_⟩
  have tot := b.i.total
  have hc := b.c
  have nsl : s1 ≠ l := fun e => by have := b.hs; rw [e, b.hl] at this; cases this
  -- lineup, lead
  refine ⟨_, rfl, A.wa, A.wdx, _, rfl, b.w.wa, wf_no (by decide +kernel), A, soon, rows, rfl, b.w, by omega, fun p H1 hp k1 hp1 => ?_⟩
  have w1 := b.w.kp k1 (by simp)
  have s1' := k1.keep0 b.hs
  have l1' := k1.keep0 b.hl
  have pc : p ∉ A.cells := fun q => b.w.isin p q hp
  have mb : ∀ x, x ∈ A.cells → x ∈ A.cells ++ [s1, l] := fun x hx => List.mem_append.mpr (.inl hx)
  have ms : s1 ∈ A.cells ++ [s1, l] := by simp
  have ml : l ∈ A.cells ++ [s1, l] := by simp
  have kA : ∀ {H' : Hp}, Kp A.cells H1 H' → Kp (A.cells ++ [s1, l]) H H' := fun kk => (k1.mono (M := A.cells ++ [s1, l]) (by simp)).transM kk fun x hx => .inl (mb x hx)
  have fr : ∀ x, H1 x = none → H x = none := fun x => k1.dom x
  refine ⟨_, rfl, A.wa, A.wdx, _, rfl, w1.wa, wf_no (by decide +kernel), A, soon, rows, rfl, w1, fun n soon' e t H2 A2 po ht => ?_, fun d n rows' e1 e2 t H2 A2 po ht => ?_, fun e1 e2 => ?_⟩
  · subst e
    obtain ⟨s2, sc⟩ := po.out s1' b.ns
    obtain ⟨l2, lc⟩ := po.out l1' b.nl
    have p2 := po.kp.keep _ _ pc hp1
    refine ⟨_, rfl, true, .inl ⟨_, SqL.of s2, rfl⟩, iteF (iteF ?_)⟩
    refine ⟨_, rfl, _, _, _, _, _, rfl, .ty _, isT ht, kit_ty (r := true) (by decide +kernel), _, rfl, iteF ?_⟩
    refine ⟨_, rfl, t, _, rfl, .inr (SqT.of ht), rfl, _, rfl, iteF' (neF rfl) ?_⟩
    refine ⟨_, rfl, t, _, _, _, rfl, rfl, SqT.of ht, at0, _, rfl, p, _, _, _, rfl, rfl, SqL.of p2, at0, rfl, _, rfl, iteF' (neF rfl) ?_⟩
    refine ⟨_, rfl, true, .inl ⟨_, SqL.of s2, rfl⟩, iteT ?_⟩
    refine ⟨_, rfl, .inl ⟨rfl, _, SqL.of s2⟩, s1, _, 0, 0, _, rfl, rfl, s2, by decide, by decide, sq0 (by simp), rfl, ?_⟩
    have km : Kp [s1] H2 (upd H2 s1 (.lst (((n :: soon').map nV).eraseIdx 0))) := (Kp.refl _ _).lst (.inl (by simp)) s2
    have s3 : upd H2 s1 (.lst (((n :: soon').map nV).eraseIdx 0)) s1 = some (.lst (soon'.map nV)) := upd_same
    generalize upd H2 s1 (.lst (((n :: soon').map nV).eraseIdx 0)) = H3 at km s3 ⊢
    have l3 := km.keep _ _ (by simpa using Ne.symm nsl) l2
    have t3 := km.tup _ _ ht
    refine ⟨_, rfl, t, _, _, _, rfl, rfl, SqT.of t3, at0, _, rfl, rfl, _, rfl, iteT' (decide_eq_true rfl) ?_⟩
    refine ⟨_, rfl, t, _, _, _, rfl, rfl, SqT.of t3, at1, rfl, ?_⟩
    refine k H3 ⟨A2, soon', rows, late, ⟨po.w.kp km (fun x hx z => sc (by rw [List.mem_singleton.mp z] at hx; exact hx)), s3, l3, sc, lc, b.i.lead1, b.c⟩, po.wa, (kA po.kp).transM km fun x hx => .inl (by rw [List.mem_singleton.mp hx]; exact ms), fun x hx => (po.in0 x hx).imp_right (fr x)⟩
  · subst e1 e2
    obtain ⟨s2, sc⟩ := po.out s1' b.ns
    obtain ⟨l2, lc⟩ := po.out l1' b.nl
    have p2 := po.kp.keep _ _ pc hp1
    have ev : valV (lateK late) (Sum.inl (n : Int)) = some (V.int d) := by
      rw [late_val, b.i.look (d := d) (List.mem_cons_self ..)]
      rfl
    have dg : DGet H2 l (nV n) (some (V.int d)) := ev ▸ DGet.k (k := Sum.inl (n : Int)) l2
    have ne : (lateK late).isEmpty = false := by
      have q := b.i.len
      rw [List.isEmpty_eq_false_iff]
      intro e
      have e2 := congrArg List.length e
      unfold lateK at e2
      rw [List.length_map, q] at e2
      simp at e2
    refine ⟨_, rfl, false, .inl ⟨_, SqL.of s2, rfl⟩, iteT ⟨_, rfl, true, .inr (.inr ⟨_, l2, by rw [ne]; rfl⟩), iteF ?_⟩⟩
    refine ⟨_, rfl, _, _, _, _, _, rfl, .ty _, isT ht, kit_ty (r := true) (by decide +kernel), _, rfl, iteF ?_⟩
    refine ⟨_, rfl, t, _, rfl, .inr (SqT.of ht), rfl, _, rfl, iteF' (neF rfl) ?_⟩
    refine ⟨_, rfl, t, _, _, _, rfl, rfl, SqT.of ht, at0, _, rfl, p, _, _, _, rfl, rfl, SqL.of p2, at0, rfl, _, rfl, iteF' (neF rfl) ?_⟩
    refine ⟨_, rfl, false, .inl ⟨_, SqL.of s2, rfl⟩, iteF ?_⟩
    refine ⟨_, rfl, t, _, _, _, rfl, rfl, SqT.of ht, at0, _, rfl, l, _, rfl, DGet.k (k := Sum.inl (n : Int)) l2, _, rfl, iteF' (by rw [ev]; rfl) ?_⟩
    refine ⟨_, rfl, t, _, _, _, rfl, rfl, SqT.of ht, at1, _, rfl, _, rfl, t, _, _, _, rfl, rfl, SqT.of ht, at0, l, _, rfl, dg, rfl, _, rfl, iteF' (neF rfl) ?_⟩
    refine ⟨_, rfl, t, _, _, _, rfl, rfl, SqT.of ht, at1, _, _, _, _, _, rfl, .ty _, isI, kit_ty (r := false) (by decide +kernel), _, rfl, iteF ?_⟩
    refine ⟨_, rfl, l, rfl, .inl ⟨_, .inl l2⟩, _, rfl, t, _, _, _, rfl, rfl, SqT.of ht, at0, _, Sum.inl (n : Int), _, l2, rfl, ev, ?_⟩
    rw [late_drop]
    have km : Kp [l] H2 (upd H2 l (.dK (lateK (late.filter fun c => !decide (c.1 = n))))) := (Kp.refl _ _).dk (.inl (by simp)) l2
    have l3 : upd H2 l (.dK (lateK (late.filter fun c => !decide (c.1 = n)))) l = some (.dK (lateK (late.filter fun c => !decide (c.1 = n)))) := upd_same
    generalize upd H2 l (.dK (lateK (late.filter fun c => !decide (c.1 = n)))) = H3 at km l3 ⊢
    have s3 := km.keep _ _ (by simpa using nsl) s2
    refine k H3 ⟨A2, [], rows', _, ⟨po.w.kp km (fun x hx z => lc (by rw [List.mem_singleton.mp z] at hx; exact hx)), s3, l3, sc, lc, b.i.lead2, b.c⟩, po.wa, (kA po.kp).transM km fun x hx => .inl (by rw [List.mem_singleton.mp hx]; exact ml), fun x hx => (po.in0 x hx).imp_right (fr x)⟩
  · subst e1 e2
    have ne : late = [] := List.length_eq_zero_iff.mp b.i.len
    subst ne
    refine ⟨_, rfl, false, .inl ⟨_, SqL.of s1', rfl⟩, iteT ⟨_, rfl, false, .inr (.inr ⟨_, l1', rfl⟩), iteT ?_⟩⟩
    refine ⟨_, rfl, rfl, k H1 ⟨A, [], [], [], ⟨w1, s1', l1', b.ns, b.nl, b.i, b.c⟩, rfl, k1.mono (by simp), fun x hx => .inl hx⟩⟩
/-! ### dropped -/
theorem filt_n (l : List Nat) (ns : List Nat) (x : Nat) : (l.filter fun c => !decide (c ∈ ns)).filter (fun c => !decide (c = x)) = l.filter fun c => !decide (c ∈ ns ++ [x]) := filt_snoc (fun n : Nat => n) l ns x
theorem filt_l (l : Late) (ns : List Nat) (x : Nat) : (l.filter fun c => !decide (c.1 ∈ ns)).filter (fun c => !decide (c.1 = x)) = l.filter fun c => !decide (c.1 ∈ ns ++ [x]) := filt_snoc Prod.fst l ns x
theorem lkN_no : ∀ {l : Late} {n : Nat}, lkN l n = none → n ∉ l.map Prod.fst
  | [], _, _ => by simp
  | c :: l, n, h => by
    by_cases e : c.1 = n
    · rw [lkN_pos e] at h
      cases h
    · rw [lkN_neg e] at h
      have ih := lkN_no h
      rw [List.map_cons, List.mem_cons, not_or]
      exact ⟨fun q => e q.symm, ih⟩
theorem remN : ∀ (L : List Nat) (x : Nat), x ∈ L → L.Nodup → ∃ j : Nat, (L.map fun (n : Nat) => (n : Int))[j]? = some (x : Int) ∧ (∀ m : Nat, m < j → (L.map fun (n : Nat) => (n : Int))[m]? ≠ some (x : Int)) ∧
    (((L.map fun (n : Nat) => (n : Int)).eraseIdx j).map V.int) = (L.filter fun n => !decide (n = x)).map nV
  | y :: L, x, h, nd => by
    rw [List.nodup_cons] at nd
    by_cases e : y = x
    · subst e
      refine ⟨0, rfl, fun m hm => absurd hm (Nat.not_lt_zero _), ?_⟩
      rw [List.filter_cons, if_neg (by simp), List.filter_eq_self.mpr fun c hc => by
        have : c ≠ y := fun q => nd.1 (q ▸ hc)
        simp [this]]
      show (L.map fun (n : Nat) => (n : Int)).map V.int = _
      rw [List.map_map]
      rfl
    · have hx : x ∈ L := (List.mem_cons.mp h).resolve_left fun q => e q.symm
      obtain ⟨j, h1, h2, h3⟩ := remN L x hx nd.2
      refine ⟨j + 1, h1, fun m hm => ?_, ?_⟩
      · cases m with
        | zero =>
          show some (y : Int) ≠ some (x : Int)
          intro q
          exact e (by have := Option.some.inj q; omega)
        | succ m => exact h2 m (by omega)
      · rw [List.filter_cons, if_pos (by simp [e])]
        show nV y :: (((L.map fun (n : Nat) => (n : Int)).eraseIdx j).map V.int) = _
        rw [h3]
        rfl
theorem B3.kp {W : Addr} {H H' : Hp} {A : WtA} {s l : Addr} {count : Nat} {soon : List Nat} {rows : List (Int × Nat)} {late : Late} (b : B3 W H A s l count soon rows late) (k : Kp [] H H') : B3 W H' A s l count soon rows late :=
  ⟨b.w.kp k (by simp), k.keep0 b.hs, k.keep0 b.hl, b.ns, b.nl, b.i, b.c⟩
theorem nats_int (L : List Nat) : L.map nV = (L.map fun (n : Nat) => (n : Int)).map V.int := by
  rw [List.map_map]
  rfl
def sp_ldropped (W : Addr) : Sp := fun vs H Q _ => ∃ (A : WtA) (s l : Addr) (count : Nat) (soon : List Nat) (rows : List (Int × Nat)) (late : Late) (cell : Int), vs = [.ref A.wa, .int cell, nV count, .ref s, .ref l] ∧ B3 W H A s l count soon rows late ∧
  ∀ H', P3 W H A s l count H' → Q (.bl true) H'
theorem ok_ldropped (T : Tx K mg) : FnOk P w K mg base CX0 2 T.f_ldropped T.d_ldropped ["_law_waits", "_law_cell", "_law_count", "_law_soon", "_law_late"] (sp_ldropped T.c_Waits) := by
  refine T.F_ldropped.ok sc_ldropped (by walk_at "len") (fun cdv A outer s H vs Q E hr h => ?_)
  obtain ⟨A, s1, l, count, soon, rows, late, cell, rfl, b, k⟩ := h
  refine ⟨_, (pss_cons (ps_setLc (i := 5) (own := [("_law_k", 9)]) (g := gName 9) (tt := tYes) rfl sc_ldropped.nd rfl rfl (sw_true rfl rfl rfl (by decide +kernel)) (pi_range1 rfl T.z_range (pa_cons (pe_op op_mod (pv 1) pe_int) pa_nil)) (blkOk_by (own := [("_law_k", 9)]) (N := nm_ldropped) (sc := defScope s_ldropped) (by decide +kernel)) (fun _ _ _ _ _ => (pg_name (i := 9) sc_ldropped.nd rfl (Or.inl rfl))) (fun _ _ _ _ _ => pts_nil) (fun _ _ _ _ _ => (pe_call (ok_lnumber T) (hr.mono (by decide)) rfl T.g_lnumber T.F_lnumber.kp T.b_lnumber .nil pass0 (pa_cons (pe_op op_mod (pe_op op_add (pe_op op_fdiv (pv 1) pe_int) (pe_op op_mul pe_int (pv 9))) (pe_op op_add (pv 2) pe_int)) pa_nil))))
    (pss_cons (ps_set (i := 6) sc_ldropped.nd rfl (Or.inl rfl) (pe_callTy (kList K) (by rfl) T.z_list (by decide +kernel) (pa_cons (pv 5) pa_nil)))
    (pss_cons (ps_expr (pe_meth (pv 0) T.cl_Waits T.m_WaitsDrop (ok_WaitsDrop T) (hr.mono (by decide)) T.b_WaitsDrop .nil pass0 (pa_cons (pv 6) pa_nil)))
    (pss_cons (ps_set (i := 7) sc_ldropped.nd rfl (Or.inl rfl) (pe_cmpR (kEqD K hr.units) (pv 6) (pv 5) (nomark _)))
    (pss_cons (ps_expr (pe_bm0 PySem.F.plainAttrs_list PySem.F.slot_list_clear PySem.F.type_list_clear mt_clear (pv 6)))
    (pss_cons (ps_for PassesOwn.never rfl (pi_list (pv 5)) (pg_name (i := 8) sc_ldropped.nd rfl (Or.inl rfl))
        (pss_cons (ps_if (pt_cmpR (kIn K) (pv 8) (pv 3) rfl)
            (pss_one (ps_expr (pe_bm PySem.F.plainAttrs_list PySem.F.slot_list_remove PySem.F.type_list_remove mt_remove (pv 3) (pa_cons (pv 8) pa_nil))))
            pss_nil)
        (pss_one (ps_if (pt_cmp (pc_din (hu_of hr) (pv 8) (pv 4)) rfl)
            (pss_one (ps_expr (pe_dpop1 (pv 4) (pv 8) ⟨by rfl, by rfl, by rfl, by rfl⟩)))
            pss_nil))))
    (pss_one (ps_ret (pv 7))))))))), ?_⟩
  have tot := b.i.total
  have hc := b.c
  have nsl : s1 ≠ l := fun e => by have := b.hs; rw [e, b.hl] at this; cases this
  have g4 : cell % 4 < 4 := Int.emod_lt_of_pos _ (by decide)
  have g0 : 0 ≤ cell % 4 := Int.emod_nonneg _ (by decide)
  walk_at "nf"
  refine lc_go ?_
  refine ⟨_, rfl, _, _, rfl, rfl, (by show (0 : Int) < 4; decide), _, rfl, (by show _ ≤ cell % 4; omega), (by show cell % 4 < _; omega), ?_⟩
  refine lc_rmp (fun i => nV (7 * ((cell / 3 + 7 * (i : Int)) % ((count : Int) + 2)).toNat)) (Nat.lt_of_le_of_lt (show (cell % 4).toNat ≤ 10 by omega) (by decide)) (fun x => rfl) ?_ ?_
  · intro i H' Q' hi kp q
    have z0 : (0 : Int) < (count : Int) + 2 := by omega
    have z1 := Int.emod_nonneg (cell / 3 + 7 * (i : Int)) (b := (count : Int) + 2) (by omega)
    have z2 := Int.emod_lt_of_pos (cell / 3 + 7 * (i : Int)) z0
    have ei : (0 : Int) + (i : Int) = i := Int.zero_add _
    rw [ei]
    refine ⟨_, rfl, _, _, rfl, rfl, ⟨by decide, by decide⟩, _, rfl, _, _, rfl, rfl, .inl (by decide), _, _, rfl, rfl, _, rfl, _, _, rfl, rfl, _, _, rfl, rfl, z0, ((cell / 3 + 7 * (i : Int)) % ((count : Int) + 2)).toNat, ?_, by omega, q _ (Kp.refl _ _)⟩
    show [V.int ((cell / 3 + 7 * (i : Int)) % ((count : Int) + 2))] = [V.int _]
    rw [Int.toNat_of_nonneg z1]
  intro p H1 hp k1 hp1
  have en : (List.range (cell % 4).toNat).map (fun (i : Nat) => nV (7 * ((cell / 3 + 7 * (i : Int)) % ((count : Int) + 2)).toNat)) = ((List.range (cell % 4).toNat).map fun (i : Nat) => 7 * ((cell / 3 + 7 * (i : Int)) % ((count : Int) + 2)).toNat).map nV := by
    rw [List.map_map]
    rfl
  rw [en] at hp1
  generalize ((List.range (cell % 4).toNat).map fun (i : Nat) => 7 * ((cell / 3 + 7 * (i : Int)) % ((count : Int) + 2)).toNat) = ns at hp1
  -- given = list(numbers)
  refine ⟨_, rfl, p, _, rfl, .inl (SqL.of hp1), fun g hg => ?_⟩
  have k2 := (Kp.refl [] H1).new (o := .lst (ns.map nV)) hg
  have hg2 : upd H1 g (.lst (ns.map nV)) g = some (.lst (ns.map nV)) := upd_same
  generalize upd H1 g (.lst (ns.map nV)) = H2 at k2 hg2 ⊢
  have k12 := k1.trans k2
  have b2 := b.kp k12
  have hp2 := k2.keep0 hp1
  have gp : g ≠ p := fun e => by rw [e, hp1] at hg; cases hg
  have gc : g ∉ A.cells := fun q => (b.kp k1).w.isin g q hg
  have pc : p ∉ A.cells := fun q => b.w.isin p q hp
  refine ⟨_, rfl, A.wa, A.wdx, _, rfl, b2.w.wa, wf_no (by decide +kernel), _, rfl, A, soon, rows, g, ns, rfl, b2.w, by omega, by omega, hg2, fun H3 A3 po => ?_⟩
  have hg3 := po.kp.keep _ _ gc hg2
  have hp3 := po.kp.keep _ _ pc hp2
  obtain ⟨s3, sc⟩ := po.out b2.hs b2.ns
  obtain ⟨l3, lc⟩ := po.out b2.hl b2.nl
  refine ⟨_, rfl, _, rfl, _, _, dp_ints hg3, dp_ints hp3, (ok_ints _).sh, (ok_ints _).sh, ?_⟩
  rw [(ok_ints ns).rfl]
  refine ⟨_, rfl, .inl ⟨rfl, _, SqL.of hg3⟩, g, _, rfl, rfl, hg3, ?_⟩
  have k4 : Kp [g] H3 (upd H3 g (.lst [])) := (Kp.refl _ _).lst (.inl (by simp)) hg3
  generalize upd H3 g (.lst []) = H4 at k4 ⊢
  have gs : s1 ≠ g := fun e => by rw [← e, k1.keep0 b.hs] at hg; cases hg
  have gl : l ≠ g := fun e => by rw [← e, k1.keep0 b.hl] at hg; cases hg
  have ps : p ≠ s1 := fun e => by rw [e, b.hs] at hp; cases hp
  have pl : p ≠ l := fun e => by rw [e, b.hl] at hp; cases hp
  have s4 := k4.keep _ _ (by simpa using gs) s3
  have l4 := k4.keep _ _ (by simpa using gl) l3
  have p4 := k4.keep _ _ (by simpa using Ne.symm gp) hp3
  have gc3 : g ∉ A3.cells := fun q => (po.in0 g q).elim gc fun z => by rw [hg2] at z; cases z
  have w4 := po.w.kp k4 (fun x hx z => gc3 (by rw [List.mem_singleton.mp z] at hx; exact hx))
  have mb : ∀ x, x ∈ A.cells → x ∈ A.cells ++ [s1, l] := fun x hx => List.mem_append.mpr (.inl hx)
  have kall : Kp (A.cells ++ [s1, l]) H H4 := by
    have a1 : Kp (A.cells ++ [s1, l]) H H3 := (k12.mono (M := A.cells ++ [s1, l]) (by simp)).transM po.kp fun x hx => .inl (mb x hx)
    exact a1.transM k4 fun x hx => .inr (by rw [List.mem_singleton.mp hx]; exact k1.dom _ hg)
  walk_at "nf"
  refine for_go ?_
  refine ⟨_, rfl, p, rfl, ⟨_, SqL.of p4⟩, ?_⟩
  refine for_pd (Pd.map (f := nV) (R := fun v x => v = nV x) fun _ _ => rfl)
    (fun pre σ Hx => Kp [s1, l] H4 Hx ∧ Hx s1 = some (.lst ((soon.filter fun c => !decide (c ∈ pre)).map nV)) ∧ Hx l = some (.dK (lateK (late.filter fun c => !decide (c.1 ∈ pre)))) ∧ ∃ o, σ = [some (.ref A.wa), some (.int cell), some (nV count), some (.ref s1), some (.ref l), some (.ref p), some (.ref g), some (.bl true), o, none])
    ⟨Kp.refl _ _, by rw [List.filter_eq_self.mpr fun c _ => by simp]; exact s4, by rw [List.filter_eq_self.mpr fun c _ => by simp]; exact l4, _, rfl⟩ (fun pre σ Hx z => SqL.of (z.1.keep _ _ (by simp [ps, pl]) p4)) ?_ ?_
  · rintro pre v x post σ Hx ed rfl ⟨kx, sx, lx, o, rfl⟩
    refine ⟨_, rfl, _, rfl, s1, _, rfl, .inl (SqL.of sx), rfl, flat_nats _, _, rfl, ?_⟩
    rw [inV_nats]
    have ndf : (soon.filter fun c => !decide (c ∈ pre)).Nodup := (List.nodup_append.mp b.i.nd).1.sublist List.filter_sublist
    refine ite2 (fun hc => ?_) (fun hc => ?_)
    · obtain ⟨j, h1, h2, h3⟩ := remN _ x (of_decide_eq_true hc) ndf
      have sx2 := sx
      rw [nats_int] at sx2
      refine ⟨_, rfl, .inl ⟨rfl, _, SqL.of sx⟩, _, rfl, s1, _, (x : Int), j, rfl, rfl, sx2, h1, h2, ?_⟩
      rw [h3, filt_n]
      have km : Kp [s1, l] Hx (upd Hx s1 (.lst ((soon.filter fun c => !decide (c ∈ pre ++ [x])).map nV))) := (Kp.refl _ _).lst (.inl (by simp)) sx
      have sy : upd Hx s1 (.lst ((soon.filter fun c => !decide (c ∈ pre ++ [x])).map nV)) s1 = some (.lst ((soon.filter fun c => !decide (c ∈ pre ++ [x])).map nV)) := upd_same
      have ly := (upd_ne (H := Hx) (o := .lst ((soon.filter fun c => !decide (c ∈ pre ++ [x])).map nV)) (Ne.symm nsl)).trans lx
      have ky := kx.trans km
      generalize upd Hx s1 (.lst ((soon.filter fun c => !decide (c ∈ pre ++ [x])).map nV)) = Hy at sy ly ky ⊢
      have ev := late_val (late.filter fun c => !decide (c.1 ∈ pre)) x
      cases e : lkN (late.filter fun c => !decide (c.1 ∈ pre)) x with
      | some d =>
        rw [e] at ev
        refine ⟨_, rfl, _, rfl, l, _, rfl, DGet.k (k := Sum.inl (x : Int)) ly, _, rfl, iteT' (by rw [ev]; rfl) ?_⟩
        refine ⟨_, rfl, l, rfl, .inl ⟨_, .inl ly⟩, _, rfl, _, Sum.inl (x : Int), _, ly, rfl, ev, ?_⟩
        rw [late_drop, filt_l]
        have km : Kp [s1, l] Hy (upd Hy l (.dK (lateK (late.filter fun c => !decide (c.1 ∈ pre ++ [x]))))) := (Kp.refl _ _).dk (.inl (by simp)) ly
        exact ⟨ky.trans km, (upd_ne nsl).trans sy, upd_same, _, rfl⟩
      | none =>
        rw [e] at ev
        refine ⟨_, rfl, _, rfl, l, _, rfl, DGet.k (k := Sum.inl (x : Int)) ly, _, rfl, iteF' (by rw [ev]; rfl) ?_⟩
        refine ⟨ky, sy, ?_, _, rfl⟩
        rw [← filt_l, List.filter_eq_self.mpr fun c hc => ?_]
        · exact ly
        · have : c.1 ≠ x := fun q => by
            have z := lkN_no e
            exact z (q ▸ List.mem_map.mpr ⟨c, hc, rfl⟩)
          simp [this]
    · have sy : Hx s1 = some (.lst ((soon.filter fun c => !decide (c ∈ pre ++ [x])).map nV)) := by
        rw [← filt_n, List.filter_eq_self.mpr fun c hc2 => ?_]
        · exact sx
        · have : c ≠ x := fun q => hc (decide_eq_true (q ▸ hc2))
          simp [this]
      have ly := lx
      have ky := kx
      generalize Hx = Hy at sy ly ky ⊢
      have ev := late_val (late.filter fun c => !decide (c.1 ∈ pre)) x
      cases e : lkN (late.filter fun c => !decide (c.1 ∈ pre)) x with
      | some d =>
        rw [e] at ev
        refine ⟨_, rfl, _, rfl, l, _, rfl, DGet.k (k := Sum.inl (x : Int)) ly, _, rfl, iteT' (by rw [ev]; rfl) ?_⟩
        refine ⟨_, rfl, l, rfl, .inl ⟨_, .inl ly⟩, _, rfl, _, Sum.inl (x : Int), _, ly, rfl, ev, ?_⟩
        rw [late_drop, filt_l]
        have km : Kp [s1, l] Hy (upd Hy l (.dK (lateK (late.filter fun c => !decide (c.1 ∈ pre ++ [x]))))) := (Kp.refl _ _).dk (.inl (by simp)) ly
        exact ⟨ky.trans km, (upd_ne nsl).trans sy, upd_same, _, rfl⟩
      | none =>
        rw [e] at ev
        refine ⟨_, rfl, _, rfl, l, _, rfl, DGet.k (k := Sum.inl (x : Int)) ly, _, rfl, iteF' (by rw [ev]; rfl) ?_⟩
        refine ⟨ky, sy, ?_, _, rfl⟩
        rw [← filt_l, List.filter_eq_self.mpr fun c hc => ?_]
        · exact ly
        · have : c.1 ≠ x := fun q => by
            have z := lkN_no e
            exact z (q ▸ List.mem_map.mpr ⟨c, hc, rfl⟩)
          simp [this]
  · rintro σ Hx ⟨kx, sx, lx, o, rfl⟩
    refine ⟨_, rfl, k Hx ⟨A3, _, _, _, ⟨w4.kp kx (fun x hx z => ?_), sx, lx, sc, lc, b.i.drop ns, b.c⟩, po.wa, kall.transM kx fun x hx => .inl (List.mem_append.mpr (.inr hx)), fun x hx => (po.in0 x hx).imp_right (k12.dom x)⟩⟩
    simp only [List.mem_cons, List.not_mem_nil, or_false] at z
    rcases z with rfl | rfl
    · exact sc hx
    · exact lc hx
end
end Ev
namespace Ev
open PySem L2
section
variable {P : Program} {w : World} {K : PySem.W.Frag} {mg : Str → Option Value} {base : Heap}
def sp_law (K : PySem.W.Frag) : Sp := fun vs H Q _ => ∃ (a : Addr) (ns : List Int), vs = [.ref a] ∧ SqL K H a (ns.map V.int) ∧ ns.length ≤ 63 ∧ ∀ H', Q (.bl true) H'
theorem ok_law (T : Tx K mg) : FnOk P w K mg base CX0 3 T.f_law T.d_law ["_law_script"] (sp_law K) := by
  refine T.F_law.ok sc_law (by walk_at "len") (fun cdv A outer s H vs Q E hr h => ?_)
  obtain ⟨a, ns, rfl, hS, hlen, k⟩ := h
  refine ⟨_, (pss_cons (ps_set (i := 1) sc_law.nd rfl (Or.inl rfl) (pe_make0 T.mk_Waits (ok_WaitsInit T) (hr.mono (by decide)) rfl T.g_Waits T.b_WaitsInit .nil pass0))
    (pss_cons (ps_set (i := 2) sc_law.nd rfl (Or.inl rfl) (pe_lst pa_nil))
    (pss_cons (ps_set (i := 3) sc_law.nd rfl (Or.inl rfl) pe_dnewK)
    (pss_cons (ps_set (i := 4) sc_law.nd rfl (Or.inl rfl) pe_int)
    (pss_cons (ps_for PassesOwn.never rfl (pi_list (pv 0)) (pg_name (i := 5) sc_law.nd rfl (Or.inl rfl))
        (pss_cons (ps_set (i := 6) sc_law.nd rfl (Or.inl rfl) (pe_meth0 (pv 1) T.cl_Waits T.m_WaitsLineup (ok_WaitsLineup T) (hr.mono (by decide)) T.b_WaitsLineup .nil pass0))
        (pss_cons (ps_set (i := 7) sc_law.nd rfl (Or.inl rfl) (pe_callTy (kList K) (by rfl) T.z_list (by decide +kernel) (pa_cons (pv 6) pa_nil)))
        (pss_cons (ps_set (i := 8) sc_law.nd rfl (Or.inl rfl) (pe_op op_mod (pv 5) pe_int))
        (pss_cons (ps_set (i := 9) sc_law.nd rfl (Or.inl rfl) (pe_call (ok_lnumber T) (hr.mono (by decide)) rfl T.g_lnumber T.F_lnumber.kp T.b_lnumber .nil pass0 (pa_cons (pv 4) pa_nil)))
        (pss_cons (ps_if (pt_cmpR op_lt (pv 8) pe_int (nomark _))
            (pss_cons (ps_expr (pe_meth (pv 1) T.cl_Waits T.m_WaitsSooner (ok_WaitsSooner T) (hr.mono (by decide)) T.b_WaitsSooner .nil pass0 (pa_cons (pv 9) pa_nil)))
            (pss_cons (ps_expr (pe_bm PySem.F.plainAttrs_list PySem.F.slot_list_append PySem.F.type_list_append mt_append (pv 2) (pa_cons (pv 9) pa_nil)))
            (pss_one (ps_set (i := 4) sc_law.nd rfl (Or.inl rfl) (pe_op op_add (pv 4) pe_int)))))
            (pss_one (ps_if (pt_cmpR op_lt (pv 8) pe_int (nomark _))
                (pss_cons (ps_set (i := 10) sc_law.nd rfl (Or.inl rfl) (pe_op op_mod (pe_op op_fdiv (pv 5) pe_int) pe_int))
                (pss_cons (ps_if (pt_cmpR op_eq (pv 8) pe_int (nomark _))
                    (pss_one (ps_set (i := 10) sc_law.nd rfl (Or.inl rfl) (pe_op op_mod (pe_op op_fdiv (pv 5) pe_int) pe_int)))
                    pss_nil)
                (pss_cons (ps_expr (pe_meth (pv 1) T.cl_Waits T.m_WaitsLater (ok_WaitsLater T) (hr.mono (by decide)) T.b_WaitsLater .nil pass0 (pa_cons (pv 9) (pa_cons (pv 10) pa_nil))))
                (pss_cons (ps_dput (hu_of hr) (pv 3) (pv 9) (pv 10) rfl)
                (pss_one (ps_set (i := 4) sc_law.nd rfl (Or.inl rfl) (pe_op op_add (pv 4) pe_int)))))))
                (pss_one (ps_if (pt_cmpR op_eq (pv 8) pe_int (nomark _))
                    (pss_one (ps_if (pt_not (pt_val (pe_call (ok_ldropped T) (hr.mono (by decide)) rfl T.g_ldropped T.F_ldropped.kp T.b_ldropped .nil pass0 (pa_cons (pv 1) (pa_cons (pe_op op_fdiv (pv 5) pe_int) (pa_cons (pv 4) (pa_cons (pv 2) (pa_cons (pv 3) pa_nil))))))))
                        (pss_one (ps_ret pe_bl))
                        pss_nil))
                    (pss_one (ps_if (pt_not (pt_val (pe_call (ok_ltaken T) (hr.mono (by decide)) rfl T.g_ltaken T.F_ltaken.kp T.b_ltaken .nil pass0 (pa_cons (pv 1) (pa_cons (pv 2) (pa_cons (pv 3) pa_nil))))))
                        (pss_one (ps_ret pe_bl))
                        pss_nil)))))))
        (pss_one (ps_if (PW.pt (pw_or (pt_not (pt_val (pe_call (ok_lgood T) (hr.mono (by decide)) rfl T.g_lgood T.F_lgood.kp T.b_lgood .nil pass0 (pa_cons (pe_meth0 (pv 1) T.cl_Waits T.m_WaitsLineup (ok_WaitsLineup T) (hr.mono (by decide)) T.b_WaitsLineup .nil pass0) (pa_cons (pv 2) (pa_cons (pv 3) pa_nil)))))) (pw_or1 (pt_cmpR (kNeD K hr.units) (pv 6) (pv 7) (nomark _)))))
            (pss_one (ps_ret pe_bl))
            pss_nil))))))))
    (pss_one (ps_ret pe_bl))))))), ?_⟩
  intro wa wdx hwa hwdx hne
  have hwa' : upd H wdx (.own wa) wa = none := by rw [upd_ne (Ne.symm hne)]; exact hwa
  have kw : Kp [] H (upd (upd H wdx (.own wa)) wa (.ins T.c_Waits wdx [])) := ((Kp.refl [] H).new hwdx).new hwa'
  refine ⟨wa, wdx, rfl, upd_same, fun H1 A1 w1 kW ew1 ewd hfo hrw => ⟨rfl, ?_⟩⟩
  have k1 : Kp [] H H1 := (kw.transM kW fun x hx => .inr (by rw [List.mem_singleton] at hx; rw [hx]; exact hwa)).mono (by simp)
  have f01 : ∀ x ∈ A1.cells, H x = none := fun x hx => by
    simp only [WtA.cells, List.mem_cons, List.not_mem_nil, or_false] at hx
    rcases hx with rfl | rfl | rfl
    · rw [ew1]; exact hwa
    · exact kw.dom _ hfo
    · exact kw.dom _ hrw
  refine ⟨Nat.zero_le _, fun s1 hs => ?_⟩
  have k2 := (Kp.refl [] H1).new (o := .lst []) hs
  have s2 : upd H1 s1 (.lst []) s1 = some (.lst []) := upd_same
  generalize upd H1 s1 (.lst []) = H2 at k2 s2 ⊢
  intro l hl
  have k3 := (Kp.refl [] H2).new (o := .dK []) hl
  have l3 : upd H2 l (.dK []) l = some (.dK []) := upd_same
  generalize upd H2 l (.dK []) = H3 at k3 l3 ⊢
  have k23 := k2.trans k3
  have k03 := k1.trans k23
  have fs : H s1 = none := k1.dom _ hs
  have fl : H l = none := k1.dom _ (k2.dom _ hl)
  have b0 : B3 T.c_Waits H3 A1 s1 l 0 [] [] [] := ⟨w1.kp k23 (by simp), k3.keep0 s2, l3, fun q => w1.isin _ q hs, fun q => w1.isin _ q (k2.dom _ hl), I3.zero, by decide⟩
  walk_at "nf"
  refine for_go ?_
  refine ⟨_, rfl, a, rfl, ⟨_, SqL.kp k03 (by simp) hS⟩, ?_⟩
  refine for_pd (Pd.map (f := V.int) (R := fun v x => v = V.int x) fun _ _ => rfl)
    (fun pre σ Hx => ∃ A soon rows late count o5 o6 o7 o8 o9 o10, σ = [some (.ref a), some (.ref wa), some (.ref s1), some (.ref l), some (nV count), o5, o6, o7, o8, o9, o10] ∧ B3 T.c_Waits Hx A s1 l count soon rows late ∧ A.wa = wa ∧ count ≤ pre.length ∧ Kp [] H Hx ∧ (∀ x ∈ A.cells, H x = none) ∧ H s1 = none ∧ H l = none)
    ⟨A1, [], [], [], 0, _, _, _, _, _, _, rfl, b0, ew1, Nat.le_refl _, k03, f01, fs, fl⟩ (fun pre σ Hx ⟨_, _, _, _, _, _, _, _, _, _, _, _, _, _, _, kx, _⟩ => SqL.kp kx (by simp) hS) ?_ ?_
  · rintro pre u v post σ Hx ed rfl ⟨A, soon, rows, late, count, o5, o6, o7, o8, o9, o10, rfl, b, ew, hcp, kx, f1, _, _⟩
    have hpl : pre.length < 63 := by
      have := congrArg List.length ed
      rw [List.length_append, List.length_cons] at this
      omega
    have tot := b.i.total
    -- kept, ahead
    refine ⟨_, rfl, wa, A.wdx, _, rfl, (ew ▸ b.w.wa), wf_no (by decide +kernel), A, soon, rows, (by rw [ew]; try rfl), b.w, by omega, fun p1 H4 hp1 k4 h41 => ?_⟩
    refine ⟨_, rfl, p1, _, rfl, .inl (SqL.of h41), fun p2 hp2 => ?_⟩
    have k45 := (Kp.refl [] H4).new (o := .lst ((soon ++ rows.map Prod.snd).map nV)) hp2
    have h2 : upd H4 p2 (.lst ((soon ++ rows.map Prod.snd).map nV)) p2 = some (.lst ((soon ++ rows.map Prod.snd).map nV)) := upd_same
    generalize upd H4 p2 (.lst ((soon ++ rows.map Prod.snd).map nV)) = H5 at k45 h2 ⊢
    have h1 := k45.keep0 h41
    have kx5 := k4.trans k45
    have k5 := kx.trans kx5
    have b5 := b.kp kx5
    have nsl : s1 ≠ l := fun e => by have := b.hs; rw [e, b.hl] at this; cases this
    have g1 : Hx p1 = none := hp1
    have g2 : Hx p2 = none := k4.dom _ hp2
    have n1 : p1 ∉ A.cells ++ [s1, l] := fun q => by
      rcases List.mem_append.mp q with q | q
      · exact b.w.isin _ q g1
      · simp only [List.mem_cons, List.not_mem_nil, or_false] at q
        rcases q with rfl | rfl
        · rw [b.hs] at g1; cases g1
        · rw [b.hl] at g1; cases g1
    have n2 : p2 ∉ A.cells ++ [s1, l] := fun q => by
      rcases List.mem_append.mp q with q | q
      · exact b.w.isin _ q g2
      · simp only [List.mem_cons, List.not_mem_nil, or_false] at q
        rcases q with rfl | rfl
        · rw [b.hs] at g2; cases g2
        · rw [b.hl] at g2; cases g2
    have fM : ∀ x ∈ A.cells ++ [s1, l], H x = none := fun x hx => by
      rcases List.mem_append.mp hx with hx | hx
      · exact f1 x hx
      · simp only [List.mem_cons, List.not_mem_nil, or_false] at hx
        rcases hx with rfl | rfl
        · exact fs
        · exact fl
    have mb : ∀ x, x ∈ A.cells → x ∈ A.cells ++ [s1, l] := fun x hx => List.mem_append.mpr (.inl hx)
    have ms : s1 ∈ A.cells ++ [s1, l] := by simp
    have ml : l ∈ A.cells ++ [s1, l] := by simp
    refine ⟨_, rfl, _, _, rfl, rfl, (by show (0 : Int) < 9; decide), ?_⟩
    refine ⟨_, rfl, count, rfl, by omega, ?_⟩
    refine ⟨_, rfl, _, _, rfl, rfl, _, rfl, ite2 (fun _ => ?_) (fun _ => ?_)⟩
    · refine ⟨_, rfl, wa, A.wdx, _, rfl, (ew ▸ b5.w.wa), wf_no (by decide +kernel), _, rfl, A, soon, rows, 7 * count, (by rw [ew]; try rfl), b5.w, by omega, fun H6 A6 po => ?_⟩
      obtain ⟨s6, sc⟩ := po.out b5.hs b5.ns
      obtain ⟨l6, lc⟩ := po.out b5.hl b5.nl
      refine ⟨_, rfl, .inl ⟨rfl, _, SqL.of s6⟩, _, rfl, s1, _, _, rfl, rfl, s6, (by rw [List.length_map]; exact Nat.lt_of_le_of_lt (show soon.length ≤ 100 by omega) (by decide)), ?_⟩
      have km : Kp [s1] H6 (upd H6 s1 (.lst (soon.map nV ++ [nV (7 * count)]))) := (Kp.refl _ _).lst (.inl (by simp)) s6
      have s7 : upd H6 s1 (.lst (soon.map nV ++ [nV (7 * count)])) s1 = some (.lst ((soon ++ [7 * count]).map nV)) := by rw [upd_same, List.map_append]; rfl
      generalize upd H6 s1 (.lst (soon.map nV ++ [nV (7 * count)])) = Hy at km s7 ⊢
      have l7 := km.keep _ _ (by simpa using Ne.symm nsl) l6
      refine ⟨_, rfl, _, _, rfl, rfl, ?_⟩
      have p : P3 T.c_Waits H5 A s1 l (count + 1) Hy := ⟨A6, _, _, _, ⟨po.w.kp km (fun x hx z => sc (by rw [List.mem_singleton.mp z] at hx; exact hx)), s7, l7, sc, lc, b.i.sooner, by omega⟩, po.wa, (po.kp.mono fun x hx => .inl (mb x hx)).transM km fun x hx => .inl (by rw [List.mem_singleton.mp hx]; exact ms), po.in0⟩
      obtain ⟨A2, soon2, rows2, late2, b2, eA, kP, iP⟩ := p
      have e2 : A2.wa = wa := eA.trans ew
      have ky : Kp [] H Hy := (k5.transM kP fun x hx => .inr (fM x hx)).mono (by simp)
      have f2 : ∀ x ∈ A2.cells, H x = none := fun x hx => (iP x hx).elim (fun q => f1 x q) (fun q => k5.dom x q)
      have q1 := kP.keep _ _ n1 h1
      have q2 := kP.keep _ _ n2 h2
      have c2 : count + 1 ≤ (pre ++ [v]).length := by rw [List.length_append]; exact Nat.succ_le_succ hcp
      refine ⟨_, rfl, wa, A2.wdx, _, rfl, (e2 ▸ b2.w.wa), wf_no (by decide +kernel), A2, soon2, rows2, (by rw [e2]; try rfl), b2.w, (by have := b2.i.total; have := b2.c; omega), fun p3 H6 h3 k6 h6 => ?_⟩
      refine ⟨_, rfl, _, rfl, p3, s1, l, (count + 1), soon2, rows2, late2, rfl, b2.i, b2.c, h6, k6.keep0 b2.hs, k6.keep0 b2.hl, fun H7 k7 => ⟨_, rfl, iteF ?_⟩⟩
      have kk := k6.trans k7
      refine ⟨_, rfl, _, rfl, _, _, dp_ints (kk.keep0 q1), dp_ints (kk.keep0 q2), (ok_ints _).sh, (ok_ints _).sh, _, rfl, iteF' (by rw [(ok_ints _).rfl]; rfl) ?_⟩
      exact ⟨A2, soon2, rows2, late2, (count + 1), _, _, _, _, _, _, rfl, b2.kp kk, e2, c2, ky.trans kk, f2, fs, fl⟩
    · refine ⟨_, rfl, _, _, rfl, rfl, _, rfl, ite2 (fun _ => ?_) (fun _ => ?_)⟩
      · refine ⟨_, rfl, _, _, rfl, rfl, ⟨by decide, by decide⟩, _, _, rfl, rfl, (by show (0 : Int) < 6; decide), ?_⟩
        refine ⟨_, rfl, rfl, _, rfl, ite2 (fun _ => ?_) (fun _ => ?_)⟩
        · refine ⟨_, rfl, _, _, rfl, rfl, ⟨by decide, by decide⟩, _, _, rfl, rfl, (by show (0 : Int) < 2000000001; decide), ?_⟩
          refine ⟨_, rfl, wa, A.wdx, _, rfl, (ew ▸ b5.w.wa), wf_no (by decide +kernel), _, rfl, _, rfl, A, soon, rows, 7 * count, v / 9 % 2000000001, (by rw [ew]; try rfl), b5.w, by omega, fun H6 A6 po => ?_⟩
          obtain ⟨s6, sc⟩ := po.out b5.hs b5.ns
          obtain ⟨l6, lc⟩ := po.out b5.hl b5.nl
          have nf : lkN late (7 * count) = none := b.i.look_none fun q => b.i.fresh (List.mem_append.mpr (.inr q))
          refine ⟨_, rfl, _, rfl, _, rfl, l, _, rfl, DPut.k (k := Sum.inl ((7 * count : Nat) : Int)) (v := V.int (v / 9 % 2000000001)) l6 (by unfold lateK; rw [List.length_map, b.i.len]; exact Nat.lt_of_le_of_lt (show rows.length ≤ 100 by omega) (by decide)), ?_⟩
          rw [late_put nf]
          have km : Kp [l] H6 (upd H6 l (.dK (lateK (late ++ [(7 * count, v / 9 % 2000000001)])))) := (Kp.refl _ _).dk (.inl (by simp)) l6
          have l7 : upd H6 l (.dK (lateK (late ++ [(7 * count, v / 9 % 2000000001)]))) l = some (.dK (lateK (late ++ [(7 * count, v / 9 % 2000000001)]))) := upd_same
          generalize upd H6 l (.dK (lateK (late ++ [(7 * count, v / 9 % 2000000001)]))) = Hy at km l7 ⊢
          have s7 := km.keep _ _ (by simpa using nsl) s6
          refine ⟨_, rfl, _, _, rfl, rfl, ?_⟩
          have p : P3 T.c_Waits H5 A s1 l (count + 1) Hy := ⟨A6, _, _, _, ⟨po.w.kp km (fun x hx z => lc (by rw [List.mem_singleton.mp z] at hx; exact hx)), s7, l7, sc, lc, b.i.later _, by omega⟩, po.wa, (po.kp.mono fun x hx => .inl (mb x hx)).transM km fun x hx => .inl (by rw [List.mem_singleton.mp hx]; exact ml), po.in0⟩
          obtain ⟨A2, soon2, rows2, late2, b2, eA, kP, iP⟩ := p
          have e2 : A2.wa = wa := eA.trans ew
          have ky : Kp [] H Hy := (k5.transM kP fun x hx => .inr (fM x hx)).mono (by simp)
          have f2 : ∀ x ∈ A2.cells, H x = none := fun x hx => (iP x hx).elim (fun q => f1 x q) (fun q => k5.dom x q)
          have q1 := kP.keep _ _ n1 h1
          have q2 := kP.keep _ _ n2 h2
          have c2 : count + 1 ≤ (pre ++ [v]).length := by rw [List.length_append]; exact Nat.succ_le_succ hcp
          refine ⟨_, rfl, wa, A2.wdx, _, rfl, (e2 ▸ b2.w.wa), wf_no (by decide +kernel), A2, soon2, rows2, (by rw [e2]; try rfl), b2.w, (by have := b2.i.total; have := b2.c; omega), fun p3 H6 h3 k6 h6 => ?_⟩
          refine ⟨_, rfl, _, rfl, p3, s1, l, (count + 1), soon2, rows2, late2, rfl, b2.i, b2.c, h6, k6.keep0 b2.hs, k6.keep0 b2.hl, fun H7 k7 => ⟨_, rfl, iteF ?_⟩⟩
          have kk := k6.trans k7
          refine ⟨_, rfl, _, rfl, _, _, dp_ints (kk.keep0 q1), dp_ints (kk.keep0 q2), (ok_ints _).sh, (ok_ints _).sh, _, rfl, iteF' (by rw [(ok_ints _).rfl]; rfl) ?_⟩
          exact ⟨A2, soon2, rows2, late2, (count + 1), _, _, _, _, _, _, rfl, b2.kp kk, e2, c2, ky.trans kk, f2, fs, fl⟩
        · walk_at "nf"
          refine ⟨_, rfl, wa, A.wdx, _, rfl, (ew ▸ b5.w.wa), wf_no (by decide +kernel), _, rfl, _, rfl, A, soon, rows, 7 * count, v / 9 % 6, (by rw [ew]; try rfl), b5.w, by omega, fun H6 A6 po => ?_⟩
          obtain ⟨s6, sc⟩ := po.out b5.hs b5.ns
          obtain ⟨l6, lc⟩ := po.out b5.hl b5.nl
          have nf : lkN late (7 * count) = none := b.i.look_none fun q => b.i.fresh (List.mem_append.mpr (.inr q))
          refine ⟨_, rfl, _, rfl, _, rfl, l, _, rfl, DPut.k (k := Sum.inl ((7 * count : Nat) : Int)) (v := V.int (v / 9 % 6)) l6 (by unfold lateK; rw [List.length_map, b.i.len]; exact Nat.lt_of_le_of_lt (show rows.length ≤ 100 by omega) (by decide)), ?_⟩
          rw [late_put nf]
          have km : Kp [l] H6 (upd H6 l (.dK (lateK (late ++ [(7 * count, v / 9 % 6)])))) := (Kp.refl _ _).dk (.inl (by simp)) l6
          have l7 : upd H6 l (.dK (lateK (late ++ [(7 * count, v / 9 % 6)]))) l = some (.dK (lateK (late ++ [(7 * count, v / 9 % 6)]))) := upd_same
          generalize upd H6 l (.dK (lateK (late ++ [(7 * count, v / 9 % 6)]))) = Hy at km l7 ⊢
          have s7 := km.keep _ _ (by simpa using nsl) s6
          refine ⟨_, rfl, _, _, rfl, rfl, ?_⟩
          have p : P3 T.c_Waits H5 A s1 l (count + 1) Hy := ⟨A6, _, _, _, ⟨po.w.kp km (fun x hx z => lc (by rw [List.mem_singleton.mp z] at hx; exact hx)), s7, l7, sc, lc, b.i.later _, by omega⟩, po.wa, (po.kp.mono fun x hx => .inl (mb x hx)).transM km fun x hx => .inl (by rw [List.mem_singleton.mp hx]; exact ml), po.in0⟩
          obtain ⟨A2, soon2, rows2, late2, b2, eA, kP, iP⟩ := p
          have e2 : A2.wa = wa := eA.trans ew
          have ky : Kp [] H Hy := (k5.transM kP fun x hx => .inr (fM x hx)).mono (by simp)
          have f2 : ∀ x ∈ A2.cells, H x = none := fun x hx => (iP x hx).elim (fun q => f1 x q) (fun q => k5.dom x q)
          have q1 := kP.keep _ _ n1 h1
          have q2 := kP.keep _ _ n2 h2
          have c2 : count + 1 ≤ (pre ++ [v]).length := by rw [List.length_append]; exact Nat.succ_le_succ hcp
          refine ⟨_, rfl, wa, A2.wdx, _, rfl, (e2 ▸ b2.w.wa), wf_no (by decide +kernel), A2, soon2, rows2, (by rw [e2]; try rfl), b2.w, (by have := b2.i.total; have := b2.c; omega), fun p3 H6 h3 k6 h6 => ?_⟩
          refine ⟨_, rfl, _, rfl, p3, s1, l, (count + 1), soon2, rows2, late2, rfl, b2.i, b2.c, h6, k6.keep0 b2.hs, k6.keep0 b2.hl, fun H7 k7 => ⟨_, rfl, iteF ?_⟩⟩
          have kk := k6.trans k7
          refine ⟨_, rfl, _, rfl, _, _, dp_ints (kk.keep0 q1), dp_ints (kk.keep0 q2), (ok_ints _).sh, (ok_ints _).sh, _, rfl, iteF' (by rw [(ok_ints _).rfl]; rfl) ?_⟩
          exact ⟨A2, soon2, rows2, late2, (count + 1), _, _, _, _, _, _, rfl, b2.kp kk, e2, c2, ky.trans kk, f2, fs, fl⟩
      · refine ⟨_, rfl, rfl, _, rfl, ite2 (fun _ => ?_) (fun _ => ?_)⟩
        · refine ⟨_, rfl, _, rfl, _, _, rfl, rfl, ⟨by decide, by decide⟩, _, rfl, _, rfl, _, rfl, A, s1, l, count, soon, rows, late, v / 9, (by rw [ew]; try rfl), b5, fun Hy p => ⟨_, rfl, iteF ?_⟩⟩
          obtain ⟨A2, soon2, rows2, late2, b2, eA, kP, iP⟩ := p
          have e2 : A2.wa = wa := eA.trans ew
          have ky : Kp [] H Hy := (k5.transM kP fun x hx => .inr (fM x hx)).mono (by simp)
          have f2 : ∀ x ∈ A2.cells, H x = none := fun x hx => (iP x hx).elim (fun q => f1 x q) (fun q => k5.dom x q)
          have q1 := kP.keep _ _ n1 h1
          have q2 := kP.keep _ _ n2 h2
          have c2 : count ≤ (pre ++ [v]).length := by rw [List.length_append]; exact Nat.le_succ_of_le hcp
          refine ⟨_, rfl, wa, A2.wdx, _, rfl, (e2 ▸ b2.w.wa), wf_no (by decide +kernel), A2, soon2, rows2, (by rw [e2]; try rfl), b2.w, (by have := b2.i.total; have := b2.c; omega), fun p3 H6 h3 k6 h6 => ?_⟩
          refine ⟨_, rfl, _, rfl, p3, s1, l, count, soon2, rows2, late2, rfl, b2.i, b2.c, h6, k6.keep0 b2.hs, k6.keep0 b2.hl, fun H7 k7 => ⟨_, rfl, iteF ?_⟩⟩
          have kk := k6.trans k7
          refine ⟨_, rfl, _, rfl, _, _, dp_ints (kk.keep0 q1), dp_ints (kk.keep0 q2), (ok_ints _).sh, (ok_ints _).sh, _, rfl, iteF' (by rw [(ok_ints _).rfl]; rfl) ?_⟩
          exact ⟨A2, soon2, rows2, late2, count, _, _, _, _, _, _, rfl, b2.kp kk, e2, c2, ky.trans kk, f2, fs, fl⟩
        · refine ⟨_, rfl, _, rfl, _, rfl, A, s1, l, count, soon, rows, late, (by rw [ew]; try rfl), b5, fun Hy p => ⟨_, rfl, iteF ?_⟩⟩
          obtain ⟨A2, soon2, rows2, late2, b2, eA, kP, iP⟩ := p
          have e2 : A2.wa = wa := eA.trans ew
          have ky : Kp [] H Hy := (k5.transM kP fun x hx => .inr (fM x hx)).mono (by simp)
          have f2 : ∀ x ∈ A2.cells, H x = none := fun x hx => (iP x hx).elim (fun q => f1 x q) (fun q => k5.dom x q)
          have q1 := kP.keep _ _ n1 h1
          have q2 := kP.keep _ _ n2 h2
          have c2 : count ≤ (pre ++ [v]).length := by rw [List.length_append]; exact Nat.le_succ_of_le hcp
          refine ⟨_, rfl, wa, A2.wdx, _, rfl, (e2 ▸ b2.w.wa), wf_no (by decide +kernel), A2, soon2, rows2, (by rw [e2]; try rfl), b2.w, (by have := b2.i.total; have := b2.c; omega), fun p3 H6 h3 k6 h6 => ?_⟩
          refine ⟨_, rfl, _, rfl, p3, s1, l, count, soon2, rows2, late2, rfl, b2.i, b2.c, h6, k6.keep0 b2.hs, k6.keep0 b2.hl, fun H7 k7 => ⟨_, rfl, iteF ?_⟩⟩
          have kk := k6.trans k7
          refine ⟨_, rfl, _, rfl, _, _, dp_ints (kk.keep0 q1), dp_ints (kk.keep0 q2), (ok_ints _).sh, (ok_ints _).sh, _, rfl, iteF' (by rw [(ok_ints _).rfl]; rfl) ?_⟩
          exact ⟨A2, soon2, rows2, late2, count, _, _, _, _, _, _, rfl, b2.kp kk, e2, c2, ky.trans kk, f2, fs, fl⟩
  · rintro σ Hx _
    exact k Hx
end
end Ev
namespace Ev
open PySem L2
theorem all_mk {K : PySem.W.Frag} {h : Heap} {mg : Str → Option Value} {fa : Addr} (X : K.In h) (G : h.Ns mainGlobals mg) (hfa : mg "law" = some (.ref fa))
    {C_Waits f_WaitsInit f_WaitsSooner f_WaitsLater f_WaitsLineup f_WaitsLead f_WaitsDrop f_lnumber f_lpairsRise f_lgood f_ltaken f_ldropped f_law : Addr}
    {od1 an1 : Option Addr} {sl1 : Array (Option Value)} {oc1 kV1 dc1 pm1 cd1 ct1 : Value}
    {od2 an2 : Option Addr} {sl2 : Array (Option Value)} {oc2 kV2 dc2 pm2 cd2 ct2 : Value}
    {od3 an3 : Option Addr} {sl3 : Array (Option Value)} {oc3 kV3 dc3 pm3 cd3 ct3 : Value}
    {od4 an4 : Option Addr} {sl4 : Array (Option Value)} {oc4 kV4 dc4 pm4 cd4 ct4 : Value}
    {od5 an5 : Option Addr} {sl5 : Array (Option Value)} {oc5 kV5 dc5 pm5 cd5 ct5 : Value}
    {od6 an6 : Option Addr} {sl6 : Array (Option Value)} {oc6 kV6 dc6 pm6 cd6 ct6 : Value}
    {od7 an7 : Option Addr} {sl7 : Array (Option Value)} {oc7 kV7 dc7 pm7 cd7 ct7 : Value}
    {od8 an8 : Option Addr} {sl8 : Array (Option Value)} {oc8 kV8 dc8 pm8 cd8 ct8 : Value}
    {od9 an9 : Option Addr} {sl9 : Array (Option Value)} {oc9 kV9 dc9 pm9 cd9 ct9 : Value}
    {od10 an10 : Option Addr} {sl10 : Array (Option Value)} {oc10 kV10 dc10 pm10 cd10 ct10 : Value}
    {od11 an11 : Option Addr} {sl11 : Array (Option Value)} {oc11 kV11 dc11 pm11 cd11 ct11 : Value}
    {od12 an12 : Option Addr} {sl12 : Array (Option Value)} {oc12 kV12 dc12 pm12 cd12 ct12 : Value}
    (aC_Waits : PySem.W.nsIn K mainGlobals "Waits" = some (some (.ref C_Waits)))
    (pg_Waits : PySem.W.plainGet K C_Waits Str.empty = true)
    (hd_Waits : PySem.W.hasDictIn K C_Waits = true)
    (po_Waits : PySem.W.plainOver K C_Waits = true)
    (sa_Waits : PySem.W.findIn K (.ref C_Waits) "__setattr__" = some (some (.builtin "object.__setattr__")))
    (mk_Waits : PySem.W.makesIn K C_Waits = true)
    (kc_Waits : PySem.W.keepIn K (.ref C_Waits) = true)
    (n_Waits_first_ones : PySem.W.findIn K (.ref C_Waits) "first_ones" = some none)
    (n_Waits_rows : PySem.W.findIn K (.ref C_Waits) "rows" = some none)
    (a1 : PySem.W.findIn K (.ref C_Waits) "__init__" = some (some (.ref f_WaitsInit)))
    (i1 : PySem.W.isFn K (.ref f_WaitsInit) = true)
    (l1 : K.lookup f_WaitsInit = some ⟨oc1, od1, .func (PySem.W.fnOf "__init__" "Waits.__init__" (defArgs s_WaitsInit) (defBody s_WaitsInit) (defScope s_WaitsInit) .none kV1 dc1 pm1 an1 cd1 ct1), sl1⟩)
    (c1 : PySem.W.codeIn K cd1 "Waits.__init__" = true)
    (k1 : PySem.W.keepIn K (.ref f_WaitsInit) = true)
    (a2 : PySem.W.findIn K (.ref C_Waits) "sooner" = some (some (.ref f_WaitsSooner)))
    (i2 : PySem.W.isFn K (.ref f_WaitsSooner) = true)
    (l2 : K.lookup f_WaitsSooner = some ⟨oc2, od2, .func (PySem.W.fnOf "sooner" "Waits.sooner" (defArgs s_WaitsSooner) (defBody s_WaitsSooner) (defScope s_WaitsSooner) .none kV2 dc2 pm2 an2 cd2 ct2), sl2⟩)
    (c2 : PySem.W.codeIn K cd2 "Waits.sooner" = true)
    (k2 : PySem.W.keepIn K (.ref f_WaitsSooner) = true)
    (a3 : PySem.W.findIn K (.ref C_Waits) "later" = some (some (.ref f_WaitsLater)))
    (i3 : PySem.W.isFn K (.ref f_WaitsLater) = true)
    (l3 : K.lookup f_WaitsLater = some ⟨oc3, od3, .func (PySem.W.fnOf "later" "Waits.later" (defArgs s_WaitsLater) (defBody s_WaitsLater) (defScope s_WaitsLater) .none kV3 dc3 pm3 an3 cd3 ct3), sl3⟩)
    (c3 : PySem.W.codeIn K cd3 "Waits.later" = true)
    (k3 : PySem.W.keepIn K (.ref f_WaitsLater) = true)
    (a4 : PySem.W.findIn K (.ref C_Waits) "lineup" = some (some (.ref f_WaitsLineup)))
    (i4 : PySem.W.isFn K (.ref f_WaitsLineup) = true)
    (l4 : K.lookup f_WaitsLineup = some ⟨oc4, od4, .func (PySem.W.fnOf "lineup" "Waits.lineup" (defArgs s_WaitsLineup) (defBody s_WaitsLineup) (defScope s_WaitsLineup) .none kV4 dc4 pm4 an4 cd4 ct4), sl4⟩)
    (c4 : PySem.W.codeIn K cd4 "Waits.lineup" = true)
    (k4 : PySem.W.keepIn K (.ref f_WaitsLineup) = true)
    (a5 : PySem.W.findIn K (.ref C_Waits) "lead" = some (some (.ref f_WaitsLead)))
    (i5 : PySem.W.isFn K (.ref f_WaitsLead) = true)
    (l5 : K.lookup f_WaitsLead = some ⟨oc5, od5, .func (PySem.W.fnOf "lead" "Waits.lead" (defArgs s_WaitsLead) (defBody s_WaitsLead) (defScope s_WaitsLead) .none kV5 dc5 pm5 an5 cd5 ct5), sl5⟩)
    (c5 : PySem.W.codeIn K cd5 "Waits.lead" = true)
    (k5 : PySem.W.keepIn K (.ref f_WaitsLead) = true)
    (a6 : PySem.W.findIn K (.ref C_Waits) "drop" = some (some (.ref f_WaitsDrop)))
    (i6 : PySem.W.isFn K (.ref f_WaitsDrop) = true)
    (l6 : K.lookup f_WaitsDrop = some ⟨oc6, od6, .func (PySem.W.fnOf "drop" "Waits.drop" (defArgs s_WaitsDrop) (defBody s_WaitsDrop) (defScope s_WaitsDrop) .none kV6 dc6 pm6 an6 cd6 ct6), sl6⟩)
    (c6 : PySem.W.codeIn K cd6 "Waits.drop" = true)
    (k6 : PySem.W.keepIn K (.ref f_WaitsDrop) = true)
    (a7 : PySem.W.nsIn K mainGlobals "_law_number" = some (some (.ref f_lnumber)))
    (l7 : K.lookup f_lnumber = some ⟨oc7, od7, .func (PySem.W.fnOf "_law_number" "_law_number" (defArgs s_lnumber) (defBody s_lnumber) (defScope s_lnumber) .none kV7 dc7 pm7 an7 cd7 ct7), sl7⟩)
    (c7 : PySem.W.codeIn K cd7 "_law_number" = true)
    (k7 : PySem.W.keepIn K (.ref f_lnumber) = true)
    (a8 : PySem.W.nsIn K mainGlobals "_law_pairs_rise" = some (some (.ref f_lpairsRise)))
    (l8 : K.lookup f_lpairsRise = some ⟨oc8, od8, .func (PySem.W.fnOf "_law_pairs_rise" "_law_pairs_rise" (defArgs s_lpairsRise) (defBody s_lpairsRise) (defScope s_lpairsRise) .none kV8 dc8 pm8 an8 cd8 ct8), sl8⟩)
    (c8 : PySem.W.codeIn K cd8 "_law_pairs_rise" = true)
    (k8 : PySem.W.keepIn K (.ref f_lpairsRise) = true)
    (a9 : PySem.W.nsIn K mainGlobals "_law_good" = some (some (.ref f_lgood)))
    (l9 : K.lookup f_lgood = some ⟨oc9, od9, .func (PySem.W.fnOf "_law_good" "_law_good" (defArgs s_lgood) (defBody s_lgood) (defScope s_lgood) .none kV9 dc9 pm9 an9 cd9 ct9), sl9⟩)
    (c9 : PySem.W.codeIn K cd9 "_law_good" = true)
    (k9 : PySem.W.keepIn K (.ref f_lgood) = true)
    (a10 : PySem.W.nsIn K mainGlobals "_law_taken" = some (some (.ref f_ltaken)))
    (l10 : K.lookup f_ltaken = some ⟨oc10, od10, .func (PySem.W.fnOf "_law_taken" "_law_taken" (defArgs s_ltaken) (defBody s_ltaken) (defScope s_ltaken) .none kV10 dc10 pm10 an10 cd10 ct10), sl10⟩)
    (c10 : PySem.W.codeIn K cd10 "_law_taken" = true)
    (k10 : PySem.W.keepIn K (.ref f_ltaken) = true)
    (a11 : PySem.W.nsIn K mainGlobals "_law_dropped" = some (some (.ref f_ldropped)))
    (l11 : K.lookup f_ldropped = some ⟨oc11, od11, .func (PySem.W.fnOf "_law_dropped" "_law_dropped" (defArgs s_ldropped) (defBody s_ldropped) (defScope s_ldropped) .none kV11 dc11 pm11 an11 cd11 ct11), sl11⟩)
    (c11 : PySem.W.codeIn K cd11 "_law_dropped" = true)
    (k11 : PySem.W.keepIn K (.ref f_ldropped) = true)
    (a12 : PySem.W.nsIn K mainGlobals "law" = some (some (.ref f_law)))
    (l12 : K.lookup f_law = some ⟨oc12, od12, .func (PySem.W.fnOf "law" "law" (defArgs s_law) (defBody s_law) (defScope s_law) .none kV12 dc12 pm12 an12 cd12 ct12), sl12⟩)
    (c12 : PySem.W.codeIn K cd12 "law" = true)
    (k12 : PySem.W.keepIn K (.ref f_law) = true)
    (z_len : PySem.W.nsIn K mainGlobals "len" = some none)
    (z_range : PySem.W.nsIn K mainGlobals "range" = some none)
    (z_isinstance : PySem.W.nsIn K mainGlobals "isinstance" = some none)
    (z_list : PySem.W.nsIn K mainGlobals "list" = some none)
    (z_int : PySem.W.nsIn K mainGlobals "int" = some none)
    (z_bool : PySem.W.nsIn K mainGlobals "bool" = some none)
    (z_tuple : PySem.W.nsIn K mainGlobals "tuple" = some none)
    : ∃ T : Tx K mg, fa = T.f_law ∧ ∀ (s : Shared) (v : Value), BindsTo s T.d_law ⟨[v], []⟩ [("_law_script", v)] := by
  have F1 := fun_mk (st := s_WaitsInit) l1 c1 k1
  have b1 := F1.binds (ps := ["self"]) fun _ _ _ _ _ _ us hl => match us, hl with | [_], _ => rfl
  have F2 := fun_mk (st := s_WaitsSooner) l2 c2 k2
  have b2 := F2.binds (ps := ["self", "number"]) fun _ _ _ _ _ _ us hl => match us, hl with | [_, _], _ => rfl
  have F3 := fun_mk (st := s_WaitsLater) l3 c3 k3
  have b3 := F3.binds (ps := ["self", "number", "due"]) fun _ _ _ _ _ _ us hl => match us, hl with | [_, _, _], _ => rfl
  have F4 := fun_mk (st := s_WaitsLineup) l4 c4 k4
  have b4 := F4.binds (ps := ["self"]) fun _ _ _ _ _ _ us hl => match us, hl with | [_], _ => rfl
  have F5 := fun_mk (st := s_WaitsLead) l5 c5 k5
  have b5 := F5.binds (ps := ["self"]) fun _ _ _ _ _ _ us hl => match us, hl with | [_], _ => rfl
  have F6 := fun_mk (st := s_WaitsDrop) l6 c6 k6
  have b6 := F6.binds (ps := ["self", "numbers"]) fun _ _ _ _ _ _ us hl => match us, hl with | [_, _], _ => rfl
  have F7 := fun_mk (st := s_lnumber) l7 c7 k7
  have b7 := F7.binds (ps := ["_law_count"]) fun _ _ _ _ _ _ us hl => match us, hl with | [_], _ => rfl
  have F8 := fun_mk (st := s_lpairsRise) l8 c8 k8
  have b8 := F8.binds (ps := ["_law_rows"]) fun _ _ _ _ _ _ us hl => match us, hl with | [_], _ => rfl
  have F9 := fun_mk (st := s_lgood) l9 c9 k9
  have b9 := F9.binds (ps := ["_law_found", "_law_soon", "_law_late"]) fun _ _ _ _ _ _ us hl => match us, hl with | [_, _, _], _ => rfl
  have F10 := fun_mk (st := s_ltaken) l10 c10 k10
  have b10 := F10.binds (ps := ["_law_waits", "_law_soon", "_law_late"]) fun _ _ _ _ _ _ us hl => match us, hl with | [_, _, _], _ => rfl
  have F11 := fun_mk (st := s_ldropped) l11 c11 k11
  have b11 := F11.binds (ps := ["_law_waits", "_law_cell", "_law_count", "_law_soon", "_law_late"]) fun _ _ _ _ _ _ us hl => match us, hl with | [_, _, _, _, _], _ => rfl
  have F12 := fun_mk (st := s_law) l12 c12 k12
  have b12 := F12.binds (ps := ["_law_script"]) fun _ _ _ _ _ _ us hl => match us, hl with | [_], _ => rfl
  have e : fa = f_law := by
    have e0 := hfa.symm.trans (PySem.W.mg_of X G a12)
    cases e0
    rfl
  exact ⟨{
    c_Waits := C_Waits
    g_Waits := PySem.W.mg_of X G aC_Waits
    cl_Waits := ⟨pg_Waits, hd_Waits, po_Waits, sa_Waits⟩
    n_Waits_first_ones := n_Waits_first_ones
    n_Waits_rows := n_Waits_rows
    f_WaitsInit := f_WaitsInit
    d_WaitsInit := PySem.W.fnOf "__init__" "Waits.__init__" (defArgs s_WaitsInit) (defBody s_WaitsInit) (defScope s_WaitsInit) .none kV1 dc1 pm1 an1 cd1 ct1
    F_WaitsInit := F1
    b_WaitsInit := b1
    mk_Waits := ⟨mk_Waits, a1, i1, kc_Waits⟩
    f_WaitsSooner := f_WaitsSooner
    d_WaitsSooner := PySem.W.fnOf "sooner" "Waits.sooner" (defArgs s_WaitsSooner) (defBody s_WaitsSooner) (defScope s_WaitsSooner) .none kV2 dc2 pm2 an2 cd2 ct2
    F_WaitsSooner := F2
    b_WaitsSooner := b2
    m_WaitsSooner := ⟨a2, i2, k2⟩
    f_WaitsLater := f_WaitsLater
    d_WaitsLater := PySem.W.fnOf "later" "Waits.later" (defArgs s_WaitsLater) (defBody s_WaitsLater) (defScope s_WaitsLater) .none kV3 dc3 pm3 an3 cd3 ct3
    F_WaitsLater := F3
    b_WaitsLater := b3
    m_WaitsLater := ⟨a3, i3, k3⟩
    f_WaitsLineup := f_WaitsLineup
    d_WaitsLineup := PySem.W.fnOf "lineup" "Waits.lineup" (defArgs s_WaitsLineup) (defBody s_WaitsLineup) (defScope s_WaitsLineup) .none kV4 dc4 pm4 an4 cd4 ct4
    F_WaitsLineup := F4
    b_WaitsLineup := b4
    m_WaitsLineup := ⟨a4, i4, k4⟩
    f_WaitsLead := f_WaitsLead
    d_WaitsLead := PySem.W.fnOf "lead" "Waits.lead" (defArgs s_WaitsLead) (defBody s_WaitsLead) (defScope s_WaitsLead) .none kV5 dc5 pm5 an5 cd5 ct5
    F_WaitsLead := F5
    b_WaitsLead := b5
    m_WaitsLead := ⟨a5, i5, k5⟩
    f_WaitsDrop := f_WaitsDrop
    d_WaitsDrop := PySem.W.fnOf "drop" "Waits.drop" (defArgs s_WaitsDrop) (defBody s_WaitsDrop) (defScope s_WaitsDrop) .none kV6 dc6 pm6 an6 cd6 ct6
    F_WaitsDrop := F6
    b_WaitsDrop := b6
    m_WaitsDrop := ⟨a6, i6, k6⟩
    f_lnumber := f_lnumber
    d_lnumber := PySem.W.fnOf "_law_number" "_law_number" (defArgs s_lnumber) (defBody s_lnumber) (defScope s_lnumber) .none kV7 dc7 pm7 an7 cd7 ct7
    F_lnumber := F7
    b_lnumber := b7
    g_lnumber := PySem.W.mg_of X G a7
    f_lpairsRise := f_lpairsRise
    d_lpairsRise := PySem.W.fnOf "_law_pairs_rise" "_law_pairs_rise" (defArgs s_lpairsRise) (defBody s_lpairsRise) (defScope s_lpairsRise) .none kV8 dc8 pm8 an8 cd8 ct8
    F_lpairsRise := F8
    b_lpairsRise := b8
    g_lpairsRise := PySem.W.mg_of X G a8
    f_lgood := f_lgood
    d_lgood := PySem.W.fnOf "_law_good" "_law_good" (defArgs s_lgood) (defBody s_lgood) (defScope s_lgood) .none kV9 dc9 pm9 an9 cd9 ct9
    F_lgood := F9
    b_lgood := b9
    g_lgood := PySem.W.mg_of X G a9
    f_ltaken := f_ltaken
    d_ltaken := PySem.W.fnOf "_law_taken" "_law_taken" (defArgs s_ltaken) (defBody s_ltaken) (defScope s_ltaken) .none kV10 dc10 pm10 an10 cd10 ct10
    F_ltaken := F10
    b_ltaken := b10
    g_ltaken := PySem.W.mg_of X G a10
    f_ldropped := f_ldropped
    d_ldropped := PySem.W.fnOf "_law_dropped" "_law_dropped" (defArgs s_ldropped) (defBody s_ldropped) (defScope s_ldropped) .none kV11 dc11 pm11 an11 cd11 ct11
    F_ldropped := F11
    b_ldropped := b11
    g_ldropped := PySem.W.mg_of X G a11
    f_law := f_law
    d_law := PySem.W.fnOf "law" "law" (defArgs s_law) (defBody s_law) (defScope s_law) .none kV12 dc12 pm12 an12 cd12 ct12
    F_law := F12
    b_law := b12
    g_law := PySem.W.mg_of X G a12
    z_len := PySem.W.mg_none_of X G z_len
    z_range := PySem.W.mg_none_of X G z_range
    z_isinstance := PySem.W.mg_none_of X G z_isinstance
    z_list := PySem.W.mg_none_of X G z_list
    z_int := PySem.W.mg_none_of X G z_int
    z_bool := PySem.W.mg_none_of X G z_bool
    z_tuple := PySem.W.mg_none_of X G z_tuple
    }, e, fun s v => .of_eq rfl⟩
theorem walk {l : PySem.W.OpenLaw} {q : Program} {loose : List Str} {XP : (Str → Option Value) → Heap → Prop} {YP : World → Heap → Prop} {d : DefRec} {K : Params → PySem.W.Frag} (hn : l.most = some 63) (hdf : d.params.defaults = [])
    (hY : ∀ (w : World) (h : Heap), YP w h → (K w.params).In h)
    (F : ∀ (w : World) (mg : Str → Option Value) (fa : Addr) (h : Heap), (K w.params).In h → h.Ns mainGlobals mg → mg d.name = some (.ref fa) →
      ∃ T : Tx (K w.params) mg, fa = T.f_law ∧ ∀ (s : Shared) (v : Value), BindsTo s T.d_law ⟨[v], []⟩ [("_law_script", v)]) :
    PySem.W.WalkO q loose XP YP l.row.toRowW d [] (fun f vs => PySem.call f vs) := by
  refine L2.walk_of (n := 63) (k := 3) (x := "_law_script") (CX := fun _ => CX0) (sp := fun w => sp_law (K w.params)) hn (by decide) hdf ⟨rfl, by decide, by decide⟩ hY (fun w mg fa h KX G hmg => ?_) (fun _ _ a ns hl _ hS => ⟨a, ns, rfl, hS, hl, fun _ => rfl⟩) fun _ _ _ _ _ z => z
  obtain ⟨T, e, b⟩ := F w mg fa h KX G hmg
  subst e
  exact ⟨T.d_law, b, fun base _ _ => ok_law T⟩
end Ev
open PySem PySem.W PyProof.Rows in
theorem PySem.Challenge.cw_eventloom_k03_waits_holds : PySem.Challenge.rw_eventloom_k03_waits.Holds := by
  w_on; o_law; k_head; (case hw => w_witness2)
  k_fill
  refine Ev.walk (l := PySem.Challenge.rw_eventloom_k03_waits) rfl rfl (fun w h Y => PySem.W.kIn_of Y) ?F
  case F =>
    intro w mg fa h KX G hmg
    refine' Ev.all_mk KX G hmg ?aC_Waits ?pg_Waits ?hd_Waits ?po_Waits ?sa_Waits ?mk_Waits ?kc_Waits ?n_Waits_first_ones ?n_Waits_rows ?a1 ?i1 ?l1 ?c1 ?k1 ?a2 ?i2 ?l2 ?c2 ?k2 ?a3 ?i3 ?l3 ?c3 ?k3 ?a4 ?i4 ?l4 ?c4 ?k4 ?a5 ?i5 ?l5 ?c5 ?k5 ?a6 ?i6 ?l6 ?c6 ?k6 ?a7 ?l7 ?c7 ?k7 ?a8 ?l8 ?c8 ?k8 ?a9 ?l9 ?c9 ?k9 ?a10 ?l10 ?c10 ?k10 ?a11 ?l11 ?c11 ?k11 ?a12 ?l12 ?c12 ?k12 ?z_len ?z_range ?z_isinstance ?z_list ?z_int ?z_bool ?z_tuple
    (case aC_Waits => k_is)
    (case pg_Waits => k_is)
    (case hd_Waits => k_is)
    (case po_Waits => k_is)
    (case sa_Waits => k_is)
    (case mk_Waits => k_is)
    (case kc_Waits => k_is)
    (case n_Waits_first_ones => k_is)
    (case n_Waits_rows => k_is)
    (case a1 => k_is)
    (case i1 => k_is)
    (case l1 => k_is)
    (case c1 => k_is)
    (case k1 => k_is)
    (case a2 => k_is)
    (case i2 => k_is)
    (case l2 => k_is)
    (case c2 => k_is)
    (case k2 => k_is)
    (case a3 => k_is)
    (case i3 => k_is)
    (case l3 => k_is)
    (case c3 => k_is)
    (case k3 => k_is)
    (case a4 => k_is)
    (case i4 => k_is)
    (case l4 => k_is)
    (case c4 => k_is)
    (case k4 => k_is)
    (case a5 => k_is)
    (case i5 => k_is)
    (case l5 => k_is)
    (case c5 => k_is)
    (case k5 => k_is)
    (case a6 => k_is)
    (case i6 => k_is)
    (case l6 => k_is)
    (case c6 => k_is)
    (case k6 => k_is)
    (case a7 => k_is)
    (case l7 => k_is)
    (case c7 => k_is)
    (case k7 => k_is)
    (case a8 => k_is)
    (case l8 => k_is)
    (case c8 => k_is)
    (case k8 => k_is)
    (case a9 => k_is)
    (case l9 => k_is)
    (case c9 => k_is)
    (case k9 => k_is)
    (case a10 => k_is)
    (case l10 => k_is)
    (case c10 => k_is)
    (case k10 => k_is)
    (case a11 => k_is)
    (case l11 => k_is)
    (case c11 => k_is)
    (case k11 => k_is)
    (case a12 => k_is)
    (case l12 => k_is)
    (case c12 => k_is)
    (case k12 => k_is)
    (case z_len => k_is)
    (case z_range => k_is)
    (case z_isinstance => k_is)
    (case z_list => k_is)
    (case z_int => k_is)
    (case z_bool => k_is)
    (case z_tuple => k_is)
