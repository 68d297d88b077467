import PyProof.Rows.All
import Wide.All
import OpenK.AllK
import Wide.FinOn
import HandS.ForMost
import HandS.More
import HandS.IsInst
import HandS.Conv
import HandS.Deep
import HandS.TupAny
import HandS.TupLe
import HandS.SortInts
import HandS.SortRule
import HandS.Style
import HandS.Flow
import HandS.Wide
import HandS.Exc
import HandS.ExcOwn
import HandS.WordsExc
import HandS.TryOnly
import HandS.SetFor
import HandS.Walk
import KE.SortData
import PySem.Challenge.RW_eventloom_k13_tale
set_option Elab.async false
set_option linter.all false
set_option maxRecDepth 100000
set_option maxHeartbeats 4000000
local macro_rules | `(tactic| walk_at "len") => `(tactic| (intro vs H Q E h; first
  | (obtain ⟨e, _⟩ := h; rw [e]; rfl) | (obtain ⟨_, e, _⟩ := h; rw [e]; rfl) | (obtain ⟨_, _, e, _⟩ := h; rw [e]; rfl) | (obtain ⟨_, _, _, e, _⟩ := h; rw [e]; rfl)
  | (obtain ⟨_, _, _, _, e, _⟩ := h; rw [e]; rfl) | (obtain ⟨_, _, _, _, _, e, _⟩ := h; rw [e]; rfl) | (obtain ⟨_, _, _, _, _, _, e, _⟩ := h; rw [e]; rfl)
  | (obtain ⟨_, _, _, _, _, _, _, e, _⟩ := h; rw [e]; rfl) | (obtain ⟨_, _, _, _, _, _, _, _, e, _⟩ := h; rw [e]; rfl)))
local macro_rules | `(tactic| walk_at "nf") => `(tactic| dsimp only [L2.tNext, L2.tSeq, L2.tRet, L2.tAsg, L2.tDrop, L2.tCB, L2.tCons, L2.tNil, L2.tOp, L2.gName, L2.sFld])
namespace Ev
open PySem L2
/-! ### heaps: what an operation keeps -/
structure Kp (M : List Addr) (H H' : Hp) : Prop where
  keep : ∀ a o, a ∉ M → H a = some o → H' a = some o
  dom : ∀ a, H' a = none → H a = none
  tup : ∀ a xs, H a = some (.tup xs) → H' a = some (.tup xs)
theorem Kp.refl (M : List Addr) (H : Hp) : Kp M H H := ⟨fun _ _ _ h => h, fun _ h => h, fun _ _ h => h⟩
theorem Kp.trans {M : List Addr} {H H1 H2 : Hp} (a : Kp M H H1) (b : Kp M H1 H2) : Kp M H H2 :=
  ⟨fun p o n h => b.keep p o n (a.keep p o n h), fun p h => a.dom p (b.dom p h), fun p xs h => b.tup p xs (a.tup p xs h)⟩
theorem Kp.transM {M M1 : List Addr} {H H1 H2 : Hp} (a : Kp M H H1) (b : Kp M1 H1 H2) (s : ∀ p, p ∈ M1 → p ∈ M ∨ H p = none) : Kp M H H2 :=
  ⟨fun p o n h => b.keep p o (fun z => (s p z).elim n fun q => by rw [q] at h; cases h) (a.keep p o n h), fun p h => a.dom p (b.dom p h), fun p xs h => b.tup p xs (a.tup p xs h)⟩
theorem Kp.mono {M M1 : List Addr} {H H1 : Hp} (a : Kp M1 H H1) (s : ∀ p, p ∈ M1 → p ∈ M ∨ H p = none) : Kp M H H1 := (Kp.refl M H).transM a s
theorem Kp.keep0 {H H' : Hp} (k : Kp [] H H') {a : Addr} {o : HO} (h : H a = some o) : H' a = some o := k.keep a o (by simp) h
theorem upd_none {H : Hp} {p a : Addr} {o : HO} (h : upd H p o a = none) : a ≠ p ∧ H a = none := by
  unfold upd at h
  split at h
  · cases h
  · exact ⟨by assumption, h⟩
theorem Kp.step {M : List Addr} {H H1 : Hp} {p : Addr} {o : HO} (k : Kp M H H1) (hm : p ∈ M ∨ H p = none) (ht : ∀ xs, H1 p ≠ some (.tup xs)) : Kp M H (upd H1 p o) := by
  refine ⟨fun a u n h => ?_, fun a h => k.dom a (upd_none h).2, fun a xs h => ?_⟩
  · have ne : a ≠ p := by
      rintro rfl
      rcases hm with q | q
      · exact n q
      · rw [q] at h; cases h
    rw [upd_ne ne]; exact k.keep a u n h
  · have ne : a ≠ p := by
      rintro rfl
      exact ht xs (k.tup _ _ h)
    rw [upd_ne ne]; exact k.tup a xs h
theorem Kp.new {M : List Addr} {H H1 : Hp} {p : Addr} {o : HO} (k : Kp M H H1) (h : H1 p = none) : Kp M H (upd H1 p o) :=
  k.step (.inr (k.dom p h)) fun xs q => by rw [h] at q; cases q
theorem Kp.lst {M : List Addr} {H H1 : Hp} {p : Addr} {o : HO} {ys : List V} (k : Kp M H H1) (hm : p ∈ M ∨ H p = none) (h : H1 p = some (.lst ys)) : Kp M H (upd H1 p o) :=
  k.step hm fun xs q => by rw [h] at q; cases q
theorem Kp.ins {M : List Addr} {H H1 : Hp} {p C dx : Addr} {o : HO} {fs : List (Str × V)} (k : Kp M H H1) (hm : p ∈ M ∨ H p = none) (h : H1 p = some (.ins C dx fs)) : Kp M H (upd H1 p o) :=
  k.step hm fun xs q => by rw [h] at q; cases q
theorem Kp.dk {M : List Addr} {H H1 : Hp} {p : Addr} {o : HO} {kvs : List (Key × V)} (k : Kp M H H1) (hm : p ∈ M ∨ H p = none) (h : H1 p = some (.dK kvs)) : Kp M H (upd H1 p o) :=
  k.step hm fun xs q => by rw [h] at q; cases q
theorem Kp.ne {M : List Addr} {H H' : Hp} (k : Kp M H H') {a p : Addr} {o : HO} (h : H a = some o) (hp : H' p = none) : a ≠ p := fun e => by
  subst e
  rw [k.dom _ hp] at h
  cases h
theorem SqL.kp {K : PySem.W.Frag} {M : List Addr} {H H' : Hp} {a : Addr} {xs : List V} (k : Kp M H H') (n : a ∉ M) (h : SqL K H a xs) : SqL K H' a xs := by
  rcases h with (h | ⟨o, h⟩) | h
  · exact .inl (.inl (k.keep _ _ n h))
  · exact .inl (.inr ⟨o, k.keep _ _ n h⟩)
  · exact .inr h
theorem SqT.kp {K : PySem.W.Frag} {M : List Addr} {H H' : Hp} {a : Addr} {xs : List V} (k : Kp M H H') (n : a ∉ M) (h : SqT K H a xs) : SqT K H' a xs := by
  rcases h with (h | ⟨o, h⟩) | h
  · exact .inl (.inl (k.keep _ _ n h))
  · exact .inl (.inr ⟨o, k.keep _ _ n h⟩)
  · exact .inr h
theorem SqT.of {K : PySem.W.Frag} {H : Hp} {a : Addr} {xs : List V} (h : H a = some (.tup xs)) : SqT K H a xs := .inl (.inl h)
theorem at0 {α : Type} {x : α} {l : List α} : atI (x :: l) 0 = some x := atI_nat (j := 0) rfl
theorem at1 {α : Type} {x y : α} {l : List α} : atI (x :: y :: l) 1 = some y := atI_nat (j := 1) rfl
theorem at2 {α : Type} {x y z : α} {l : List α} : atI (x :: y :: z :: l) 2 = some z := atI_nat (j := 2) rfl
theorem at3 {α : Type} {x y z u : α} {l : List α} : atI (x :: y :: z :: u :: l) 3 = some u := atI_nat (j := 3) rfl
theorem at4 {α : Type} {x y z u v : α} {l : List α} : atI (x :: y :: z :: u :: v :: l) 4 = some v := atI_nat (j := 4) rfl
theorem atLast {α : Type} {l : List α} {v : α} (h : l.getLast? = some v) : atI l (-1) = some v := by
  obtain ⟨r, rfl⟩ := List.getLast?_eq_some_iff.mp h
  exact atI_last r v
/-! ### fields by their place -/
theorem look_ix : ∀ {l : List (Str × V)} {i : Nat} {k : Str} {v : V}, (l.map Prod.fst).Nodup → l[i]? = some (k, v) → l.lookup k = some v
  | [], _, _, _, _, h => by simp at h
  | (a, b) :: l, 0, k, v, _, h => by
    have e : (a, b) = (k, v) := Option.some.inj h
    cases e
    simp [List.lookup]
  | (a, b) :: l, i + 1, k, v, nd, h => by
    have h' : l[i]? = some (k, v) := h
    have nd' := List.nodup_cons.mp (show (a :: l.map Prod.fst).Nodup from nd)
    have ne : k ≠ a := fun e => nd'.1 (by rw [← e]; exact List.mem_map.mpr ⟨_, List.mem_of_getElem? h', rfl⟩)
    have nb : (k == a) = false := by simpa using ne
    rw [List.lookup, nb]
    exact look_ix nd'.2 h'
theorem put_ix : ∀ {l : List (Str × V)} {i : Nat} {k : Str} {u v : V}, (l.map Prod.fst).Nodup → l[i]? = some (k, u) → putF k v l = l.set i (k, v)
  | [], _, _, _, _, _, h => by simp at h
  | (a, b) :: l, 0, k, u, v, _, h => by
    have e : (a, b) = (k, u) := Option.some.inj h
    cases e
    show (if a = a then _ else _) = _
    rw [if_pos rfl]
    rfl
  | (a, b) :: l, i + 1, k, u, v, nd, h => by
    have h' : l[i]? = some (k, u) := h
    have nd' := List.nodup_cons.mp (show (a :: l.map Prod.fst).Nodup from nd)
    have ne : ¬ a = k := fun e => nd'.1 (by rw [e]; exact List.mem_map.mpr ⟨_, List.mem_of_getElem? h', rfl⟩)
    show (if a = k then _ else (a, b) :: putF k v l) = _
    rw [if_neg ne, put_ix nd'.2 h']
    rfl
theorem put_new : ∀ {l : List (Str × V)} {k : Str} {v : V}, k ∉ l.map Prod.fst → putF k v l = l ++ [(k, v)]
  | [], _, _, _ => rfl
  | (a, b) :: l, k, v, h => by
    have h1 : k ∉ a :: l.map Prod.fst := h
    have ne : ¬ a = k := fun e => h1 (by rw [e]; exact List.mem_cons_self)
    show (if a = k then _ else (a, b) :: putF k v l) = _
    rw [if_neg ne, put_new fun z => h1 (List.mem_cons_of_mem _ z)]
    rfl
theorem look_no : ∀ {l : List (Str × V)} {k : Str}, k ∉ l.map Prod.fst → l.lookup k = none
  | [], _, _ => rfl
  | (a, b) :: l, k, h => by
    have h1 : k ∉ a :: l.map Prod.fst := h
    have ne : (k == a) = false := by simpa using fun e : k = a => h1 (by rw [e]; exact List.mem_cons_self)
    rw [List.lookup, ne]
    exact look_no fun z => h1 (List.mem_cons_of_mem _ z)
/-! ### pairs of lists -/
theorem Pd.len {α : Type} {R : V → α → Prop} : ∀ {xs : List V} {ds : List α}, Paired R xs ds → xs.length = ds.length
  | _, _, .nil => rfl
  | _, _, .cons _ t => by simp [Pd.len t]
theorem Pd.at {α : Type} {R : V → α → Prop} : ∀ {xs : List V} {ds : List α} {i : Nat} {x : V}, Paired R xs ds → xs[i]? = some x → ∃ d, ds[i]? = some d ∧ R x d
  | _, _, _, _, .nil, e => by simp at e
  | _, _, 0, _, .cons r _, e => by simp at e; subst e; exact ⟨_, rfl, r⟩
  | _, _, i + 1, x, .cons _ t, e => by
    obtain ⟨d, h1, h2⟩ := Pd.at (i := i) t (by simpa using e)
    exact ⟨d, by simpa using h1, h2⟩
theorem Pd.at' {α : Type} {R : V → α → Prop} : ∀ {xs : List V} {ds : List α} {i : Nat} {d : α}, Paired R xs ds → ds[i]? = some d → ∃ x, xs[i]? = some x ∧ R x d
  | _, _, _, _, .nil, e => by simp at e
  | _, _, 0, _, .cons r _, e => by simp at e; subst e; exact ⟨_, rfl, r⟩
  | _, _, i + 1, x, .cons _ t, e => by
    obtain ⟨d, h1, h2⟩ := Pd.at' (i := i) t (by simpa using e)
    exact ⟨d, by simpa using h1, h2⟩
theorem Pd.mono {α : Type} {R S : V → α → Prop} (f : ∀ x d, R x d → S x d) : ∀ {xs : List V} {ds : List α}, Paired R xs ds → Paired S xs ds
  | _, _, .nil => .nil
  | _, _, .cons r t => .cons (f _ _ r) (Pd.mono f t)
theorem Pd.map {α : Type} {R : V → α → Prop} {f : α → V} : ∀ {ds : List α}, (∀ d, d ∈ ds → R (f d) d) → Paired R (ds.map f) ds
  | [], _ => .nil
  | d :: ds, h => .cons (h d List.mem_cons_self) (Pd.map fun e he => h e (List.mem_cons_of_mem _ he))
theorem Pd.append {α : Type} {R : V → α → Prop} : ∀ {xs ys : List V} {ds es : List α}, Paired R xs ds → Paired R ys es → Paired R (xs ++ ys) (ds ++ es)
  | _, _, _, _, .nil, s => s
  | _, _, _, _, .cons r t, s => .cons r (Pd.append t s)
theorem Pd.take {α : Type} {R : V → α → Prop} : ∀ {xs : List V} {ds : List α} (n : Nat), Paired R xs ds → Paired R (xs.take n) (ds.take n)
  | _, _, 0, _ => .nil
  | _, _, _ + 1, .nil => .nil
  | _, _, n + 1, .cons r t => .cons r (Pd.take n t)
theorem Pd.drop {α : Type} {R : V → α → Prop} : ∀ {xs : List V} {ds : List α} (n : Nat), Paired R xs ds → Paired R (xs.drop n) (ds.drop n)
  | _, _, 0, r => r
  | _, _, _ + 1, .nil => .nil
  | _, _, n + 1, .cons _ t => Pd.drop n t
theorem Pd.eqmap {α : Type} {f : α → V} : ∀ {xs : List V} {ds : List α}, Paired (fun x d => x = f d) xs ds → xs = ds.map f
  | _, _, .nil => rfl
  | _, _, .cons r t => by rw [r, Pd.eqmap t]; rfl
theorem take_snoc {α : Type} {l : List α} {i : Nat} {d : α} (h : l[i]? = some d) : l.take (i + 1) = l.take i ++ [d] := by
  rw [List.take_add_one, h]; rfl
theorem split_at {α : Type} {l : List α} {i : Nat} {d : α} (h : l[i]? = some d) : l = l.take i ++ d :: l.drop (i + 1) := by
  obtain ⟨hi, e⟩ := List.getElem?_eq_some_iff.mp h
  have q := List.take_append_drop i l
  rw [List.drop_eq_getElem_cons hi, e] at q
  exact q.symm
/-! ### loops over a list whose items read as data -/
section
variable {K : PySem.W.Frag} {a : Addr} {xs : List V} {g : TG} {tb : TS} {D : Ends} {σ : St} {H : Hp} {α : Type} {R : V → α → Prop} {ds : List α}
theorem for_pd (hx : Paired R xs ds) (Pv : List α → St → Hp → Prop) (h0 : Pv [] σ H) (hl : ∀ pre σ H, Pv pre σ H → SqL K H a xs)
    (hs : ∀ pre x d post σ H, ds = pre ++ d :: post → R x d → Pv pre σ H → g x σ H fun σ2 H2 => tb { D with nx := Pv (pre ++ [d]), ct := Pv (pre ++ [d]), bk := D.nx } σ2 H2)
    (hd : ∀ σ H, Pv ds σ H → D.nx σ H) : tFor (fun _ H R => R (Itl K a) H) g tb D σ H :=
  for_list (fun i σ H => Pv (ds.take i) σ H) (by simpa using h0) (fun i σ H _ p => hl _ σ H p)
    (fun i x σ H e p => by
      obtain ⟨d, e1, r⟩ := Pd.at hx e
      have q := hs (ds.take i) x d (ds.drop (i + 1)) σ H (split_at e1) r p
      rw [← take_snoc e1] at q
      exact q)
    (fun σ H p => hd σ H (by rw [Pd.len hx, List.take_length] at p; exact p))
theorem for_pdT (hx : Paired R xs ds) (Pv : List α → St → Hp → Prop) (h0 : Pv [] σ H) (hl : ∀ pre σ H, Pv pre σ H → SqT K H a xs)
    (hs : ∀ pre x d post σ H, ds = pre ++ d :: post → R x d → Pv pre σ H → g x σ H fun σ2 H2 => tb { D with nx := Pv (pre ++ [d]), ct := Pv (pre ++ [d]), bk := D.nx } σ2 H2)
    (hd : ∀ σ H, Pv ds σ H → D.nx σ H) : tFor (fun _ H R => R (Itt K a) H) g tb D σ H :=
  for_tup (fun i σ H => Pv (ds.take i) σ H) (by simpa using h0) (fun i σ H _ p => hl _ σ H p)
    (fun i x σ H e p => by
      obtain ⟨d, e1, r⟩ := Pd.at hx e
      have q := hs (ds.take i) x d (ds.drop (i + 1)) σ H (split_at e1) r p
      rw [← take_snoc e1] at q
      exact q)
    (fun σ H p => hd σ H (by rw [Pd.len hx, List.take_length] at p; exact p))
variable {tt : TT} {te : TE} {vs : List Nat} {Q : VK}
/-- a comprehension: at D the list acc, of which I pre acc holds -/
theorem lc_pd (hx : Paired R xs ds) (hz : ds.length < sizeLine) (Pv : Addr → List α → List V → Hp → Prop) (h0 : ∀ D, H D = none → Pv D [] [] (upd H D (.lst [])))
    (hl : ∀ D pre acc H', H D = none → H' D = some (.lst acc) → Pv D pre acc H' → SqL K H' a xs)
    (hs : ∀ D pre acc x d post H' (Yes : V → Hp → Prop) (No : Hp → Prop), H D = none → ds = pre ++ d :: post → R x d → H' D = some (.lst acc) → Pv D pre acc H' →
      (∀ y H4, H4 D = some (.lst acc) → Pv D (pre ++ [d]) (acc ++ [y]) (upd H4 D (.lst (acc ++ [y]))) → Yes y H4) → (∀ H3, H3 D = some (.lst acc) → Pv D (pre ++ [d]) acc H3 → No H3) →
      g x (wipe σ vs) H' fun σ2 H2 => wipe σ2 vs = wipe σ vs ∧ tt σ2 H2 fun b H3 => if b = true then te σ2 H3 Yes else No H3)
    (hd : ∀ D acc H', H D = none → H' D = some (.lst acc) → Pv D ds acc H' → Q (.ref D) H') : tLc (fun _ H R => R (Itl K a) H) g tt te vs σ H Q := fun D hD =>
  lc_list (fun i H' => ∃ acc, H' D = some (.lst acc) ∧ acc.length ≤ i ∧ Pv D (ds.take i) acc H') ⟨[], upd_same, Nat.le_refl _, by simpa using h0 D hD⟩ (fun i H' _ ⟨acc, e, _, p⟩ => hl D _ acc H' hD e p)
    (fun i x H' e ⟨acc, e2, hi, p⟩ => by
      obtain ⟨d, e1, r⟩ := Pd.at hx e
      have hlt : i < ds.length := (List.getElem?_eq_some_iff.mp e1).1
      have q := fun Yes No => hs D (ds.take i) acc x d (ds.drop (i + 1)) H' Yes No hD (split_at e1) r e2 p
      rw [← take_snoc e1] at q
      exact q _ _ (fun y H4 z1 z2 => ⟨acc, z1, Nat.lt_of_le_of_lt hi (Nat.lt_trans hlt hz), acc ++ [y], upd_same, by simp; exact hi, z2⟩) fun H3 z1 z2 => ⟨acc, z1, Nat.le_succ_of_le hi, z2⟩)
    (fun H' ⟨acc, e, _, p⟩ => hd D acc H' hD e (by rw [Pd.len hx, List.take_length] at p; exact p))
/-- .. over a tuple -/
theorem lc_pdT (hx : Paired R xs ds) (hz : ds.length < sizeLine) (Pv : Addr → List α → List V → Hp → Prop) (h0 : ∀ D, H D = none → Pv D [] [] (upd H D (.lst [])))
    (hl : ∀ D pre acc H', H D = none → H' D = some (.lst acc) → Pv D pre acc H' → SqT K H' a xs)
    (hs : ∀ D pre acc x d post H' (Yes : V → Hp → Prop) (No : Hp → Prop), H D = none → ds = pre ++ d :: post → R x d → H' D = some (.lst acc) → Pv D pre acc H' →
      (∀ y H4, H4 D = some (.lst acc) → Pv D (pre ++ [d]) (acc ++ [y]) (upd H4 D (.lst (acc ++ [y]))) → Yes y H4) → (∀ H3, H3 D = some (.lst acc) → Pv D (pre ++ [d]) acc H3 → No H3) →
      g x (wipe σ vs) H' fun σ2 H2 => wipe σ2 vs = wipe σ vs ∧ tt σ2 H2 fun b H3 => if b = true then te σ2 H3 Yes else No H3)
    (hd : ∀ D acc H', H D = none → H' D = some (.lst acc) → Pv D ds acc H' → Q (.ref D) H') : tLc (fun _ H R => R (Itt K a) H) g tt te vs σ H Q := fun D hD =>
  lc_tup (fun i H' => ∃ acc, H' D = some (.lst acc) ∧ acc.length ≤ i ∧ Pv D (ds.take i) acc H') ⟨[], upd_same, Nat.le_refl _, by simpa using h0 D hD⟩ (fun i H' _ ⟨acc, e, _, p⟩ => hl D _ acc H' hD e p)
    (fun i x H' e ⟨acc, e2, hi, p⟩ => by
      obtain ⟨d, e1, r⟩ := Pd.at hx e
      have hlt : i < ds.length := (List.getElem?_eq_some_iff.mp e1).1
      have q := fun Yes No => hs D (ds.take i) acc x d (ds.drop (i + 1)) H' Yes No hD (split_at e1) r e2 p
      rw [← take_snoc e1] at q
      exact q _ _ (fun y H4 z1 z2 => ⟨acc, z1, Nat.lt_of_le_of_lt hi (Nat.lt_trans hlt hz), acc ++ [y], upd_same, by simp; exact hi, z2⟩) fun H3 z1 z2 => ⟨acc, z1, Nat.le_succ_of_le hi, z2⟩)
    (fun H' ⟨acc, e, _, p⟩ => hd D acc H' hD e (by rw [Pd.len hx, List.take_length] at p; exact p))
end
/-! ### a comprehension that maps what passes a test -/
section
variable {K : PySem.W.Frag} {a : Addr} {xs : List V} {tt : TT} {te : TE} {σ : St} {H : Hp} {α : Type} {R : V → α → Prop} {ds : List α} {vs : List Nat} {Q : VK} {i : Nat}
theorem lc_fm (hx : Paired R xs ds) (hz : ds.length < sizeLine) (ha : SqL K H a xs) (f : α → V) (p : α → Bool) (hw : ∀ x, wipe ((wipe σ vs).set i (some x)) vs = wipe σ vs)
    (ht : ∀ x d H' (Q : Bool → Hp → Prop), d ∈ ds → R x d → Kp [] H H' → (∀ H'', Kp [] H' H'' → Q (p d) H'') → tt ((wipe σ vs).set i (some x)) H' Q)
    (he : ∀ x d H' (Q : VK), d ∈ ds → R x d → p d = true → Kp [] H H' → (∀ H'', Kp [] H' H'' → Q (f d) H'') → te ((wipe σ vs).set i (some x)) H' Q)
    (k : ∀ D H', H D = none → Kp [] H H' → H' D = some (.lst ((ds.filter p).map f)) → Q (.ref D) H') : tLc (fun _ H R => R (Itl K a) H) (gName i) tt te vs σ H Q := by
  refine lc_pd hx hz (fun D pre acc H' => Kp [] H H' ∧ acc = (pre.filter p).map f) (fun D hD => ⟨(Kp.refl _ _).new hD, rfl⟩) (fun D pre acc H' hD e q => SqL.kp q.1 (by simp) ha) ?_ (fun D acc H' hD e q => k D H' hD q.1 (q.2 ▸ e))
  rintro D pre acc x d post H' Yes No hD ed r e ⟨kp, rfl⟩ yes no
  have hd : d ∈ ds := by rw [ed]; simp
  refine ⟨hw x, ht x d H' _ hd r kp fun H2 k2 => ?_⟩
  cases hp : p d with
  | true =>
    rw [if_pos rfl]
    refine he x d H2 _ hd r hp (kp.trans k2) fun H3 k3 => ?_
    have e3 := (k2.trans k3).keep0 e
    exact yes _ _ e3 ⟨((kp.trans k2).trans k3).lst (.inr hD) e3, by simp [List.filter_append, hp]⟩
  | false =>
    rw [if_neg Bool.false_ne_true]
    exact no _ (k2.keep0 e) ⟨kp.trans k2, by simp [List.filter_append, hp]⟩
theorem lc_mp (hx : Paired R xs ds) (hz : ds.length < sizeLine) (ha : SqL K H a xs) (f : α → V) (hw : ∀ x, wipe ((wipe σ vs).set i (some x)) vs = wipe σ vs)
    (he : ∀ x d H' (Q : VK), d ∈ ds → R x d → Kp [] H H' → (∀ H'', Kp [] H' H'' → Q (f d) H'') → te ((wipe σ vs).set i (some x)) H' Q)
    (k : ∀ D H', H D = none → Kp [] H H' → H' D = some (.lst (ds.map f)) → Q (.ref D) H') : tLc (fun _ H R => R (Itl K a) H) (gName i) tYes te vs σ H Q :=
  lc_fm hx hz ha f (fun _ => true) hw (fun x d H' Q _ _ _ q => q H' (Kp.refl _ _)) (fun x d H' Q h1 h2 _ h3 q => he x d H' Q h1 h2 h3 q) fun D H' hD kp e => k D H' hD kp (by
    have e2 : ds.filter (fun _ => true) = ds := List.filter_eq_self.mpr fun _ _ => rfl
    rw [e2] at e
    exact e)
end
/-! ### one step of a reading, named -/
section
variable {σ : L2.St} {H : Hp} {D : Ends} {Q : VK} {te ta : TE} {tr : TA} {t u tb : TS} {wi : TI} {g : TG} {tt : TT} {vs : List Nat}
theorem next_go (h : D.nx σ H) : tNext D σ H := h
theorem ret_go (h : te σ H D.rt) : tRet te D σ H := h
theorem seq_go (h : t { D with nx := u D } σ H) : tSeq t u D σ H := h
theorem asg_go (h : te σ H fun x H1 => g x σ H1 D.nx) : tAsg te g D σ H := h
theorem drop_go (h : te σ H fun _ H1 => D.nx σ H1) : tDrop te D σ H := h
theorem cb_go {r : List V → Hp → VK → Prop} (h : tr σ H fun vs H1 => r vs H1 Q) : tCB r tr σ H Q := h
theorem cons_go {Q : List V → Hp → Prop} (h : ta σ H fun x H1 => tr σ H1 fun xs H2 => Q (x :: xs) H2) : tCons ta tr σ H Q := h
theorem op_go {r : R2} (h : te σ H fun x H1 => ta σ H1 fun y H2 => r x y H2 Q) : tOp r te ta σ H Q := h
theorem for_go (h : wi σ H fun J H1 => tFor (fun _ H R => R J H) g tb D σ H1) : tFor wi g tb D σ H := h
theorem lc_go (h : wi σ H fun J H1 => tLc (fun _ H R => R J H) g tt te vs σ H1 Q) : tLc wi g tt te vs σ H Q := h
theorem if_go {c : TT} {A B : TS} (h : c σ H fun b H1 => if b = true then A D σ H1 else B D σ H1) : tIfS c A B D σ H := h
theorem if_else {c : Prop} [Decidable c] {A B : Prop} (h1 : c → A) (h2 : ¬ c → B) : if decide c = true then A else B := by
  by_cases h : c
  · rw [decide_eq_true h, if_pos rfl]; exact h1 h
  · rw [decide_eq_false h, if_neg Bool.false_ne_true]; exact h2 h
end
/-! ### the layer's rules with K said -/
section
variable {X : Cx}
def rLn (K : PySem.W.Frag) : List V → Hp → VK → Prop := fun xs H Q => ∃ p ys, xs = [.ref p] ∧ (SqL K H p ys ∨ SqT K H p ys) ∧ Q (.int ys.length) H
def rLs (K : PySem.W.Frag) : List V → Hp → VK → Prop := fun xs H Q => ∃ p ys, xs = [.ref p] ∧ (SqL K H p ys ∨ SqT K H p ys) ∧ ∀ l, H l = none → Q (.ref l) (upd H l (.lst ys))
def rIns : V → List V → Hp → VK → Prop := fun x vs H Q => ∃ (l : Addr) (xs : List V) (i : Int) (y : V), x = .ref l ∧ vs = [.int i, y] ∧ H l = some (.lst xs) ∧
  xs.length < sizeLine ∧ 0 ≤ i ∧ i < 2 ^ 63 ∧ Q .non (upd H l (.lst (xs.take i.toNat ++ [y] ++ xs.drop i.toNat)))
theorem kInsert : MtR X "list.insert" rIns := mt_insert
def rTp (K : PySem.W.Frag) : List V → Hp → VK → Prop := fun xs H Q => ∃ p ys, xs = [.ref p] ∧ ((SqL K H p ys ∧ ∀ l, H l = none → Q (.ref l) (upd H l (.tup ys))) ∨ (SqT K H p ys ∧ Q (.ref p) H))
theorem kLen (K : PySem.W.Frag) (h : X.K = K := by rfl) : CallR X (.builtin "len") (rLn K) := by subst h; exact call_len_seq
theorem kList (K : PySem.W.Frag) (h : X.K = K := by rfl) : CallR X (.type "list") (rLs K) := by subst h; exact call_list_of
theorem kTuple (K : PySem.W.Frag) (h : X.K = K := by rfl) : CallR X (.type "tuple") (rTp K) := by subst h; exact call_tuple_of
theorem kAll (K : PySem.W.Frag) (h : X.K = K := by rfl) (hc : X.calm = true := by rfl) : CallR X (.builtin "all") (rAll K) := by subst h; exact cr_all hc
theorem kAny (K : PySem.W.Frag) (h : X.K = K := by rfl) (hc : X.calm = true := by rfl) : CallR X (.builtin "any") (rAny K) := by subst h; exact cr_any hc
theorem kSum (K : PySem.W.Frag) (h : X.K = K := by rfl) (hc : X.calm = true := by rfl) : CallR X (.builtin "sum") (rSum K) := by subst h; exact cr_sum hc
theorem kMax (K : PySem.W.Frag) (h : X.K = K := by rfl) (hc : X.calm = true := by rfl) : CallR X (.builtin "max") (rMax K) := by subst h; exact cr_max hc
theorem kIsi (K : PySem.W.Frag) (h : X.K = K := by rfl) : CallR X (.builtin "isinstance") (rIsi K) := by subst h; exact call_isi
theorem kIsiT (K : PySem.W.Frag) (h : X.K = K := by rfl) : CallR X (.builtin "isinstance") (rIsiT K) := by subst h; exact call_isiT
theorem kSortI (K : PySem.W.Frag) (h : X.K = K := by rfl) : CallR X (.builtin "sorted") (rSortedI K) := by subst h; exact cr_sortedI
theorem kSortP (K : PySem.W.Frag) (h : X.K = K := by rfl) : CallR X (.builtin "sorted") (rSortedPO K) := by subst h; exact cr_sortedPO
theorem kIxL (K : PySem.W.Frag) (h : X.K = K := by rfl) : IxR X (rIxL K) := by subst h; exact ix_list
theorem kIxT (K : PySem.W.Frag) (h : X.K = K := by rfl) : IxR X (rIxT K) := by subst h; exact ix_tup
theorem kSlL (K : PySem.W.Frag) (h : X.K = K := by rfl) : SlR X (rSlL K) := by subst h; exact sl_list
theorem kSlA (K : PySem.W.Frag) (h : X.K = K := by rfl) : SlR X (rSlA K) := by subst h; exact sl_tupA
theorem kIn (K : PySem.W.Frag) (h : X.K = K := by rfl) : OpR X (compareOp .In) (rIn K false) := by subst h; exact op_in_seq
theorem kNotIn (K : PySem.W.Frag) (h : X.K = K := by rfl) : OpR X (compareOp .NotIn) (rIn K true) := by subst h; exact op_notIn_seq
theorem kInD (K : PySem.W.Frag) (hu : X.A.units + 65 < cLine) (h : X.K = K := by rfl) : OpR X (compareOp .In) (rInD K) := by subst h; exact op_inD hu
theorem kNotInD (K : PySem.W.Frag) (hu : X.A.units + 65 < cLine) (h : X.K = K := by rfl) : OpR X (compareOp .NotIn) (rNotInD K) := by subst h; exact op_notInD hu
theorem kEqD (K : PySem.W.Frag) (hu : X.A.units + 64 < cLine) (h : X.K = K := by rfl) : OpR X (compareOp .Eq) (rEqD K) := by subst h; exact op_eqD hu
theorem kNeD (K : PySem.W.Frag) (hu : X.A.units + 64 < cLine) (h : X.K = K := by rfl) : OpR X (compareOp .NotEq) (rNeD K) := by subst h; exact op_neD hu
theorem kLtT (K : PySem.W.Frag) (hu : X.A.units < cLine) (h : X.K = K := by rfl) : OpR X (compareOp .Lt) (rLtT K) := by subst h; exact op_ltT hu
theorem kLeT (K : PySem.W.Frag) (hu : X.A.units < cLine) (h : X.K = K := by rfl) : OpR X (compareOp .LtE) (rLeT K) := by subst h; exact op_leT hu
theorem kCatA (K : PySem.W.Frag) (h : X.K = K := by rfl) : OpR X (binaryOp .Add) (rCatA K) := by subst h; exact op_catA
theorem kFld (K : PySem.W.Frag) {e : Expr} {f : Str} {pos : Pos} {ta : TE} (he : PE X e ta) (h : X.K = K := by rfl) (hb : attributeBase e f X.env (eval e X.env) = eval e X.env := by rfl) : PE X (.Attribute e f pos) (tFld K ta f) := by subst h; exact pe_fld he hb
/-! ### sorted of triples: a rank, a place, a name -/
abbrev Tri := Int × Int × Str
def triD (t : Tri) : PyData := .tuple [.int t.1, .int t.2.1, .str t.2.2]
def triLe : Tri → Tri → Bool := PySem.W.dataLe false triD
def TriAt (K : PySem.W.Frag) (H : Hp) (v : V) (t : Tri) : Prop := ∃ p, v = .ref p ∧ SqT K H p [.int t.1, .int t.2.1, .str t.2.2]
def rSort3 (K : PySem.W.Frag) : List V → Hp → VK → Prop := fun vs H Q => ∃ (a : Addr) (xs : List V) (ts : List Tri), vs = [V.ref a] ∧ SqL K H a xs ∧ Paired (TriAt K H) xs ts ∧
  ∀ ys p, Paired (TriAt K H) ys (ts.mergeSort triLe) → H p = none → Q (.ref p) (upd H p (.lst ys))
theorem TriAt.dp {K : PySem.W.Frag} {H : Hp} {v : V} {t : Tri} (h : TriAt K H v t) : Dp K H v (triD t) := by
  obtain ⟨p, rfl, h⟩ := h
  exact .tup h (.cons (.int _) (.cons (.int _) (.cons (.str _) .nil)))
theorem tri_alike (t u : Tri) : PySem.W.alike (triD t) (triD u) = true := by simp [triD, PySem.W.alike, PySem.W.alikeAll]
theorem tri_depth (t : Tri) : (triD t).depth = 1 := by simp [triD, PyData.depth, PyData.depthAll]
theorem each_of {xs : List V} {its : List Value} {ts : List Tri} {K : PySem.W.Frag} {H : Hp} : ∀ {xs : List V} {its : List Value} {ts : List Tri}, Vals xs its → Paired (TriAt K H) xs ts →
    PySem.W.EachIs (fun u (b : V × Tri) => RelV b.1 u ∧ TriAt K H b.1 b.2) its (xs.zip ts)
  | _, _, _, .nil, .nil => .nil
  | _, _, _, .cons r q, .cons r' q' => .cons ⟨r, r'⟩ (each_of (xs := []) (its := []) (ts := []) q q')
theorem each_vals {K : PySem.W.Frag} {H : Hp} : ∀ {its : List Value} {bs : List (V × Tri)}, PySem.W.EachIs (fun u (b : V × Tri) => RelV b.1 u ∧ TriAt K H b.1 b.2) its bs → Vals (bs.map Prod.fst) its ∧ Paired (TriAt K H) (bs.map Prod.fst) (bs.map Prod.snd)
  | _, _, .nil => ⟨.nil, .nil⟩
  | _, _, .cons r q => ⟨.cons r.1 (each_vals q).1, .cons r.2 (each_vals q).2⟩
theorem zip_snd {α β : Type} {R : α → β → Prop} : ∀ {xs : List α} {ts : List β}, Paired R xs ts → (xs.zip ts).map Prod.snd = ts
  | _, _, .nil => rfl
  | _, _, .cons _ q => by simp [zip_snd q]
theorem kSort3 (K : PySem.W.Frag) (hu : X.A.units + 64 < cLine) (h : X.K = K := by rfl) : CallR X (.builtin "sorted") (rSort3 K) := by
  subst h
  intro pins s σ H vs us Q I r h
  obtain ⟨a, xs, ts, rfl, hs, hx, q⟩ := h
  obtain ⟨its, rv, hl, hz⟩ := I.list hs
  obtain ⟨u, rfl, ru⟩ := vals1 r
  obtain rfl : u = Value.ref a := ru
  have e := each_of (xs := []) (its := []) (ts := []) rv hx
  have hlen : (xs.zip ts).length = its.length := by
    rw [List.length_zip, ← Pd.len hx, Nat.min_self, rv.length]
  refine PySem.W.sorted_data (enc := fun b : V × Tri => triD b.2) (R := fun u (b : V × Tri) => RelV b.1 u ∧ TriAt X.K H b.1 b.2) hl.isList e (e.mono fun u b hb => ?_) (PySem.W.AllAlike.of fun b b' => tri_alike _ _) (PySem.W.Sortable.tuples fun b => ⟨_, _, rfl⟩) ?_ ?_ ?_
  · exact Dp.reads I _ _ _ hb.2.dp hb.1
  · rw [hlen, ← rv.length]; exact hz
  · intro b _
    rw [tri_depth]
    omega
  · intro out ho eo
    obtain ⟨c, hc⟩ := PyProof.Rows.sortedAll_at s.heap its out.toArray
    obtain ⟨v1, v2⟩ := each_vals eo
    have e2 : ((xs.zip ts).mergeSort (PySem.W.dataLe false fun b : V × Tri => triD b.2)).map Prod.snd = ts.mergeSort triLe := by
      have m := List.map_mergeSort (f := Prod.snd) (r := PySem.W.dataLe false fun b : V × Tri => triD b.2) (s := triLe) (l := xs.zip ts) (fun _ _ _ _ => rfl)
      rw [m, zip_snd hx]
    rw [e2] at v2
    have hn : H (s.heap.objs.size + 1) = none := I.hok.fresh (Nat.le_succ _)
    refine ⟨.ref (s.heap.objs.size + 1), upd H (s.heap.objs.size + 1) (.lst (((xs.zip ts).mergeSort (PySem.W.dataLe false fun b : V × Tri => triD b.2)).map Prod.fst)), I.laid (t' := s.toks) (fun b o z => PyProof.Rows.sortedAll_old z) (Nat.le_succ _) ⟨?_, out, c, v1, hc⟩, rfl, q _ _ v2 hn⟩
    rw [v1.length, ho, hlen, ← rv.length]
    exact hz
/-- pairs of whole numbers, greater, or not less -/
def rGtP (K : PySem.W.Frag) : R2 := fun x y H Q => ∃ (a b : Addr) (i j k l : Int), x = .ref a ∧ y = .ref b ∧ SqT K H a [.int i, .int j] ∧ SqT K H b [.int k, .int l] ∧ Q (.bl (decide (k < i ∨ (i = k ∧ l < j)))) H
def rGeP (K : PySem.W.Frag) : R2 := fun x y H Q => ∃ (a b : Addr) (i j k l : Int), x = .ref a ∧ y = .ref b ∧ SqT K H a [.int i, .int j] ∧ SqT K H b [.int k, .int l] ∧ Q (.bl (decide (k < i ∨ (i = k ∧ l ≤ j)))) H
theorem eqInt {A : Around} {s : Shared} {i k : Int} {t u : Tok} : SeqAt.EqAt A s (.int i t) (.int k u) (decide (i = k)) := by
  have z : (i == k) = decide (i = k) := by
    by_cases q : i = k
    · rw [decide_eq_true q]; exact beq_iff_eq.mpr q
    · rw [decide_eq_false q]; exact beq_eq_false_iff_ne.mpr q
  rw [← z]
  exact SeqAt.EqAt.int_int _ _ _ _
theorem pairInts {xs : List Value} {i j : Int} (r : Vals [V.int i, V.int j] xs) : ∃ t u, xs = [.int i t, .int j u] := by
  cases r with
  | cons r1 r =>
    cases r with
    | cons r2 r =>
      cases r
      obtain ⟨t, rfl⟩ := r1
      obtain ⟨u, rfl⟩ := r2
      exact ⟨t, u, rfl⟩
def two (p q : Bool) : Nat → Bool
  | 0 => p
  | _ => q
theorem kGtP (K : PySem.W.Frag) (hu : X.A.units < cLine) (h : X.K = K := by rfl) : OpR X (compareOp .Gt) (rGtP K) := by
  subst h
  intro pins s σ H x y v u Q I rx ry h
  obtain ⟨a, b, i, j, k, l, rfl, rfl, ha, hb, q⟩ := h
  cases rx; cases ry
  obtain ⟨xs, r1, p1, _⟩ := I.tuple ha
  obtain ⟨ys, r2, p2, _⟩ := I.tuple hb
  obtain ⟨t1, u1, rfl⟩ := pairInts r1
  obtain ⟨t2, u2, rfl⟩ := pairInts r2
  have R := Ob.RcOp.tuples_gt (A := X.A) (s := s) (e := two (decide (i = k)) (decide (j = l))) (r := two (decide (i > k)) (decide (j > l))) p1 p2 hu
    (fun m h1 h2 => match m, h1, h2 with | 0, _, _ => eqInt | 1, _, _ => eqInt | m + 2, h1, _ => absurd h1 (by simp)) (fun m h1 h2 _ => match m, h1, h2 with | 0, _, _ => Ob.RcOp.gt_int _ _ _ _ | 1, _, _ => Ob.RcOp.gt_int _ _ _ _ | m + 2, h1, _ => absurd h1 (by simp))
  have e : Ob.lexAt (two (decide (i = k)) (decide (j = l))) (two (decide (i > k)) (decide (j > l))) (decide (([Value.int i t1, .int j u1] : List Value).toArray.size > ([Value.int k t2, .int l u2] : List Value).toArray.size)) 0
      (min ([Value.int i t1, .int j u1] : List Value).toArray.size ([Value.int k t2, .int l u2] : List Value).toArray.size) = decide (k < i ∨ (i = k ∧ l < j)) := by
    show (if decide (i = k) = true then (if decide (j = l) = true then decide (2 > 2) else decide (j > l)) else decide (i > k)) = _
    by_cases e1 : i = k <;> by_cases e2 : j = l <;> simp [e1, e2]
    all_goals omega
  rw [e] at R
  exact R X.prog X.w X.xe (EP X pins σ Q) ⟨.bl _, H, I, rfl, q⟩
theorem kGeP (K : PySem.W.Frag) (hu : X.A.units < cLine) (h : X.K = K := by rfl) : OpR X (compareOp .GtE) (rGeP K) := by
  subst h
  intro pins s σ H x y v u Q I rx ry h
  obtain ⟨a, b, i, j, k, l, rfl, rfl, ha, hb, q⟩ := h
  cases rx; cases ry
  obtain ⟨xs, r1, p1, _⟩ := I.tuple ha
  obtain ⟨ys, r2, p2, _⟩ := I.tuple hb
  obtain ⟨t1, u1, rfl⟩ := pairInts r1
  obtain ⟨t2, u2, rfl⟩ := pairInts r2
  have R := Ob.RcOp.tuples_ge (A := X.A) (s := s) (e := two (decide (i = k)) (decide (j = l))) (r := two (decide (i ≥ k)) (decide (j ≥ l))) p1 p2 hu
    (fun m h1 h2 => match m, h1, h2 with | 0, _, _ => eqInt | 1, _, _ => eqInt | m + 2, h1, _ => absurd h1 (by simp)) (fun m h1 h2 _ => match m, h1, h2 with | 0, _, _ => Ob.RcOp.ge_int _ _ _ _ | 1, _, _ => Ob.RcOp.ge_int _ _ _ _ | m + 2, h1, _ => absurd h1 (by simp))
  have e : Ob.lexAt (two (decide (i = k)) (decide (j = l))) (two (decide (i ≥ k)) (decide (j ≥ l))) (decide (([Value.int i t1, .int j u1] : List Value).toArray.size ≥ ([Value.int k t2, .int l u2] : List Value).toArray.size)) 0
      (min ([Value.int i t1, .int j u1] : List Value).toArray.size ([Value.int k t2, .int l u2] : List Value).toArray.size) = decide (k < i ∨ (i = k ∧ l ≤ j)) := by
    show (if decide (i = k) = true then (if decide (j = l) = true then decide (2 ≥ 2) else decide (j ≥ l)) else decide (i ≥ k)) = _
    by_cases e1 : i = k <;> by_cases e2 : j = l <;> simp [e1, e2]
    all_goals omega
  rw [e] at R
  exact R X.prog X.w X.xe (EP X pins σ Q) ⟨.bl _, H, I, rfl, q⟩
/-- a text, n times -/
def repS (z : Str) (n : Nat) : Str := ⟨(List.replicate n z.cps).foldl (· ++ ·) #[]⟩
theorem fold_cat : ∀ (l : List (Array Nat)) (a : Array Nat), (l.foldl (· ++ ·) a).toList = a.toList ++ (l.map Array.toList).flatten
  | [], a => by simp
  | b :: l, a => by
    rw [List.foldl_cons, fold_cat l (a ++ b)]
    simp
theorem repS_list (z : Str) (n : Nat) : (repS z n).cps.toList = (List.replicate n z.cps.toList).flatten := by
  unfold repS
  rw [fold_cat]
  simp
theorem str_ext {x y : Str} (h : x.cps.toList = y.cps.toList) : x = y := by
  cases x; cases y
  congr
  exact Array.toList_inj.mp h
theorem str_len (x : Str) : x.length = x.cps.toList.length := by
  show x.cps.size = _
  simp
theorem repS_len (z : Str) (n : Nat) : (repS z n).length = n * z.length := by
  rw [str_len, repS_list, str_len]
  simp
def rMulS : R2 := fun x y H Q => ∃ (z : Str) (n : Int), x = .str z ∧ y = .int n ∧ 0 ≤ n ∧ n ≤ 4000 ∧ z.length ≤ 4000 ∧ Q (.str (repS z n.toNat)) H
theorem kMulS : OpR X (binaryOp .Mult) rMulS := by
  intro pins s σ H x y v u Q I rx ry h
  obtain ⟨z, n, rfl, rfl, h0, h1, hz, q⟩ := h
  obtain ⟨t, rfl⟩ := rx
  obtain ⟨t', rfl⟩ := ry
  have big : ∀ m : Nat, m ≤ 16000000 → Builtin.Str.tooLong m = false := fun m hm => by
    unfold Builtin.Str.tooLong
    rw [sizeLine_eq]
    exact decide_eq_false (by omega)
  have hp : z.length * n.toNat ≤ 4000 * 4000 := Nat.mul_le_mul hz (by omega)
  refine P.mul_str (by rw [decide_eq_false (by omega), decide_eq_false (by omega)]; rfl) (fun hn _ hh => ?_) (fun _ _ => big _ (by omega)) ?_
  · have e1 : (4000 : Int) ≤ (2 ^ 63 - 1) / n := Int.le_ediv_of_mul_le (by omega) (by omega)
    omega
  · by_cases hn : n < 1
    · have e : n = 0 := by omega
      subst e
      rw [if_pos hn]
      exact ⟨by decide, .str _, H, I.tok _, ⟨_, rfl⟩, q⟩
    · rw [if_neg hn]
      by_cases h2 : (n == 1 || z.length == 0) = true
      · rw [if_pos h2]
        have e : repS z n.toNat = z := by
          refine str_ext ?_
          rw [repS_list]
          rcases Bool.or_eq_true_iff.mp h2 with h | h
          · have h : n = 1 := by simpa using h
            subst h
            simp
          · have h : z.length = 0 := by simpa using h
            rw [str_len] at h
            have h : z.cps.toList = [] := List.eq_nil_of_length_eq_zero h
            rw [h]
            simp
        rw [e] at q
        exact ⟨.str z, H, I, ⟨_, rfl⟩, q⟩
      · rw [if_neg h2]
        refine ⟨?_, .str _, H, I.tok _, ⟨_, rfl⟩, q⟩
        have e := repS_len z n.toNat
        unfold repS at e
        rw [e, sizeLine_eq, Nat.mul_comm]
        omega
def tTruth (K : PySem.W.Frag) (ta : TE) : TT := fun σ H Q => ta σ H fun x H' => ∃ k, TruV K x H' k ∧ Q k H'
theorem kTruth (K : PySem.W.Frag) {e : Expr} {ta : TE} (he : PE X e ta) (h : X.K = K := by rfl) (hb : ∀ whole, isTrue e X.env whole = (do let v ← whole; standAt e.pos; holding [v] (truthy v)) := by intro _; rfl) : PT X e (tTruth K ta) := by subst h; exact pt_truth he hb
theorem kTup (K : PySem.W.Frag) {es : List Expr} {k n : Nat} {t : TGs} {pos : Pos} (g : PGs X es t) (h : X.K = K := by rfl) (hc : X.calm = true := by rfl)
    (hn : (assignEach es X.env).length = n := by rfl) (hst : (assignEach es X.env).findIdx? (·.1) = none := by rfl) : PG X (.Tuple es k pos) (gTup K n t) := by subst h; exact pg_tup hc g hn hst
end
section
variable {K : PySem.W.Frag}
theorem iteT' {c : Bool} {A B : Prop} (e : c = true) (h : A) : if c = true then A else B := by rw [if_pos e]; exact h
theorem iteF' {c : Bool} {A B : Prop} (e : c = false) (h : B) : if c = true then A else B := by rw [if_neg (by rw [e]; decide)]; exact h
theorem tYes_go {σ : L2.St} {H : Hp} {Q : Bool → Hp → Prop} (h : Q true H) : tYes σ H Q := h
theorem isI {H : Hp} {i : Int} : TyX K H (.int i) (.type "int") := .base (.int _)
theorem isS {H : Hp} {x : Str} : TyX K H (.str x) (.type "str") := .base (.str _)
theorem isB {H : Hp} {x : Bool} : TyX K H (.bl x) (.type "bool") := .base (.bl _)
theorem isT {H : Hp} {p : Addr} {xs : List V} (h : H p = some (.tup xs)) : TyX K H (.ref p) (.type "tuple") := .base (.tup h)
theorem isL {H : Hp} {p : Addr} {xs : List V} (h : H p = some (.lst xs)) : TyX K H (.ref p) (.type "list") := .base (.lst h)
end
theorem flat_strs (l : List Str) : (l.map V.str).all flatV = true := by simp [flatV]
theorem inV_strs (x : Str) (l : List Str) : inV (V.str x) (l.map V.str) = decide (x ∈ l) := by
  unfold inV
  induction l with
  | nil => simp
  | cons y l ih =>
    rw [List.map_cons, List.any_cons, ih]
    have e : eqV (V.str y) (V.str x) = decide (y = x) := by
      show (y == x) = decide (y = x)
      rw [Bool.eq_iff_iff]
      simp
    rw [e]
    by_cases h : y = x <;> simp [h, eq_comm]
    by_cases h2 : x = y
    · exact absurd h2.symm h
    · simp [h2]
theorem nodup_len {α : Type} [DecidableEq α] : ∀ {l m : List α}, l.Nodup → (∀ x ∈ l, x ∈ m) → l.length ≤ m.length
  | [], _, _, _ => Nat.zero_le _
  | x :: l, m, nd, h => by
    have nd' := List.nodup_cons.mp nd
    have hx : x ∈ m := h x List.mem_cons_self
    have ih := nodup_len (l := l) (m := m.erase x) nd'.2 fun y hy => (List.mem_erase_of_ne (fun e => nd'.1 (by rw [← e]; exact hy))).mpr (h y (List.mem_cons_of_mem _ hy))
    rw [List.length_erase_of_mem hx] at ih
    have : 0 < m.length := List.length_pos_of_mem hx
    simp
    omega
/-! ### a comprehension over a range -/
section
variable {tt : TT} {te : TE} {σ : L2.St} {H : Hp} {vs : List Nat} {Q : VK} {j : Nat}
theorem range_snoc {β : Type} (f : Nat → β) (i : Nat) : (List.range (i + 1)).map f = (List.range i).map f ++ [f i] := by
  rw [List.range_succ, List.map_append]
  rfl
/-- no test; the items by S, which the list that is made at D may be part of -/
theorem lc_rg {lo : Int} {n : Nat} {β : Type} (S : Addr → Hp → V → β → Prop) (f : Nat → β) (hz : n < sizeLine) (hw : ∀ x, wipe ((wipe σ vs).set j (some x)) vs = wipe σ vs) (st : ∀ D H H' v d, Kp [D] H H' → S D H v d → S D H' v d)
    (he : ∀ D acc i H' (Q : VK), i < n → H D = none → H' D = some (.lst acc) → Kp [] H H' → (∀ v H'', Kp [] H' H'' → S D H'' v (f i) → Q v H'') → te ((wipe σ vs).set j (some (.int (lo + (i : Nat))))) H' Q)
    (k : ∀ D H' xs, H D = none → Kp [] H H' → H' D = some (.lst xs) → Paired (S D H') xs ((List.range n).map f) → Q (.ref D) H') : tLc (fun _ H R => R (Itr lo n) H) (gName j) tYes te vs σ H Q := fun D hD =>
  lc_range (fun i H' => ∃ acc, H' D = some (.lst acc) ∧ acc.length = i ∧ Kp [] H H' ∧ Paired (S D H') acc ((List.range i).map f)) ⟨[], upd_same, rfl, (Kp.refl _ _).new hD, .nil⟩
    (fun i H' hi ⟨acc, e, hl, kp, pd⟩ => by
      refine ⟨hw _, tYes_go (iteT (he D acc i H' _ hi hD e kp fun v H2 k2 s2 => ?_))⟩
      have e2 := k2.keep0 e
      have kd : Kp [D] H2 (upd H2 D (.lst (acc ++ [v]))) := (Kp.refl _ _).lst (.inl (by simp)) e2
      have k2d : Kp [D] H' H2 := k2.mono (by simp)
      refine ⟨acc, e2, by omega, acc ++ [v], upd_same, by simp [hl], (kp.trans k2).lst (.inr hD) e2, ?_⟩
      rw [range_snoc]
      exact Pd.append (Pd.mono (fun _ _ z => st _ _ _ _ _ kd (st _ _ _ _ _ k2d z)) pd) (.cons (st _ _ _ _ _ kd s2) .nil))
    (fun H' ⟨acc, e, hl, kp, pd⟩ => k D H' acc hD kp e pd)
/-- .. whose items are plain -/
theorem lc_rmp {lo : Int} {n : Nat} (f : Nat → V) (hz : n < sizeLine) (hw : ∀ x, wipe ((wipe σ vs).set j (some x)) vs = wipe σ vs)
    (he : ∀ i H' (Q : VK), i < n → Kp [] H H' → (∀ H'', Kp [] H' H'' → Q (f i) H'') → te ((wipe σ vs).set j (some (.int (lo + (i : Nat))))) H' Q)
    (k : ∀ D H', H D = none → Kp [] H H' → H' D = some (.lst ((List.range n).map f)) → Q (.ref D) H') : tLc (fun _ H R => R (Itr lo n) H) (gName j) tYes te vs σ H Q :=
  lc_rg (fun _ _ v d => v = d) f hz hw (fun _ _ _ _ _ _ e => e) (fun D acc i H' Q hi _ _ kp q => he i H' Q hi kp fun H2 k2 => q _ H2 k2 rfl)
    fun D H' xs hD kp e pd => k D H' hD kp (by
      have e2 := Pd.eqmap (f := fun v => v) pd
      rw [List.map_id'] at e2
      rw [e, e2])
end
end Ev
namespace Ev
open PySem L2
/-! ### the data of a loom -/
inductive Row where
  | send (n : Nat) | begin (n : Nat) (t : Int) | call (n : Nat) (x : Str) | make (m n : Nat) | cancel (n : Nat) (ns : List Nat)
  | join (n : Nat) (x : Str) | leave (n : Nat) (x : Str) | hush (n : Nat) | fin (n : Nat)
  deriving DecidableEq
def nV (n : Nat) : V := .int (n : Int)
def Row.tag : Row → Str
  | .send _ => "send" | .begin _ _ => "begin" | .call _ _ => "call" | .make _ _ => "make" | .cancel _ _ => "cancel"
  | .join _ _ => "join" | .leave _ _ => "leave" | .hush _ => "hush" | .fin _ => "end"
/-- what stands behind the tag; q: where a cancel's numbers stand -/
def Row.rest (q : Addr) : Row → List V
  | .send n => [nV n] | .begin n t => [nV n, .int t] | .call n x => [nV n, .str x] | .make m n => [nV m, nV n] | .cancel n _ => [nV n, .ref q]
  | .join n x => [nV n, .str x] | .leave n x => [nV n, .str x] | .hush n => [nV n] | .fin n => [nV n]
def Row.more (H : Hp) (q : Addr) : Row → Prop
  | .cancel _ ns => H q = some (.tup (ns.map nV))
  | _ => True
def RowAt (H : Hp) (v : V) (r : Row) : Prop := ∃ p q, v = .ref p ∧ H p = some (.tup (.str r.tag :: r.rest q)) ∧ r.more H q
theorem RowAt.kp {M : List Addr} {H H' : Hp} (k : Kp M H H') {v : V} {r : Row} (h : RowAt H v r) : RowAt H' v r := by
  obtain ⟨p, q, e, h1, h2⟩ := h
  refine ⟨p, q, e, k.tup _ _ h1, ?_⟩
  cases r <;> first | trivial | exact k.tup _ _ h2
def Row.isSend : Row → Bool | .send _ => true | _ => false
theorem Row.isSend_tag : ∀ r : Row, decide (V.str r.tag = V.str "send") = r.isSend
  | .send _ => (by decide +kernel : decide (V.str "send" = V.str "send") = true)
  | .begin _ _ => (by decide +kernel : decide (V.str "begin" = V.str "send") = false)
  | .call _ _ => (by decide +kernel : decide (V.str "call" = V.str "send") = false)
  | .make _ _ => (by decide +kernel : decide (V.str "make" = V.str "send") = false)
  | .cancel _ _ => (by decide +kernel : decide (V.str "cancel" = V.str "send") = false)
  | .join _ _ => (by decide +kernel : decide (V.str "join" = V.str "send") = false)
  | .leave _ _ => (by decide +kernel : decide (V.str "leave" = V.str "send") = false)
  | .hush _ => (by decide +kernel : decide (V.str "hush" = V.str "send") = false)
  | .fin _ => (by decide +kernel : decide (V.str "end" = V.str "send") = false)
def Row.isBegin : Row → Bool | .begin _ _ => true | _ => false
theorem Row.isBegin_tag : ∀ r : Row, decide (V.str r.tag = V.str "begin") = r.isBegin
  | .send _ => (by decide +kernel : decide (V.str "send" = V.str "begin") = false)
  | .begin _ _ => (by decide +kernel : decide (V.str "begin" = V.str "begin") = true)
  | .call _ _ => (by decide +kernel : decide (V.str "call" = V.str "begin") = false)
  | .make _ _ => (by decide +kernel : decide (V.str "make" = V.str "begin") = false)
  | .cancel _ _ => (by decide +kernel : decide (V.str "cancel" = V.str "begin") = false)
  | .join _ _ => (by decide +kernel : decide (V.str "join" = V.str "begin") = false)
  | .leave _ _ => (by decide +kernel : decide (V.str "leave" = V.str "begin") = false)
  | .hush _ => (by decide +kernel : decide (V.str "hush" = V.str "begin") = false)
  | .fin _ => (by decide +kernel : decide (V.str "end" = V.str "begin") = false)
def Row.isCall : Row → Bool | .call _ _ => true | _ => false
theorem Row.isCall_tag : ∀ r : Row, decide (V.str r.tag = V.str "call") = r.isCall
  | .send _ => (by decide +kernel : decide (V.str "send" = V.str "call") = false)
  | .begin _ _ => (by decide +kernel : decide (V.str "begin" = V.str "call") = false)
  | .call _ _ => (by decide +kernel : decide (V.str "call" = V.str "call") = true)
  | .make _ _ => (by decide +kernel : decide (V.str "make" = V.str "call") = false)
  | .cancel _ _ => (by decide +kernel : decide (V.str "cancel" = V.str "call") = false)
  | .join _ _ => (by decide +kernel : decide (V.str "join" = V.str "call") = false)
  | .leave _ _ => (by decide +kernel : decide (V.str "leave" = V.str "call") = false)
  | .hush _ => (by decide +kernel : decide (V.str "hush" = V.str "call") = false)
  | .fin _ => (by decide +kernel : decide (V.str "end" = V.str "call") = false)
def Row.isMake : Row → Bool | .make _ _ => true | _ => false
theorem Row.isMake_tag : ∀ r : Row, decide (V.str r.tag = V.str "make") = r.isMake
  | .send _ => (by decide +kernel : decide (V.str "send" = V.str "make") = false)
  | .begin _ _ => (by decide +kernel : decide (V.str "begin" = V.str "make") = false)
  | .call _ _ => (by decide +kernel : decide (V.str "call" = V.str "make") = false)
  | .make _ _ => (by decide +kernel : decide (V.str "make" = V.str "make") = true)
  | .cancel _ _ => (by decide +kernel : decide (V.str "cancel" = V.str "make") = false)
  | .join _ _ => (by decide +kernel : decide (V.str "join" = V.str "make") = false)
  | .leave _ _ => (by decide +kernel : decide (V.str "leave" = V.str "make") = false)
  | .hush _ => (by decide +kernel : decide (V.str "hush" = V.str "make") = false)
  | .fin _ => (by decide +kernel : decide (V.str "end" = V.str "make") = false)
def Row.isCancel : Row → Bool | .cancel _ _ => true | _ => false
theorem Row.isCancel_tag : ∀ r : Row, decide (V.str r.tag = V.str "cancel") = r.isCancel
  | .send _ => (by decide +kernel : decide (V.str "send" = V.str "cancel") = false)
  | .begin _ _ => (by decide +kernel : decide (V.str "begin" = V.str "cancel") = false)
  | .call _ _ => (by decide +kernel : decide (V.str "call" = V.str "cancel") = false)
  | .make _ _ => (by decide +kernel : decide (V.str "make" = V.str "cancel") = false)
  | .cancel _ _ => (by decide +kernel : decide (V.str "cancel" = V.str "cancel") = true)
  | .join _ _ => (by decide +kernel : decide (V.str "join" = V.str "cancel") = false)
  | .leave _ _ => (by decide +kernel : decide (V.str "leave" = V.str "cancel") = false)
  | .hush _ => (by decide +kernel : decide (V.str "hush" = V.str "cancel") = false)
  | .fin _ => (by decide +kernel : decide (V.str "end" = V.str "cancel") = false)
def Row.isJoin : Row → Bool | .join _ _ => true | _ => false
theorem Row.isJoin_tag : ∀ r : Row, decide (V.str r.tag = V.str "join") = r.isJoin
  | .send _ => (by decide +kernel : decide (V.str "send" = V.str "join") = false)
  | .begin _ _ => (by decide +kernel : decide (V.str "begin" = V.str "join") = false)
  | .call _ _ => (by decide +kernel : decide (V.str "call" = V.str "join") = false)
  | .make _ _ => (by decide +kernel : decide (V.str "make" = V.str "join") = false)
  | .cancel _ _ => (by decide +kernel : decide (V.str "cancel" = V.str "join") = false)
  | .join _ _ => (by decide +kernel : decide (V.str "join" = V.str "join") = true)
  | .leave _ _ => (by decide +kernel : decide (V.str "leave" = V.str "join") = false)
  | .hush _ => (by decide +kernel : decide (V.str "hush" = V.str "join") = false)
  | .fin _ => (by decide +kernel : decide (V.str "end" = V.str "join") = false)
def Row.isLeave : Row → Bool | .leave _ _ => true | _ => false
theorem Row.isLeave_tag : ∀ r : Row, decide (V.str r.tag = V.str "leave") = r.isLeave
  | .send _ => (by decide +kernel : decide (V.str "send" = V.str "leave") = false)
  | .begin _ _ => (by decide +kernel : decide (V.str "begin" = V.str "leave") = false)
  | .call _ _ => (by decide +kernel : decide (V.str "call" = V.str "leave") = false)
  | .make _ _ => (by decide +kernel : decide (V.str "make" = V.str "leave") = false)
  | .cancel _ _ => (by decide +kernel : decide (V.str "cancel" = V.str "leave") = false)
  | .join _ _ => (by decide +kernel : decide (V.str "join" = V.str "leave") = false)
  | .leave _ _ => (by decide +kernel : decide (V.str "leave" = V.str "leave") = true)
  | .hush _ => (by decide +kernel : decide (V.str "hush" = V.str "leave") = false)
  | .fin _ => (by decide +kernel : decide (V.str "end" = V.str "leave") = false)
def Row.isHush : Row → Bool | .hush _ => true | _ => false
theorem Row.isHush_tag : ∀ r : Row, decide (V.str r.tag = V.str "hush") = r.isHush
  | .send _ => (by decide +kernel : decide (V.str "send" = V.str "hush") = false)
  | .begin _ _ => (by decide +kernel : decide (V.str "begin" = V.str "hush") = false)
  | .call _ _ => (by decide +kernel : decide (V.str "call" = V.str "hush") = false)
  | .make _ _ => (by decide +kernel : decide (V.str "make" = V.str "hush") = false)
  | .cancel _ _ => (by decide +kernel : decide (V.str "cancel" = V.str "hush") = false)
  | .join _ _ => (by decide +kernel : decide (V.str "join" = V.str "hush") = false)
  | .leave _ _ => (by decide +kernel : decide (V.str "leave" = V.str "hush") = false)
  | .hush _ => (by decide +kernel : decide (V.str "hush" = V.str "hush") = true)
  | .fin _ => (by decide +kernel : decide (V.str "end" = V.str "hush") = false)
def Row.isFin : Row → Bool | .fin _ => true | _ => false
theorem Row.isFin_tag : ∀ r : Row, decide (V.str r.tag = V.str "end") = r.isFin
  | .send _ => (by decide +kernel : decide (V.str "send" = V.str "end") = false)
  | .begin _ _ => (by decide +kernel : decide (V.str "begin" = V.str "end") = false)
  | .call _ _ => (by decide +kernel : decide (V.str "call" = V.str "end") = false)
  | .make _ _ => (by decide +kernel : decide (V.str "make" = V.str "end") = false)
  | .cancel _ _ => (by decide +kernel : decide (V.str "cancel" = V.str "end") = false)
  | .join _ _ => (by decide +kernel : decide (V.str "join" = V.str "end") = false)
  | .leave _ _ => (by decide +kernel : decide (V.str "leave" = V.str "end") = false)
  | .hush _ => (by decide +kernel : decide (V.str "hush" = V.str "end") = false)
  | .fin _ => (by decide +kernel : decide (V.str "end" = V.str "end") = true)
end Ev
namespace Ev
open PySem L2
/-! ### the loom's data -/
inductive Deed where
  | now (w : Str) | soon (w : Str) | wait (n : Int) (w : Str) | cancel (w : Str) | join (x : Str) | leave (x : Str) | hush
  deriving DecidableEq
def Deed.vals : Deed → List V
  | .now w => [.str "now", .str w] | .soon w => [.str "soon", .str w] | .wait n w => [.str "wait", .int n, .str w] | .cancel w => [.str "cancel", .str w]
  | .join x => [.str "join", .str x] | .leave x => [.str "leave", .str x] | .hush => [.str "hush"]
structure Hnd where
  name : Str
  rank : Int
  hears : Str
  once : Bool
  deeds : List Deed
inductive Road where
  | now | soon | wait
  deriving DecidableEq
def Road.str : Road → Str
  | .now => "now" | .soon => "soon" | .wait => "wait"
structure Evt where
  word : Str
  maker : Option Nat
  road : Road
  due : Int
  deriving DecidableEq
def onV : Option Nat → V
  | none => .non
  | some n => nV n
def Evt.vals (e : Evt) : List V := [.str e.word, onV e.maker, .str e.road.str, .int e.due]
structure Frm where
  number : Nat
  called : List (Str × Nat)
  deeds : List Deed
  place : Nat
structure LoomS where
  hs : List Hnd
  time : Int
  events : List Evt
  log : List Row
  frames : List Frm
  fresh : Option Nat
  soon : List Nat
  rows : List (Int × Nat)
  stood : Nat
  stands : List (Str × Nat)
/-! ### where it stands -/
def TK (H H' : Hp) : Prop := ∀ a xs, H a = some (.tup xs) → H' a = some (.tup xs)
def DeedAt (H : Hp) (v : V) (d : Deed) : Prop := ∃ p, v = .ref p ∧ H p = some (.tup d.vals)
def HndAt (H : Hp) (v : V) (h : Hnd) : Prop := ∃ p q ds, v = .ref p ∧ H p = some (.tup [.str h.name, .int h.rank, .str h.hears, .bl h.once, .ref q]) ∧ H q = some (.tup ds) ∧ Paired (DeedAt H) ds h.deeds
def CallAt (H : Hp) (v : V) (c : Str × Nat) : Prop := ∃ p, v = .ref p ∧ H p = some (.tup [.str c.1, nV c.2])
def EvtAt (H : Hp) (v : V) (e : Evt) : Prop := ∃ p, v = .ref p ∧ H p = some (.tup e.vals)
def RwAt (H : Hp) (v : V) (r : Int × Nat) : Prop := ∃ p, v = .ref p ∧ H p = some (.tup [.int r.1, nV r.2])
theorem DeedAt.tk {H H' : Hp} (k : TK H H') {v : V} {d : Deed} (h : DeedAt H v d) : DeedAt H' v d := by
  obtain ⟨p, e, h1⟩ := h
  exact ⟨p, e, k _ _ h1⟩
theorem HndAt.tk {H H' : Hp} (k : TK H H') {v : V} {d : Hnd} (h : HndAt H v d) : HndAt H' v d := by
  obtain ⟨p, q, ds, e, h1, h2, h3⟩ := h
  exact ⟨p, q, ds, e, k _ _ h1, k _ _ h2, Pd.mono (fun _ _ => DeedAt.tk k) h3⟩
theorem CallAt.tk {H H' : Hp} (k : TK H H') {v : V} {d : Str × Nat} (h : CallAt H v d) : CallAt H' v d := by
  obtain ⟨p, e, h1⟩ := h
  exact ⟨p, e, k _ _ h1⟩
theorem EvtAt.tk {H H' : Hp} (k : TK H H') {v : V} {d : Evt} (h : EvtAt H v d) : EvtAt H' v d := by
  obtain ⟨p, e, h1⟩ := h
  exact ⟨p, e, k _ _ h1⟩
theorem RwAt.tk {H H' : Hp} (k : TK H H') {v : V} {d : Int × Nat} (h : RwAt H v d) : RwAt H' v d := by
  obtain ⟨p, e, h1⟩ := h
  exact ⟨p, e, k _ _ h1⟩
theorem RowAt.tk {H H' : Hp} (k : TK H H') {v : V} {r : Row} (h : RowAt H v r) : RowAt H' v r := by
  obtain ⟨p, q, e, h1, h2⟩ := h
  refine ⟨p, q, e, k _ _ h1, ?_⟩
  cases r <;> first | trivial | exact k _ _ h2
def Stb {α : Type} (R : Hp → V → α → Prop) : Prop := ∀ H H' v d, TK H H' → R H v d → R H' v d
theorem deedStb : Stb DeedAt := fun _ _ _ _ k h => DeedAt.tk k h
theorem hndStb : Stb HndAt := fun _ _ _ _ k h => HndAt.tk k h
theorem callStb : Stb CallAt := fun _ _ _ _ k h => CallAt.tk k h
theorem evtStb : Stb EvtAt := fun _ _ _ _ k h => EvtAt.tk k h
theorem rwStb : Stb RwAt := fun _ _ _ _ k h => RwAt.tk k h
theorem rowStb : Stb RowAt := fun _ _ _ _ k h => RowAt.tk k h
/-- at c a list of data -/
def LstAt {α : Type} (R : Hp → V → α → Prop) (H : Hp) (c : Addr) (ds : List α) : Prop := ∃ xs, H c = some (.lst xs) ∧ Paired (R H) xs ds
theorem LstAt.tr {α : Type} {R : Hp → V → α → Prop} (f : Stb R) {H H' : Hp} {c : Addr} {ds : List α} (k : TK H H') (e : H' c = H c) (h : LstAt R H c ds) : LstAt R H' c ds := by
  obtain ⟨xs, h1, h2⟩ := h
  exact ⟨xs, by rw [e]; exact h1, Pd.mono (fun _ _ => f _ _ _ _ k) h2⟩
theorem LstAt.put {α : Type} {R : Hp → V → α → Prop} (f : Stb R) {H : Hp} {c : Addr} {ds : List α} {xs : List V} (k : TK H (upd H c (.lst xs))) (h2 : Paired (R H) xs ds) : LstAt R (upd H c (.lst xs)) c ds :=
  ⟨xs, upd_same, Pd.mono (fun _ _ => f _ _ _ _ k) h2⟩
structure FrA where
  fa : Addr
  dx : Addr
  lc : Addr
def frmFs (f : Frm) (lc dq : Addr) : List (Str × V) := [("number", nV f.number), ("called", .ref lc), ("deeds", .ref dq), ("place", nV f.place)]
def DdsAt (H : Hp) (q : Addr) (ds : List Deed) : Prop := ∃ xs, H q = some (.tup xs) ∧ Paired (DeedAt H) xs ds
theorem DdsAt.tk {H H' : Hp} (k : TK H H') {q : Addr} {ds : List Deed} (h : DdsAt H q ds) : DdsAt H' q ds := by
  obtain ⟨xs, h1, h2⟩ := h
  exact ⟨xs, k _ _ h1, Pd.mono (fun _ _ => DeedAt.tk k) h2⟩
def FrmAt (CF : Addr) (H : Hp) (A : FrA) (f : Frm) : Prop :=
  ∃ dq, H A.fa = some (.ins CF A.dx (frmFs f A.lc dq)) ∧ LstAt CallAt H A.lc f.called ∧ DdsAt H dq f.deeds
theorem FrmAt.tr {CF : Addr} {H H' : Hp} (k : TK H H') {A : FrA} {f : Frm} (e1 : H' A.fa = H A.fa) (e2 : H' A.lc = H A.lc) (h : FrmAt CF H A f) : FrmAt CF H' A f := by
  obtain ⟨dq, h1, h2, h3⟩ := h
  exact ⟨dq, by rw [e1]; exact h1, h2.tr callStb k e2, h3.tk k⟩
structure LoomA where
  p : Addr
  dx : Addr
  hl : Addr
  ev : Addr
  lg : Addr
  fr : Addr
  sd : Addr
  wa : Addr
  wdx : Addr
  fo : Addr
  rw : Addr
  frs : List FrA
def frCells (l : List FrA) : List Addr := l.flatMap fun f => [f.fa, f.lc]
def LoomA.cells (A : LoomA) : List Addr := [A.p, A.hl, A.ev, A.lg, A.fr, A.sd, A.wa, A.fo, A.rw] ++ frCells A.frs
def loomFs (A : LoomA) (s : LoomS) : List (Str × V) :=
  [("handlers", .ref A.hl), ("time", .int s.time), ("events", .ref A.ev), ("log", .ref A.lg), ("frames", .ref A.fr), ("fresh", onV s.fresh), ("line", .ref A.wa), ("stood", nV s.stood), ("standings", .ref A.sd)]
def waitFs (A : LoomA) : List (Str × V) := [("first_ones", .ref A.fo), ("rows", .ref A.rw)]
def sdK (l : List (Str × Nat)) : List (Key × V) := l.map fun c => (Sum.inr c.1, nV c.2)
structure Cs where
  L : Addr
  W : Addr
  F : Addr
/-- the frames' records stand -/
inductive FrsAt (CF : Addr) (H : Hp) : List FrA → List Frm → Prop
  | nil : FrsAt CF H [] []
  | cons {A : FrA} {f : Frm} {As : List FrA} {fs : List Frm} : FrmAt CF H A f → FrsAt CF H As fs → FrsAt CF H (A :: As) (f :: fs)
structure LoomAt (C : Cs) (H : Hp) (A : LoomA) (s : LoomS) : Prop where
  nd : A.cells.Nodup
  p : H A.p = some (.ins C.L A.dx (loomFs A s))
  hl : LstAt HndAt H A.hl s.hs
  ev : LstAt EvtAt H A.ev s.events
  lg : LstAt RowAt H A.lg s.log
  fr : H A.fr = some (.lst (A.frs.map fun f => .ref f.fa))
  frs : FrsAt C.F H A.frs s.frames
  sd : H A.sd = some (.dK (sdK s.stands))
  wa : H A.wa = some (.ins C.W A.wdx (waitFs A))
  fo : H A.fo = some (.lst (s.soon.map nV))
  rw : LstAt RwAt H A.rw s.rows
theorem FrsAt.tr {CF : Addr} {H H' : Hp} (k : TK H H') : ∀ {As : List FrA} {fs : List Frm}, (∀ a ∈ frCells As, H' a = H a) → FrsAt CF H As fs → FrsAt CF H' As fs
  | _, _, _, .nil => .nil
  | A :: As, _, e, .cons h t => .cons (h.tr k (e _ (by simp [frCells])) (e _ (by simp [frCells]))) (FrsAt.tr k (fun a ha => e a (by
      unfold frCells at ha ⊢
      rw [List.flatMap_cons]
      exact List.mem_append.mpr (.inr ha))) t)
theorem FrsAt.snoc {CF : Addr} {H : Hp} {A : FrA} {f : Frm} : ∀ {As : List FrA} {fs : List Frm}, FrsAt CF H As fs → FrmAt CF H A f → FrsAt CF H (As ++ [A]) (fs ++ [f])
  | _, _, .nil, h => .cons h .nil
  | _, _, .cons g t, h => .cons g (FrsAt.snoc t h)
theorem FrsAt.len {CF : Addr} {H : Hp} : ∀ {As : List FrA} {fs : List Frm}, FrsAt CF H As fs → As.length = fs.length
  | _, _, .nil => rfl
  | _, _, .cons _ t => by simp [FrsAt.len t]
theorem FrsAt.unsnoc {CF : Addr} {H : Hp} {f : Frm} : ∀ {As : List FrA} {fs : List Frm}, FrsAt CF H As (fs ++ [f]) → ∃ Bs B, As = Bs ++ [B] ∧ FrsAt CF H Bs fs ∧ FrmAt CF H B f
  | _, [], .cons h .nil => ⟨[], _, rfl, .nil, h⟩
  | _, g :: fs, .cons h t => by
    obtain ⟨Bs, B, e, t1, t2⟩ := FrsAt.unsnoc (fs := fs) t
    exact ⟨_ :: Bs, B, by rw [e]; rfl, .cons h t1, t2⟩
theorem frCells_app (l m : List FrA) : frCells (l ++ m) = frCells l ++ frCells m := by simp [frCells]
theorem nd_ne {α : Type} {l : List α} (nd : l.Nodup) (i j : Nat) {a b : α} (h : i ≠ j) (ha : l[i]? = some a) (hb : l[j]? = some b) : a ≠ b := fun e => by
  subst e
  exact h (nd_ix nd ha hb)
theorem nd_neR {α : Type} {l m : List α} (nd : (l ++ m).Nodup) {a b : α} (ha : a ∈ l) (hb : b ∈ m) : a ≠ b := fun e => by
  subst e
  exact (List.nodup_append.mp nd).2.2 a ha a hb rfl
theorem TK.upd {H : Hp} {c : Addr} {o : HO} (h : ∀ xs, H c ≠ some (.tup xs)) : TK H (upd H c o) := fun a xs e => by
  by_cases q : a = c
  · subst q; exact absurd e (h xs)
  · rw [upd_ne q]; exact e
theorem Kp.tk {M : List Addr} {H H' : Hp} (k : Kp M H H') : TK H H' := k.tup
section
variable {C : Cs} {H H' : Hp} {A : LoomA} {s : LoomS}
theorem LoomAt.notup (L : LoomAt C H A s) : ∀ a ∈ A.cells, ∀ xs, H a ≠ some (.tup xs) := by
  have key : ∀ {As : List FrA} {fs : List Frm}, FrsAt C.F H As fs → ∀ a ∈ frCells As, ∀ xs, H a ≠ some (.tup xs) := by
    intro As fs h
    induction h with
    | nil => intro a ha; simp [frCells] at ha
    | cons h t ih =>
      intro a ha xs e
      obtain ⟨dq, h1, ⟨ys, h2, _⟩, _⟩ := h
      unfold frCells at ha
      rw [List.flatMap_cons] at ha
      rcases List.mem_append.mp ha with ha | ha
      · simp at ha
        rcases ha with rfl | rfl
        · rw [h1] at e; cases e
        · rw [h2] at e; cases e
      · exact ih a ha xs e
  intro a ha xs e
  unfold LoomA.cells at ha
  rcases List.mem_append.mp ha with ha | ha
  · obtain ⟨_, hl, _⟩ := L.hl
    obtain ⟨_, ev, _⟩ := L.ev
    obtain ⟨_, lg, _⟩ := L.lg
    obtain ⟨_, rw_, _⟩ := L.rw
    simp at ha
    rcases ha with rfl | rfl | rfl | rfl | rfl | rfl | rfl | rfl | rfl
    · rw [L.p] at e; cases e
    · rw [hl] at e; cases e
    · rw [ev] at e; cases e
    · rw [lg] at e; cases e
    · rw [L.fr] at e; cases e
    · rw [L.sd] at e; cases e
    · rw [L.wa] at e; cases e
    · rw [L.fo] at e; cases e
    · rw [rw_] at e; cases e
  · exact key L.frs a ha xs e
/-- what stands elsewhere may change -/
theorem LoomAt.tr (L : LoomAt C H A s) (k : TK H H') (e : ∀ a ∈ A.cells, H' a = H a) : LoomAt C H' A s where
  nd := L.nd
  p := by rw [e A.p (by simp [LoomA.cells])]; exact L.p
  hl := L.hl.tr hndStb k (e A.hl (by simp [LoomA.cells]))
  ev := L.ev.tr evtStb k (e A.ev (by simp [LoomA.cells]))
  lg := L.lg.tr rowStb k (e A.lg (by simp [LoomA.cells]))
  fr := by rw [e A.fr (by simp [LoomA.cells])]; exact L.fr
  frs := L.frs.tr k fun a ha => e a (List.mem_append.mpr (.inr ha))
  sd := by rw [e A.sd (by simp [LoomA.cells])]; exact L.sd
  wa := by rw [e A.wa (by simp [LoomA.cells])]; exact L.wa
  fo := by rw [e A.fo (by simp [LoomA.cells])]; exact L.fo
  rw := L.rw.tr rwStb k (e A.rw (by simp [LoomA.cells]))
theorem LoomAt.has (L : LoomAt C H A s) : ∀ a ∈ A.cells, ∃ o, H a = some o := by
  have key : ∀ {As : List FrA} {fs : List Frm}, FrsAt C.F H As fs → ∀ a ∈ frCells As, ∃ o, H a = .some o := by
    intro As fs h
    induction h with
    | nil => intro a ha; simp [frCells] at ha
    | cons h t ih =>
      intro a ha
      obtain ⟨dq, h1, ⟨ys, h2, _⟩, _⟩ := h
      unfold frCells at ha
      rw [List.flatMap_cons] at ha
      rcases List.mem_append.mp ha with ha | ha
      · simp at ha
        rcases ha with rfl | rfl
        · exact ⟨_, h1⟩
        · exact ⟨_, h2⟩
      · exact ih a ha
  intro a ha
  unfold LoomA.cells at ha
  rcases List.mem_append.mp ha with ha | ha
  · obtain ⟨_, hl, _⟩ := L.hl
    obtain ⟨_, ev, _⟩ := L.ev
    obtain ⟨_, lg, _⟩ := L.lg
    obtain ⟨_, rw_, _⟩ := L.rw
    simp at ha
    rcases ha with rfl | rfl | rfl | rfl | rfl | rfl | rfl | rfl | rfl
    · exact ⟨_, L.p⟩
    · exact ⟨_, hl⟩
    · exact ⟨_, ev⟩
    · exact ⟨_, lg⟩
    · exact ⟨_, L.fr⟩
    · exact ⟨_, L.sd⟩
    · exact ⟨_, L.wa⟩
    · exact ⟨_, L.fo⟩
    · exact ⟨_, rw_⟩
  · exact key L.frs a ha
theorem LoomAt.kp {M : List Addr} (L : LoomAt C H A s) (k : Kp M H H') (n : ∀ a ∈ A.cells, a ∉ M) : LoomAt C H' A s :=
  L.tr k.tk fun a ha => by
    obtain ⟨o, e⟩ := L.has a ha
    rw [e, k.keep _ _ (n a ha) e]
theorem LoomAt.new (L : LoomAt C H A s) {p : Addr} {o : HO} (h : H p = none) : LoomAt C (upd H p o) A s :=
  L.kp ((Kp.refl [] H).new h) (by simp)
end
/-! ### single changes -/
structure Went (C : Cs) (H : Hp) (A : LoomA) (H' : Hp) (A' : LoomA) (s' : LoomS) : Prop where
  l : LoomAt C H' A' s'
  kp : Kp A.cells H H'
  sub : ∀ a ∈ A'.cells, a ∈ A.cells ∨ H a = none
  p : A'.p = A.p
section
variable {C : Cs} {H H1 H' : Hp} {A A1 A2 : LoomA} {s s1 s2 : LoomS}
theorem Went.refl (L : LoomAt C H A s) : Went C H A H A s := ⟨L, Kp.refl _ _, fun _ h => .inl h, rfl⟩
theorem Went.trans (W : Went C H A H1 A1 s1) (V : Went C H1 A1 H' A2 s2) : Went C H A H' A2 s2 :=
  ⟨V.l, W.kp.transM V.kp W.sub, fun a h => (V.sub a h).elim (W.sub a) fun q => .inr (W.kp.dom a q), V.p.trans W.p⟩
theorem Went.new (W : Went C H A H1 A1 s1) {p : Addr} {o : HO} (h : H1 p = none) : Went C H A (upd H1 p o) A1 s1 :=
  ⟨W.l.new h, W.kp.new h, W.sub, W.p⟩
theorem Went.kp0 (W : Went C H A H1 A1 s1) (k : Kp [] H1 H') : Went C H A H' A1 s1 :=
  ⟨W.l.kp k (by simp), W.kp.transM k (by simp), W.sub, W.p⟩
/-- one cell changed, the places as before -/
theorem LoomAt.step (L : LoomAt C H A s) {c : Addr} (hc : c ∈ A.cells) (o : HO) : Kp A.cells H (upd H c o) ∧ TK H (upd H c o) := by
  have k := (Kp.refl A.cells H).step (o := o) (.inl hc) (L.notup c hc)
  exact ⟨k, k.tk⟩
theorem at_c {l m : List Addr} {a : Addr} {i : Nat} (h : l[i]? = some a) : a ∈ l ++ m := List.mem_append.mpr (.inl (List.mem_of_getElem? h))
def LoomA.fix (A : LoomA) : List Addr := [A.p, A.hl, A.ev, A.lg, A.fr, A.sd, A.wa, A.fo, A.rw]
theorem LoomAt.ne (L : LoomAt C H A s) (i j : Nat) (h : i ≠ j) {a b : Addr} (ha : A.fix[i]? = some a) (hb : A.fix[j]? = some b) : a ≠ b :=
  nd_ne (List.nodup_append.mp (show (A.fix ++ frCells A.frs).Nodup from L.nd)).1 i j h ha hb
theorem LoomAt.neR (L : LoomAt C H A s) {i : Nat} {a b : Addr} (ha : A.fix[i]? = some a) (hb : b ∈ frCells A.frs) : b ≠ a := fun e =>
  nd_neR (show (A.fix ++ frCells A.frs).Nodup from L.nd) (List.mem_of_getElem? ha) hb e.symm
theorem LoomAt.setP (L : LoomAt C H A s) (s' : LoomS) (e1 : s'.hs = s.hs) (e2 : s'.events = s.events) (e3 : s'.log = s.log) (e4 : s'.frames = s.frames) (e5 : s'.soon = s.soon) (e6 : s'.rows = s.rows) (e7 : s'.stands = s.stands) :
    Went C H A (upd H A.p (.ins C.L A.dx (loomFs A s'))) A s' := by
  obtain ⟨k, tk⟩ := L.step (c := A.p) (at_c (i := 0) rfl) (.ins C.L A.dx (loomFs A s'))
  refine ⟨⟨L.nd, upd_same, ?_, ?_, ?_, ?_, ?_, ?_, ?_, ?_, ?_⟩, k, fun _ h => .inl h, rfl⟩
  · rw [e1]; exact L.hl.tr hndStb tk (upd_ne (L.ne 1 0 (by decide) rfl rfl))
  · rw [e2]; exact L.ev.tr evtStb tk (upd_ne (L.ne 2 0 (by decide) rfl rfl))
  · rw [e3]; exact L.lg.tr rowStb tk (upd_ne (L.ne 3 0 (by decide) rfl rfl))
  · rw [upd_ne (L.ne 4 0 (by decide) rfl rfl)]; exact L.fr
  · rw [e4]; exact L.frs.tr tk fun a ha => upd_ne (L.neR (i := 0) rfl ha)
  · rw [e7, upd_ne (L.ne 5 0 (by decide) rfl rfl)]; exact L.sd
  · rw [upd_ne (L.ne 6 0 (by decide) rfl rfl)]; exact L.wa
  · rw [e5, upd_ne (L.ne 7 0 (by decide) rfl rfl)]; exact L.fo
  · rw [e6]; exact L.rw.tr rwStb tk (upd_ne (L.ne 8 0 (by decide) rfl rfl))
theorem LoomAt.setEv (L : LoomAt C H A s) {xs : List V} {es : List Evt} (h : Paired (EvtAt H) xs es) : Went C H A (upd H A.ev (.lst xs)) A { s with events := es } := by
  obtain ⟨k, tk⟩ := L.step (c := A.ev) (at_c (i := 2) rfl) (.lst xs)
  refine ⟨⟨L.nd, ?_, ?_, ?_, ?_, ?_, ?_, ?_, ?_, ?_, ?_⟩, k, fun _ h => .inl h, rfl⟩
  · rw [upd_ne (L.ne 0 2 (by decide) rfl rfl)]; exact L.p
  · exact L.hl.tr hndStb tk (upd_ne (L.ne 1 2 (by decide) rfl rfl))
  · exact LstAt.put evtStb tk h
  · exact L.lg.tr rowStb tk (upd_ne (L.ne 3 2 (by decide) rfl rfl))
  · rw [upd_ne (L.ne 4 2 (by decide) rfl rfl)]; exact L.fr
  · exact L.frs.tr tk fun a ha => upd_ne (L.neR (i := 2) rfl ha)
  · rw [upd_ne (L.ne 5 2 (by decide) rfl rfl)]; exact L.sd
  · rw [upd_ne (L.ne 6 2 (by decide) rfl rfl)]; exact L.wa
  · rw [upd_ne (L.ne 7 2 (by decide) rfl rfl)]; exact L.fo
  · exact L.rw.tr rwStb tk (upd_ne (L.ne 8 2 (by decide) rfl rfl))
theorem LoomAt.setLg (L : LoomAt C H A s) {xs : List V} {es : List Row} (h : Paired (RowAt H) xs es) : Went C H A (upd H A.lg (.lst xs)) A { s with log := es } := by
  obtain ⟨k, tk⟩ := L.step (c := A.lg) (at_c (i := 3) rfl) (.lst xs)
  refine ⟨⟨L.nd, ?_, ?_, ?_, ?_, ?_, ?_, ?_, ?_, ?_, ?_⟩, k, fun _ h => .inl h, rfl⟩
  · rw [upd_ne (L.ne 0 3 (by decide) rfl rfl)]; exact L.p
  · exact L.hl.tr hndStb tk (upd_ne (L.ne 1 3 (by decide) rfl rfl))
  · exact L.ev.tr evtStb tk (upd_ne (L.ne 2 3 (by decide) rfl rfl))
  · exact LstAt.put rowStb tk h
  · rw [upd_ne (L.ne 4 3 (by decide) rfl rfl)]; exact L.fr
  · exact L.frs.tr tk fun a ha => upd_ne (L.neR (i := 3) rfl ha)
  · rw [upd_ne (L.ne 5 3 (by decide) rfl rfl)]; exact L.sd
  · rw [upd_ne (L.ne 6 3 (by decide) rfl rfl)]; exact L.wa
  · rw [upd_ne (L.ne 7 3 (by decide) rfl rfl)]; exact L.fo
  · exact L.rw.tr rwStb tk (upd_ne (L.ne 8 3 (by decide) rfl rfl))
theorem LoomAt.setSd (L : LoomAt C H A s) (l : List (Str × Nat)) : Went C H A (upd H A.sd (.dK (sdK l))) A { s with stands := l } := by
  obtain ⟨k, tk⟩ := L.step (c := A.sd) (at_c (i := 5) rfl) (.dK (sdK l))
  refine ⟨⟨L.nd, ?_, ?_, ?_, ?_, ?_, ?_, ?_, ?_, ?_, ?_⟩, k, fun _ h => .inl h, rfl⟩
  · rw [upd_ne (L.ne 0 5 (by decide) rfl rfl)]; exact L.p
  · exact L.hl.tr hndStb tk (upd_ne (L.ne 1 5 (by decide) rfl rfl))
  · exact L.ev.tr evtStb tk (upd_ne (L.ne 2 5 (by decide) rfl rfl))
  · exact L.lg.tr rowStb tk (upd_ne (L.ne 3 5 (by decide) rfl rfl))
  · rw [upd_ne (L.ne 4 5 (by decide) rfl rfl)]; exact L.fr
  · exact L.frs.tr tk fun a ha => upd_ne (L.neR (i := 5) rfl ha)
  · exact upd_same
  · rw [upd_ne (L.ne 6 5 (by decide) rfl rfl)]; exact L.wa
  · rw [upd_ne (L.ne 7 5 (by decide) rfl rfl)]; exact L.fo
  · exact L.rw.tr rwStb tk (upd_ne (L.ne 8 5 (by decide) rfl rfl))
theorem LoomAt.setFo (L : LoomAt C H A s) (l : List Nat) : Went C H A (upd H A.fo (.lst (l.map nV))) A { s with soon := l } := by
  obtain ⟨k, tk⟩ := L.step (c := A.fo) (at_c (i := 7) rfl) (.lst (l.map nV))
  refine ⟨⟨L.nd, ?_, ?_, ?_, ?_, ?_, ?_, ?_, ?_, ?_, ?_⟩, k, fun _ h => .inl h, rfl⟩
  · rw [upd_ne (L.ne 0 7 (by decide) rfl rfl)]; exact L.p
  · exact L.hl.tr hndStb tk (upd_ne (L.ne 1 7 (by decide) rfl rfl))
  · exact L.ev.tr evtStb tk (upd_ne (L.ne 2 7 (by decide) rfl rfl))
  · exact L.lg.tr rowStb tk (upd_ne (L.ne 3 7 (by decide) rfl rfl))
  · rw [upd_ne (L.ne 4 7 (by decide) rfl rfl)]; exact L.fr
  · exact L.frs.tr tk fun a ha => upd_ne (L.neR (i := 7) rfl ha)
  · rw [upd_ne (L.ne 5 7 (by decide) rfl rfl)]; exact L.sd
  · rw [upd_ne (L.ne 6 7 (by decide) rfl rfl)]; exact L.wa
  · exact upd_same
  · exact L.rw.tr rwStb tk (upd_ne (L.ne 8 7 (by decide) rfl rfl))
theorem LoomAt.setRw (L : LoomAt C H A s) {xs : List V} {es : List (Int × Nat)} (h : Paired (RwAt H) xs es) : Went C H A (upd H A.rw (.lst xs)) A { s with rows := es } := by
  obtain ⟨k, tk⟩ := L.step (c := A.rw) (at_c (i := 8) rfl) (.lst xs)
  refine ⟨⟨L.nd, ?_, ?_, ?_, ?_, ?_, ?_, ?_, ?_, ?_, ?_⟩, k, fun _ h => .inl h, rfl⟩
  · rw [upd_ne (L.ne 0 8 (by decide) rfl rfl)]; exact L.p
  · exact L.hl.tr hndStb tk (upd_ne (L.ne 1 8 (by decide) rfl rfl))
  · exact L.ev.tr evtStb tk (upd_ne (L.ne 2 8 (by decide) rfl rfl))
  · exact L.lg.tr rowStb tk (upd_ne (L.ne 3 8 (by decide) rfl rfl))
  · rw [upd_ne (L.ne 4 8 (by decide) rfl rfl)]; exact L.fr
  · exact L.frs.tr tk fun a ha => upd_ne (L.neR (i := 8) rfl ha)
  · rw [upd_ne (L.ne 5 8 (by decide) rfl rfl)]; exact L.sd
  · rw [upd_ne (L.ne 6 8 (by decide) rfl rfl)]; exact L.wa
  · rw [upd_ne (L.ne 7 8 (by decide) rfl rfl)]; exact L.fo
  · exact LstAt.put rwStb tk h
theorem nodup_set {α : Type} : ∀ {l : List α} {i : Nat} {d : α}, l.Nodup → d ∉ l → (l.set i d).Nodup
  | [], _, _, _, _ => by simp
  | a :: l, 0, d, nd, h => List.nodup_cons.mpr ⟨fun q => h (List.mem_cons_of_mem _ q), (List.nodup_cons.mp nd).2⟩
  | a :: l, i + 1, d, nd, h => by
    refine List.nodup_cons.mpr ⟨fun q => ?_, nodup_set (List.nodup_cons.mp nd).2 fun q => h (List.mem_cons_of_mem _ q)⟩
    rcases List.mem_or_eq_of_mem_set q with q | q
    · exact (List.nodup_cons.mp nd).1 q
    · exact h (by rw [q]; exact List.mem_cons_self)
/-- places that change: a list of fixed places with one of them new -/
theorem nd_new {A : LoomA} {B : LoomA} {d : Addr} (nd : A.cells.Nodup) (hd : d ∉ A.cells) (i : Nat) (hi : i < 9) (e : B.fix = A.fix.set i d) (ef : B.frs = A.frs) : B.cells.Nodup := by
  have nd' : (A.fix ++ frCells A.frs).Nodup := nd
  have hd' : d ∉ A.fix ++ frCells A.frs := hd
  obtain ⟨n1, n2, n3⟩ := List.nodup_append.mp nd'
  show (B.fix ++ frCells B.frs).Nodup
  rw [e, ef]
  have hs : ∀ x, x ∈ A.fix.set i d → x = d ∨ x ∈ A.fix := fun x hx => (List.mem_or_eq_of_mem_set hx).symm
  refine List.nodup_append.mpr ⟨?_, n2, fun a ha b hb q => ?_⟩
  · exact nodup_set n1 fun q => hd' (List.mem_append.mpr (.inl q))
  · rcases hs a ha with r | r
    · subst r; subst q; exact hd' (List.mem_append.mpr (.inr hb))
    · exact n3 a r b hb q
theorem mem_new {A B : LoomA} {d : Addr} (i : Nat) (e : B.fix = A.fix.set i d) (ef : B.frs = A.frs) : ∀ a ∈ B.cells, a ∈ A.cells ∨ a = d := by
  intro a ha
  have ha' : a ∈ B.fix ++ frCells B.frs := ha
  rw [e, ef] at ha'
  rcases List.mem_append.mp ha' with h | h
  · rcases List.mem_or_eq_of_mem_set h with h | h
    · exact .inl (List.mem_append.mpr (.inl h))
    · exact .inr h
  · exact .inl (List.mem_append.mpr (.inr h))
theorem LoomAt.fresh (L : LoomAt C H A s) {d : Addr} (h : H d = none) : d ∉ A.cells := fun q => by
  obtain ⟨o, e⟩ := L.has d q
  rw [h] at e; cases e
variable {H0 : Hp} {A0 : LoomA}
/-- the instance, a wait's instance or a frame's record is written: what else stands, stands -/
theorem LoomAt.others (L : LoomAt C H A s) {c : Addr} (hc : c ∈ A.cells) (o : HO) : ∀ a, a ∈ A.cells → a ≠ c → upd H c o a = H a := fun a _ n => upd_ne n
theorem Went.newSd (W : Went C H0 A0 H A s) {d : Addr} (l : List (Str × Nat)) (z : H0 d = none) (n : d ∉ A.cells) (h : H d = some (.dK (sdK l))) :
    Went C H0 A0 (upd H A.p (.ins C.L A.dx (loomFs { A with sd := d } { s with stands := l }))) { A with sd := d } { s with stands := l } := by
  have L := W.l
  obtain ⟨k, tk⟩ := L.step (c := A.p) (at_c (i := 0) rfl) (.ins C.L A.dx (loomFs { A with sd := d } { s with stands := l }))
  have np : d ≠ A.p := fun e => n (by rw [e]; exact at_c (i := 0) rfl)
  refine ⟨⟨nd_new (A := A) (d := d) L.nd n 5 (by decide) rfl rfl, upd_same, ?_, ?_, ?_, ?_, ?_, ?_, ?_, ?_, ?_⟩, W.kp.transM k W.sub, fun a ha => ?_, W.p⟩
  · exact L.hl.tr hndStb tk (upd_ne (L.ne 1 0 (by decide) rfl rfl))
  · exact L.ev.tr evtStb tk (upd_ne (L.ne 2 0 (by decide) rfl rfl))
  · exact L.lg.tr rowStb tk (upd_ne (L.ne 3 0 (by decide) rfl rfl))
  · rw [upd_ne (L.ne 4 0 (by decide) rfl rfl)]; exact L.fr
  · exact L.frs.tr tk fun a ha => upd_ne (L.neR (i := 0) rfl ha)
  · exact (upd_ne np).trans h
  · rw [upd_ne (L.ne 6 0 (by decide) rfl rfl)]; exact L.wa
  · rw [upd_ne (L.ne 7 0 (by decide) rfl rfl)]; exact L.fo
  · exact L.rw.tr rwStb tk (upd_ne (L.ne 8 0 (by decide) rfl rfl))
  · rcases mem_new (A := A) (B := { A with sd := d }) (d := d) 5 rfl rfl a ha with q | q
    · exact W.sub a q
    · exact .inr (by rw [q]; exact z)
theorem Went.newFo (W : Went C H0 A0 H A s) {d : Addr} (l : List Nat) (z : H0 d = none) (n : d ∉ A.cells) (h : H d = some (.lst (l.map nV))) :
    Went C H0 A0 (upd H A.wa (.ins C.W A.wdx (waitFs { A with fo := d }))) { A with fo := d } { s with soon := l } := by
  have L := W.l
  obtain ⟨k, tk⟩ := L.step (c := A.wa) (at_c (i := 6) rfl) (.ins C.W A.wdx (waitFs { A with fo := d }))
  have np : d ≠ A.wa := fun e => n (by rw [e]; exact at_c (i := 6) rfl)
  refine ⟨⟨nd_new (A := A) (d := d) L.nd n 7 (by decide) rfl rfl, ?_, ?_, ?_, ?_, ?_, ?_, ?_, upd_same, ?_, ?_⟩, W.kp.transM k W.sub, fun a ha => ?_, W.p⟩
  · rw [upd_ne (L.ne 0 6 (by decide) rfl rfl)]; exact L.p
  · exact L.hl.tr hndStb tk (upd_ne (L.ne 1 6 (by decide) rfl rfl))
  · exact L.ev.tr evtStb tk (upd_ne (L.ne 2 6 (by decide) rfl rfl))
  · exact L.lg.tr rowStb tk (upd_ne (L.ne 3 6 (by decide) rfl rfl))
  · rw [upd_ne (L.ne 4 6 (by decide) rfl rfl)]; exact L.fr
  · exact L.frs.tr tk fun a ha => upd_ne (L.neR (i := 6) rfl ha)
  · rw [upd_ne (L.ne 5 6 (by decide) rfl rfl)]; exact L.sd
  · exact (upd_ne np).trans h
  · exact L.rw.tr rwStb tk (upd_ne (L.ne 8 6 (by decide) rfl rfl))
  · rcases mem_new (A := A) (B := { A with fo := d }) (d := d) 7 rfl rfl a ha with q | q
    · exact W.sub a q
    · exact .inr (by rw [q]; exact z)
theorem Went.newRw (W : Went C H0 A0 H A s) {d : Addr} (l : List (Int × Nat)) (z : H0 d = none) (n : d ∉ A.cells) (h : LstAt RwAt H d l) :
    Went C H0 A0 (upd H A.wa (.ins C.W A.wdx (waitFs { A with rw := d }))) { A with rw := d } { s with rows := l } := by
  have L := W.l
  obtain ⟨k, tk⟩ := L.step (c := A.wa) (at_c (i := 6) rfl) (.ins C.W A.wdx (waitFs { A with rw := d }))
  have np : d ≠ A.wa := fun e => n (by rw [e]; exact at_c (i := 6) rfl)
  refine ⟨⟨nd_new (A := A) (d := d) L.nd n 8 (by decide) rfl rfl, ?_, ?_, ?_, ?_, ?_, ?_, ?_, upd_same, ?_, ?_⟩, W.kp.transM k W.sub, fun a ha => ?_, W.p⟩
  · rw [upd_ne (L.ne 0 6 (by decide) rfl rfl)]; exact L.p
  · exact L.hl.tr hndStb tk (upd_ne (L.ne 1 6 (by decide) rfl rfl))
  · exact L.ev.tr evtStb tk (upd_ne (L.ne 2 6 (by decide) rfl rfl))
  · exact L.lg.tr rowStb tk (upd_ne (L.ne 3 6 (by decide) rfl rfl))
  · rw [upd_ne (L.ne 4 6 (by decide) rfl rfl)]; exact L.fr
  · exact L.frs.tr tk fun a ha => upd_ne (L.neR (i := 6) rfl ha)
  · rw [upd_ne (L.ne 5 6 (by decide) rfl rfl)]; exact L.sd
  · rw [upd_ne (L.ne 7 6 (by decide) rfl rfl)]; exact L.fo
  · exact h.tr rwStb tk (upd_ne np)
  · rcases mem_new (A := A) (B := { A with rw := d }) (d := d) 8 rfl rfl a ha with q | q
    · exact W.sub a q
    · exact .inr (by rw [q]; exact z)
/-- the frames' list and what else stands when a list of the same cells stands at fr -/
theorem Went.pushFr (W : Went C H0 A0 H A s) {B : FrA} {f : Frm} (hB : FrmAt C.F H B f) (n1 : B.fa ∉ A.cells) (n2 : B.lc ∉ A.cells) (n3 : B.fa ≠ B.lc) (z1 : H0 B.fa = none) (z2 : H0 B.lc = none) :
    Went C H0 A0 (upd H A.fr (.lst ((A.frs ++ [B]).map fun f => V.ref f.fa))) { A with frs := A.frs ++ [B] } { s with frames := s.frames ++ [f] } := by
  have L := W.l
  obtain ⟨k, tk⟩ := L.step (c := A.fr) (at_c (i := 4) rfl) (.lst ((A.frs ++ [B]).map fun f => V.ref f.fa))
  have q1 : B.fa ≠ A.fr := fun e => n1 (by rw [e]; exact at_c (i := 4) rfl)
  have q2 : B.lc ≠ A.fr := fun e => n2 (by rw [e]; exact at_c (i := 4) rfl)
  have ec : LoomA.cells { A with frs := A.frs ++ [B] } = A.cells ++ [B.fa, B.lc] := by
    show A.fix ++ frCells (A.frs ++ [B]) = (A.fix ++ frCells A.frs) ++ [B.fa, B.lc]
    rw [frCells_app, List.append_assoc]
    rfl
  refine ⟨⟨?_, ?_, ?_, ?_, ?_, upd_same, ?_, ?_, ?_, ?_, ?_⟩, W.kp.transM k W.sub, fun a ha => ?_, W.p⟩
  · rw [ec]
    refine List.nodup_append.mpr ⟨L.nd, by simp [n3], fun a ha b hb e => ?_⟩
    subst e
    simp at hb
    rcases hb with rfl | rfl
    · exact n1 ha
    · exact n2 ha
  · rw [upd_ne (L.ne 0 4 (by decide) rfl rfl)]; exact L.p
  · exact L.hl.tr hndStb tk (upd_ne (L.ne 1 4 (by decide) rfl rfl))
  · exact L.ev.tr evtStb tk (upd_ne (L.ne 2 4 (by decide) rfl rfl))
  · exact L.lg.tr rowStb tk (upd_ne (L.ne 3 4 (by decide) rfl rfl))
  · exact (L.frs.tr tk fun a ha => upd_ne (L.neR (i := 4) rfl ha)).snoc (hB.tr tk (upd_ne q1) (upd_ne q2))
  · rw [upd_ne (L.ne 5 4 (by decide) rfl rfl)]; exact L.sd
  · rw [upd_ne (L.ne 6 4 (by decide) rfl rfl)]; exact L.wa
  · rw [upd_ne (L.ne 7 4 (by decide) rfl rfl)]; exact L.fo
  · exact L.rw.tr rwStb tk (upd_ne (L.ne 8 4 (by decide) rfl rfl))
  · rw [ec] at ha
    rcases List.mem_append.mp ha with q | q
    · exact W.sub a q
    · simp at q
      rcases q with rfl | rfl
      · exact .inr z1
      · exact .inr z2
theorem LoomAt.popFr (L : LoomAt C H A s) {Bs : List FrA} {B : FrA} {fs : List Frm} {f : Frm} (eA : A.frs = Bs ++ [B]) (es : s.frames = fs ++ [f]) :
    Went C H A (upd H A.fr (.lst (Bs.map fun f => V.ref f.fa))) { A with frs := Bs } { s with frames := fs } := by
  obtain ⟨k, tk⟩ := L.step (c := A.fr) (at_c (i := 4) rfl) (.lst (Bs.map fun f => V.ref f.fa))
  have ec : A.cells = (A.fix ++ frCells Bs) ++ [B.fa, B.lc] := by
    show A.fix ++ frCells A.frs = _
    rw [eA, frCells_app, List.append_assoc]
    rfl
  have fr0 := L.frs
  rw [eA, es] at fr0
  obtain ⟨Bs', B', eB, t1, t2⟩ := fr0.unsnoc
  obtain ⟨rfl, hh⟩ := List.append_inj' eB rfl
  refine ⟨⟨?_, ?_, ?_, ?_, ?_, upd_same, ?_, ?_, ?_, ?_, ?_⟩, k, fun a ha => .inl ?_, rfl⟩
  · have := L.nd
    rw [ec] at this
    exact (List.nodup_append.mp this).1
  · rw [upd_ne (L.ne 0 4 (by decide) rfl rfl)]; exact L.p
  · exact L.hl.tr hndStb tk (upd_ne (L.ne 1 4 (by decide) rfl rfl))
  · exact L.ev.tr evtStb tk (upd_ne (L.ne 2 4 (by decide) rfl rfl))
  · exact L.lg.tr rowStb tk (upd_ne (L.ne 3 4 (by decide) rfl rfl))
  · exact t1.tr tk fun a ha => upd_ne (L.neR (i := 4) rfl (by rw [eA, frCells_app]; exact List.mem_append.mpr (.inl ha)))
  · rw [upd_ne (L.ne 5 4 (by decide) rfl rfl)]; exact L.sd
  · rw [upd_ne (L.ne 6 4 (by decide) rfl rfl)]; exact L.wa
  · rw [upd_ne (L.ne 7 4 (by decide) rfl rfl)]; exact L.fo
  · exact L.rw.tr rwStb tk (upd_ne (L.ne 8 4 (by decide) rfl rfl))
  · rw [ec]
    exact List.mem_append.mpr (.inl ha)
/-- what is known of the innermost frame's record -/
theorem LoomAt.last (L : LoomAt C H A s) {fs : List Frm} {f : Frm} (es : s.frames = fs ++ [f]) : ∃ Bs B, A.frs = Bs ++ [B] ∧ FrsAt C.F H Bs fs ∧ FrmAt C.F H B f ∧ B.fa ∈ A.cells ∧ B.lc ∈ A.cells ∧ B.fa ≠ B.lc ∧
    (∀ a ∈ A.fix, a ≠ B.fa ∧ a ≠ B.lc) ∧ ∀ a ∈ frCells Bs, a ≠ B.fa ∧ a ≠ B.lc := by
  have fr0 := L.frs
  rw [es] at fr0
  obtain ⟨Bs, B, eB, t1, t2⟩ := fr0.unsnoc
  have nd : (A.fix ++ (frCells Bs ++ [B.fa, B.lc])).Nodup := by
    have h := L.nd
    have e : A.cells = A.fix ++ (frCells Bs ++ [B.fa, B.lc]) := by
      show A.fix ++ frCells A.frs = _
      rw [eB, frCells_app]
      rfl
    rw [e] at h
    exact h
  have m : ∀ a, a ∈ frCells Bs ++ [B.fa, B.lc] → a ∈ A.cells := fun a ha => by
    show a ∈ A.fix ++ frCells A.frs
    rw [eB, frCells_app]
    exact List.mem_append.mpr (.inr ha)
  obtain ⟨_, n2, n3⟩ := List.nodup_append.mp nd
  obtain ⟨_, n4, n5⟩ := List.nodup_append.mp n2
  refine ⟨Bs, B, eB, t1, t2, m _ (by simp), m _ (by simp), ?_, fun a ha => ⟨n3 a ha _ (by simp), n3 a ha _ (by simp)⟩, fun a ha => ⟨n5 a ha _ (by simp), n5 a ha _ (by simp)⟩⟩
  have := n4
  simp at this
  exact this
theorem LoomAt.setFrm (L : LoomAt C H A s) {Bs : List FrA} {B : FrA} {fs : List Frm} {f : Frm} (eA : A.frs = Bs ++ [B]) (es : s.frames = fs ++ [f]) (f' : Frm) {dq : Addr} (hc : f'.called = f.called) (hd : DdsAt H dq f'.deeds) :
    Went C H A (upd H B.fa (.ins C.F B.dx (frmFs f' B.lc dq))) A { s with frames := fs ++ [f'] } := by
  obtain ⟨Bs', B', eB, t1, t2, m1, m2, ne, nf, nb⟩ := L.last es
  rw [eA] at eB
  obtain ⟨rfl, hh⟩ := List.append_inj' eB rfl
  have hh : B = B' := by simpa using hh
  subst hh
  obtain ⟨k, tk⟩ := L.step m1 (.ins C.F B.dx (frmFs f' B.lc dq))
  obtain ⟨dq0, _, g2, _⟩ := t2
  have nx : ∀ {i a}, A.fix[i]? = some a → a ≠ B.fa := fun h => (nf _ (List.mem_of_getElem? h)).1
  refine ⟨⟨L.nd, ?_, ?_, ?_, ?_, ?_, ?_, ?_, ?_, ?_, ?_⟩, k, fun _ h => .inl h, rfl⟩
  · rw [upd_ne (nx (i := 0) rfl)]; exact L.p
  · exact L.hl.tr hndStb tk (upd_ne (nx (i := 1) rfl))
  · exact L.ev.tr evtStb tk (upd_ne (nx (i := 2) rfl))
  · exact L.lg.tr rowStb tk (upd_ne (nx (i := 3) rfl))
  · rw [upd_ne (nx (i := 4) rfl)]; exact L.fr
  · rw [eA]
    refine (t1.tr tk fun a ha => upd_ne (nb a ha).1).snoc ⟨dq, upd_same, ?_, hd.tk tk⟩
    rw [hc]
    exact g2.tr callStb tk (upd_ne (Ne.symm ne))
  · rw [upd_ne (nx (i := 5) rfl)]; exact L.sd
  · rw [upd_ne (nx (i := 6) rfl)]; exact L.wa
  · rw [upd_ne (nx (i := 7) rfl)]; exact L.fo
  · exact L.rw.tr rwStb tk (upd_ne (nx (i := 8) rfl))
theorem LoomAt.setLc (L : LoomAt C H A s) {Bs : List FrA} {B : FrA} {fs : List Frm} {f : Frm} (eA : A.frs = Bs ++ [B]) (es : s.frames = fs ++ [f]) {cs : List V} {l : List (Str × Nat)} (h : Paired (CallAt H) cs l) :
    Went C H A (upd H B.lc (.lst cs)) A { s with frames := fs ++ [{ f with called := l }] } := by
  obtain ⟨Bs', B', eB, t1, t2, m1, m2, ne, nf, nb⟩ := L.last es
  rw [eA] at eB
  obtain ⟨rfl, hh⟩ := List.append_inj' eB rfl
  have hh : B = B' := by simpa using hh
  subst hh
  obtain ⟨k, tk⟩ := L.step m2 (.lst cs)
  obtain ⟨dq0, g1, g2, g3⟩ := t2
  have nx : ∀ {i a}, A.fix[i]? = some a → a ≠ B.lc := fun h => (nf _ (List.mem_of_getElem? h)).2
  refine ⟨⟨L.nd, ?_, ?_, ?_, ?_, ?_, ?_, ?_, ?_, ?_, ?_⟩, k, fun _ h => .inl h, rfl⟩
  · rw [upd_ne (nx (i := 0) rfl)]; exact L.p
  · exact L.hl.tr hndStb tk (upd_ne (nx (i := 1) rfl))
  · exact L.ev.tr evtStb tk (upd_ne (nx (i := 2) rfl))
  · exact L.lg.tr rowStb tk (upd_ne (nx (i := 3) rfl))
  · rw [upd_ne (nx (i := 4) rfl)]; exact L.fr
  · rw [eA]
    exact (t1.tr tk fun a ha => upd_ne (nb a ha).2).snoc ⟨dq0, by rw [upd_ne ne]; exact g1, LstAt.put callStb tk h, g3.tk tk⟩
  · rw [upd_ne (nx (i := 5) rfl)]; exact L.sd
  · rw [upd_ne (nx (i := 6) rfl)]; exact L.wa
  · rw [upd_ne (nx (i := 7) rfl)]; exact L.fo
  · exact L.rw.tr rwStb tk (upd_ne (nx (i := 8) rfl))
/-- the innermost frame's list of those still to be called is a new, empty one -/
theorem Went.hush (W : Went C H0 A0 H A s) {Bs : List FrA} {B : FrA} {fs : List Frm} {f : Frm} (eA : A.frs = Bs ++ [B]) (es : s.frames = fs ++ [f]) {d dq : Addr} (z : H0 d = none) (n : d ∉ A.cells) (h : H d = some (.lst []))
    (hd : DdsAt H dq f.deeds) :
    Went C H0 A0 (upd H B.fa (.ins C.F B.dx (frmFs { f with called := [] } d dq))) { A with frs := Bs ++ [{ B with lc := d }] } { s with frames := fs ++ [{ f with called := [] }] } := by
  have L := W.l
  obtain ⟨Bs', B', eB, t1, t2, m1, m2, ne, nf, nb⟩ := L.last es
  rw [eA] at eB
  obtain ⟨rfl, hh⟩ := List.append_inj' eB rfl
  have hh : B = B' := by simpa using hh
  subst hh
  obtain ⟨k, tk⟩ := L.step m1 (.ins C.F B.dx (frmFs { f with called := [] } d dq))
  have nx : ∀ {i a}, A.fix[i]? = some a → a ≠ B.fa := fun h => (nf _ (List.mem_of_getElem? h)).1
  have ndf : d ≠ B.fa := fun e => n (by rw [e]; exact m1)
  have nd : (A.fix ++ (frCells Bs ++ [B.fa, B.lc])).Nodup := by
    have q := L.nd
    have e : A.cells = A.fix ++ (frCells Bs ++ [B.fa, B.lc]) := by
      show A.fix ++ frCells A.frs = _
      rw [eA, frCells_app]
      rfl
    rw [e] at q
    exact q
  have ec : LoomA.cells { A with frs := Bs ++ [{ B with lc := d }] } = A.fix ++ (frCells Bs ++ [B.fa, d]) := by
    show A.fix ++ frCells (Bs ++ [{ B with lc := d }]) = _
    rw [frCells_app]
    rfl
  have hm : ∀ a, a ∈ A.fix ∨ a ∈ frCells Bs ∨ a = B.fa → a ∈ A.cells := fun a ha => by
    show a ∈ A.fix ++ frCells A.frs
    rw [eA, frCells_app]
    rcases ha with q | q | q
    · exact List.mem_append.mpr (.inl q)
    · exact List.mem_append.mpr (.inr (List.mem_append.mpr (.inl q)))
    · exact List.mem_append.mpr (.inr (List.mem_append.mpr (.inr (by rw [q]; simp [frCells]))))
  refine ⟨⟨?_, ?_, ?_, ?_, ?_, ?_, ?_, ?_, ?_, ?_, ?_⟩, W.kp.transM k W.sub, fun a ha => ?_, W.p⟩
  · rw [ec]
    obtain ⟨n1, n2, n3⟩ := List.nodup_append.mp nd
    obtain ⟨n4, n5, n6⟩ := List.nodup_append.mp n2
    refine List.nodup_append.mpr ⟨n1, List.nodup_append.mpr ⟨n4, by simp; exact Ne.symm ndf, fun a ha b hb e => ?_⟩, fun a ha b hb e => ?_⟩
    · subst e
      simp at hb
      rcases hb with rfl | rfl
      · exact (nb _ ha).1 rfl
      · exact n (hm _ (.inr (.inl ha)))
    · subst e
      rcases List.mem_append.mp hb with hb | hb
      · exact n3 a ha a (List.mem_append.mpr (.inl hb)) rfl
      · simp at hb
        rcases hb with rfl | rfl
        · exact (nf _ ha).1 rfl
        · exact n (hm _ (.inl ha))
  · rw [upd_ne (nx (i := 0) rfl)]; exact L.p
  · exact L.hl.tr hndStb tk (upd_ne (nx (i := 1) rfl))
  · exact L.ev.tr evtStb tk (upd_ne (nx (i := 2) rfl))
  · exact L.lg.tr rowStb tk (upd_ne (nx (i := 3) rfl))
  · rw [upd_ne (nx (i := 4) rfl), L.fr, eA]
    simp
  · exact (t1.tr tk fun a ha => upd_ne (nb a ha).1).snoc ⟨dq, upd_same, ⟨[], by rw [upd_ne ndf]; exact h, .nil⟩, hd.tk tk⟩
  · rw [upd_ne (nx (i := 5) rfl)]; exact L.sd
  · rw [upd_ne (nx (i := 6) rfl)]; exact L.wa
  · rw [upd_ne (nx (i := 7) rfl)]; exact L.fo
  · exact L.rw.tr rwStb tk (upd_ne (nx (i := 8) rfl))
  · rw [ec] at ha
    rcases List.mem_append.mp ha with q | q
    · exact W.sub a (hm a (.inl q))
    · rcases List.mem_append.mp q with q | q
      · exact W.sub a (hm a (.inr (.inl q)))
      · simp at q
        rcases q with rfl | rfl
        · exact W.sub _ m1
        · exact .inr z
end
/-! ### fields -/
theorem loomFs_nd (A : LoomA) (s : LoomS) : ((loomFs A s).map Prod.fst).Nodup := by
  show (["handlers", "time", "events", "log", "frames", "fresh", "line", "stood", "standings"] : List Str).Nodup
  decide +kernel
theorem lf_handlers (A : LoomA) (s : LoomS) : (loomFs A s).lookup ("handlers" : Str) = some (.ref A.hl) := look_ix (loomFs_nd A s) (i := 0) rfl
theorem lf_time (A : LoomA) (s : LoomS) : (loomFs A s).lookup ("time" : Str) = some (.int s.time) := look_ix (loomFs_nd A s) (i := 1) rfl
theorem lf_events (A : LoomA) (s : LoomS) : (loomFs A s).lookup ("events" : Str) = some (.ref A.ev) := look_ix (loomFs_nd A s) (i := 2) rfl
theorem lf_log (A : LoomA) (s : LoomS) : (loomFs A s).lookup ("log" : Str) = some (.ref A.lg) := look_ix (loomFs_nd A s) (i := 3) rfl
theorem lf_frames (A : LoomA) (s : LoomS) : (loomFs A s).lookup ("frames" : Str) = some (.ref A.fr) := look_ix (loomFs_nd A s) (i := 4) rfl
theorem lf_fresh (A : LoomA) (s : LoomS) : (loomFs A s).lookup ("fresh" : Str) = some (onV s.fresh) := look_ix (loomFs_nd A s) (i := 5) rfl
theorem lf_line (A : LoomA) (s : LoomS) : (loomFs A s).lookup ("line" : Str) = some (.ref A.wa) := look_ix (loomFs_nd A s) (i := 6) rfl
theorem lf_stood (A : LoomA) (s : LoomS) : (loomFs A s).lookup ("stood" : Str) = some (nV s.stood) := look_ix (loomFs_nd A s) (i := 7) rfl
theorem lf_standings (A : LoomA) (s : LoomS) : (loomFs A s).lookup ("standings" : Str) = some (.ref A.sd) := look_ix (loomFs_nd A s) (i := 8) rfl
theorem lp_time (A : LoomA) (s : LoomS) (t : Int) : putF "time" (.int t) (loomFs A s) = loomFs A { s with time := t } := put_ix (loomFs_nd A s) (i := 1) rfl
theorem lp_fresh (A : LoomA) (s : LoomS) (o : Option Nat) : putF "fresh" (onV o) (loomFs A s) = loomFs A { s with fresh := o } := put_ix (loomFs_nd A s) (i := 5) rfl
theorem lp_stood (A : LoomA) (s : LoomS) (n : Nat) : putF "stood" (nV n) (loomFs A s) = loomFs A { s with stood := n } := put_ix (loomFs_nd A s) (i := 7) rfl
theorem lp_sd (A : LoomA) (s : LoomS) (d : Addr) (l : List (Str × Nat)) : putF "standings" (.ref d) (loomFs A s) = loomFs { A with sd := d } { s with stands := l } := put_ix (loomFs_nd A s) (i := 8) rfl
theorem frmFs_nd (f : Frm) (lc dq : Addr) : ((frmFs f lc dq).map Prod.fst).Nodup := by
  show (["number", "called", "deeds", "place"] : List Str).Nodup
  decide +kernel
theorem ff_number (f : Frm) (lc dq : Addr) : (frmFs f lc dq).lookup ("number" : Str) = some (nV f.number) := look_ix (frmFs_nd f lc dq) (i := 0) rfl
theorem ff_called (f : Frm) (lc dq : Addr) : (frmFs f lc dq).lookup ("called" : Str) = some (.ref lc) := look_ix (frmFs_nd f lc dq) (i := 1) rfl
theorem ff_deeds (f : Frm) (lc dq : Addr) : (frmFs f lc dq).lookup ("deeds" : Str) = some (.ref dq) := look_ix (frmFs_nd f lc dq) (i := 2) rfl
theorem ff_place (f : Frm) (lc dq : Addr) : (frmFs f lc dq).lookup ("place" : Str) = some (nV f.place) := look_ix (frmFs_nd f lc dq) (i := 3) rfl
theorem fp_place (f : Frm) (lc dq : Addr) (n : Nat) : putF "place" (nV n) (frmFs f lc dq) = frmFs { f with place := n } lc dq := put_ix (frmFs_nd f lc dq) (i := 3) rfl
theorem fp_deeds (f : Frm) (lc dq d : Addr) (l : List Deed) : putF "deeds" (.ref d) (frmFs f lc dq) = frmFs { f with deeds := l } lc d := put_ix (frmFs_nd f lc dq) (i := 2) rfl
theorem fp_called (f : Frm) (lc dq d : Addr) (l : List (Str × Nat)) : putF "called" (.ref d) (frmFs f lc dq) = frmFs { f with called := l } d dq := put_ix (frmFs_nd f lc dq) (i := 1) rfl
/-! ### those that wait -/
structure WtA where
  wa : Addr
  wdx : Addr
  fo : Addr
  rw : Addr
def WtA.cells (A : WtA) : List Addr := [A.wa, A.fo, A.rw]
def wFs (fo rw : Addr) : List (Str × V) := [("first_ones", .ref fo), ("rows", .ref rw)]
theorem wFs_nd (fo rw : Addr) : ((wFs fo rw).map Prod.fst).Nodup := by
  show (["first_ones", "rows"] : List Str).Nodup
  decide +kernel
theorem wFs_fo (fo rw : Addr) : (wFs fo rw).lookup ("first_ones" : Str) = some (.ref fo) := look_ix (wFs_nd fo rw) (i := 0) rfl
theorem wFs_rw (fo rw : Addr) : (wFs fo rw).lookup ("rows" : Str) = some (.ref rw) := look_ix (wFs_nd fo rw) (i := 1) rfl
theorem wFs_pfo (fo rw x : Addr) : putF "first_ones" (.ref x) (wFs fo rw) = wFs x rw := put_ix (wFs_nd fo rw) (i := 0) rfl
theorem wFs_prw (fo rw x : Addr) : putF "rows" (.ref x) (wFs fo rw) = wFs fo x := put_ix (wFs_nd fo rw) (i := 1) rfl
structure WaitsAt (W : Addr) (H : Hp) (A : WtA) (soon : List Nat) (rows : List (Int × Nat)) : Prop where
  n1 : A.wa ≠ A.fo
  n2 : A.wa ≠ A.rw
  n3 : A.fo ≠ A.rw
  wa : H A.wa = some (.ins W A.wdx (wFs A.fo A.rw))
  fo : H A.fo = some (.lst (soon.map nV))
  rw : LstAt RwAt H A.rw rows
/-- what a deed of those that wait leaves -/
structure WtPost (W : Addr) (H : Hp) (A : WtA) (H' : Hp) (A' : WtA) (soon : List Nat) (rows : List (Int × Nat)) : Prop where
  w : WaitsAt W H' A' soon rows
  kp : Kp A.cells H H'
  wa : A'.wa = A.wa
  wdx : A'.wdx = A.wdx
  fo : A'.fo = A.fo ∨ H A'.fo = none
  rw : A'.rw = A.rw ∨ H A'.rw = none
def LoomA.wt (A : LoomA) : WtA := ⟨A.wa, A.wdx, A.fo, A.rw⟩
theorem WaitsAt.kp {W : Addr} {H H' : Hp} {A : WtA} {soon : List Nat} {rows : List (Int × Nat)} (w : WaitsAt W H A soon rows) {M : List Addr} (k : Kp M H H') (n : ∀ a ∈ A.cells, a ∉ M) : WaitsAt W H' A soon rows := by
  obtain ⟨xs, h1, h2⟩ := w.rw
  refine ⟨w.n1, w.n2, w.n3, k.keep _ _ (n _ (by simp [WtA.cells])) w.wa, k.keep _ _ (n _ (by simp [WtA.cells])) w.fo, ⟨xs, k.keep _ _ (n _ (by simp [WtA.cells])) h1, Pd.mono (fun _ _ => rwStb _ _ _ _ k.tk) h2⟩⟩
section
variable {C : Cs} {H H' : Hp} {A : LoomA} {s : LoomS}
theorem LoomAt.waits (L : LoomAt C H A s) : WaitsAt C.W H A.wt s.soon s.rows :=
  ⟨L.ne 6 7 (by decide) rfl rfl, L.ne 6 8 (by decide) rfl rfl, L.ne 7 8 (by decide) rfl rfl, L.wa, L.fo, L.rw⟩
theorem LoomAt.wait (L : LoomAt C H A s) {A' : WtA} {soon : List Nat} {rows : List (Int × Nat)} (p : WtPost C.W H A.wt H' A' soon rows) : Went C H A H' { A with fo := A'.fo, rw := A'.rw } { s with soon := soon, rows := rows } := by
  have mem : ∀ a ∈ A.wt.cells, a ∈ A.cells := fun a ha => by
    simp [WtA.cells, LoomA.wt] at ha
    rcases ha with rfl | rfl | rfl <;> simp [LoomA.cells]
  have k : Kp A.cells H H' := p.kp.mono fun a ha => .inl (mem a ha)
  have tk := k.tk
  have same : ∀ {a : Addr} {i : Nat}, A.fix[i]? = some a → i ≠ 6 → i ≠ 7 → i ≠ 8 → H' a = H a := fun {a i} h h6 h7 h8 => by
    obtain ⟨o, e⟩ := L.has a (List.mem_append.mpr (.inl (List.mem_of_getElem? h)))
    rw [e, p.kp.keep a o (fun z => ?_) e]
    simp [WtA.cells, LoomA.wt] at z
    rcases z with z | z | z
    · exact L.ne i 6 h6 h rfl z
    · exact L.ne i 7 h7 h rfl z
    · exact L.ne i 8 h8 h rfl z
  have sameR : ∀ a ∈ frCells A.frs, H' a = H a := fun a ha => by
    obtain ⟨o, e⟩ := L.has a (List.mem_append.mpr (.inr ha))
    rw [e, p.kp.keep a o (fun z => ?_) e]
    simp [WtA.cells, LoomA.wt] at z
    rcases z with z | z | z
    · exact L.neR (i := 6) rfl ha z
    · exact L.neR (i := 7) rfl ha z
    · exact L.neR (i := 8) rfl ha z
  have nf : ∀ {d : Addr}, H d = none → d ∉ A.cells := fun h => L.fresh h
  have nd1 : LoomA.cells { A with fo := A'.fo } |>.Nodup := by
    rcases p.fo with e | e
    · rw [e]; exact L.nd
    · exact nd_new (A := A) (d := A'.fo) L.nd (nf e) 7 (by decide) rfl rfl
  have nd2 : LoomA.cells { A with fo := A'.fo, rw := A'.rw } |>.Nodup := by
    rcases p.rw with e | e
    · rw [e]; exact nd1
    · refine nd_new (A := { A with fo := A'.fo }) (d := A'.rw) nd1 (fun z => ?_) 8 (by decide) rfl rfl
      rcases mem_new (A := A) (B := { A with fo := A'.fo }) (d := A'.fo) 7 rfl rfl _ z with z | z
      · exact nf e z
      · exact p.w.n3 z.symm
  have ewa : A'.wa = A.wa := p.wa
  have ewd : A'.wdx = A.wdx := p.wdx
  refine ⟨⟨nd2, ?_, ?_, ?_, ?_, ?_, ?_, ?_, ?_, p.w.fo, p.w.rw⟩, k, fun a ha => ?_, rfl⟩
  · rw [same (i := 0) rfl (by decide) (by decide) (by decide)]; exact L.p
  · exact L.hl.tr hndStb tk (same (i := 1) rfl (by decide) (by decide) (by decide))
  · exact L.ev.tr evtStb tk (same (i := 2) rfl (by decide) (by decide) (by decide))
  · exact L.lg.tr rowStb tk (same (i := 3) rfl (by decide) (by decide) (by decide))
  · rw [same (i := 4) rfl (by decide) (by decide) (by decide)]; exact L.fr
  · exact L.frs.tr tk sameR
  · rw [same (i := 5) rfl (by decide) (by decide) (by decide)]; exact L.sd
  · have q := p.w.wa
    rw [ewa, ewd] at q
    exact q
  · rcases mem_new (A := { A with fo := A'.fo }) (B := { A with fo := A'.fo, rw := A'.rw }) (d := A'.rw) 8 rfl rfl a ha with z | z
    · rcases mem_new (A := A) (B := { A with fo := A'.fo }) (d := A'.fo) 7 rfl rfl a z with z | z
      · exact .inl z
      · subst z
        rcases p.fo with e | e
        · exact .inl (by rw [e]; simp [LoomA.cells, LoomA.wt])
        · exact .inr e
    · subst z
      rcases p.rw with e | e
      · exact .inl (by rw [e]; simp [LoomA.cells, LoomA.wt])
      · exact .inr e
end
/-! ### the waits' mirror -/
def rowGt (r q : Int × Nat) : Bool := decide (q.1 < r.1 ∨ (r.1 = q.1 ∧ q.2 < r.2))
/-- the place of q among the first k rows, from behind -/
def placeOf (rows : List (Int × Nat)) (q : Int × Nat) : Nat → Nat
  | 0 => 0
  | k + 1 => match rows[k]? with
    | some r => if rowGt r q then placeOf rows q k else k + 1
    | none => k + 1
def laterM (rows : List (Int × Nat)) (q : Int × Nat) : List (Int × Nat) := rows.take (placeOf rows q rows.length) ++ [q] ++ rows.drop (placeOf rows q rows.length)
theorem placeOf_le (rows : List (Int × Nat)) (q : Int × Nat) : ∀ k, placeOf rows q k ≤ k
  | 0 => Nat.le_refl _
  | k + 1 => by
    unfold placeOf
    split
    · split
      · exact Nat.le_succ_of_le (placeOf_le rows q k)
      · exact Nat.le_refl _
    · exact Nat.le_refl _
/-! ### the loom's mirror -/
def lk (l : List (Str × Nat)) (x : Str) : Option Nat := (l.find? fun c => decide (c.1 = x)).map Prod.snd
theorem lk_pos {c : Str × Nat} {l : List (Str × Nat)} {x : Str} (h : c.1 = x) : lk (c :: l) x = some c.2 := by
  unfold lk
  rw [List.find?_cons, decide_eq_true h]
  rfl
theorem lk_neg {c : Str × Nat} {l : List (Str × Nat)} {x : Str} (h : ¬ c.1 = x) : lk (c :: l) x = lk l x := by
  unfold lk
  rw [List.find?_cons, decide_eq_false h]
theorem sd_val : ∀ (l : List (Str × Nat)) (x : Str), valV (sdK l) (Sum.inr x) = (lk l x).map nV
  | [], _ => rfl
  | c :: l, x => by
    have ih := sd_val l x
    show valV ((Sum.inr c.1, nV c.2) :: sdK l) (Sum.inr x) = _
    by_cases h : c.1 = x
    · rw [lk_pos h, valV_pos (show (Sum.inr c.1 : Key) = Sum.inr x by rw [h])]
      rfl
    · rw [lk_neg h, valV_neg (show ¬ (Sum.inr c.1 : Key) = Sum.inr x from fun q => h (Sum.inr.inj q)), ih]
theorem lk_none {l : List (Str × Nat)} {x : Str} : lk l x = none ↔ x ∉ l.map Prod.fst := by
  unfold lk
  rw [Option.map_eq_none_iff, List.find?_eq_none]
  constructor
  · intro h q
    obtain ⟨c, hc, e⟩ := List.mem_map.mp q
    exact h c hc (decide_eq_true e)
  · intro h c hc q
    exact h (List.mem_map.mpr ⟨c, hc, of_decide_eq_true q⟩)
theorem sd_put {l : List (Str × Nat)} {x : Str} {n : Nat} (h : lk l x = none) : putK (sdK l) (Sum.inr x) (nV n) = sdK (l ++ [(x, n)]) := by
  unfold putK
  have e : ((sdK l).any fun kv => decide (kv.1 = Sum.inr x)) = false := by
    rw [List.any_eq_false]
    intro kv hkv q
    obtain ⟨c, hc, rfl⟩ := List.mem_map.mp hkv
    have q := of_decide_eq_true q
    exact lk_none.mp h (List.mem_map.mpr ⟨c, hc, Sum.inr.inj q⟩)
  rw [if_neg (by rw [e]; decide)]
  simp [sdK]
def LoomS.come (s : LoomS) (x : Str) : LoomS := if (lk s.stands x).isSome then s else { s with stood := s.stood + 1, stands := s.stands ++ [(x, s.stood + 1)] }
def LoomS.go (s : LoomS) (x : Str) : LoomS := { s with stands := s.stands.filter fun c => decide (c.1 ≠ x) }
def LoomS.sendM (s : LoomS) (z : Str) : LoomS :=
  { s with events := s.events ++ [⟨z, none, .wait, s.time⟩], rows := laterM s.rows (s.time, s.events.length), log := s.log ++ [.send s.events.length] }
/-- an event that a deed makes -/
def LoomS.mk1 (s : LoomS) (m : Nat) (z : Str) (r : Road) (t : Int) : LoomS := { s with events := s.events ++ [⟨z, some m, r, s.time + t⟩] }
def LoomS.logd (s : LoomS) (r : Row) : LoomS := { s with log := s.log ++ [r] }
/-- a deed of the innermost event n -/
def LoomS.doM (s : LoomS) (n : Nat) : Deed → LoomS
  | .now z => LoomS.logd { (s.mk1 n z .now 0) with fresh := some s.events.length } (.make n s.events.length)
  | .soon z => LoomS.logd { (s.mk1 n z .soon 0) with soon := s.soon ++ [s.events.length] } (.make n s.events.length)
  | .wait t z => LoomS.logd { (s.mk1 n z .wait t) with rows := laterM s.rows (s.time + t, s.events.length) } (.make n s.events.length)
  | .cancel z =>
    let ns := (s.soon ++ s.rows.map Prod.snd).filter fun k => decide ((s.events[k]?.map Evt.word) = some z)
    LoomS.logd { s with soon := s.soon.filter (fun k => !decide (k ∈ ns)), rows := s.rows.filter fun r => !decide (r.2 ∈ ns) } (.cancel n (ns.mergeSort fun a b => decide (a ≤ b)))
  | .join x => (s.come x).logd (.join n x)
  | .leave x => (s.go x).logd (.leave n x)
  | .hush => LoomS.logd { s with frames := s.frames.dropLast ++ (s.frames.getLast?.map fun f => { f with called := [] }).toList } (.hush n)
def loomNs : List Str := ["handlers", "time", "events", "log", "frames", "fresh", "line", "stood", "standings"]
theorem lf_no {A : LoomA} {s : LoomS} {m : Str} (h : m ∉ loomNs) : (loomFs A s).lookup m = none := look_no h
def wNs : List Str := ["first_ones", "rows"]
theorem wf_no {fo rw : Addr} {m : Str} (h : m ∉ wNs) : (wFs fo rw).lookup m = none := look_no h
theorem Went.to {C : Cs} {H H' : Hp} {A A' : LoomA} {s s' : LoomS} (W : Went C H A H' A' s) (e : s = s') : Went C H A H' A' s' := e ▸ W
theorem LoomAt.frm {C : Cs} {H : Hp} {A : LoomA} {s : LoomS} (L : LoomAt C H A s) {Bs : List FrA} {B : FrA} {fs : List Frm} {f : Frm} (eA : A.frs = Bs ++ [B]) (es : s.frames = fs ++ [f]) : FrmAt C.F H B f := by
  obtain ⟨Bs', B', eB, t1, t2, _⟩ := L.last es
  rw [eA] at eB
  obtain ⟨rfl, hh⟩ := List.append_inj' eB rfl
  have hh : B = B' := by simpa using hh
  subst hh
  exact t2
def LoomS.last (s : LoomS) (f : Frm) : LoomS := { s with frames := s.frames.dropLast ++ [f] }
theorem last_eq {s : LoomS} {fs : List Frm} {f f' : Frm} (es : s.frames = fs ++ [f]) : s.last f' = { s with frames := fs ++ [f'] } := by
  unfold LoomS.last
  rw [es, List.dropLast_concat]
/-- a handler is called for the innermost event -/
def LoomS.callM (s : LoomS) (f : Frm) (x : Str) (h : Hnd) : LoomS :=
  let s2 := (s.last { f with deeds := h.deeds, place := 0 }).logd (.call f.number x)
  if h.once then s2.go x else s2
def frmNs : List Str := ["number", "called", "deeds", "place"]
theorem ff_no {f : Frm} {lc dq : Addr} {m : Str} (h : m ∉ frmNs) : (frmFs f lc dq).lookup m = none := look_no h
end Ev
namespace Ev
open PySem L2
def top (i : Nat) : Stmt := PySem.Challenge.pw_eventloom_k13_tale.main.body.getD i (.Pass ⟨0, 0, 0, 0⟩)
abbrev s_begun : Stmt := top 1
abbrev nm_begun : List Str := ["log", "row"]
theorem sc_begun : FnScope nm_begun ["log"] (defScope s_begun) := ⟨rfl, rfl, rfl, by decide +kernel, rfl, by decide +kernel, by decide +kernel⟩
abbrev s_inside : Stmt := top 2
abbrev nm_inside : List Str := ["log", "found", "around", "row"]
theorem sc_inside : FnScope nm_inside ["log"] (defScope s_inside) := ⟨rfl, rfl, rfl, by decide +kernel, rfl, by decide +kernel, by decide +kernel⟩
abbrev s_turns : Stmt := top 3
abbrev nm_turns : List Str := ["log", "found", "number", "outer"]
theorem sc_turns : FnScope nm_turns ["log"] (defScope s_turns) := ⟨rfl, rfl, rfl, by decide +kernel, rfl, by decide +kernel, by decide +kernel⟩
abbrev s_drawn : Stmt := top 4
abbrev nm_drawn : List Str := ["log", "events", "found", "deep", "row"]
theorem sc_drawn : FnScope nm_drawn ["log", "events"] (defScope s_drawn) := ⟨rfl, rfl, rfl, by decide +kernel, rfl, by decide +kernel, by decide +kernel⟩
abbrev s_ltoldAt : Stmt := top 6
abbrev nm_ltoldAt : List Str := ["_law_script", "_law_place"]
theorem sc_ltoldAt : FnScope nm_ltoldAt ["_law_script", "_law_place"] (defScope s_ltoldAt) := ⟨rfl, rfl, rfl, by decide +kernel, rfl, by decide +kernel, by decide +kernel⟩
abbrev s_lwordBy : Stmt := top 7
abbrev nm_lwordBy : List Str := ["_law_cell", "_law_letters", "_law_at"]
theorem sc_lwordBy : FnScope nm_lwordBy ["_law_cell"] (defScope s_lwordBy) := ⟨rfl, rfl, rfl, by decide +kernel, rfl, by decide +kernel, by decide +kernel⟩
abbrev s_lrow : Stmt := top 8
abbrev nm_lrow : List Str := ["_law_own", "_law_cell", "_law_around", "_law_kind", "_law_number", "_law_word", "_law_outer", "_law_name", "_law_some"]
theorem sc_lrow : FnScope nm_lrow ["_law_own", "_law_cell"] (defScope s_lrow) := ⟨rfl, rfl, rfl, by decide +kernel, rfl, by decide +kernel, by decide +kernel⟩
abbrev s_law : Stmt := top 9
abbrev nm_law : List Str := ["_law_script", "_law_own", "_law_log", "_law_given", "_law_events", "_law_first", "_law_second", "_law_third", "_law_rows", "_law_found", "_law_cell", "_law_row_here"]
theorem sc_law : FnScope nm_law ["_law_script"] (defScope s_law) := ⟨rfl, rfl, rfl, by decide +kernel, rfl, by decide +kernel, by decide +kernel⟩
structure Tx (K : PySem.W.Frag) (mg : Str → Option Value) where
  f_begun : Addr
  d_begun : FuncData
  F_begun : Fun K "begun" "begun" s_begun f_begun d_begun
  b_begun : Binds K d_begun ["log"] []
  g_begun : mg "begun" = some (.ref f_begun)
  f_inside : Addr
  d_inside : FuncData
  F_inside : Fun K "inside" "inside" s_inside f_inside d_inside
  b_inside : Binds K d_inside ["log"] []
  g_inside : mg "inside" = some (.ref f_inside)
  f_turns : Addr
  d_turns : FuncData
  F_turns : Fun K "turns" "turns" s_turns f_turns d_turns
  b_turns : Binds K d_turns ["log"] []
  g_turns : mg "turns" = some (.ref f_turns)
  f_drawn : Addr
  d_drawn : FuncData
  F_drawn : Fun K "drawn" "drawn" s_drawn f_drawn d_drawn
  b_drawn : Binds K d_drawn ["log", "events"] []
  g_drawn : mg "drawn" = some (.ref f_drawn)
  f_ltoldAt : Addr
  d_ltoldAt : FuncData
  F_ltoldAt : Fun K "_law_told_at" "_law_told_at" s_ltoldAt f_ltoldAt d_ltoldAt
  b_ltoldAt : Binds K d_ltoldAt ["_law_script", "_law_place"] []
  g_ltoldAt : mg "_law_told_at" = some (.ref f_ltoldAt)
  f_lwordBy : Addr
  d_lwordBy : FuncData
  F_lwordBy : Fun K "_law_word_by" "_law_word_by" s_lwordBy f_lwordBy d_lwordBy
  b_lwordBy : Binds K d_lwordBy ["_law_cell"] []
  g_lwordBy : mg "_law_word_by" = some (.ref f_lwordBy)
  f_lrow : Addr
  d_lrow : FuncData
  F_lrow : Fun K "_law_row" "_law_row" s_lrow f_lrow d_lrow
  b_lrow : Binds K d_lrow ["_law_own", "_law_cell"] []
  g_lrow : mg "_law_row" = some (.ref f_lrow)
  f_law : Addr
  d_law : FuncData
  F_law : Fun K "law" "law" s_law f_law d_law
  b_law : Binds K d_law ["_law_script"] []
  g_law : mg "law" = some (.ref f_law)
  z_str : mg "str" = none
  z_len : mg "len" = none
  z_range : mg "range" = none
  z_list : mg "list" = none
  z_isinstance : mg "isinstance" = none
  z_all : mg "all" = none
end Ev
namespace Ev
open PySem L2
/-! ### data of any depth: what == reads -/
def okD (n : Nat) (d : PyData) : Prop := d.canLay0 = true ∧ d.depth ≤ n
theorem okD.mono {n m : Nat} {d : PyData} (h : okD n d) (l : n ≤ m) : okD m d := ⟨h.1, Nat.le_trans h.2 l⟩
theorem okD.sh {n : Nat} {d : PyData} (h : okD n d) (l : n ≤ 64 := by decide) : SeqAt.shaped d = true := by
  show (d.canLay0 && decide (d.depth ≤ 64)) = true
  rw [Bool.and_eq_true]
  exact ⟨h.1, decide_eq_true (Nat.le_trans h.2 l)⟩
theorem okD.rfl {n : Nat} {d : PyData} (h : okD n d) : PyData.eqv d d = true := SeqAt.eqv_refl d h.1
def strOkT (x : Str) : Prop := PyData.strOk x = true
theorem ok_int (i : Int) : okD 0 (.int i) := by simp [okD, PyData.canLay0, PyData.depth]
theorem ok_non : okD 0 .none := by simp [okD, PyData.canLay0, PyData.depth]
theorem ok_bl (b : Bool) : okD 0 (.bool b) := by simp [okD, PyData.canLay0, PyData.depth]
theorem ok_str {x : Str} (h : strOkT x) : okD 0 (.str x) := by
  refine ⟨?_, by simp [PyData.depth]⟩
  unfold PyData.canLay0
  exact h
theorem okAll {n : Nat} : ∀ {ds : List PyData}, (∀ d ∈ ds, okD n d) → PyData.canLayAll0 ds = true ∧ PyData.depthAll ds ≤ n
  | [], _ => ⟨by simp [PyData.canLayAll0], by simp [PyData.depthAll]⟩
  | d :: ds, h => by
    obtain ⟨h1, h2⟩ := okAll (ds := ds) fun x hx => h x (List.mem_cons_of_mem _ hx)
    obtain ⟨h3, h4⟩ := h d (List.mem_cons_self ..)
    constructor
    · rw [PyData.canLayAll0, h3, h1]
      all_goals rfl
    · simp only [PyData.depthAll]
      omega
theorem ok_lst {n : Nat} {ds : List PyData} (h : ∀ d ∈ ds, okD n d) : okD (n + 1) (.list ds) := by
  obtain ⟨h1, h2⟩ := okAll h
  refine ⟨by rw [PyData.canLay0]; exact h1, ?_⟩
  simp only [PyData.depth]
  omega
theorem ok_tup {n : Nat} {ds : List PyData} (h : ∀ d ∈ ds, okD n d) : okD (n + 1) (.tuple ds) := by
  obtain ⟨h1, h2⟩ := okAll h
  refine ⟨by rw [PyData.canLay0]; exact h1, ?_⟩
  simp only [PyData.depth]
  omega
theorem ok_cons {n : Nat} {d : PyData} {ds : List PyData} (h : okD n d) (t : ∀ x ∈ ds, okD n x) : ∀ x ∈ d :: ds, okD n x := fun x hx => (List.mem_cons.mp hx).elim (fun e => e ▸ h) (t x)
theorem ok_nil {n : Nat} : ∀ x ∈ ([] : List PyData), okD n x := fun _ h => nomatch h
section
variable {K : PySem.W.Frag} {H : Hp}
theorem dp_all {α : Type} {R : V → α → Prop} {f : α → PyData} (h : ∀ v d, R v d → Dp K H v (f d)) : ∀ {xs : List V} {ds : List α}, Paired R xs ds → DpAll K H xs (ds.map f)
  | _, _, .nil => .nil
  | _, _, .cons r t => .cons (h _ _ r) (dp_all h t)
theorem dp_lst {α : Type} {R : V → α → Prop} {f : α → PyData} (h : ∀ v d, R v d → Dp K H v (f d)) {a : Addr} {xs : List V} {ds : List α} (ha : H a = some (.lst xs)) (p : Paired R xs ds) : Dp K H (.ref a) (.list (ds.map f)) := .lst (SqL.of ha) (dp_all h p)
theorem dp_map {α : Type} {g : α → V} {f : α → PyData} (h : ∀ d, Dp K H (g d) (f d)) : ∀ ds : List α, DpAll K H (ds.map g) (ds.map f)
  | [] => .nil
  | d :: ds => .cons (h d) (dp_map h ds)
theorem dp_lmap {α : Type} {g : α → V} {f : α → PyData} (h : ∀ d, Dp K H (g d) (f d)) {a : Addr} {ds : List α} (ha : H a = some (.lst (ds.map g))) : Dp K H (.ref a) (.list (ds.map f)) := .lst (SqL.of ha) (dp_map h ds)
theorem dp_ints {a : Addr} {ns : List Nat} (ha : H a = some (.lst (ns.map nV))) : Dp K H (.ref a) (.list (ns.map fun (n : Nat) => .int (n : Int))) := dp_lmap (fun n => .int _) ha
theorem dp_strs {a : Addr} {ns : List Str} (ha : H a = some (.lst (ns.map V.str))) : Dp K H (.ref a) (.list (ns.map .str)) := dp_lmap (fun n => .str _) ha
theorem neF {p : Prop} [Decidable p] (h : p) : (!decide p) = false := by simp [h]
theorem Pd.last {α : Type} {R : V → α → Prop} {xs : List V} {ds : List α} {d : α} (p : Paired R xs ds) (h : ds.getLast? = some d) : ∃ v, xs.getLast? = some v ∧ R v d := by
  rw [List.getLast?_eq_getElem?] at h
  have l := Pd.len p
  have hl : ds.length - 1 < ds.length := (List.getElem?_eq_some_iff.mp h).1
  have hx : xs.length - 1 < xs.length := by omega
  obtain ⟨d', e, r⟩ := Pd.at p (List.getElem?_eq_getElem hx)
  rw [l, h] at e
  cases e
  exact ⟨_, by rw [List.getLast?_eq_getElem?]; exact List.getElem?_eq_getElem hx, r⟩
theorem dp_on (o : Option Nat) : Dp K H (onV o) (match o with | none => .none | some n => .int (n : Int)) := by
  cases o
  · exact .non
  · exact .int _
end
theorem ok_ints (ns : List Nat) : okD 1 (.list (ns.map fun (n : Nat) => .int (n : Int))) := ok_lst fun d hd => by
  obtain ⟨n, _, rfl⟩ := List.mem_map.mp hd
  exact ok_int _
theorem ok_intsT (ns : List Nat) : okD 1 (.tuple (ns.map fun (n : Nat) => .int (n : Int))) := ok_tup fun d hd => by
  obtain ⟨n, _, rfl⟩ := List.mem_map.mp hd
  exact ok_int _
theorem ok_strs {ns : List Str} (h : ∀ x ∈ ns, strOkT x) : okD 1 (.list (ns.map .str)) := ok_lst fun d hd => by
  obtain ⟨n, q, rfl⟩ := List.mem_map.mp hd
  exact ok_str (h n q)
/-! ### rows and events -/
def Row.restD : Row → List PyData
  | .send n => [.int n] | .begin n t => [.int n, .int t] | .call n x => [.int n, .str x] | .make m n => [.int m, .int n] | .cancel n ns => [.int n, .tuple (ns.map fun (n : Nat) => .int (n : Int))]
  | .join n x => [.int n, .str x] | .leave n x => [.int n, .str x] | .hush n => [.int n] | .fin n => [.int n]
def Row.dat (r : Row) : PyData := .tuple (.str r.tag :: r.restD)
/-- the texts of a row are texts -/
def Row.txt : Row → Prop
  | .call _ x => strOkT x | .join _ x => strOkT x | .leave _ x => strOkT x | _ => True
theorem row_dp {K : PySem.W.Frag} {H : Hp} {v : V} {r : Row} (h : RowAt H v r) : Dp K H v r.dat := by
  obtain ⟨p, q, rfl, h1, h2⟩ := h
  refine .tup (SqT.of h1) (.cons (.str _) ?_)
  cases r <;> simp only [Row.rest, Row.restD, nV] <;> first | exact .cons (.int _) .nil | exact .cons (.int _) (.cons (.int _) .nil) | exact .cons (.int _) (.cons (.str _) .nil) | skip
  exact .cons (.int _) (.cons (.tup (SqT.of h2) (dp_map (fun n => .int _) _)) .nil)
theorem tag_ok (r : Row) : strOkT r.tag := by cases r <;> simp only [Row.tag] <;> unfold strOkT <;> decide +kernel
theorem row_ok {r : Row} (h : r.txt) : okD 2 r.dat := by
  refine ok_tup (ok_cons ((ok_str (tag_ok r)).mono (by decide)) ?_)
  cases r with
  | send n => exact ok_cons ((ok_int _).mono (by decide)) ok_nil
  | hush n => exact ok_cons ((ok_int _).mono (by decide)) ok_nil
  | fin n => exact ok_cons ((ok_int _).mono (by decide)) ok_nil
  | begin n t => exact ok_cons ((ok_int _).mono (by decide)) (ok_cons ((ok_int _).mono (by decide)) ok_nil)
  | make n t => exact ok_cons ((ok_int _).mono (by decide)) (ok_cons ((ok_int _).mono (by decide)) ok_nil)
  | call n x => exact ok_cons ((ok_int _).mono (by decide)) (ok_cons ((ok_str h).mono (by decide)) ok_nil)
  | join n x => exact ok_cons ((ok_int _).mono (by decide)) (ok_cons ((ok_str h).mono (by decide)) ok_nil)
  | leave n x => exact ok_cons ((ok_int _).mono (by decide)) (ok_cons ((ok_str h).mono (by decide)) ok_nil)
  | cancel n ns => exact ok_cons ((ok_int _).mono (by decide)) (ok_cons (ok_intsT ns) ok_nil)
theorem rows_dp {K : PySem.W.Frag} {H : Hp} {a : Addr} {rs : List Row} (h : LstAt RowAt H a rs) : Dp K H (.ref a) (.list (rs.map Row.dat)) := by
  obtain ⟨xs, ha, hx⟩ := h
  exact dp_lst (fun _ _ q => row_dp q) ha hx
theorem rows_ok {rs : List Row} (h : ∀ r ∈ rs, r.txt) : okD 3 (.list (rs.map Row.dat)) := ok_lst fun d hd => by
  obtain ⟨r, q, rfl⟩ := List.mem_map.mp hd
  exact row_ok (h r q)
def onD : Option Nat → PyData | none => .none | some n => .int (n : Int)
def Evt.dat (e : Evt) : PyData := .tuple [.str e.word, onD e.maker, .str e.road.str, .int e.due]
theorem onD_ok (o : Option Nat) : okD 0 (onD o) := by
  cases o
  · exact ok_non
  · exact ok_int _
theorem onD_dp {K : PySem.W.Frag} {H : Hp} (o : Option Nat) : Dp K H (onV o) (onD o) := by
  cases o
  · exact .non
  · exact .int _
theorem evt_dp {K : PySem.W.Frag} {H : Hp} {v : V} {e : Evt} (h : EvtAt H v e) : Dp K H v e.dat := by
  obtain ⟨p, rfl, h1⟩ := h
  exact .tup (SqT.of h1) (.cons (.str _) (.cons (onD_dp _) (.cons (.str _) (.cons (.int _) .nil))))
theorem road_ok (r : Road) : strOkT r.str := by cases r <;> simp only [Road.str] <;> unfold strOkT <;> decide +kernel
theorem evt_ok {e : Evt} (h : strOkT e.word) : okD 1 e.dat :=
  ok_tup (ok_cons (ok_str h) (ok_cons (onD_ok _) (ok_cons (ok_str (road_ok _)) (ok_cons (ok_int _) ok_nil))))
theorem evts_dp {K : PySem.W.Frag} {H : Hp} {a : Addr} {es : List Evt} (h : LstAt EvtAt H a es) : Dp K H (.ref a) (.list (es.map Evt.dat)) := by
  obtain ⟨xs, ha, hx⟩ := h
  exact dp_lst (fun _ _ q => evt_dp q) ha hx
theorem evts_ok {es : List Evt} (h : ∀ e ∈ es, strOkT e.word) : okD 2 (.list (es.map Evt.dat)) := ok_lst fun d hd => by
  obtain ⟨r, q, rfl⟩ := List.mem_map.mp hd
  exact evt_ok (h r q)
end Ev
namespace Ev
open PySem L2
/-! ### texts of letters -/
def ofL (cs : List Nat) : Str := ⟨cs.toArray⟩
theorem ofL_list (cs : List Nat) : (ofL cs).cps.toList = cs := rfl
theorem ofL_len (cs : List Nat) : (ofL cs).length = cs.length := rfl
theorem str_list (x : Str) : ofL x.cps.toList = x := rfl
theorem str_eq {x y : Str} (h : x.cps.toList = y.cps.toList) : x = y := by
  rw [← str_list x, ← str_list y, h]
theorem app_list (x y : Str) : (x ++ y).cps.toList = x.cps.toList ++ y.cps.toList := by
  show (x.cps ++ y.cps).toList = _
  simp
def abc : Str := "abcdefghijklmnopqrstuvwxyz"
theorem abc_nat : ∀ n < 26, abc.cps.toList[n]? = some (97 + n) := by decide +kernel
theorem abc_len : abc.length = 26 := by decide +kernel
theorem abc_at {i : Int} (h0 : 0 ≤ i) (h : i < 26) : atI abc.cps.toList i = some (97 + i.toNat) := by
  obtain ⟨n, rfl⟩ := Int.eq_ofNat_of_zero_le h0
  exact atI_nat (abc_nat n (by omega))
theorem joinL_nil : ∀ cs : List Nat, TL.joinL [] (cs.map fun c => [c]) = cs
  | [] => rfl
  | [c] => rfl
  | c :: d :: r => by
    have ih := joinL_nil (d :: r)
    show [c] ++ ([] ++ TL.joinL [] ((d :: r).map fun c => [c])) = _
    rw [ih]
    rfl
theorem join_letters (cs : List Nat) : Txt.join "" (cs.map fun c => (⟨#[c]⟩ : Str)) = ofL cs := by
  have e := TL.tl_join ("" : Str) (cs.map fun c => (⟨#[c]⟩ : Str))
  have e0 : TL.tl ("" : Str) = [] := by decide +kernel
  have e1 : (cs.map fun c => (⟨#[c]⟩ : Str)).map TL.tl = cs.map fun c => [c] := by
    rw [List.map_map]
    rfl
  rw [e0, e1, joinL_nil] at e
  have e2 := (congrArg TL.tl (TL.join_eq ("" : Str) (cs.map fun c => (⟨#[c]⟩ : Str)))).trans e
  exact str_eq e2
theorem sum_ones : ∀ cs : List Nat, ((cs.map fun c => (⟨#[c]⟩ : Str)).map fun x => x.length).sum = cs.length
  | [] => rfl
  | c :: cs => by
    rw [List.map_cons, List.map_cons, List.sum_cons, sum_ones cs, List.length_cons]
    show 1 + cs.length = cs.length + 1
    omega
theorem okT_letters {cs : List Nat} (h : ∀ c ∈ cs, 97 ≤ c ∧ c ≤ 122) : strOkT (ofL cs) := by
  unfold strOkT PyData.strOk
  rw [← Array.all_toList, List.all_eq_true]
  intro c hc
  have := h c hc
  simp
  omega
end Ev
namespace Ev
open PySem L2
section
variable {P : Program} {w : World} {K : PySem.W.Frag} {mg : Str → Option Value} {base : Heap}
def sp_ltoldAt (K : PySem.W.Frag) : Sp := fun vs H Q _ => ∃ (a : Addr) (ns : List Int) (i : Nat), vs = [.ref a, nV i] ∧ SqL K H a (ns.map V.int) ∧ Q (.int (ns.getD i 0)) H
theorem ok_ltoldAt (T : Tx K mg) : FnOk P w K mg base CX0 1 T.f_ltoldAt T.d_ltoldAt ["_law_script", "_law_place"] (sp_ltoldAt K) := by
  refine T.F_ltoldAt.ok sc_ltoldAt (by walk_at "len") (fun cdv A outer s H vs Q E hr h => ?_)
  obtain ⟨a, ns, i, rfl, ha, k⟩ := h
  refine ⟨_, (pss_cons (ps_if (pt_cmpR op_ge (pv 1) (pe_callB (kLen K) (by rfl) T.z_len PySem.boot_len (pa_cons (pv 0) pa_nil)) (nomark _))
        (pss_one (ps_ret pe_int))
        pss_nil)
    (pss_one (ps_ret (pe_ix (kIxL K) (pv 0) (pv 1) (fun _ _ => rfl))))), ?_⟩
  refine ⟨_, rfl, _, rfl, a, _, rfl, .inl ha, _, _, rfl, rfl, _, rfl, ite2 (fun hc => ?_) (fun hc => ?_)⟩
  · have e : ns.getD i 0 = 0 := by
      have h1 := of_decide_eq_true hc
      rw [List.length_map] at h1
      rw [List.getD_eq_getElem?_getD, List.getElem?_eq_none (by omega)]
      rfl
    rw [e] at k
    exact k
  · have h1 : ¬ _ := fun q => hc (decide_eq_true q)
    rw [List.length_map] at h1
    have h2 : i < ns.length := by omega
    refine ⟨_, rfl, _, rfl, a, _, _, V.int (ns.getD i 0), rfl, rfl, ha, atI_nat ?_, k⟩
    rw [List.getElem?_map, List.getElem?_eq_getElem h2, List.getD_eq_getElem?_getD, List.getElem?_eq_getElem h2]
    rfl
end
end Ev
namespace Ev
open PySem L2
/-! ### the tale of a log: the plain law -/
theorem okT_app {x y : Str} (hx : strOkT x) (hy : strOkT y) : strOkT (x ++ y) := by
  unfold strOkT PyData.strOk at *
  show (x.cps ++ y.cps).all _ = true
  rw [Array.all_append, hx, hy]
  rfl
theorem okT_iff {x : Str} : strOkT x ↔ ∀ c ∈ x.cps.toList, c < 0x110000 := by
  unfold strOkT PyData.strOk
  rw [← Array.all_toList, List.all_eq_true]
  simp
theorem okT_rep {z : Str} (h : strOkT z) (n : Nat) : strOkT (repS z n) := by
  rw [okT_iff] at h ⊢
  rw [repS_list]
  intro c hc
  obtain ⟨l, hl, hcl⟩ := List.mem_flatten.mp hc
  rw [(List.mem_replicate.mp hl).2] at hcl
  exact h c hcl
theorem len_list (x : Str) : x.length = x.cps.toList.length := by
  show x.cps.size = _
  simp
theorem len_rep (z : Str) (n : Nat) : (repS z n).length = n * z.length := by
  rw [len_list, repS_list, List.length_flatten, List.map_replicate, List.sum_replicate_nat, ← len_list]
theorem len_app (x y : Str) : (x ++ y).length = x.length + y.length := by
  show (x.cps ++ y.cps).size = x.cps.size + y.cps.size
  exact Array.size_append
theorem num_ok : ∀ n < 100, PyData.strOk (Str.ofString (toString ((n : Nat) : Int))) = true ∧ (Str.ofString (toString ((n : Nat) : Int))).length ≤ 4 := by decide +kernel
def lineB (deep n : Nat) (w : Str) : Str := repS "  " deep ++ Str.ofString (toString (n : Int)) ++ " " ++ w
def lineC (deep : Nat) (x : Str) : Str := repS "  " deep ++ "- " ++ x
structure Tl where
  around : List Nat
  inside : List (Nat × Option Nat)
  drawn : List Str
def Tl.step (w : Nat → Str) (t : Tl) : Row → Tl
  | .begin n _ => ⟨t.around ++ [n], t.inside ++ [(n, t.around.getLast?)], t.drawn ++ [lineB t.around.length n (w n)]⟩
  | .fin _ => { t with around := t.around.dropLast }
  | .call _ x => { t with drawn := t.drawn ++ [lineC t.around.length x] }
  | _ => t
def tale (w : Nat → Str) (rows : List Row) : Tl := rows.foldl (Tl.step w) ⟨[], [], []⟩
theorem tale_snoc (w : Nat → Str) (rows : List Row) (r : Row) : tale w (rows ++ [r]) = (tale w rows).step w r := by
  unfold tale
  rw [List.foldl_append]
  rfl
theorem tale_w {w w' : Nat → Str} (rows : List Row) (h : ∀ n t, Row.begin n t ∈ rows → w n = w' n) : tale w rows = tale w' rows := by
  unfold tale
  generalize (⟨[], [], []⟩ : Tl) = t
  induction rows generalizing t with
  | nil => rfl
  | cons r rows ih =>
    rw [List.foldl_cons, List.foldl_cons]
    have e : t.step w r = t.step w' r := by
      cases r with
      | begin n u =>
        have e := h n u (List.mem_cons_self ..)
        simp only [Tl.step, e]
      | _ => rfl
    rw [e]
    exact ih (fun n u hm => h n u (List.mem_cons_of_mem _ hm)) _
/-- an end stands only where something is open -/
def Fit (w : Nat → Str) (rows : List Row) : Prop := ∀ pre k post, rows = pre ++ .fin k :: post → (tale w pre).around ≠ []
def addLast (ls : List (List Nat)) (n : Nat) : List (List Nat) := ls.dropLast ++ [(ls.getLast?.getD []) ++ [n]]
def turn1 (ls : List (List Nat)) (c : Nat × Option Nat) : List (List Nat) := match c.2 with
  | none => ls ++ [[c.1]]
  | some _ => addLast ls c.1
def turnsP (l : List (Nat × Option Nat)) : List (List Nat) := l.foldl turn1 []
theorem turns_snoc (l : List (Nat × Option Nat)) (c : Nat × Option Nat) : turnsP (l ++ [c]) = turn1 (turnsP l) c := by
  unfold turnsP
  rw [List.foldl_append]
  rfl
theorem addLast_ne (ls : List (List Nat)) (n : Nat) : addLast ls n ≠ [] := by simp [addLast]
theorem turn1_ne (ls : List (List Nat)) (c : Nat × Option Nat) : turn1 ls c ≠ [] := by
  unfold turn1
  split
  · simp
  · exact addLast_ne _ _
theorem turnsP_ne {l : List (Nat × Option Nat)} (h : l ≠ []) : turnsP l ≠ [] := by
  rcases List.eq_nil_or_concat l with rfl | ⟨m, c, rfl⟩
  · exact absurd rfl h
  · rw [List.concat_eq_append, turns_snoc]
    exact turn1_ne _ _
def begunM (rows : List Row) : List Nat := rows.filterMap fun r => match r with | .begin n _ => some n | _ => none
theorem begun_snoc (rows : List Row) (r : Row) : begunM (rows ++ [r]) = begunM rows ++ (match r with | .begin n _ => [n] | _ => []) := by
  unfold begunM
  rw [List.filterMap_append]
  cases r <;> rfl
/-- with who is around, something was begun -/
theorem tale_in (w : Nat → Str) : ∀ rows : List Row, (tale w rows).around ≠ [] → (tale w rows).inside ≠ [] := by
  intro rows
  induction h : rows.length generalizing rows with
  | zero =>
    rw [List.length_eq_zero_iff.mp h]
    intro q
    exact absurd rfl q
  | succ n ih =>
    rcases List.eq_nil_or_concat rows with rfl | ⟨m, r, rfl⟩
    · cases h
    · rw [List.concat_eq_append] at h ⊢
      rw [List.length_append] at h
      have i := ih m (by simpa using h)
      rw [tale_snoc]
      cases r with
      | begin n t => intro _; simp [Tl.step]
      | fin k =>
        intro q
        refine i fun z => q ?_
        show (tale w m).around.dropLast = []
        rw [z]
        rfl
      | _ => exact i
theorem tale_len (w : Nat → Str) : ∀ n (rows : List Row), rows.length = n → (tale w rows).inside.length ≤ n ∧ (tale w rows).around.length ≤ n ∧ (tale w rows).drawn.length ≤ n := by
  intro n
  induction n with
  | zero =>
    intro rows h
    rw [List.length_eq_zero_iff.mp h]
    exact ⟨Nat.le_refl _, Nat.le_refl _, Nat.le_refl _⟩
  | succ n ih =>
    intro rows h
    rcases List.eq_nil_or_concat rows with rfl | ⟨m, r, rfl⟩
    · cases h
    · rw [List.concat_eq_append] at h ⊢
      rw [List.length_append] at h
      obtain ⟨i1, i2, i3⟩ := ih m (by simpa using h)
      rw [tale_snoc]
      cases r <;> simp [Tl.step] <;> omega
theorem last_on (l : List Nat) : (V.non :: l.map nV).getLast? = some (onV l.getLast?) := by
  rcases List.eq_nil_or_concat l with rfl | ⟨m, x, rfl⟩
  · rfl
  · rw [List.concat_eq_append, List.map_append]
    have e : V.non :: (m.map nV ++ [x].map nV) = (V.non :: m.map nV) ++ [nV x] := rfl
    rw [e, List.getLast?_concat, List.getLast?_concat]
    rfl
theorem drop_on {l : List Nat} (h : l ≠ []) : (V.non :: l.map nV).dropLast = V.non :: l.dropLast.map nV := by
  rcases List.eq_nil_or_concat l with rfl | ⟨m, x, rfl⟩
  · exact absurd rfl h
  · rw [List.concat_eq_append, List.map_append]
    have e : V.non :: (m.map nV ++ [x].map nV) = (V.non :: m.map nV) ++ [nV x] := rfl
    rw [e, List.dropLast_concat, List.dropLast_concat]
def PairAt (H : Hp) (v : V) (c : Nat × Option Nat) : Prop := ∃ p, v = .ref p ∧ H p = some (.tup [nV c.1, onV c.2])
theorem pairStb : Stb PairAt := fun _ _ _ _ k h => by
  obtain ⟨p, e, h⟩ := h
  exact ⟨p, e, k _ _ h⟩
theorem lg_ok : ∀ n < 100, ((n : Nat) : Int).natAbs.log2 < 1920 := by decide +kernel
/-! a list of lists of numbers, each of its own -/
def LAt (H : Hp) (v : V) (l : List Nat) : Prop := ∃ a, v = .ref a ∧ H a = some (.lst (l.map nV))
structure LL (H : Hp) (r : Addr) (as : List Addr) (ls : List (List Nat)) : Prop where
  nd : (r :: as).Nodup
  r : H r = some (.lst (as.map V.ref))
  p : Paired (LAt H) (as.map V.ref) ls
theorem LL.len {H : Hp} {r : Addr} {as : List Addr} {ls : List (List Nat)} (h : LL H r as ls) : as.length = ls.length := by simpa using Pd.len h.p
theorem pd_at {H H' : Hp} : ∀ {as : List Addr} {ls : List (List Nat)}, Paired (LAt H) (as.map V.ref) ls → (∀ a ∈ as, ∀ o, H a = some o → H' a = some o) → Paired (LAt H') (as.map V.ref) ls
  | [], _, h, _ => by
    cases h
    exact .nil
  | a :: as, _, h, k => by
    cases h with
    | cons h t =>
      obtain ⟨b, e, hb⟩ := h
      cases e
      exact .cons ⟨a, rfl, k a (List.mem_cons_self ..) _ hb⟩ (pd_at t fun x hx => k x (List.mem_cons_of_mem _ hx))
theorem LL.kp {H H' : Hp} {r : Addr} {as : List Addr} {ls : List (List Nat)} (h : LL H r as ls) {M : List Addr} (k : Kp M H H') (n : ∀ x ∈ r :: as, x ∉ M) : LL H' r as ls :=
  ⟨h.nd, k.keep _ _ (n r (List.mem_cons_self ..)) h.r, pd_at h.p fun a ha o e => k.keep _ _ (n a (List.mem_cons_of_mem _ ha)) e⟩
theorem LL.has {H : Hp} {r : Addr} {as : List Addr} {ls : List (List Nat)} (h : LL H r as ls) : ∀ x ∈ r :: as, H x ≠ none := fun x hx q => by
  rcases List.mem_cons.mp hx with rfl | hx
  · rw [h.r] at q; cases q
  · obtain ⟨i, hi⟩ := List.getElem?_of_mem hx
    obtain ⟨l, _, b, e, hb⟩ := Pd.at h.p (i := i) (x := .ref x) (by rw [List.getElem?_map, hi]; rfl)
    cases e
    rw [hb] at q; cases q
theorem LL.push {H : Hp} {r q : Addr} {as : List Addr} {ls : List (List Nat)} (h : LL H r as ls) (n : Nat) (hq : H q = none) : LL (upd (upd H q (.lst [nV n])) r (.lst (as.map V.ref ++ [.ref q]))) r (as ++ [q]) (ls ++ [[n]]) := by
  have nq : q ∉ r :: as := fun z => h.has q z hq
  have nqr : q ≠ r := fun e => nq (e ▸ List.mem_cons_self ..)
  have nd := List.nodup_cons.mp h.nd
  refine ⟨?_, by rw [upd_same, List.map_append]; rfl, ?_⟩
  · have p : (r :: (as ++ [q])).Perm (q :: (r :: as)) := by
      rw [← List.cons_append]
      exact List.perm_append_comm (l₁ := r :: as) (l₂ := [q])
    exact p.nodup_iff.mpr (List.nodup_cons.mpr ⟨nq, h.nd⟩)
  · rw [List.map_append]
    refine Pd.append (pd_at h.p fun a ha o e => ?_) (.cons ⟨q, rfl, ?_⟩ .nil)
    · rw [upd_ne (show a ≠ r from fun z => nd.1 (z ▸ ha)), upd_ne (show a ≠ q from fun z => nq (z ▸ List.mem_cons_of_mem _ ha))]
      exact e
    · rw [upd_ne nqr, upd_same]
      rfl
theorem LL.last {H : Hp} {r : Addr} {as : List Addr} {ls : List (List Nat)} (h : LL H r as ls) (ne : ls ≠ []) (n : Nat) : ∃ b, as.getLast? = some b ∧ b ∈ as ∧ H b = some (.lst ((ls.getLast?.getD []).map nV)) ∧
    LL (upd H b (.lst ((ls.getLast?.getD []).map nV ++ [nV n]))) r as (addLast ls n) := by
  rcases List.eq_nil_or_concat ls with rfl | ⟨ms, m, rfl⟩
  · exact absurd rfl ne
  rw [List.concat_eq_append] at h ⊢
  have hl := h.len
  rcases List.eq_nil_or_concat as with rfl | ⟨bs, b, rfl⟩
  · simp at hl
  rw [List.concat_eq_append] at h hl ⊢
  have nd := h.nd
  have p := h.p
  rw [List.map_append] at p
  have lb : (bs.map V.ref).length = ms.length := by simpa using hl
  have p1 := Pd.take ms.length p
  have p2 := Pd.drop ms.length p
  rw [← lb, List.take_left', lb, List.take_left'] at p1
  rw [← lb, List.drop_left', lb, List.drop_left'] at p2
  all_goals try rfl
  cases p2 with
  | cons q _ =>
    obtain ⟨b', e, hb⟩ := q
    cases e
    have nd2 := List.nodup_cons.mp nd
    have nb : b ∉ bs := fun z => (List.nodup_append.mp nd2.2).2.2 b z b (by simp) rfl
    have nr : r ≠ b := fun z => nd2.1 (by rw [z]; simp)
    refine ⟨b, by simp, by simp, by simpa using hb, nd, ?_, ?_⟩
    · rw [upd_ne nr]
      exact h.r
    · rw [List.map_append]
      unfold addLast
      rw [List.dropLast_concat, List.getLast?_concat]
      refine Pd.append (pd_at p1 fun a ha o e => ?_) (.cons ⟨b, rfl, ?_⟩ .nil)
      · rw [upd_ne (show a ≠ b from fun z => nb (z ▸ ha))]
        exact e
      · rw [upd_same, Option.getD_some, List.map_append]
        rfl
theorem LL.dp {K : PySem.W.Frag} {H : Hp} {r : Addr} {as : List Addr} {ls : List (List Nat)} (h : LL H r as ls) : Dp K H (.ref r) (.list (ls.map fun l => .list (l.map fun (n : Nat) => .int (n : Int)))) :=
  .lst (SqL.of h.r) (dp_all (fun v l q => by
    obtain ⟨a, rfl, ha⟩ := q
    exact dp_ints ha) h.p)
theorem ll_ok (ls : List (List Nat)) : okD 2 (.list (ls.map fun l => .list (l.map fun (n : Nat) => .int (n : Int)))) := ok_lst fun d hd => by
  obtain ⟨l, _, rfl⟩ := List.mem_map.mp hd
  exact ok_ints l
theorem tale_first (w : Nat → Str) : ∀ n (rows : List Row), rows.length = n → ∀ c rest, (tale w rows).inside = c :: rest → c.2 = none := by
  intro n
  induction n with
  | zero =>
    intro rows h c rest e
    rw [List.length_eq_zero_iff.mp h] at e
    cases e
  | succ n ih =>
    intro rows h c rest e
    rcases List.eq_nil_or_concat rows with rfl | ⟨m, r, rfl⟩
    · cases h
    · rw [List.concat_eq_append] at h e
      rw [List.length_append] at h
      have hm : m.length = n := by simpa using h
      rw [tale_snoc] at e
      cases r with
      | begin k t =>
        have e : (tale w m).inside ++ [(k, (tale w m).around.getLast?)] = c :: rest := e
        cases hi : (tale w m).inside with
        | nil =>
          rw [hi] at e
          have ha : (tale w m).around = [] := Classical.byContradiction fun q => tale_in w m q hi
          rw [ha] at e
          cases e
          rfl
        | cons c2 r2 =>
          rw [hi] at e
          cases e
          exact ih m hm _ _ hi
      | _ => exact ih m hm c rest e
theorem turns_len : ∀ n (l : List (Nat × Option Nat)), l.length = n → (turnsP l).length ≤ n ∧ ((turnsP l).getLast?.getD []).length ≤ n := by
  intro n
  induction n with
  | zero =>
    intro l h
    rw [List.length_eq_zero_iff.mp h]
    exact ⟨Nat.le_refl _, Nat.le_refl _⟩
  | succ n ih =>
    intro l h
    rcases List.eq_nil_or_concat l with rfl | ⟨m, c, rfl⟩
    · cases h
    · rw [List.concat_eq_append] at h ⊢
      rw [List.length_append] at h
      obtain ⟨i1, i2⟩ := ih m (by simpa using h)
      rw [turns_snoc]
      unfold turn1
      split
      · simp
        omega
      · unfold addLast
        rw [List.getLast?_concat, List.length_append, List.length_dropLast, Option.getD_some, List.length_append]
        exact ⟨by simp; omega, by simp; omega⟩
end Ev
namespace Ev
open PySem L2
/-! ### the law's own book: a dict of six lists -/
structure OwA where
  d : Addr
  ar : Addr
  ev : Addr
  bg : Addr
  ins : Addr
  tu : Addr
  dr : Addr
  as : List Addr
structure Bk where
  around : List Nat
  evs : List Evt
  begun : List Nat
  inside : List (Nat × Option Nat)
  turns : List (List Nat)
  drawn : List Str
def OwA.six (A : OwA) : List Addr := [A.ar, A.ev, A.bg, A.ins, A.dr, A.tu]
def OwA.cells (A : OwA) : List Addr := A.six ++ A.as
def OwA.to (A : OwA) (as : List Addr) : OwA := { A with as := as }
def ownK (A : OwA) : List (Key × V) := [(Sum.inr "around", .ref A.ar), (Sum.inr "events", .ref A.ev), (Sum.inr "begun", .ref A.bg), (Sum.inr "inside", .ref A.ins), (Sum.inr "turns", .ref A.tu), (Sum.inr "drawn", .ref A.dr)]
structure BkAt (H : Hp) (A : OwA) (b : Bk) : Prop where
  nd : A.cells.Nodup
  dn : A.d ∉ A.cells
  d : H A.d = some (.dK (ownK A))
  ar : H A.ar = some (.lst (b.around.map nV))
  ev : LstAt EvtAt H A.ev b.evs
  bg : H A.bg = some (.lst (b.begun.map nV))
  ins : LstAt PairAt H A.ins b.inside
  dr : H A.dr = some (.lst (b.drawn.map V.str))
  tu : LL H A.tu A.as b.turns
theorem BkAt.has {H : Hp} {A : OwA} {b : Bk} (B : BkAt H A b) : ∀ x ∈ A.cells, H x ≠ none := fun x hx q => by
  obtain ⟨_, e1, _⟩ := B.ev
  obtain ⟨_, e2, _⟩ := B.ins
  rcases List.mem_append.mp hx with hx | hx
  · simp only [OwA.six, List.mem_cons, List.not_mem_nil, or_false] at hx
    rcases hx with rfl | rfl | rfl | rfl | rfl | rfl
    · rw [B.ar] at q; cases q
    · rw [e1] at q; cases q
    · rw [B.bg] at q; cases q
    · rw [e2] at q; cases q
    · rw [B.dr] at q; cases q
    · rw [B.tu.r] at q; cases q
  · exact B.tu.has x (List.mem_cons_of_mem _ hx) q
/-- all kept but M -/
theorem BkAt.kp {H H' : Hp} {A : OwA} {b : Bk} (B : BkAt H A b) {M : List Addr} (k : Kp M H H') (n : ∀ x ∈ A.cells, x ∉ M) (nd : A.d ∉ M) : BkAt H' A b := by
  have s : ∀ x ∈ A.six, x ∉ M := fun x hx => n x (List.mem_append.mpr (.inl hx))
  obtain ⟨xs, e1, p1⟩ := B.ev
  obtain ⟨ys, e2, p2⟩ := B.ins
  exact ⟨B.nd, B.dn, k.keep _ _ nd B.d, k.keep _ _ (s _ (by simp [OwA.six])) B.ar, ⟨xs, k.keep _ _ (s _ (by simp [OwA.six])) e1, Pd.mono (fun _ _ => evtStb _ _ _ _ k.tk) p1⟩,
    k.keep _ _ (s _ (by simp [OwA.six])) B.bg, ⟨ys, k.keep _ _ (s _ (by simp [OwA.six])) e2, Pd.mono (fun _ _ => pairStb _ _ _ _ k.tk) p2⟩, k.keep _ _ (s _ (by simp [OwA.six])) B.dr,
    B.tu.kp k fun x hx => (List.mem_cons.mp hx).elim (fun e => e ▸ s _ (by simp [OwA.six])) fun h => n x (List.mem_append.mpr (.inr h))⟩
structure Bw (H : Hp) (A : OwA) (H' : Hp) (as : List Addr) (b : Bk) : Prop where
  l : BkAt H' (A.to as) b
  kp : Kp A.cells H H'
  sub : ∀ x ∈ as, x ∈ A.as ∨ H x = none
section
variable {H H' : Hp} {A : OwA} {as : List Addr} {b : Bk}
theorem Bw.refl (B : BkAt H A b) : Bw H A H A.as b := ⟨B, Kp.refl _ _, fun _ h => .inl h⟩
theorem Bw.kp0 {H2 : Hp} (W : Bw H A H' as b) (k : Kp [] H' H2) : Bw H A H2 as b := ⟨W.l.kp k (by simp) (by simp), W.kp.transM k (by simp), W.sub⟩
theorem Bw.new {q : Addr} {o : HO} (W : Bw H A H' as b) (h : H' q = none) : Bw H A (upd H' q o) as b := W.kp0 ((Kp.refl [] _).new h)
theorem six_ne (nd : (A.to as).cells.Nodup) (i j : Nat) {x y : Addr} (h : i ≠ j) (h1 : A.six[i]? = some x) (h2 : A.six[j]? = some y) : x ≠ y :=
  nd_ne (List.nodup_append.mp (show (A.six ++ as).Nodup from nd)).1 i j h h1 h2
theorem Bw.setAr (W : Bw H A H' as b) (xs : List Nat) : Bw H A (upd H' A.ar (.lst (xs.map nV))) as { b with around := xs } := by
  have B := W.l
  obtain ⟨us, e1, p1⟩ := B.ev
  obtain ⟨vs, e2, p2⟩ := B.ins
  have hc : A.ar ∈ A.cells := by simp [OwA.cells, OwA.six]
  have k : Kp [A.ar] H' (upd H' A.ar (.lst (xs.map nV))) := (Kp.refl _ _).lst (.inl (by simp)) B.ar
  have n : ∀ j y, j ≠ 0 → A.six[j]? = some y → y ∉ [A.ar] := fun j y h e => by simpa using six_ne B.nd j 0 h e rfl
  refine ⟨⟨B.nd, B.dn, k.keep _ _ (by simpa using fun e => B.dn (by rw [e]; exact List.mem_append.mpr (.inl (by simp [OwA.six, OwA.to])))) B.d, upd_same, ⟨us, k.keep _ _ (n 1 _ (by decide) rfl) e1, Pd.mono (fun _ _ => evtStb _ _ _ _ k.tk) p1⟩, k.keep _ _ (n 2 _ (by decide) rfl) B.bg, ⟨vs, k.keep _ _ (n 3 _ (by decide) rfl) e2, Pd.mono (fun _ _ => pairStb _ _ _ _ k.tk) p2⟩, k.keep _ _ (n 4 _ (by decide) rfl) B.dr,
    B.tu.kp k fun x hx => ?_⟩, W.kp.transM k (fun y hy => .inl (by rw [List.mem_singleton.mp hy]; exact hc)), W.sub⟩
  rcases List.mem_cons.mp hx with rfl | hx
  · exact n 5 _ (by decide) rfl
  · have := nd_neR (show (A.six ++ as).Nodup from B.nd) (a := A.ar) (by simp [OwA.six]) hx
    simpa using this.symm
theorem Bw.setEv (W : Bw H A H' as b) {ws : List V} {xs : List Evt} (pw : Paired (EvtAt H') ws xs) : Bw H A (upd H' A.ev (.lst ws)) as { b with evs := xs } := by
  have B := W.l
  obtain ⟨us, e1, p1⟩ := B.ev
  obtain ⟨vs, e2, p2⟩ := B.ins
  have hc : A.ev ∈ A.cells := by simp [OwA.cells, OwA.six]
  have k : Kp [A.ev] H' (upd H' A.ev (.lst ws)) := (Kp.refl _ _).lst (.inl (by simp)) e1
  have n : ∀ j y, j ≠ 1 → A.six[j]? = some y → y ∉ [A.ev] := fun j y h e => by simpa using six_ne B.nd j 1 h e rfl
  refine ⟨⟨B.nd, B.dn, k.keep _ _ (by simpa using fun e => B.dn (by rw [e]; exact List.mem_append.mpr (.inl (by simp [OwA.six, OwA.to])))) B.d, k.keep _ _ (n 0 _ (by decide) rfl) B.ar, ⟨_, upd_same, Pd.mono (fun _ _ => evtStb _ _ _ _ k.tk) pw⟩, k.keep _ _ (n 2 _ (by decide) rfl) B.bg, ⟨vs, k.keep _ _ (n 3 _ (by decide) rfl) e2, Pd.mono (fun _ _ => pairStb _ _ _ _ k.tk) p2⟩, k.keep _ _ (n 4 _ (by decide) rfl) B.dr,
    B.tu.kp k fun x hx => ?_⟩, W.kp.transM k (fun y hy => .inl (by rw [List.mem_singleton.mp hy]; exact hc)), W.sub⟩
  rcases List.mem_cons.mp hx with rfl | hx
  · exact n 5 _ (by decide) rfl
  · have := nd_neR (show (A.six ++ as).Nodup from B.nd) (a := A.ev) (by simp [OwA.six]) hx
    simpa using this.symm
theorem Bw.setBg (W : Bw H A H' as b) (xs : List Nat) : Bw H A (upd H' A.bg (.lst (xs.map nV))) as { b with begun := xs } := by
  have B := W.l
  obtain ⟨us, e1, p1⟩ := B.ev
  obtain ⟨vs, e2, p2⟩ := B.ins
  have hc : A.bg ∈ A.cells := by simp [OwA.cells, OwA.six]
  have k : Kp [A.bg] H' (upd H' A.bg (.lst (xs.map nV))) := (Kp.refl _ _).lst (.inl (by simp)) B.bg
  have n : ∀ j y, j ≠ 2 → A.six[j]? = some y → y ∉ [A.bg] := fun j y h e => by simpa using six_ne B.nd j 2 h e rfl
  refine ⟨⟨B.nd, B.dn, k.keep _ _ (by simpa using fun e => B.dn (by rw [e]; exact List.mem_append.mpr (.inl (by simp [OwA.six, OwA.to])))) B.d, k.keep _ _ (n 0 _ (by decide) rfl) B.ar, ⟨us, k.keep _ _ (n 1 _ (by decide) rfl) e1, Pd.mono (fun _ _ => evtStb _ _ _ _ k.tk) p1⟩, upd_same, ⟨vs, k.keep _ _ (n 3 _ (by decide) rfl) e2, Pd.mono (fun _ _ => pairStb _ _ _ _ k.tk) p2⟩, k.keep _ _ (n 4 _ (by decide) rfl) B.dr,
    B.tu.kp k fun x hx => ?_⟩, W.kp.transM k (fun y hy => .inl (by rw [List.mem_singleton.mp hy]; exact hc)), W.sub⟩
  rcases List.mem_cons.mp hx with rfl | hx
  · exact n 5 _ (by decide) rfl
  · have := nd_neR (show (A.six ++ as).Nodup from B.nd) (a := A.bg) (by simp [OwA.six]) hx
    simpa using this.symm
theorem Bw.setIn (W : Bw H A H' as b) {ws : List V} {xs : List (Nat × Option Nat)} (pw : Paired (PairAt H') ws xs) : Bw H A (upd H' A.ins (.lst ws)) as { b with inside := xs } := by
  have B := W.l
  obtain ⟨us, e1, p1⟩ := B.ev
  obtain ⟨vs, e2, p2⟩ := B.ins
  have hc : A.ins ∈ A.cells := by simp [OwA.cells, OwA.six]
  have k : Kp [A.ins] H' (upd H' A.ins (.lst ws)) := (Kp.refl _ _).lst (.inl (by simp)) e2
  have n : ∀ j y, j ≠ 3 → A.six[j]? = some y → y ∉ [A.ins] := fun j y h e => by simpa using six_ne B.nd j 3 h e rfl
  refine ⟨⟨B.nd, B.dn, k.keep _ _ (by simpa using fun e => B.dn (by rw [e]; exact List.mem_append.mpr (.inl (by simp [OwA.six, OwA.to])))) B.d, k.keep _ _ (n 0 _ (by decide) rfl) B.ar, ⟨us, k.keep _ _ (n 1 _ (by decide) rfl) e1, Pd.mono (fun _ _ => evtStb _ _ _ _ k.tk) p1⟩, k.keep _ _ (n 2 _ (by decide) rfl) B.bg, ⟨_, upd_same, Pd.mono (fun _ _ => pairStb _ _ _ _ k.tk) pw⟩, k.keep _ _ (n 4 _ (by decide) rfl) B.dr,
    B.tu.kp k fun x hx => ?_⟩, W.kp.transM k (fun y hy => .inl (by rw [List.mem_singleton.mp hy]; exact hc)), W.sub⟩
  rcases List.mem_cons.mp hx with rfl | hx
  · exact n 5 _ (by decide) rfl
  · have := nd_neR (show (A.six ++ as).Nodup from B.nd) (a := A.ins) (by simp [OwA.six]) hx
    simpa using this.symm
theorem Bw.setDr (W : Bw H A H' as b) (xs : List Str) : Bw H A (upd H' A.dr (.lst (xs.map V.str))) as { b with drawn := xs } := by
  have B := W.l
  obtain ⟨us, e1, p1⟩ := B.ev
  obtain ⟨vs, e2, p2⟩ := B.ins
  have hc : A.dr ∈ A.cells := by simp [OwA.cells, OwA.six]
  have k : Kp [A.dr] H' (upd H' A.dr (.lst (xs.map V.str))) := (Kp.refl _ _).lst (.inl (by simp)) B.dr
  have n : ∀ j y, j ≠ 4 → A.six[j]? = some y → y ∉ [A.dr] := fun j y h e => by simpa using six_ne B.nd j 4 h e rfl
  refine ⟨⟨B.nd, B.dn, k.keep _ _ (by simpa using fun e => B.dn (by rw [e]; exact List.mem_append.mpr (.inl (by simp [OwA.six, OwA.to])))) B.d, k.keep _ _ (n 0 _ (by decide) rfl) B.ar, ⟨us, k.keep _ _ (n 1 _ (by decide) rfl) e1, Pd.mono (fun _ _ => evtStb _ _ _ _ k.tk) p1⟩, k.keep _ _ (n 2 _ (by decide) rfl) B.bg, ⟨vs, k.keep _ _ (n 3 _ (by decide) rfl) e2, Pd.mono (fun _ _ => pairStb _ _ _ _ k.tk) p2⟩, upd_same,
    B.tu.kp k fun x hx => ?_⟩, W.kp.transM k (fun y hy => .inl (by rw [List.mem_singleton.mp hy]; exact hc)), W.sub⟩
  rcases List.mem_cons.mp hx with rfl | hx
  · exact n 5 _ (by decide) rfl
  · have := nd_neR (show (A.six ++ as).Nodup from B.nd) (a := A.dr) (by simp [OwA.six]) hx
    simpa using this.symm
theorem Bw.pushTu (W : Bw H A H' as b) (m : Nat) {q : Addr} (hq : H' q = none) : Bw H A (upd (upd H' q (.lst [nV m])) A.tu (.lst (as.map V.ref ++ [.ref q]))) (as ++ [q]) { b with turns := b.turns ++ [[m]] } := by
  have B := W.l
  obtain ⟨us, e1, p1⟩ := B.ev
  obtain ⟨vs, e2, p2⟩ := B.ins
  have hc : A.tu ∈ A.cells := by simp [OwA.cells, OwA.six]
  have k1 : Kp [A.tu] H' (upd H' q (.lst [nV m])) := (Kp.refl _ _).new hq
  have t1 : upd H' q (.lst [nV m]) A.tu = some (.lst (as.map V.ref)) := ((Kp.refl [] H').new hq).keep0 B.tu.r
  have k : Kp [A.tu] H' (upd (upd H' q (.lst [nV m])) A.tu (.lst (as.map V.ref ++ [.ref q]))) := k1.lst (.inl (by simp)) t1
  have n : ∀ j y, j ≠ 5 → A.six[j]? = some y → y ∉ [A.tu] := fun j y h e => by simpa using six_ne B.nd j 5 h e rfl
  have nq : q ∉ (A.to as).cells := fun z => B.has q z hq
  have nd : q ≠ A.d := fun e => by rw [e] at hq; have := B.d; rw [show (A.to as).d = A.d from rfl, hq] at this; cases this
  have dt : A.d ∉ [A.tu] := by simpa using fun e => B.dn (by rw [show (A.to as).d = A.d from rfl, e]; exact List.mem_append.mpr (.inl (by simp [OwA.six, OwA.to])))
  refine ⟨⟨?_, ?_, k.keep _ _ dt B.d, k.keep _ _ (n 0 _ (by decide) rfl) B.ar, ⟨us, k.keep _ _ (n 1 _ (by decide) rfl) e1, Pd.mono (fun _ _ => evtStb _ _ _ _ k.tk) p1⟩, k.keep _ _ (n 2 _ (by decide) rfl) B.bg, ⟨vs, k.keep _ _ (n 3 _ (by decide) rfl) e2, Pd.mono (fun _ _ => pairStb _ _ _ _ k.tk) p2⟩, k.keep _ _ (n 4 _ (by decide) rfl) B.dr, B.tu.push m hq⟩,
    W.kp.transM k (fun y hy => .inl (by rw [List.mem_singleton.mp hy]; exact hc)), fun x hx => ?_⟩
  · show (A.six ++ (as ++ [q])).Nodup
    rw [← List.append_assoc]
    exact List.nodup_append.mpr ⟨B.nd, by simp, fun x hx y hy e => nq (by rw [List.mem_singleton.mp hy] at e; exact e ▸ hx)⟩
  · show A.d ∉ A.six ++ (as ++ [q])
    rw [← List.append_assoc]
    intro z
    rcases List.mem_append.mp z with z | z
    · exact B.dn z
    · exact nd (List.mem_singleton.mp z).symm
  · rcases List.mem_append.mp hx with hx | hx
    · exact W.sub x hx
    · rw [List.mem_singleton.mp hx]
      exact .inr (W.kp.dom _ hq)
theorem Bw.lastTu (W : Bw H A H' as b) (ne : b.turns ≠ []) (m : Nat) : ∃ c, as.getLast? = some c ∧ H' c = some (.lst ((b.turns.getLast?.getD []).map nV)) ∧
    Bw H A (upd H' c (.lst ((b.turns.getLast?.getD []).map nV ++ [nV m]))) as { b with turns := addLast b.turns m } := by
  have B := W.l
  obtain ⟨us, e1, p1⟩ := B.ev
  obtain ⟨vs, e2, p2⟩ := B.ins
  obtain ⟨c, c1, c2, c3, ll⟩ := B.tu.last ne m
  refine ⟨c, c1, c3, ?_⟩
  have k : Kp [c] H' (upd H' c (.lst ((b.turns.getLast?.getD []).map nV ++ [nV m]))) := (Kp.refl _ _).lst (.inl (by simp)) c3
  have n : ∀ j y, j ≠ 9 → A.six[j]? = some y → y ∉ [c] := fun j y _ e => by
    have := nd_neR (show (A.six ++ as).Nodup from B.nd) (List.mem_of_getElem? e) c2
    simpa using this
  have dt : A.d ∉ [c] := by simpa using fun e => B.dn (by rw [show (A.to as).d = A.d from rfl, e]; exact List.mem_append.mpr (.inr c2))
  exact ⟨⟨B.nd, B.dn, k.keep _ _ dt B.d, k.keep _ _ (n 0 _ (by decide) rfl) B.ar, ⟨us, k.keep _ _ (n 1 _ (by decide) rfl) e1, Pd.mono (fun _ _ => evtStb _ _ _ _ k.tk) p1⟩, k.keep _ _ (n 2 _ (by decide) rfl) B.bg, ⟨vs, k.keep _ _ (n 3 _ (by decide) rfl) e2, Pd.mono (fun _ _ => pairStb _ _ _ _ k.tk) p2⟩, k.keep _ _ (n 4 _ (by decide) rfl) B.dr, ll⟩,
    W.kp.transM k (fun y hy => by
      rw [List.mem_singleton.mp hy]
      exact (W.sub c c2).imp_left fun h => List.mem_append.mpr (.inr h)), W.sub⟩
end
end Ev
namespace Ev
open PySem L2
/-! ### what holds behind each cell of the law -/
structure Ow where
  around : List Nat
  evs : List Evt
  inside : List (Nat × Option Nat)
  drawn : List Str
def Ow.bk (s : Ow) : Bk := ⟨s.around, s.evs, s.inside.map Prod.fst, s.inside, turnsP s.inside, s.drawn⟩
def word13 (z : Str) : Prop := z.length ≤ 12 ∧ strOkT z
inductive StepO (s : Ow) : Row → Ow → Prop
  | beg (t : Int) (z : Str) : word13 z → StepO s (.begin s.evs.length t) ⟨s.around ++ [s.evs.length], s.evs ++ [⟨z, none, .wait, 0⟩], s.inside ++ [(s.evs.length, s.around.getLast?)], s.drawn ++ [lineB s.around.length s.evs.length z]⟩
  | fin (k : Nat) : s.around.getLast? = some k → StepO s (.fin k) { s with around := s.around.dropLast }
  | call (k : Nat) (z : Str) : s.around.getLast? = some k → word13 z → StepO s (.call k z) { s with drawn := s.drawn ++ [lineC s.around.length z] }
  | other (r : Row) : r.txt → r.isBegin = false → r.isFin = false → r.isCall = false → StepO s r s
/-- what drawn asks of a log: its events are told, all words are short -/
structure Drw (z : Nat → Str) (rows : List Row) (evs : List Evt) : Prop where
  bg : ∀ n t, Row.begin n t ∈ rows → n < 100 ∧ (z n).length ≤ 12 ∧ ∃ e, evs[n]? = some e ∧ e.word = z n
  cl : ∀ n x, Row.call n x ∈ rows → x.length ≤ 12
def zf (evs : List Evt) (n : Nat) : Str := ((evs[n]?).map Evt.word).getD Str.empty
structure J (rows : List Row) (s : Ow) : Prop where
  t : tale (zf s.evs) rows = ⟨s.around, s.inside, s.drawn⟩
  bg : begunM rows = s.inside.map Prod.fst
  fit : Fit (zf s.evs) rows
  n : s.evs.length ≤ rows.length
  bl : ∀ n t, Row.begin n t ∈ rows → n < s.evs.length
  cl : ∀ n x, Row.call n x ∈ rows → x.length ≤ 12
  txt : ∀ r ∈ rows, r.txt
  wd : ∀ e ∈ s.evs, word13 e.word
  dr : ∀ x ∈ s.drawn, strOkT x
theorem fit_snoc {z : Nat → Str} {rows : List Row} {r : Row} (f : Fit z rows) (h : ∀ k, r = .fin k → (tale z rows).around ≠ []) : Fit z (rows ++ [r]) := by
  intro pre k post e
  rcases List.eq_nil_or_concat post with rfl | ⟨m, x, rfl⟩
  · obtain ⟨e1, e2⟩ := List.append_inj' e rfl
    cases e2
    subst e1
    exact h k rfl
  · rw [List.concat_eq_append, ← List.cons_append, ← List.append_assoc] at e
    obtain ⟨e1, _⟩ := List.append_inj' e rfl
    exact f pre k m e1
theorem fit_w {z z' : Nat → Str} {rows : List Row} (f : Fit z rows) (h : ∀ n t, Row.begin n t ∈ rows → z n = z' n) : Fit z' rows := by
  intro pre k post e
  rw [← tale_w pre fun n t hm => h n t (by rw [e]; exact List.mem_append.mpr (.inl hm))]
  exact f pre k post e
theorem J.zero : J [] ⟨[], [], [], []⟩ := ⟨rfl, rfl, (fun pre k post e => by simp at e), Nat.le_refl _, (fun _ _ h => nomatch h), (fun _ _ h => nomatch h), (fun _ h => nomatch h), (fun _ h => nomatch h), (fun _ h => nomatch h)⟩
theorem zf_app {evs : List Evt} {e : Evt} {n : Nat} (h : n < evs.length) : zf evs n = zf (evs ++ [e]) n := by
  unfold zf
  rw [List.getElem?_append_left h]
theorem J.step {rows : List Row} {s s' : Ow} {r : Row} (j : J rows s) (h : StepO s r s') (l : rows.length < 90) : J (rows ++ [r]) s' := by
  have two : strOkT "  " := by unfold strOkT; decide +kernel
  have one : strOkT " " := by unfold strOkT; decide +kernel
  have da : strOkT "- " := by unfold strOkT; decide +kernel
  cases h with
  | beg t z hz =>
    have ew : ∀ n t, Row.begin n t ∈ rows → zf s.evs n = zf (s.evs ++ [⟨z, none, .wait, 0⟩]) n := fun n t hm => zf_app (j.bl n t hm)
    have ez : zf (s.evs ++ [⟨z, none, .wait, 0⟩]) s.evs.length = z := by
      unfold zf
      rw [List.getElem?_append_right (Nat.le_refl _), Nat.sub_self]
      rfl
    refine ⟨?_, ?_, ?_, ?_, ?_, ?_, ?_, ?_, ?_⟩
    · show tale (zf (s.evs ++ [⟨z, none, .wait, 0⟩])) _ = _
      rw [tale_snoc, ← tale_w rows ew, j.t]
      simp only [Tl.step, ez]
    · rw [begun_snoc, j.bg, List.map_append]
      rfl
    · exact fit_snoc (fit_w j.fit ew) (fun k e => nomatch e)
    · simp
      exact j.n
    · intro n t' hm
      rw [List.length_append]
      rcases List.mem_append.mp hm with hm | hm
      · exact Nat.lt_of_lt_of_le (j.bl n t' hm) (Nat.le_add_right _ _)
      · rw [List.mem_singleton] at hm
        cases hm
        exact Nat.lt_succ_self _
    · intro n x hm
      rcases List.mem_append.mp hm with hm | hm
      · exact j.cl n x hm
      · rw [List.mem_singleton] at hm
        cases hm
    · intro q hm
      rcases List.mem_append.mp hm with hm | hm
      · exact j.txt q hm
      · rw [List.mem_singleton.mp hm]
        trivial
    · intro e he
      rcases List.mem_append.mp he with he | he
      · exact j.wd e he
      · rw [List.mem_singleton.mp he]
        exact hz
    · intro x hx
      rcases List.mem_append.mp hx with hx | hx
      · exact j.dr x hx
      · rw [List.mem_singleton.mp hx]
        have := j.n
        exact okT_app (okT_app (okT_app (okT_rep two _) (num_ok _ (by omega)).1) one) hz.2
  | fin k hk =>
    refine ⟨?_, ?_, ?_, ?_, ?_, ?_, ?_, j.wd, j.dr⟩
    · rw [tale_snoc, j.t]
      rfl
    · rw [begun_snoc, j.bg]
      simp
    · refine fit_snoc j.fit fun _ _ => ?_
      rw [j.t]
      intro e
      have e : s.around = [] := e
      rw [e] at hk
      cases hk
    · simp
      exact Nat.le_succ_of_le j.n
    · intro n t hm
      rcases List.mem_append.mp hm with hm | hm
      · exact j.bl n t hm
      · rw [List.mem_singleton] at hm; cases hm
    · intro n x hm
      rcases List.mem_append.mp hm with hm | hm
      · exact j.cl n x hm
      · rw [List.mem_singleton] at hm; cases hm
    · intro q hm
      rcases List.mem_append.mp hm with hm | hm
      · exact j.txt q hm
      · rw [List.mem_singleton.mp hm]; trivial
  | call k z hk hz =>
    refine ⟨?_, ?_, ?_, ?_, ?_, ?_, ?_, j.wd, ?_⟩
    · rw [tale_snoc, j.t]
      rfl
    · rw [begun_snoc, j.bg]
      simp
    · exact fit_snoc j.fit fun _ e => nomatch e
    · simp
      exact Nat.le_succ_of_le j.n
    · intro n t hm
      rcases List.mem_append.mp hm with hm | hm
      · exact j.bl n t hm
      · rw [List.mem_singleton] at hm; cases hm
    · intro n x hm
      rcases List.mem_append.mp hm with hm | hm
      · exact j.cl n x hm
      · rw [List.mem_singleton] at hm; cases hm; exact hz.1
    · intro q hm
      rcases List.mem_append.mp hm with hm | hm
      · exact j.txt q hm
      · rw [List.mem_singleton.mp hm]; exact hz.2
    · intro x hx
      rcases List.mem_append.mp hx with hx | hx
      · exact j.dr x hx
      · rw [List.mem_singleton.mp hx]
        exact okT_app (okT_app (okT_rep two _) da) hz.2
  | other _ ht h1 h2 h3 =>
    refine ⟨?_, ?_, ?_, ?_, ?_, ?_, ?_, j.wd, j.dr⟩
    · rw [tale_snoc, j.t]
      cases r <;> first | (cases h1; done) | (cases h2; done) | (cases h3; done) | rfl
    · rw [begun_snoc, j.bg]
      cases r <;> first | (cases h1; done) | simp
    · exact fit_snoc j.fit fun k e => by subst e; cases h2
    · simp
      exact Nat.le_succ_of_le j.n
    · intro n t hm
      rcases List.mem_append.mp hm with hm | hm
      · exact j.bl n t hm
      · rw [List.mem_singleton] at hm; subst hm; cases h1
    · intro n x hm
      rcases List.mem_append.mp hm with hm | hm
      · exact j.cl n x hm
      · rw [List.mem_singleton] at hm; subst hm; cases h3
    · intro q hm
      rcases List.mem_append.mp hm with hm | hm
      · exact j.txt q hm
      · rw [List.mem_singleton.mp hm]; exact ht
theorem J.drw {rows : List Row} {s : Ow} (j : J rows s) (l : rows.length ≤ 90) : Drw (zf s.evs) rows s.evs := by
  refine ⟨fun n t hm => ?_, j.cl⟩
  have hn := j.bl n t hm
  have e : s.evs[n]? = some (s.evs[n]'hn) := List.getElem?_eq_getElem hn
  have ez : zf s.evs n = (s.evs[n]'hn).word := by
    unfold zf
    rw [e]
    rfl
  have := j.n
  exact ⟨by omega, by rw [ez]; exact (j.wd _ (List.getElem_mem hn)).1, _, e, ez.symm⟩
theorem pairs_dp {K : PySem.W.Frag} {H : Hp} {a : Addr} {l : List (Nat × Option Nat)} (h : LstAt PairAt H a l) : Dp K H (.ref a) (.list (l.map fun c => .tuple [.int (c.1 : Int), onD c.2])) := by
  obtain ⟨xs, ha, hx⟩ := h
  exact dp_lst (fun v c q => by
    obtain ⟨p, rfl, hp⟩ := q
    exact .tup (SqT.of hp) (.cons (.int _) (.cons (onD_dp _) .nil))) ha hx
theorem pairs_ok (l : List (Nat × Option Nat)) : okD 2 (.list (l.map fun c => .tuple [.int (c.1 : Int), onD c.2])) := ok_lst fun d hd => by
  obtain ⟨c, _, rfl⟩ := List.mem_map.mp hd
  exact ok_tup (ok_cons (ok_int _) (ok_cons (onD_ok _) ok_nil))
end Ev
namespace Ev
open PySem L2
section
variable {P : Program} {w : World} {K : PySem.W.Frag} {mg : Str → Option Value} {base : Heap}
def sp_begun : Sp := fun vs H Q _ => ∃ (a : Addr) (xs : List V) (rows : List Row), vs = [.ref a] ∧ H a = some (.lst xs) ∧ Paired (RowAt H) xs rows ∧ rows.length ≤ 100000 ∧
  ∀ p H', H p = none → Kp [] H H' → H' p = some (.lst ((begunM rows).map nV)) → Q (.ref p) H'
theorem ok_begun (T : Tx K mg) : FnOk P w K mg base CX0 1 T.f_begun T.d_begun ["log"] (sp_begun) := by
  refine T.F_begun.ok sc_begun (by walk_at "len") (fun cdv A outer s H vs Q E hr h => ?_)
  obtain ⟨a, xs, rows, rfl, ha, hx, hl, k⟩ := h
  refine ⟨_, (pss_one (ps_ret (pe_lc (own := [("row", 1)]) (g := gName 1) rfl sc_begun.nd (pi_list (pv 0)) (blkOk_by (own := [("row", 1)]) (N := nm_begun) (sc := defScope s_begun) (by decide +kernel)) (fun _ _ _ _ _ => (pg_name (i := 1) sc_begun.nd rfl (Or.inl rfl))) (fun _ _ _ _ _ => pts_one (pt_cmpR op_eq (pe_ix (kIxT K) (pv 1) pe_int (fun _ _ => rfl)) pe_str (nomark _))) (fun _ _ _ _ _ => (pe_ix (kIxT K) (pv 1) pe_int (fun _ _ => rfl)))))), ?_⟩
  refine ⟨_, rfl, a, rfl, ⟨_, SqL.of ha⟩, ?_⟩
  refine lc_pd hx (Nat.lt_of_le_of_lt hl (by decide)) (fun D pre acc H' => Kp [] H H' ∧ acc = (begunM pre).map nV) (fun D hD => ⟨(Kp.refl _ _).new hD, rfl⟩) (fun D pre acc H' hD e ⟨kp, _⟩ => SqL.of (kp.keep0 ha)) ?_
    (fun D acc H' hD e ⟨kp, ea⟩ => k D H' hD kp (by rw [e, ea]))
  rintro D pre acc x d post H' Yes No hD ed r e ⟨kp, rfl⟩ yes no
  obtain ⟨p, q, rfl, h1, h2⟩ := r.kp kp
  refine ⟨rfl, ?_⟩
  refine ⟨_, rfl, _, _, _, _, rfl, rfl, SqT.of h1, at0, rfl, _, rfl, ?_⟩
  rw [Row.isBegin_tag]
  cases hb : d.isBegin with
  | true =>
    cases d <;> first | cases hb | skip
    rw [if_pos rfl]
    refine ⟨_, rfl, _, _, _, _, rfl, rfl, SqT.of h1, at1, yes _ _ e ⟨kp.lst (.inr hD) e, ?_⟩⟩
    simp [begunM, nV]
  | false =>
    rw [if_neg (by decide)]
    refine no _ e ⟨kp, ?_⟩
    cases d <;> first | (cases hb; done) | simp [begunM]
def sp_inside : Sp := fun vs H Q _ => ∃ (z : Nat → Str) (a : Addr) (rows : List Row), vs = [.ref a] ∧ LstAt RowAt H a rows ∧ rows.length ≤ 1000 ∧ Fit z rows ∧
  ∀ p H', H p = none → Kp [] H H' → LstAt PairAt H' p (tale z rows).inside → Q (.ref p) H'
theorem ok_inside (T : Tx K mg) : FnOk P w K mg base CX0 1 T.f_inside T.d_inside ["log"] (sp_inside) := by
  refine T.F_inside.ok sc_inside (by walk_at "len") (fun cdv A outer s H vs Q E hr h => ?_)
  obtain ⟨z, a, rows, rfl, ⟨xs, ha, hx⟩, hl, fit, k⟩ := h
  refine ⟨_, (pss_cons (ps_set (i := 1) sc_inside.nd rfl (Or.inl rfl) (pe_lst pa_nil))
    (pss_cons (ps_set (i := 2) sc_inside.nd rfl (Or.inl rfl) (pe_lst (pa_cons pe_non pa_nil)))
    (pss_cons (ps_for PassesOwn.never rfl (pi_list (pv 0)) (pg_name (i := 3) sc_inside.nd rfl (Or.inl rfl))
        (pss_one (ps_if (pt_cmpR op_eq (pe_ix (kIxT K) (pv 3) pe_int (fun _ _ => rfl)) pe_str (nomark _))
            (pss_cons (ps_expr (pe_bm PySem.F.plainAttrs_list PySem.F.slot_list_append PySem.F.type_list_append mt_append (pv 1) (pa_cons (pe_tup (pa_cons (pe_ix (kIxT K) (pv 3) pe_int (fun _ _ => rfl)) (pa_cons (pe_ix (kIxL K) (pv 2) (pe_un un_neg pe_int) (fun _ _ => rfl)) pa_nil))) pa_nil)))
            (pss_one (ps_expr (pe_bm PySem.F.plainAttrs_list PySem.F.slot_list_append PySem.F.type_list_append mt_append (pv 2) (pa_cons (pe_ix (kIxT K) (pv 3) pe_int (fun _ _ => rfl)) pa_nil)))))
            (pss_one (ps_if (pt_cmpR op_eq (pe_ix (kIxT K) (pv 3) pe_int (fun _ _ => rfl)) pe_str (nomark _))
                (pss_one (ps_expr (pe_bm0 PySem.F.plainAttrs_list PySem.F.slot_list_pop PySem.F.type_list_pop mt_pop (pv 2))))
                pss_nil)))))
    (pss_one (ps_ret (pv 1)))))), ?_⟩
  refine ⟨Nat.zero_le _, fun f hf => ?_⟩
  have k1 := (Kp.refl [] H).new (o := .lst []) hf
  have f1 : upd H f (.lst []) f = some (.lst []) := upd_same
  generalize upd H f (.lst []) = H1 at k1 f1 ⊢
  refine ⟨by show 1 ≤ sizeLine; decide, fun g hg => ?_⟩
  have k2 := (Kp.refl [] H1).new (o := .lst [.non]) hg
  have g2 : upd H1 g (.lst [.non]) g = some (.lst [.non]) := upd_same
  have f2 := k2.keep0 f1
  have nfg : f ≠ g := fun e => by rw [e] at f1; rw [f1] at hg; cases hg
  generalize upd H1 g (.lst [.non]) = H2 at k2 g2 f2 ⊢
  have fg : H g = none := k1.dom _ hg
  walk_at "nf"
  refine for_go ?_
  refine ⟨_, rfl, a, rfl, ⟨_, SqL.of ((k1.trans k2).keep0 ha)⟩, ?_⟩
  refine for_pd hx (fun pre σ Hx => Kp [] H Hx ∧ (∃ acc, Hx f = some (.lst acc) ∧ Paired (PairAt Hx) acc (tale z pre).inside) ∧ Hx g = some (.lst (V.non :: (tale z pre).around.map nV)) ∧ ∃ o, σ = [some (.ref a), some (.ref f), some (.ref g), o])
    ⟨k1.trans k2, ⟨_, f2, .nil⟩, g2, _, rfl⟩ (fun pre σ Hx q => SqL.of (q.1.keep0 ha)) ?_ ?_
  · rintro pre x d post σ Hx ed r ⟨kx, ⟨acc, hf3, hac⟩, hg3, o, rfl⟩
    obtain ⟨p, q, rfl, h1, h2⟩ := r.kp kx
    obtain ⟨l1, l2, l3⟩ := tale_len z pre.length pre rfl
    have lp : pre.length < rows.length := by rw [ed, List.length_append, List.length_cons]; omega
    have lac : acc.length ≤ 1000 := by rw [Pd.len hac]; omega
    refine ⟨_, rfl, p, _, _, _, rfl, rfl, SqT.of h1, at0, rfl, _, rfl, ?_⟩
    rw [Row.isBegin_tag]
    cases hb : d.isBegin with
    | true =>
      cases d <;> first | cases hb | skip
      rename_i n u
      refine iteT ?_
      refine ⟨_, rfl, .inl ⟨rfl, _, SqL.of hf3⟩, _, rfl, p, _, _, _, rfl, rfl, SqT.of h1, at1, _, rfl, _, rfl, g, _, _, _, rfl, rfl, SqL.of hg3, atLast (last_on _), (by show 2 ≤ sizeLine; decide), fun t ht => ?_⟩
      have kt := (Kp.refl [] Hx).new (o := .tup [nV n, onV (tale z pre).around.getLast?]) ht
      have ft := kt.keep0 hf3
      have gt := kt.keep0 hg3
      refine ⟨f, acc, _, rfl, rfl, ft, Nat.lt_of_le_of_lt lac (by decide), ?_⟩
      have km := (Kp.refl [f] (upd Hx t (.tup [nV n, onV (tale z pre).around.getLast?]))).lst (o := .lst (acc ++ [.ref t])) (.inl (by simp)) ft
      have gm := km.keep _ _ (by simpa using Ne.symm nfg) gt
      refine ⟨_, rfl, .inl ⟨rfl, _, SqL.of gm⟩, _, rfl, p, _, _, _, rfl, rfl, SqT.of (km.tup _ _ (kt.tup _ _ h1)), at1, g, _, _, rfl, rfl, gm, ?_, ?_⟩
      · rw [List.length_cons, List.length_map]
        exact Nat.lt_of_le_of_lt (show _ ≤ 1001 by omega) (by decide)
      · have hfm : upd (upd Hx t (.tup [nV n, onV (tale z pre).around.getLast?])) f (.lst (acc ++ [.ref t])) f = some (.lst (acc ++ [.ref t])) := upd_same
        have htm := km.tup _ _ (upd_same (H := Hx) (a := t) (o := .tup [nV n, onV (tale z pre).around.getLast?]))
        generalize upd (upd Hx t (.tup [nV n, onV (tale z pre).around.getLast?])) f (.lst (acc ++ [.ref t])) = Hm at km gm hfm htm ⊢
        have kn := (Kp.refl [g] Hm).lst (o := .lst ((V.non :: (tale z pre).around.map nV) ++ [nV n])) (.inl (by simp)) gm
        rw [tale_snoc]
        refine ⟨?_, ⟨_, kn.keep _ _ (by simpa using nfg) hfm, ?_⟩, ?_, _, rfl⟩
        · have a1 : Kp [f, g] H Hx := kx.mono (by simp)
          have a2 : Kp [f, g] H (upd Hx t (.tup [nV n, onV (tale z pre).around.getLast?])) := a1.new ht
          have a3 : Kp [f, g] H Hm := a2.transM km (by simp)
          have a4 := a3.transM kn (by simp)
          exact a4.mono fun y hy => .inr (by
            simp only [List.mem_cons, List.not_mem_nil, or_false] at hy
            rcases hy with rfl | rfl
            · exact hf
            · exact fg)
        · exact Pd.append (Pd.mono (fun _ _ => pairStb _ _ _ _ (fun a xs h => kn.tup _ _ (km.tup _ _ (kt.tup _ _ h)))) hac) (.cons ⟨t, rfl, kn.tup _ _ htm⟩ .nil)
        · rw [upd_same]
          show some (HO.lst _) = some (HO.lst (V.non :: ((tale z pre).around ++ [n]).map nV))
          rw [List.map_append]
          rfl
    | false =>
      refine iteF ?_
      refine ⟨_, rfl, p, _, _, _, rfl, rfl, SqT.of h1, at0, rfl, _, rfl, ?_⟩
      rw [Row.isFin_tag]
      cases he : d.isFin with
      | true =>
        cases d <;> first | cases he | skip
        rename_i n
        refine iteT ?_
        have ne := fit pre n post ed
        refine ⟨_, rfl, .inl ⟨rfl, _, SqL.of hg3⟩, g, _, onV (tale z pre).around.getLast?, rfl, rfl, hg3, (by rw [← List.getLast?_eq_getElem?]; exact last_on _), ?_⟩
        · have kn := (Kp.refl [g] Hx).lst (o := .lst (V.non :: (tale z pre).around.map nV).dropLast) (.inl (by simp)) hg3
          rw [tale_snoc]
          refine ⟨?_, ⟨_, kn.keep _ _ (by simpa using nfg) hf3, Pd.mono (fun _ _ => pairStb _ _ _ _ kn.tk) hac⟩, ?_, _, rfl⟩
          · exact (kx.mono (M := [g]) (by simp)).transM kn (by simp) |>.mono fun y hy => .inr (by rw [List.mem_singleton.mp hy]; exact fg)
          · rw [upd_same, drop_on ne]
            rfl
      | false =>
        refine iteF ?_
        rw [tale_snoc]
        have e : (tale z pre).step z d = (tale z pre).step z d := rfl
        refine ⟨kx, ⟨acc, hf3, ?_⟩, ?_, _, rfl⟩
        · cases d <;> first | (cases hb; done) | (cases he; done) | exact hac
        · cases d <;> first | (cases hb; done) | (cases he; done) | exact hg3
  · rintro σ Hx ⟨kx, ⟨acc, hf3, hac⟩, hg3, o, rfl⟩
    exact ⟨_, rfl, k f Hx hf kx ⟨acc, hf3, hac⟩⟩
def sp_drawn : Sp := fun vs H Q _ => ∃ (z : Nat → Str) (a e : Addr) (rows : List Row) (evs : List Evt), vs = [.ref a, .ref e] ∧ LstAt RowAt H a rows ∧ LstAt EvtAt H e evs ∧ rows.length ≤ 100 ∧ Fit z rows ∧ Drw z rows evs ∧
  ∀ p H', H p = none → Kp [] H H' → H' p = some (.lst ((tale z rows).drawn.map V.str)) → Q (.ref p) H'
theorem ok_drawn (T : Tx K mg) : FnOk P w K mg base CX0 1 T.f_drawn T.d_drawn ["log", "events"] (sp_drawn) := by
  refine T.F_drawn.ok sc_drawn (by walk_at "len") (fun cdv A outer s H vs Q E hr h => ?_)
  obtain ⟨z, a, e, rows, evs, rfl, ⟨xs, ha, hx⟩, ⟨ys, he, hy⟩, hl, fit, dw, k⟩ := h
  refine ⟨_, (pss_cons (ps_set (i := 2) sc_drawn.nd rfl (Or.inl rfl) (pe_lst pa_nil))
    (pss_cons (ps_set (i := 3) sc_drawn.nd rfl (Or.inl rfl) pe_int)
    (pss_cons (ps_for PassesOwn.never rfl (pi_list (pv 0)) (pg_name (i := 4) sc_drawn.nd rfl (Or.inl rfl))
        (pss_one (ps_if (pt_cmpR op_eq (pe_ix (kIxT K) (pv 4) pe_int (fun _ _ => rfl)) pe_str (nomark _))
            (pss_cons (ps_expr (pe_bm PySem.F.plainAttrs_list PySem.F.slot_list_append PySem.F.type_list_append mt_append (pv 2) (pa_cons (pe_op op_add_str (pe_op op_add_str (pe_op op_add_str (pe_op kMulS pe_str (pv 3)) (pe_callTy call_str_int (by rfl) T.z_str (by decide +kernel) (pa_cons (pe_ix (kIxT K) (pv 4) pe_int (fun _ _ => rfl)) pa_nil))) pe_str) (pe_ix (kIxT K) (pe_ix (kIxL K) (pv 1) (pe_ix (kIxT K) (pv 4) pe_int (fun _ _ => rfl)) (fun _ _ => rfl)) pe_int (fun _ _ => rfl))) pa_nil)))
            (pss_one (ps_set (i := 3) sc_drawn.nd rfl (Or.inl rfl) (pe_op op_add (pv 3) pe_int))))
            (pss_one (ps_if (pt_cmpR op_eq (pe_ix (kIxT K) (pv 4) pe_int (fun _ _ => rfl)) pe_str (nomark _))
                (pss_one (ps_expr (pe_bm PySem.F.plainAttrs_list PySem.F.slot_list_append PySem.F.type_list_append mt_append (pv 2) (pa_cons (pe_op op_add_str (pe_op op_add_str (pe_op kMulS pe_str (pv 3)) pe_str) (pe_ix (kIxT K) (pv 4) pe_int (fun _ _ => rfl))) pa_nil))))
                (pss_one (ps_if (pt_cmpR op_eq (pe_ix (kIxT K) (pv 4) pe_int (fun _ _ => rfl)) pe_str (nomark _))
                    (pss_one (ps_set (i := 3) sc_drawn.nd rfl (Or.inl rfl) (pe_op op_sub (pv 3) pe_int)))
                    pss_nil)))))))
    (pss_one (ps_ret (pv 2)))))), ?_⟩
  refine ⟨Nat.zero_le _, fun f hf => ?_⟩
  have k1 := (Kp.refl [] H).new (o := .lst []) hf
  have f1 : upd H f (.lst []) f = some (.lst []) := upd_same
  generalize upd H f (.lst []) = H1 at k1 f1 ⊢
  walk_at "nf"
  refine for_go ?_
  refine ⟨_, rfl, a, rfl, ⟨_, SqL.of (k1.keep0 ha)⟩, ?_⟩
  have l2 : ("  " : Str).length = 2 := by decide +kernel
  have l1' : (" " : Str).length = 1 := by decide +kernel
  have l2' : ("- " : Str).length = 2 := by decide +kernel
  have big : 1000 ≤ sizeLine := by decide
  refine for_pd hx (fun pre σ Hx => Kp [] H Hx ∧ Hx f = some (.lst ((tale z pre).drawn.map V.str)) ∧ ∃ o, σ = [some (.ref a), some (.ref e), some (.ref f), some (nV (tale z pre).around.length), o])
    ⟨k1, f1, _, rfl⟩ (fun pre σ Hx q => SqL.of (q.1.keep0 ha)) ?_ ?_
  · rintro pre x d post σ Hx ed r ⟨kx, hf3, o, rfl⟩
    obtain ⟨p, q, rfl, h1, h2⟩ := r.kp kx
    obtain ⟨l1, l3, l4⟩ := tale_len z pre.length pre rfl
    have lp : pre.length < rows.length := by rw [ed, List.length_append, List.length_cons]; omega
    have hd : d ∈ rows := by rw [ed]; simp
    have lr : (repS "  " (tale z pre).around.length).length ≤ 200 := by rw [len_rep, l2]; omega
    have ln : ((tale z pre).drawn.map V.str).length < sizeLine := by rw [List.length_map]; omega
    have kf : ∀ s : Str, Kp [] H (upd Hx f (.lst ((tale z pre).drawn.map V.str ++ [.str s]))) := fun s => kx.lst (.inr hf) hf3
    have fin : ∀ s : Str, upd Hx f (.lst ((tale z pre).drawn.map V.str ++ [.str s])) f = some (.lst (((tale z pre).drawn ++ [s]).map V.str)) := fun s => by
      rw [upd_same, List.map_append]
      rfl
    refine ⟨_, rfl, p, _, _, _, rfl, rfl, SqT.of h1, at0, rfl, _, rfl, ?_⟩
    rw [Row.isBegin_tag, tale_snoc]
    cases hb : d.isBegin with
    | true =>
      cases d <;> first | cases hb | skip
      rename_i n u
      obtain ⟨n100, zl, ev, e1, e2⟩ := dw.bg n u hd
      obtain ⟨v, hv, pe, rfl, hpe⟩ := Pd.at' hy e1
      obtain ⟨nok, nl⟩ := num_ok n n100
      refine iteT ?_
      refine ⟨_, rfl, .inl ⟨rfl, _, SqL.of hf3⟩, _, rfl, "  ", ((tale z pre).around.length : Int), rfl, rfl, by omega, by omega, by rw [l2]; decide, ?_⟩
      refine ⟨_, rfl, p, _, _, _, rfl, rfl, SqT.of h1, at1, (n : Int), rfl, lg_ok n n100, _, _, rfl, rfl, ?_, _, _, rfl, rfl, ?_, ?_⟩
      · exact Nat.le_trans (Nat.add_le_add lr nl) (by decide)
      · rw [len_app]
        exact Nat.le_trans (Nat.add_le_add (Nat.add_le_add lr nl) (Nat.le_of_eq l1')) (by decide)
      refine ⟨_, rfl, _, rfl, p, _, _, _, rfl, rfl, SqT.of h1, at1, e, _, _, _, rfl, rfl, SqL.of (kx.keep0 he), atI_nat hv, pe, _, _, _, rfl, rfl, SqT.of (kx.tup _ _ hpe), at0, _, _, rfl, rfl, ?_, ?_⟩
      · rw [len_app, len_app, e2]
        exact Nat.le_trans (Nat.add_le_add (Nat.add_le_add (Nat.add_le_add lr nl) (Nat.le_of_eq l1')) zl) (by decide)
      rw [e2]
      refine ⟨f, _, _, rfl, rfl, hf3, ln, ?_⟩
      refine ⟨_, rfl, _, _, rfl, rfl, kf _, fin _, some (V.ref p), ?_⟩
      show [_, _, _, some (V.int (((tale z pre).around.length : Int) + 1)), _] = [_, _, _, some (V.int (((tale z pre).around ++ [n]).length : Int)), _]
      rw [List.length_append]
      rfl
    | false =>
      refine iteF ?_
      refine ⟨_, rfl, p, _, _, _, rfl, rfl, SqT.of h1, at0, rfl, _, rfl, ?_⟩
      rw [Row.isCall_tag]
      cases hc : d.isCall with
      | true =>
        cases d <;> first | cases hc | skip
        rename_i n c
        have cl := dw.cl n c hd
        refine iteT ?_
        refine ⟨_, rfl, .inl ⟨rfl, _, SqL.of hf3⟩, _, rfl, "  ", ((tale z pre).around.length : Int), rfl, rfl, by omega, by omega, by rw [l2]; decide, _, _, rfl, rfl, ?_, ?_⟩
        · exact Nat.le_trans (Nat.add_le_add lr (Nat.le_of_eq l2')) (by decide)
        refine ⟨_, rfl, p, _, _, _, rfl, rfl, SqT.of h1, at2, _, _, rfl, rfl, ?_, ?_⟩
        · rw [len_app]
          exact Nat.le_trans (Nat.add_le_add (Nat.add_le_add lr (Nat.le_of_eq l2')) cl) (by decide)
        refine ⟨f, _, _, rfl, rfl, hf3, ln, ?_⟩
        exact ⟨kf _, fin _, _, rfl⟩
      | false =>
        refine iteF ?_
        refine ⟨_, rfl, p, _, _, _, rfl, rfl, SqT.of h1, at0, rfl, _, rfl, ?_⟩
        rw [Row.isFin_tag]
        cases he : d.isFin with
        | true =>
          cases d <;> first | cases he | skip
          rename_i n
          have ne := fit pre n post ed
          have nl : 0 < (tale z pre).around.length := List.length_pos_iff.mpr ne
          refine iteT ?_
          refine ⟨_, rfl, _, _, rfl, rfl, kx, hf3, some (V.ref p), ?_⟩
          show [_, _, _, some (V.int (((tale z pre).around.length : Int) - 1)), _] = [_, _, _, some (V.int ((tale z pre).around.dropLast.length : Int)), _]
          rw [List.length_dropLast, show (((tale z pre).around.length : Int) - 1) = (((tale z pre).around.length - 1 : Nat) : Int) by omega]
        | false =>
          refine iteF ⟨kx, ?_, some (V.ref p), ?_⟩
          · cases d <;> first | (cases hb; done) | (cases he; done) | (cases hc; done) | exact hf3
          · cases d <;> first | (cases hb; done) | (cases he; done) | (cases hc; done) | rfl
  · rintro σ Hx ⟨kx, hf3, o, rfl⟩
    exact ⟨_, rfl, k f Hx hf kx hf3⟩
def sp_turns : Sp := fun vs H Q _ => ∃ (z : Nat → Str) (a : Addr) (rows : List Row), vs = [.ref a] ∧ LstAt RowAt H a rows ∧ rows.length ≤ 1000 ∧ Fit z rows ∧
  ∀ p as H', H p = none → Kp [] H H' → LL H' p as (turnsP (tale z rows).inside) → Q (.ref p) H'
theorem ok_turns (T : Tx K mg) : FnOk P w K mg base CX0 2 T.f_turns T.d_turns ["log"] (sp_turns) := by
  refine T.F_turns.ok sc_turns (by walk_at "len") (fun cdv A outer s H vs Q E hr h => ?_)
  obtain ⟨z, a, rows, rfl, ⟨xs, ha, hx⟩, hl, fit, k⟩ := h
  refine ⟨_, (pss_cons (ps_set (i := 1) sc_turns.nd rfl (Or.inl rfl) (pe_lst pa_nil))
    (pss_cons (ps_for PassesOwn.never rfl (pi_list (pe_call (ok_inside T) (hr.mono (by decide)) rfl T.g_inside T.F_inside.kp T.b_inside .nil pass0 (pa_cons (pv 0) pa_nil))) (kTup K (pgs_cons (pg_name (i := 2) sc_turns.nd rfl (Or.inl rfl)) (pgs_cons (pg_name (i := 3) sc_turns.nd rfl (Or.inl rfl)) pgs_nil)))
        (pss_one (ps_if (pt_cmpR op_isN (pv 3) pe_non (nomark _))
            (pss_one (ps_expr (pe_bm PySem.F.plainAttrs_list PySem.F.slot_list_append PySem.F.type_list_append mt_append (pv 1) (pa_cons (pe_lst (pa_cons (pv 2) pa_nil)) pa_nil))))
            (pss_one (ps_expr (pe_bm PySem.F.plainAttrs_list PySem.F.slot_list_append PySem.F.type_list_append mt_append (pe_ix (kIxL K) (pv 1) (pe_un un_neg pe_int) (fun _ _ => rfl)) (pa_cons (pv 2) pa_nil)))))))
    (pss_one (ps_ret (pv 1))))), ?_⟩
  refine ⟨Nat.zero_le _, fun f hf => ?_⟩
  have k1 := (Kp.refl [] H).new (o := .lst []) hf
  have f1 : upd H f (.lst []) f = some (.lst []) := upd_same
  generalize upd H f (.lst []) = H1 at k1 f1 ⊢
  walk_at "nf"
  refine for_go ?_
  refine ⟨_, rfl, z, a, rows, rfl, ⟨xs, k1.keep0 ha, Pd.mono (fun _ _ => rowStb _ _ _ _ k1.tk) hx⟩, hl, fit, fun g H2 hg k2 hg2 => ⟨g, rfl, ?_⟩⟩
  obtain ⟨ys, hgl, hyp⟩ := hg2
  have k12 := k1.trans k2
  have nfg : f ≠ g := fun e => by rw [← e, f1] at hg; cases hg
  obtain ⟨il, _, _⟩ := tale_len z rows.length rows rfl
  -- the first of the pairs has none around it, so the turns are never empty behind it
  have first : ∀ pre c post, (tale z rows).inside = pre ++ c :: post → c.2 ≠ none → turnsP pre ≠ [] := fun pre c post e h => by
    refine turnsP_ne fun q => h ?_
    subst q
    exact tale_first z _ rows rfl c post e
  refine ⟨⟨_, SqL.of hgl⟩, ?_⟩
  refine for_pd hyp (fun pre σ Hx => Kp [] H Hx ∧ TK H2 Hx ∧ Hx g = some (.lst ys) ∧ (∃ as, LL Hx f as (turnsP pre) ∧ g ∉ as ∧ ∀ x ∈ as, H x = none) ∧ ∃ o o', σ = [some (.ref a), some (.ref f), o, o'])
    ⟨k12, (fun _ _ h => h), hgl, ⟨[], ⟨by simp, k2.keep0 f1, .nil⟩, by simp, by simp⟩, _, _, rfl⟩ (fun pre σ Hx q => SqL.of q.2.2.1) ?_ ?_
  · rintro pre x c post σ Hx ed ⟨p0, rfl, hp0⟩ ⟨kx, tx, hgx, ⟨as, ll, ga, fa⟩, o, o', rfl⟩
    have lpre : pre.length < (tale z rows).inside.length := by rw [ed, List.length_append, List.length_cons]; omega
    obtain ⟨tl, ti⟩ := turns_len pre.length pre rfl
    have la : as.length ≤ 1000 := by rw [ll.len]; omega
    refine ⟨p0, _, rfl, SqT.of (tx _ _ hp0), rfl, ?_⟩
    obtain ⟨n, ou⟩ := c
    refine ⟨_, _, rfl, _, _, rfl, rfl, ?_⟩
    refine ⟨_, rfl, rfl, _, rfl, ?_⟩
    have gf : g ∉ f :: as := fun q => (List.mem_cons.mp q).elim (fun e => nfg e.symm) ga
    cases ou with
    | none =>
      refine iteT' (by rfl) ?_
      refine ⟨_, rfl, .inl ⟨rfl, _, SqL.of ll.r⟩, _, rfl, by show 1 ≤ sizeLine; decide, fun q hq => ?_⟩
      have nq : q ∉ f :: as := fun z => ll.has q z hq
      have nqf : q ≠ f := fun e => nq (e ▸ List.mem_cons_self ..)
      have kq := (Kp.refl [] Hx).new (o := .lst [nV n]) hq
      have fq := kq.keep0 ll.r
      refine ⟨f, _, _, rfl, rfl, fq, by rw [List.length_map]; exact Nat.lt_of_le_of_lt la (by decide), ?_⟩
      have ll2 := ll.push n hq
      have km : Kp [f] (upd Hx q (.lst [nV n])) (upd (upd Hx q (.lst [nV n])) f (.lst (as.map V.ref ++ [.ref q]))) := (Kp.refl _ _).lst (.inl (by simp)) fq
      rw [turns_snoc]
      refine ⟨?_, fun a xs h => km.tup _ _ (kq.tup _ _ (tx _ _ h)), km.keep _ _ (by simpa using Ne.symm nfg) (kq.keep0 hgx), ⟨_, ll2, ?_, ?_⟩, _, _, rfl⟩
      · exact (((kx.mono (M := [f]) (by simp)).new hq).transM km (by simp)).mono fun y hy => .inr (by rw [List.mem_singleton.mp hy]; exact hf)
      · intro z
        rcases List.mem_append.mp z with z | z
        · exact ga z
        · rw [List.mem_singleton] at z
          rw [z, hq] at hgx
          cases hgx
      · intro y hy
        rcases List.mem_append.mp hy with hy | hy
        · exact fa y hy
        · rw [List.mem_singleton.mp hy]
          exact kx.dom _ hq
    | some m =>
      refine iteF' (by rfl) ?_
      obtain ⟨b, hb1, hb2, hb3, ll2⟩ := ll.last (first pre _ post ed (by simp)) n
      refine ⟨_, rfl, _, rfl, f, _, _, .ref b, rfl, rfl, SqL.of ll.r, atLast (by rw [List.getLast?_map, hb1]; rfl), .inl ⟨rfl, _, SqL.of hb3⟩, _, rfl, b, _, _, rfl, rfl, hb3, ?_, ?_⟩
      · rw [List.length_map]
        exact Nat.lt_of_le_of_lt (show _ ≤ 1000 by omega) (by decide)
      have km : Kp [b] Hx (upd Hx b (.lst (((turnsP pre).getLast?.getD []).map nV ++ [nV n]))) := (Kp.refl _ _).lst (.inl (by simp)) hb3
      rw [turns_snoc]
      refine ⟨?_, fun a xs h => km.tup _ _ (tx _ _ h), km.keep _ _ (fun z => ga (by rw [List.mem_singleton.mp z]; exact hb2)) hgx, ⟨_, ll2, ga, fa⟩, _, _, rfl⟩
      exact ((kx.mono (M := [b]) (by simp)).transM km (by simp)).mono fun y hy => .inr (by rw [List.mem_singleton.mp hy]; exact fa b hb2)
  · rintro σ Hx ⟨kx, tx, hgx, ⟨as, ll, ga, fa⟩, o, o', rfl⟩
    exact ⟨_, rfl, k f as Hx hf kx ll⟩
/-! ### the law's own book -/
theorem kskip {a b : Str} {v : V} {r : List (Key × V)} (h : ¬ a = b) : valV ((Sum.inr a, v) :: r) (Sum.inr b : Key) = valV r (Sum.inr b) := valV_neg fun e => h (Sum.inr.inj e)
theorem own_ar (A : OwA) : valV (ownK A) (Sum.inr "around") = some (.ref A.ar) := valV_pos rfl
theorem own_ev (A : OwA) : valV (ownK A) (Sum.inr "events") = some (.ref A.ev) := (kskip (by decide +kernel)).trans (valV_pos rfl)
theorem own_bg (A : OwA) : valV (ownK A) (Sum.inr "begun") = some (.ref A.bg) := (kskip (by decide +kernel)).trans ((kskip (by decide +kernel)).trans (valV_pos rfl))
theorem own_in (A : OwA) : valV (ownK A) (Sum.inr "inside") = some (.ref A.ins) := (kskip (by decide +kernel)).trans ((kskip (by decide +kernel)).trans ((kskip (by decide +kernel)).trans (valV_pos rfl)))
theorem own_tu (A : OwA) : valV (ownK A) (Sum.inr "turns") = some (.ref A.tu) := (kskip (by decide +kernel)).trans ((kskip (by decide +kernel)).trans ((kskip (by decide +kernel)).trans ((kskip (by decide +kernel)).trans (valV_pos rfl))))
theorem own_dr (A : OwA) : valV (ownK A) (Sum.inr "drawn") = some (.ref A.dr) := (kskip (by decide +kernel)).trans ((kskip (by decide +kernel)).trans ((kskip (by decide +kernel)).trans ((kskip (by decide +kernel)).trans ((kskip (by decide +kernel)).trans (valV_pos rfl)))))
def sp_lwordBy : Sp := fun vs H Q _ => ∃ c : Int, vs = [.int c] ∧ ∀ z H', word13 z → Kp [] H H' → Q (.str z) H'
theorem ok_lwordBy (T : Tx K mg) : FnOk P w K mg base CX0 1 T.f_lwordBy T.d_lwordBy ["_law_cell"] (sp_lwordBy) := by
  refine T.F_lwordBy.ok sc_lwordBy (by walk_at "len") (fun cdv A outer s H vs Q E hr h => ?_)
  obtain ⟨c, rfl, k⟩ := h
  refine ⟨_, (pss_cons (ps_set (i := 1) sc_lwordBy.nd rfl (Or.inr rfl) pe_str)
    (pss_one (ps_ret (pe_join pe_str (pe_lc (own := [("_law_at", 2)]) (g := gName 2) (tt := tYes) rfl sc_lwordBy.nd (pi_range1 rfl T.z_range (pa_cons (pe_op op_add pe_int (pe_op op_mod (pe_op op_fdiv (pv 0) pe_int) pe_int)) pa_nil)) (blkOk_by (own := [("_law_at", 2)]) (N := nm_lwordBy) (sc := defScope s_lwordBy) (by decide +kernel)) (fun _ _ _ _ _ => (pg_name (i := 2) sc_lwordBy.nd rfl (Or.inl rfl))) (fun _ _ _ _ _ => pts_nil) (fun _ _ _ _ _ => (pe_ix ix_str (pv 1) (pe_op op_mod (pe_op op_add (pv 0) (pe_op op_mul (pe_op op_mul pe_int (pv 2)) (pe_op op_add pe_int (pe_op op_mod (pe_op op_fdiv (pv 0) pe_int) pe_int)))) pe_int) (fun _ _ => rfl)))))))), ?_⟩
  walk_at "nf"
  have g0 : 0 ≤ c / 130 % 12 := Int.emod_nonneg _ (by decide)
  have g1 : c / 130 % 12 < 12 := Int.emod_lt_of_pos _ (by decide)
  have m0 : 0 ≤ c / 26 % 5 := Int.emod_nonneg _ (by decide)
  have m1 : c / 26 % 5 < 5 := Int.emod_lt_of_pos _ (by decide)
  let ix : Nat → Int := fun i => (c + 7 * (i : Int) * (1 + c / 26 % 5)) % 26
  have i0 : ∀ i, 0 ≤ ix i := fun i => Int.emod_nonneg _ (by decide)
  have i1 : ∀ i, ix i < 26 := fun i => Int.emod_lt_of_pos _ (by decide)
  refine ⟨⟨_, rfl⟩, ?_⟩
  refine lc_go ?_
  refine ⟨_, rfl, _, _, rfl, rfl, ⟨by decide, by decide⟩, _, _, rfl, rfl, (by show (0 : Int) < 12; decide), _, _, rfl, rfl, _, rfl, (by show _ ≤ 1 + c / 130 % 12; omega), (by show 1 + c / 130 % 12 < _; omega), ?_⟩
  refine lc_rmp (fun i => V.str ⟨#[97 + (ix i).toNat]⟩) (Nat.lt_of_le_of_lt (show (1 + c / 130 % 12).toNat ≤ 12 by omega) (by decide)) (fun x => rfl) ?_ ?_
  · intro i H' Q' hi kp q
    have hi : i < (1 + c / 130 % 12).toNat := hi
    rw [Int.zero_add]
    refine ⟨_, rfl, _, rfl, _, rfl, _, _, rfl, rfl, .inl (by decide), _, rfl, _, _, rfl, rfl, ⟨by decide, by decide⟩, _, _, rfl, rfl, (by show (0 : Int) < 5; decide), _, _, rfl, rfl, _, _, rfl, rfl, .inl ?_, _, _, rfl, rfl, _, _, rfl, rfl, (by show (0 : Int) < 26; decide), _, _, _, rfl, rfl, ?_, abc_at (i0 i) (i1 i), q _ (Kp.refl _ _)⟩
    · omega
    · exact Nat.le_trans (Nat.le_of_eq abc_len) (by decide)
  · intro D H' hD kp e
    have en : (List.range (1 + c / 130 % 12).toNat).map (fun i => V.str ⟨#[97 + (ix i).toNat]⟩) = (((List.range (1 + c / 130 % 12).toNat).map fun i => 97 + (ix i).toNat).map fun c => (⟨#[c]⟩ : Str)).map V.str := by
      rw [List.map_map, List.map_map]
      rfl
    have e : H' D = some (.lst ((List.range (1 + c / 130 % 12).toNat).map (fun i => V.str ⟨#[97 + (ix i).toNat]⟩))) := e
    rw [en] at e
    have lc : ((List.range (1 + c / 130 % 12).toNat).map fun i => 97 + (ix i).toNat).length ≤ 12 := by
      rw [List.length_map, List.length_range]
      omega
    have ok : ∀ x ∈ (List.range (1 + c / 130 % 12).toNat).map (fun i => 97 + (ix i).toNat), 97 ≤ x ∧ x ≤ 122 := fun x hx => by
      obtain ⟨i, _, rfl⟩ := List.mem_map.mp hx
      have := i0 i
      have := i1 i
      omega
    generalize (List.range (1 + c / 130 % 12).toNat).map (fun i => 97 + (ix i).toNat) = cs at e lc ok
    refine ⟨"", D, _, rfl, rfl, .inl (SqL.of e), ?_, ?_⟩
    · have s1 : ((cs.map fun c => (⟨#[c]⟩ : Str)).map fun x => x.length).sum = cs.length := sum_ones cs
      rw [s1]
      have e8 : ("" : Str).length = 0 := by decide +kernel
      rw [e8]
      omega
    · rw [join_letters]
      exact k _ _ ⟨lc, okT_letters ok⟩ kp
def sp_lrow : Sp := fun vs H Q _ => ∃ (A : OwA) (s : Ow) (cell : Int), vs = [.ref A.d, .int cell] ∧ BkAt H A s.bk ∧ s.evs.length ≤ 70 ∧ s.around.length ≤ 70 ∧ s.inside.length ≤ 70 ∧ s.drawn.length ≤ 70 ∧ (s.around ≠ [] → s.inside ≠ []) ∧
  ∀ H' as' s' r v, BkAt H' (A.to as') s'.bk → (∀ x ∈ as', x ∈ A.as ∨ H x = none) → Kp A.cells H H' → RowAt H' v r → StepO s r s' → Q v H'
theorem ok_lrow (T : Tx K mg) : FnOk P w K mg base CX0 2 T.f_lrow T.d_lrow ["_law_own", "_law_cell"] (sp_lrow) := by
  refine T.F_lrow.ok sc_lrow (by walk_at "len") (fun cdv A outer s H vs Q E hr h => ?_)
  obtain ⟨A, s0, cell, rfl, B, l1, l2, l3, l4, hne, k⟩ := h
  refine ⟨_, (pss_cons (ps_set (i := 2) sc_lrow.nd rfl (Or.inl rfl) (pe_dget (hu_of hr) (pv 0) pe_str (fun _ _ => rfl)))
    (pss_cons (ps_set (i := 3) sc_lrow.nd rfl (Or.inl rfl) (pe_op op_mod (pv 1) pe_int))
    (pss_cons (ps_if (PW.pt (pw_or (pt_cmpR op_lt (pv 3) pe_int (nomark _)) (pw_or1 (pt_not (kTruth K (pv 2))))))
        (pss_cons (ps_set (i := 4) sc_lrow.nd rfl (Or.inl rfl) (pe_callB (kLen K) (by rfl) T.z_len PySem.boot_len (pa_cons (pe_dget (hu_of hr) (pv 0) pe_str (fun _ _ => rfl)) pa_nil)))
        (pss_cons (ps_set (i := 5) sc_lrow.nd rfl (Or.inl rfl) (pe_call (ok_lwordBy T) (hr.mono (by decide)) rfl T.g_lwordBy T.F_lwordBy.kp T.b_lwordBy .nil pass0 (pa_cons (pe_op op_fdiv (pv 1) pe_int) pa_nil)))
        (pss_cons (ps_expr (pe_bm PySem.F.plainAttrs_list PySem.F.slot_list_append PySem.F.type_list_append mt_append (pe_dget (hu_of hr) (pv 0) pe_str (fun _ _ => rfl)) (pa_cons (pe_tup (pa_cons (pv 5) (pa_cons pe_non (pa_cons pe_str (pa_cons pe_int pa_nil))))) pa_nil)))
        (pss_cons (ps_expr (pe_bm PySem.F.plainAttrs_list PySem.F.slot_list_append PySem.F.type_list_append mt_append (pe_dget (hu_of hr) (pv 0) pe_str (fun _ _ => rfl)) (pa_cons (pv 4) pa_nil)))
        (pss_cons (ps_set (i := 6) sc_lrow.nd rfl (Or.inl rfl) pe_non)
        (pss_cons (ps_if (kTruth K (pv 2))
            (pss_cons (ps_set (i := 6) sc_lrow.nd rfl (Or.inl rfl) (pe_ix (kIxL K) (pv 2) (pe_un un_neg pe_int) (fun _ _ => rfl)))
            (pss_one (ps_expr (pe_bm PySem.F.plainAttrs_list PySem.F.slot_list_append PySem.F.type_list_append mt_append (pe_ix (kIxL K) (pe_dget (hu_of hr) (pv 0) pe_str (fun _ _ => rfl)) (pe_un un_neg pe_int) (fun _ _ => rfl)) (pa_cons (pv 4) pa_nil)))))
            (pss_one (ps_expr (pe_bm PySem.F.plainAttrs_list PySem.F.slot_list_append PySem.F.type_list_append mt_append (pe_dget (hu_of hr) (pv 0) pe_str (fun _ _ => rfl)) (pa_cons (pe_lst (pa_cons (pv 4) pa_nil)) pa_nil)))))
        (pss_cons (ps_expr (pe_bm PySem.F.plainAttrs_list PySem.F.slot_list_append PySem.F.type_list_append mt_append (pe_dget (hu_of hr) (pv 0) pe_str (fun _ _ => rfl)) (pa_cons (pe_tup (pa_cons (pv 4) (pa_cons (pv 6) pa_nil))) pa_nil)))
        (pss_cons (ps_expr (pe_bm PySem.F.plainAttrs_list PySem.F.slot_list_append PySem.F.type_list_append mt_append (pe_dget (hu_of hr) (pv 0) pe_str (fun _ _ => rfl)) (pa_cons (pe_op op_add_str (pe_op op_add_str (pe_op op_add_str (pe_op kMulS pe_str (pe_callB (kLen K) (by rfl) T.z_len PySem.boot_len (pa_cons (pv 2) pa_nil))) (pe_callTy call_str_int (by rfl) T.z_str (by decide +kernel) (pa_cons (pv 4) pa_nil))) pe_str) (pv 5)) pa_nil)))
        (pss_cons (ps_expr (pe_bm PySem.F.plainAttrs_list PySem.F.slot_list_append PySem.F.type_list_append mt_append (pv 2) (pa_cons (pv 4) pa_nil)))
        (pss_one (ps_ret (pe_tup (pa_cons pe_str (pa_cons (pv 4) (pa_cons (pe_op op_mod (pe_op op_fdiv (pv 1) pe_int) pe_int) pa_nil)))))))))))))))
        pss_nil)
    (pss_cons (ps_if (pt_cmpR op_lt (pv 3) pe_int (nomark _))
        (pss_one (ps_ret (pe_tup (pa_cons pe_str (pa_cons (pe_bm0 PySem.F.plainAttrs_list PySem.F.slot_list_pop PySem.F.type_list_pop mt_pop (pv 2)) pa_nil)))))
        pss_nil)
    (pss_cons (ps_if (pt_cmpR op_lt (pv 3) pe_int (nomark _))
        (pss_cons (ps_set (i := 7) sc_lrow.nd rfl (Or.inl rfl) (pe_call (ok_lwordBy T) (hr.mono (by decide)) rfl T.g_lwordBy T.F_lwordBy.kp T.b_lwordBy .nil pass0 (pa_cons (pe_op op_fdiv (pv 1) pe_int) pa_nil)))
        (pss_cons (ps_expr (pe_bm PySem.F.plainAttrs_list PySem.F.slot_list_append PySem.F.type_list_append mt_append (pe_dget (hu_of hr) (pv 0) pe_str (fun _ _ => rfl)) (pa_cons (pe_op op_add_str (pe_op op_add_str (pe_op kMulS pe_str (pe_callB (kLen K) (by rfl) T.z_len PySem.boot_len (pa_cons (pv 2) pa_nil))) pe_str) (pv 7)) pa_nil)))
        (pss_one (ps_ret (pe_tup (pa_cons pe_str (pa_cons (pe_ix (kIxL K) (pv 2) (pe_un un_neg pe_int) (fun _ _ => rfl)) (pa_cons (pv 7) pa_nil))))))))
        pss_nil)
    (pss_cons (ps_set (i := 8) sc_lrow.nd rfl (Or.inl rfl) (pe_lst (pa_cons (pe_tup (pa_cons pe_str (pa_cons (pe_ix (kIxL K) (pv 2) (pe_un un_neg pe_int) (fun _ _ => rfl)) pa_nil))) (pa_cons (pe_tup (pa_cons pe_str (pa_cons (pe_ix (kIxL K) (pv 2) (pe_un un_neg pe_int) (fun _ _ => rfl)) (pa_cons (pe_op op_mod (pe_op op_fdiv (pv 1) pe_int) pe_int) pa_nil)))) (pa_cons (pe_tup (pa_cons pe_str (pa_cons (pe_ix (kIxL K) (pv 2) (pe_un un_neg pe_int) (fun _ _ => rfl)) (pa_cons (pe_tup (pa_cons pe_int (pa_cons pe_int pa_nil))) pa_nil)))) pa_nil)))))
    (pss_cons (ps_set (i := 8) sc_lrow.nd rfl (Or.inl rfl) (pe_op op_cat (pv 8) (pe_lst (pa_cons (pe_tup (pa_cons pe_str (pa_cons (pe_op op_mod (pe_op op_fdiv (pv 1) pe_int) pe_int) pa_nil))) (pa_cons (pe_tup (pa_cons pe_str (pa_cons (pe_ix (kIxL K) (pv 2) (pe_un un_neg pe_int) (fun _ _ => rfl)) (pa_cons pe_str pa_nil)))) (pa_cons (pe_tup (pa_cons pe_str (pa_cons (pe_ix (kIxL K) (pv 2) (pe_un un_neg pe_int) (fun _ _ => rfl)) (pa_cons pe_str pa_nil)))) pa_nil))))))
    (pss_one (ps_ret (pe_ix (kIxL K) (pv 8) (pe_op op_mod (pe_op op_fdiv (pv 1) pe_int) pe_int) (fun _ _ => rfl))))))))))), ?_⟩
  have q2 : ("  " : Str).length = 2 := by decide +kernel
  have q1 : (" " : Str).length = 1 := by decide +kernel
  have q2' : ("- " : Str).length = 2 := by decide +kernel
  have dgs : ∀ {H' : Hp} {x : Str} {v : V}, H' A.d = some (.dK (ownK A)) → valV (ownK A) (Sum.inr x) = some v → DGet H' A.d (.str x) (some v) := fun {H' x v} h e => e ▸ DGet.k (k := Sum.inr x) h
  have W0 := Bw.refl B
  refine ⟨_, rfl, A.d, _, rfl, dgs B.d (own_ar A), ?_⟩
  refine ⟨_, rfl, _, _, rfl, rfl, (by show (0 : Int) < 9; decide), ?_⟩
  refine ⟨_, rfl, _, _, rfl, rfl, _, rfl, ite2 (fun _ => iteT ?_) (fun _ => ⟨_, rfl, _, .inl ⟨_, SqL.of B.ar, rfl⟩, ite2 (fun _ => ?_) (fun hz => ?_)⟩)⟩
  rotate_right
  · have na : s0.around ≠ [] := fun e => hz (by
      show (!(!(s0.around.map nV).isEmpty)) = true
      rw [e]
      rfl)
    obtain ⟨m, hm⟩ : ∃ m, s0.around.getLast? = some m := ⟨_, List.getLast?_eq_some_getLast na⟩
    have lastA : (s0.around.map nV).getLast? = some (nV m) := by rw [List.getLast?_map, hm]; rfl
    have lr : (repS "  " (s0.around.map nV).length).length ≤ 200 := by rw [len_rep, q2, List.length_map]; exact Nat.le_trans (Nat.mul_le_mul_right 2 l2) (by decide)
    refine ⟨_, rfl, _, _, rfl, rfl, _, rfl, ite2 (fun _ => ?_) (fun _ => ?_)⟩
    · refine ⟨_, rfl, .inl ⟨rfl, _, SqL.of B.ar⟩, A.ar, _, nV m, rfl, rfl, B.ar, (by rw [← List.getLast?_eq_getElem?]; exact lastA), by show 2 ≤ sizeLine; decide, fun t ht => ?_⟩
      have W1 := W0.setAr s0.around.dropLast
      rw [List.map_dropLast] at W1
      have W2 := W1.new (o := .tup [.str "end", nV m]) ht
      exact k _ _ { s0 with around := s0.around.dropLast } (.fin m) _ W2.l W2.sub W2.kp ⟨t, t, rfl, upd_same, trivial⟩ (.fin m hm)
    · refine ⟨_, rfl, _, _, rfl, rfl, _, rfl, ite2 (fun _ => ?_) (fun _ => ?_)⟩
      · refine ⟨_, rfl, _, _, rfl, rfl, ⟨by decide, by decide⟩, _, rfl, fun z H1 hz kz => ?_⟩
        have W1 := W0.kp0 kz
        refine ⟨_, rfl, A.d, _, rfl, dgs W1.l.d (own_dr A), .inl ⟨rfl, _, SqL.of W1.l.dr⟩, _, rfl, A.ar, _, rfl, .inl (SqL.of W1.l.ar), "  ", _, rfl, rfl, Int.natCast_nonneg _, ?_, by rw [q2]; decide, _, _, rfl, rfl, ?_, _, rfl, _, _, rfl, rfl, ?_, ?_⟩
        · rw [List.length_map]
          exact Int.ofNat_le.mpr (Nat.le_trans l2 (by decide))
        · exact Nat.le_trans (Nat.add_le_add lr (Nat.le_of_eq q2')) (by decide)
        · rw [len_app]
          exact Nat.le_trans (Nat.add_le_add (Nat.add_le_add lr (Nat.le_of_eq q2')) hz.1) (by decide)
        refine ⟨A.dr, _, _, rfl, rfl, W1.l.dr, Nat.lt_of_le_of_lt (show _ ≤ 100 by rw [List.length_map]; exact Nat.le_trans l4 (by decide)) (by decide), ?_⟩
        have ed : (s0.drawn.map V.str ++ [V.str (repS "  " (s0.around.map nV).length ++ "- " ++ z)]) = (s0.drawn ++ [lineC s0.around.length z]).map V.str := by
          rw [List.map_append, List.length_map]
          rfl
        have W2 := W1.setDr (s0.drawn ++ [lineC s0.around.length z])
        rw [← ed] at W2
        refine ⟨_, rfl, _, rfl, A.ar, _, _, nV m, rfl, rfl, SqL.of W2.l.ar, atLast lastA, _, rfl, by show 3 ≤ sizeLine; decide, fun t ht => ?_⟩
        have W3 := W2.new (o := .tup [.str "call", nV m, .str z]) ht
        exact k _ _ { s0 with drawn := s0.drawn ++ [lineC s0.around.length z] } (.call m z) _ W3.l W3.sub W3.kp ⟨t, t, rfl, upd_same, trivial⟩ (.call m z hm hz)
      · have g0 : ∀ j : Int, 0 < j → 0 ≤ cell / 9 % j := fun j h => Int.emod_nonneg _ (by omega)
        have x50 : (((cell / 9 % 50).toNat : Nat) : Int) = cell / 9 % 50 := Int.toNat_of_nonneg (g0 50 (by decide))
        refine ⟨_, rfl, _, rfl, A.ar, _, _, nV m, rfl, rfl, SqL.of B.ar, atLast lastA, by show 2 ≤ sizeLine; decide, fun t1 ht1 => ?_⟩
        have W1 := W0.new (o := .tup [.str "hush", nV m]) ht1
        have r1 : RowAt (upd H t1 (.tup [.str "hush", nV m])) (.ref t1) (.hush m) := ⟨t1, t1, rfl, upd_same, trivial⟩
        generalize upd H t1 (.tup [.str "hush", nV m]) = H1 at W1 r1 ⊢
        refine ⟨_, rfl, _, rfl, A.ar, _, _, nV m, rfl, rfl, SqL.of W1.l.ar, atLast lastA, _, rfl, _, _, rfl, rfl, ⟨by decide, by decide⟩, _, _, rfl, rfl, (by show (0 : Int) < 50; decide), by show 3 ≤ sizeLine; decide, fun t2 ht2 => ?_⟩
        have W2 := W1.new (o := .tup [.str "make", nV m, .int (cell / 9 % 50)]) ht2
        have r2 : RowAt (upd H1 t2 (.tup [.str "make", nV m, .int (cell / 9 % 50)])) (.ref t2) (.make m (cell / 9 % 50).toNat) := ⟨t2, t2, rfl, by rw [upd_same]; show _ = some (HO.tup [_, _, V.int ((cell / 9 % 50).toNat : Nat)]); rw [x50]; rfl, trivial⟩
        have c2 := (Kp.refl [] H1).new (o := .tup [.str "make", nV m, .int (cell / 9 % 50)]) ht2
        dsimp only
        generalize upd H1 t2 (.tup [.str "make", nV m, .int (cell / 9 % 50)]) = H2 at W2 r2 c2 ⊢
        refine ⟨_, rfl, _, rfl, A.ar, _, _, nV m, rfl, rfl, SqL.of W2.l.ar, atLast lastA, by show 2 ≤ sizeLine; decide, fun t3 ht3 => ⟨by show 3 ≤ sizeLine; decide, fun t4 ht4 => ?_⟩⟩
        have W3 := W2.new (o := .tup [.int 0, .int 3]) ht3
        have c3 := (Kp.refl [] H2).new (o := .tup [.int 0, .int 3]) ht3
        have u3 : upd H2 t3 (.tup [.int 0, .int 3]) t3 = some (.tup [.int 0, .int 3]) := upd_same
        generalize upd H2 t3 (.tup [.int 0, .int 3]) = H3 at W3 c3 u3 ht4 ⊢
        have W4 := W3.new (o := .tup [.str "cancel", nV m, .ref t3]) ht4
        have c4 := (Kp.refl [] H3).new (o := .tup [.str "cancel", nV m, .ref t3]) ht4
        have r4 : RowAt (upd H3 t4 (.tup [.str "cancel", nV m, .ref t3])) (.ref t4) (.cancel m [0, 3]) := ⟨t4, t3, rfl, upd_same, c4.keep0 u3⟩
        generalize upd H3 t4 (.tup [.str "cancel", nV m, .ref t3]) = H4 at W4 c4 r4 ⊢
        refine ⟨by show 3 ≤ sizeLine; decide, fun p5 hp5 => ?_⟩
        have W5 := W4.new (o := .lst [.ref t1, .ref t2, .ref t4]) hp5
        have c5 := (Kp.refl [] H4).new (o := .lst [.ref t1, .ref t2, .ref t4]) hp5
        have u5 : upd H4 p5 (.lst [.ref t1, .ref t2, .ref t4]) p5 = some (.lst [.ref t1, .ref t2, .ref t4]) := upd_same
        generalize upd H4 p5 (.lst [.ref t1, .ref t2, .ref t4]) = H5 at W5 c5 u5 ⊢
        refine ⟨_, rfl, _, rfl, _, _, rfl, rfl, ⟨by decide, by decide⟩, _, _, rfl, rfl, (by show (0 : Int) < 50; decide), by show 2 ≤ sizeLine; decide, fun t6 ht6 => ?_⟩
        dsimp only
        have W6 := W5.new (o := .tup [.str "send", .int (cell / 9 % 50)]) ht6
        have c6 := (Kp.refl [] H5).new (o := .tup [.str "send", .int (cell / 9 % 50)]) ht6
        have r6 : RowAt (upd H5 t6 (.tup [.str "send", .int (cell / 9 % 50)])) (.ref t6) (.send (cell / 9 % 50).toNat) := ⟨t6, t6, rfl, by rw [upd_same]; show _ = some (HO.tup [_, V.int ((cell / 9 % 50).toNat : Nat)]); rw [x50]; rfl, trivial⟩
        generalize upd H5 t6 (.tup [.str "send", .int (cell / 9 % 50)]) = H6 at W6 c6 r6 ⊢
        refine ⟨_, rfl, _, rfl, A.ar, _, _, nV m, rfl, rfl, SqL.of W6.l.ar, atLast lastA, by show 3 ≤ sizeLine; decide, fun t7 ht7 => ?_⟩
        have W7 := W6.new (o := .tup [.str "join", nV m, .str "begin"]) ht7
        have c7 := (Kp.refl [] H6).new (o := .tup [.str "join", nV m, .str "begin"]) ht7
        have r7 : RowAt (upd H6 t7 (.tup [.str "join", nV m, .str "begin"])) (.ref t7) (.join m "begin") := ⟨t7, t7, rfl, upd_same, trivial⟩
        generalize upd H6 t7 (.tup [.str "join", nV m, .str "begin"]) = H7 at W7 c7 r7 ⊢
        refine ⟨_, rfl, _, rfl, A.ar, _, _, nV m, rfl, rfl, SqL.of W7.l.ar, atLast lastA, by show 3 ≤ sizeLine; decide, fun t8 ht8 => ?_⟩
        have W8 := W7.new (o := .tup [.str "leave", nV m, .str "end"]) ht8
        have c8 := (Kp.refl [] H7).new (o := .tup [.str "leave", nV m, .str "end"]) ht8
        have r8 : RowAt (upd H7 t8 (.tup [.str "leave", nV m, .str "end"])) (.ref t8) (.leave m "end") := ⟨t8, t8, rfl, upd_same, trivial⟩
        generalize upd H7 t8 (.tup [.str "leave", nV m, .str "end"]) = H8 at W8 c8 r8 ⊢
        refine ⟨by show 3 ≤ sizeLine; decide, fun p9 hp9 => ?_⟩
        have W9 := W8.new (o := .lst [.ref t6, .ref t7, .ref t8]) hp9
        have c9 := (Kp.refl [] H8).new (o := .lst [.ref t6, .ref t7, .ref t8]) hp9
        have u9 : upd H8 p9 (.lst [.ref t6, .ref t7, .ref t8]) p9 = some (.lst [.ref t6, .ref t7, .ref t8]) := upd_same
        generalize upd H8 p9 (.lst [.ref t6, .ref t7, .ref t8]) = H9 at W9 c9 u9 ⊢
        have c58 : Kp [] H5 H9 := ((c6.trans c7).trans c8).trans c9
        refine ⟨p5, p9, _, _, rfl, rfl, c58.keep0 u5, u9, by show 6 ≤ sizeLine; decide, fun pa hpa => ?_⟩
        have Wa := W9.new (o := .lst ([.ref t1, .ref t2, .ref t4] ++ [.ref t6, .ref t7, .ref t8])) hpa
        have ca := (Kp.refl [] H9).new (o := .lst ([.ref t1, .ref t2, .ref t4] ++ [.ref t6, .ref t7, .ref t8])) hpa
        have ua : upd H9 pa (.lst ([.ref t1, .ref t2, .ref t4] ++ [.ref t6, .ref t7, .ref t8])) pa = some (.lst ([.ref t1, .ref t2, .ref t4] ++ [.ref t6, .ref t7, .ref t8])) := upd_same
        generalize upd H9 pa (.lst ([.ref t1, .ref t2, .ref t4] ++ [.ref t6, .ref t7, .ref t8])) = Ha at Wa ca ua ⊢
        have ka9 : Kp [] H5 Ha := c58.trans ca
        have ka4 : Kp [] H4 Ha := c5.trans ka9
        have ka2 : Kp [] H2 Ha := (c3.trans c4).trans ka4
        have ka1 : Kp [] H1 Ha := c2.trans ka2
        have ka8 : Kp [] H8 Ha := c9.trans ca
        have ka7 : Kp [] H7 Ha := c8.trans ka8
        have ka6 : Kp [] H6 Ha := c7.trans ka7
        have fin : ∀ (r : Row) (v : V), RowAt Ha v r → r.txt → r.isBegin = false → r.isFin = false → r.isCall = false → Q v Ha := fun r v h1 h2 h3 h4 h5 => k Ha A.as s0 r v Wa.l Wa.sub Wa.kp h1 (.other r h2 h3 h4 h5)
        have tb : strOkT "begin" := by unfold strOkT; decide +kernel
        have te : strOkT "end" := by unfold strOkT; decide +kernel
        have i0 := g0 6 (by decide)
        have i6 : cell / 9 % 6 < 6 := Int.emod_lt_of_pos _ (by decide)
        have pick : ∃ v, atI ([.ref t1, .ref t2, .ref t4] ++ [.ref t6, .ref t7, .ref t8] : List V) (cell / 9 % 6) = some v ∧ Q v Ha := by
          have ic : cell / 9 % 6 = (0 : Nat) ∨ cell / 9 % 6 = (1 : Nat) ∨ cell / 9 % 6 = (2 : Nat) ∨ cell / 9 % 6 = (3 : Nat) ∨ cell / 9 % 6 = (4 : Nat) ∨ cell / 9 % 6 = (5 : Nat) := by omega
          rcases ic with e | e | e | e | e | e <;> rw [e]
          · exact ⟨_, atI_nat rfl, fin _ _ (r1.kp ka1) trivial rfl rfl rfl⟩
          · exact ⟨_, atI_nat rfl, fin _ _ (r2.kp ka2) trivial rfl rfl rfl⟩
          · exact ⟨_, atI_nat rfl, fin _ _ (r4.kp ka4) trivial rfl rfl rfl⟩
          · exact ⟨_, atI_nat rfl, fin _ _ (r6.kp ka6) trivial rfl rfl rfl⟩
          · exact ⟨_, atI_nat rfl, fin _ _ (r7.kp ka7) tb rfl rfl rfl⟩
          · exact ⟨_, atI_nat rfl, fin _ _ (r8.kp ka8) te rfl rfl rfl⟩
        obtain ⟨v, ev, qv⟩ := pick
        exact ⟨_, rfl, _, rfl, _, _, rfl, rfl, ⟨by decide, by decide⟩, _, _, rfl, rfl, (by show (0 : Int) < 6; decide), pa, _, _, v, rfl, rfl, SqL.of ua, ev, qv⟩
  all_goals
    obtain ⟨es, hev, pev⟩ := B.ev
    have len1 : es.length = s0.evs.length := Pd.len pev
    refine ⟨_, rfl, A.d, _, rfl, dgs B.d (own_ev A), A.ev, _, rfl, .inl (SqL.of hev), ?_⟩
    rw [len1]
    obtain ⟨nok, nl⟩ := num_ok s0.evs.length (by omega)
    refine ⟨_, rfl, _, _, rfl, rfl, ⟨by decide, by decide⟩, _, rfl, fun z H1 hz kz => ?_⟩
    have W1 := W0.kp0 kz
    refine ⟨_, rfl, A.d, _, rfl, dgs W1.l.d (own_ev A), .inl ⟨rfl, _, SqL.of (kz.keep0 hev)⟩, _, rfl, by show 4 ≤ sizeLine; decide, fun t2 ht2 => ?_⟩
    have W2' := W1.new (o := .tup [.str z, .non, .str "wait", .int 0]) ht2
    have u2 : upd H1 t2 (.tup [.str z, .non, .str "wait", .int 0]) t2 = some (.tup [.str z, .non, .str "wait", .int 0]) := upd_same
    have k2 := (Kp.refl [] H1).new (o := .tup [.str z, .non, .str "wait", .int 0]) ht2
    generalize upd H1 t2 (.tup [.str z, .non, .str "wait", .int 0]) = H2 at W2' u2 k2 ⊢
    refine ⟨A.ev, es, _, rfl, rfl, k2.keep0 (kz.keep0 hev), Nat.lt_of_le_of_lt (show es.length ≤ 100 by omega) (by decide), ?_⟩
    have W2 := W2'.setEv (xs := s0.evs ++ [⟨z, none, .wait, 0⟩]) (Pd.append (Pd.mono (fun _ _ => evtStb _ _ _ _ (kz.trans k2).tk) pev) (.cons (show EvtAt H2 (.ref t2) ⟨z, none, .wait, 0⟩ from ⟨t2, rfl, u2⟩) .nil))
    generalize upd H2 A.ev (.lst (es ++ [.ref t2])) = H2b at W2 ⊢
    refine ⟨_, rfl, A.d, _, rfl, dgs W2.l.d (own_bg A), .inl ⟨rfl, _, SqL.of W2.l.bg⟩, _, rfl, A.bg, _, _, rfl, rfl, W2.l.bg, Nat.lt_of_le_of_lt (show _ ≤ 100 by rw [List.length_map]; show (s0.inside.map Prod.fst).length ≤ 100; rw [List.length_map]; exact Nat.le_trans l3 (by decide)) (by decide), ?_⟩
    have W3 := W2.setBg (s0.inside.map Prod.fst ++ [s0.evs.length])
    have e3 : (s0.inside.map Prod.fst).map nV ++ [nV s0.evs.length] = (s0.inside.map Prod.fst ++ [s0.evs.length]).map nV := by rw [List.map_append]; rfl
    rw [← e3] at W3
    refine ⟨_, rfl, _, .inl ⟨_, SqL.of W3.l.ar, rfl⟩, ite2 (fun ha => ?_) (fun ha => ?_)⟩
    · have na : s0.around ≠ [] := fun e => by
        have ha : (!(s0.around.map nV).isEmpty) = true := ha
        rw [e] at ha
        cases ha
      obtain ⟨m, hm⟩ : ∃ m, s0.around.getLast? = some m := ⟨_, List.getLast?_eq_some_getLast na⟩
      refine ⟨_, rfl, _, rfl, A.ar, _, _, onV s0.around.getLast?, rfl, rfl, SqL.of W3.l.ar, atLast (by rw [List.getLast?_map]; show s0.around.getLast?.map nV = _; rw [hm]; rfl), ?_⟩
      obtain ⟨c, c1, c3, W4⟩ := W3.lastTu (turnsP_ne (hne na)) s0.evs.length
      obtain ⟨tl, ti⟩ := turns_len s0.inside.length s0.inside rfl
      refine ⟨_, rfl, A.d, _, rfl, dgs W3.l.d (own_tu A), _, rfl, A.tu, _, _, .ref c, rfl, rfl, SqL.of W3.l.tu.r, atLast (by rw [List.getLast?_map]; show A.as.getLast?.map V.ref = _; rw [c1]; rfl), .inl ⟨rfl, _, SqL.of c3⟩, _, rfl, c, _, _, rfl, rfl, c3, ?_, ?_⟩
      · rw [List.length_map]
        exact Nat.lt_of_le_of_lt (show _ ≤ 100 from Nat.le_trans ti (Nat.le_trans l3 (by decide))) (by decide)
      generalize hH : upd _ c _ = H4
      have W4 : Bw H A H4 A.as ⟨s0.around, s0.evs ++ [⟨z, none, .wait, 0⟩], s0.inside.map Prod.fst ++ [s0.evs.length], s0.inside, addLast (turnsP s0.inside) s0.evs.length, s0.drawn⟩ := by
        rw [← hH]
        exact W4
      have e4 : ∀ {l : List Nat} {n : Nat}, l.map nV ++ [nV n] = (l ++ [n]).map nV := fun {l n} => by rw [List.map_append]; rfl
      -- inside
      obtain ⟨ps, hin4, pin4⟩ := W4.l.ins
      refine ⟨_, rfl, A.d, _, rfl, dgs W4.l.d (own_in A), .inl ⟨rfl, _, SqL.of hin4⟩, _, rfl, _, rfl, by show 2 ≤ sizeLine; decide, fun t5 ht5 => ?_⟩
      generalize hH5 : upd H4 t5 _ = H5
      have k5 : Kp [] H4 H5 := by rw [← hH5]; exact (Kp.refl _ _).new ht5
      have u5 : H5 t5 = some (.tup [nV s0.evs.length, onV s0.around.getLast?]) := by
        rw [← hH5, upd_same]
        first | rfl | (rw [hm]; rfl)
      have W5 := W4.kp0 k5
      refine ⟨A.ins, ps, _, rfl, rfl, k5.keep0 hin4, Nat.lt_of_le_of_lt (show ps.length ≤ 100 by rw [Pd.len pin4]; exact Nat.le_trans l3 (by decide)) (by decide), ?_⟩
      have W6 := W5.setIn (xs := s0.inside ++ [(s0.evs.length, s0.around.getLast?)]) (Pd.append (Pd.mono (fun _ _ => pairStb _ _ _ _ k5.tk) pin4) (.cons (show PairAt H5 (.ref t5) (s0.evs.length, s0.around.getLast?) from ⟨t5, rfl, u5⟩) .nil))
      generalize upd H5 A.ins (.lst (ps ++ [.ref t5])) = H6 at W6 ⊢
      -- drawn
      refine ⟨_, rfl, A.d, _, rfl, dgs W6.l.d (own_dr A), .inl ⟨rfl, _, SqL.of W6.l.dr⟩, _, rfl, A.ar, _, rfl, .inl (SqL.of W6.l.ar), "  ", _, rfl, rfl, Int.natCast_nonneg _, ?_, by rw [q2]; decide, ?_⟩
      · rw [List.length_map]
        exact Int.ofNat_le.mpr (Nat.le_trans l2 (by decide))
      have lr : (repS "  " (s0.around.map nV).length).length ≤ 200 := by rw [len_rep, q2, List.length_map]; exact Nat.le_trans (Nat.mul_le_mul_right 2 l2) (by decide)
      refine ⟨_, rfl, (s0.evs.length : Int), rfl, lg_ok _ (by omega), _, _, rfl, rfl, ?_, _, _, rfl, rfl, ?_, _, rfl, _, _, rfl, rfl, ?_, ?_⟩
      · exact Nat.le_trans (Nat.add_le_add lr nl) (by decide)
      · rw [len_app]
        exact Nat.le_trans (Nat.add_le_add (Nat.add_le_add lr nl) (Nat.le_of_eq q1)) (by decide)
      · rw [len_app, len_app]
        exact Nat.le_trans (Nat.add_le_add (Nat.add_le_add (Nat.add_le_add lr nl) (Nat.le_of_eq q1)) hz.1) (by decide)
      refine ⟨A.dr, _, _, rfl, rfl, W6.l.dr, Nat.lt_of_le_of_lt (show _ ≤ 100 by rw [List.length_map]; exact Nat.le_trans l4 (by decide)) (by decide), ?_⟩
      have ed : (s0.drawn.map V.str ++ [V.str (repS "  " (s0.around.map nV).length ++ Str.ofString (toString (s0.evs.length : Int)) ++ " " ++ z)]) = (s0.drawn ++ [lineB s0.around.length s0.evs.length z]).map V.str := by
        rw [List.map_append, List.length_map]
        rfl
      have W7 := W6.setDr (s0.drawn ++ [lineB s0.around.length s0.evs.length z])
      rw [← ed] at W7
      refine ⟨_, rfl, .inl ⟨rfl, _, SqL.of W7.l.ar⟩, _, rfl, A.ar, _, _, rfl, rfl, W7.l.ar, Nat.lt_of_le_of_lt (show _ ≤ 100 by rw [List.length_map]; exact Nat.le_trans l2 (by decide)) (by decide), ?_⟩
      have W8 := W7.setAr (s0.around ++ [s0.evs.length])
      rw [← e4] at W8
      refine ⟨_, rfl, _, rfl, _, _, rfl, rfl, ⟨by decide, by decide⟩, _, _, rfl, rfl, (by show (0 : Int) < 1000; decide), by show 3 ≤ sizeLine; decide, fun t9 ht9 => ?_⟩
      have W9 := W8.new (o := .tup [.str "begin", nV s0.evs.length, .int (cell / 9 % 1000)]) ht9
      refine k _ _ ⟨s0.around ++ [s0.evs.length], s0.evs ++ [⟨z, none, .wait, 0⟩], s0.inside ++ [(s0.evs.length, s0.around.getLast?)], s0.drawn ++ [lineB s0.around.length s0.evs.length z]⟩ (.begin s0.evs.length (cell / 9 % 1000)) _ ?_ W9.sub W9.kp ⟨t9, t9, rfl, upd_same, trivial⟩ (.beg _ z hz)
      have eb : (⟨s0.around ++ [s0.evs.length], s0.evs ++ [⟨z, none, .wait, 0⟩], s0.inside ++ [(s0.evs.length, s0.around.getLast?)], s0.drawn ++ [lineB s0.around.length s0.evs.length z]⟩ : Ow).bk = ⟨s0.around ++ [s0.evs.length], s0.evs ++ [⟨z, none, .wait, 0⟩], s0.inside.map Prod.fst ++ [s0.evs.length], s0.inside ++ [(s0.evs.length, s0.around.getLast?)], addLast (turnsP s0.inside) s0.evs.length, s0.drawn ++ [lineB s0.around.length s0.evs.length z]⟩ := by
        unfold Ow.bk
        rw [List.map_append, turns_snoc]
        rw [hm]; rfl
      rw [eb]
      exact W9.l
    · have na : s0.around = [] := Classical.byContradiction fun q => ha (by
        show (!(s0.around.map nV).isEmpty) = true
        cases e : s0.around with
        | nil => exact absurd e q
        | cons => rfl)
      have hm : s0.around.getLast? = none := by rw [na]; rfl
      refine ⟨_, rfl, A.d, _, rfl, dgs W3.l.d (own_tu A), .inl ⟨rfl, _, SqL.of W3.l.tu.r⟩, _, rfl, by show 1 ≤ sizeLine; decide, fun q hq => ?_⟩
      obtain ⟨tl, ti⟩ := turns_len s0.inside.length s0.inside rfl
      refine ⟨A.tu, _, _, rfl, rfl, ((Kp.refl [] _).new hq).keep0 W3.l.tu.r, ?_, ?_⟩
      · rw [List.length_map]
        exact Nat.lt_of_le_of_lt (show _ ≤ 100 by rw [W3.l.tu.len]; exact Nat.le_trans tl (Nat.le_trans l3 (by decide))) (by decide)
      have W4 := W3.pushTu s0.evs.length hq
      generalize hH : upd (upd _ q _) A.tu _ = H4
      have W4 : Bw H A H4 (A.as ++ [q]) ⟨s0.around, s0.evs ++ [⟨z, none, .wait, 0⟩], s0.inside.map Prod.fst ++ [s0.evs.length], s0.inside, turnsP s0.inside ++ [[s0.evs.length]], s0.drawn⟩ := by
        rw [← hH]
        exact W4
      have e4 : ∀ {l : List Nat} {n : Nat}, l.map nV ++ [nV n] = (l ++ [n]).map nV := fun {l n} => by rw [List.map_append]; rfl
      -- inside
      obtain ⟨ps, hin4, pin4⟩ := W4.l.ins
      refine ⟨_, rfl, A.d, _, rfl, dgs W4.l.d (own_in A), .inl ⟨rfl, _, SqL.of hin4⟩, _, rfl, _, rfl, by show 2 ≤ sizeLine; decide, fun t5 ht5 => ?_⟩
      generalize hH5 : upd H4 t5 _ = H5
      have k5 : Kp [] H4 H5 := by rw [← hH5]; exact (Kp.refl _ _).new ht5
      have u5 : H5 t5 = some (.tup [nV s0.evs.length, onV s0.around.getLast?]) := by
        rw [← hH5, upd_same]
        first | rfl | (rw [hm]; rfl)
      have W5 := W4.kp0 k5
      refine ⟨A.ins, ps, _, rfl, rfl, k5.keep0 hin4, Nat.lt_of_le_of_lt (show ps.length ≤ 100 by rw [Pd.len pin4]; exact Nat.le_trans l3 (by decide)) (by decide), ?_⟩
      have W6 := W5.setIn (xs := s0.inside ++ [(s0.evs.length, s0.around.getLast?)]) (Pd.append (Pd.mono (fun _ _ => pairStb _ _ _ _ k5.tk) pin4) (.cons (show PairAt H5 (.ref t5) (s0.evs.length, s0.around.getLast?) from ⟨t5, rfl, u5⟩) .nil))
      generalize upd H5 A.ins (.lst (ps ++ [.ref t5])) = H6 at W6 ⊢
      -- drawn
      refine ⟨_, rfl, A.d, _, rfl, dgs W6.l.d (own_dr A), .inl ⟨rfl, _, SqL.of W6.l.dr⟩, _, rfl, A.ar, _, rfl, .inl (SqL.of W6.l.ar), "  ", _, rfl, rfl, Int.natCast_nonneg _, ?_, by rw [q2]; decide, ?_⟩
      · rw [List.length_map]
        exact Int.ofNat_le.mpr (Nat.le_trans l2 (by decide))
      have lr : (repS "  " (s0.around.map nV).length).length ≤ 200 := by rw [len_rep, q2, List.length_map]; exact Nat.le_trans (Nat.mul_le_mul_right 2 l2) (by decide)
      refine ⟨_, rfl, (s0.evs.length : Int), rfl, lg_ok _ (by omega), _, _, rfl, rfl, ?_, _, _, rfl, rfl, ?_, _, rfl, _, _, rfl, rfl, ?_, ?_⟩
      · exact Nat.le_trans (Nat.add_le_add lr nl) (by decide)
      · rw [len_app]
        exact Nat.le_trans (Nat.add_le_add (Nat.add_le_add lr nl) (Nat.le_of_eq q1)) (by decide)
      · rw [len_app, len_app]
        exact Nat.le_trans (Nat.add_le_add (Nat.add_le_add (Nat.add_le_add lr nl) (Nat.le_of_eq q1)) hz.1) (by decide)
      refine ⟨A.dr, _, _, rfl, rfl, W6.l.dr, Nat.lt_of_le_of_lt (show _ ≤ 100 by rw [List.length_map]; exact Nat.le_trans l4 (by decide)) (by decide), ?_⟩
      have ed : (s0.drawn.map V.str ++ [V.str (repS "  " (s0.around.map nV).length ++ Str.ofString (toString (s0.evs.length : Int)) ++ " " ++ z)]) = (s0.drawn ++ [lineB s0.around.length s0.evs.length z]).map V.str := by
        rw [List.map_append, List.length_map]
        rfl
      have W7 := W6.setDr (s0.drawn ++ [lineB s0.around.length s0.evs.length z])
      rw [← ed] at W7
      refine ⟨_, rfl, .inl ⟨rfl, _, SqL.of W7.l.ar⟩, _, rfl, A.ar, _, _, rfl, rfl, W7.l.ar, Nat.lt_of_le_of_lt (show _ ≤ 100 by rw [List.length_map]; exact Nat.le_trans l2 (by decide)) (by decide), ?_⟩
      have W8 := W7.setAr (s0.around ++ [s0.evs.length])
      rw [← e4] at W8
      refine ⟨_, rfl, _, rfl, _, _, rfl, rfl, ⟨by decide, by decide⟩, _, _, rfl, rfl, (by show (0 : Int) < 1000; decide), by show 3 ≤ sizeLine; decide, fun t9 ht9 => ?_⟩
      have W9 := W8.new (o := .tup [.str "begin", nV s0.evs.length, .int (cell / 9 % 1000)]) ht9
      refine k _ _ ⟨s0.around ++ [s0.evs.length], s0.evs ++ [⟨z, none, .wait, 0⟩], s0.inside ++ [(s0.evs.length, s0.around.getLast?)], s0.drawn ++ [lineB s0.around.length s0.evs.length z]⟩ (.begin s0.evs.length (cell / 9 % 1000)) _ ?_ W9.sub W9.kp ⟨t9, t9, rfl, upd_same, trivial⟩ (.beg _ z hz)
      have eb : (⟨s0.around ++ [s0.evs.length], s0.evs ++ [⟨z, none, .wait, 0⟩], s0.inside ++ [(s0.evs.length, s0.around.getLast?)], s0.drawn ++ [lineB s0.around.length s0.evs.length z]⟩ : Ow).bk = ⟨s0.around ++ [s0.evs.length], s0.evs ++ [⟨z, none, .wait, 0⟩], s0.inside.map Prod.fst ++ [s0.evs.length], s0.inside ++ [(s0.evs.length, s0.around.getLast?)], turnsP s0.inside ++ [[s0.evs.length]], s0.drawn ++ [lineB s0.around.length s0.evs.length z]⟩ := by
        unfold Ow.bk
        rw [List.map_append, turns_snoc]
        rw [hm]; rfl
      rw [eb]
      exact W9.l
end
end Ev
namespace Ev
open PySem L2
section
variable {P : Program} {w : World} {K : PySem.W.Frag} {mg : Str → Option Value} {base : Heap}
theorem notT {b : Bool} (h : b = true) : (!b) = false := by rw [h]; rfl
theorem merge_nd : ∀ (more acc : List (Key × V)), ((acc ++ more).map Prod.fst).Nodup → mergeK acc more = acc ++ more
  | [], acc, _ => by simp [mergeK]
  | c :: more, acc, nd => by
    have h : valV acc c.1 = none := by
      cases e : valV acc c.1 with
      | none => rfl
      | some v =>
        have m := valV_in e
        rw [List.map_append, List.map_cons] at nd
        exact absurd rfl ((List.nodup_append.mp nd).2.2 c.1 m c.1 (List.mem_cons_self ..))
    show mergeK (putK acc c.1 c.2) more = _
    rw [putK_new _ h, merge_nd more (acc ++ [(c.1, c.2)]) (by rw [List.append_assoc]; exact nd), List.append_assoc]
    rfl
theorem own_merge (A : OwA) : mergeK [] (ownK A) = ownK A := merge_nd (ownK A) [] (by
  show ([Sum.inr "around", Sum.inr "events", Sum.inr "begun", Sum.inr "inside", Sum.inr "turns", Sum.inr "drawn"] : List Key).Nodup
  decide +kernel)
def sp_law (K : PySem.W.Frag) : Sp := fun vs H Q _ => ∃ (a : Addr) (ns : List Int), vs = [.ref a] ∧ SqL K H a (ns.map V.int) ∧ ns.length ≤ 63 ∧ ∀ H', Q (.bl true) H'
theorem ok_law (T : Tx K mg) : FnOk P w K mg base CX0 3 T.f_law T.d_law ["_law_script"] (sp_law K) := by
  refine T.F_law.ok sc_law (by walk_at "len") (fun cdv A outer s H vs Q E hr h => ?_)
  obtain ⟨a, ns, rfl, hS, hlen, k⟩ := h
  refine ⟨_, (pss_cons (ps_set (i := 1) sc_law.nd rfl (Or.inr rfl) (pe_disp (pps_cons pe_str (pe_lst pa_nil) (pps_cons pe_str (pe_lst pa_nil) (pps_cons pe_str (pe_lst pa_nil) (pps_cons pe_str (pe_lst pa_nil) (pps_cons pe_str (pe_lst pa_nil) (pps_cons pe_str (pe_lst pa_nil) pps_nil)))))) (by rfl) (by rfl) (fun z => by cases z) (by decide)))
    (pss_cons (ps_setLc (i := 2) (own := [("_law_cell", 10)]) (g := gName 10) (tt := tYes) rfl sc_law.nd rfl rfl (sw_true rfl rfl rfl (by decide +kernel)) (pi_list (pv 0)) (blkOk_by (own := [("_law_cell", 10)]) (N := nm_law) (sc := defScope s_law) (by decide +kernel)) (fun _ _ _ _ _ => (pg_name (i := 10) sc_law.nd rfl (Or.inl rfl))) (fun _ _ _ _ _ => pts_nil) (fun _ _ _ _ _ => (pe_call (ok_lrow T) (hr.mono (by decide)) rfl T.g_lrow T.F_lrow.kp T.b_lrow .nil pass0 (pa_cons (pv 1) (pa_cons (pv 10) pa_nil)))))
    (pss_cons (ps_set (i := 3) sc_law.nd rfl (Or.inl rfl) (pe_callTy (kList K) (by rfl) T.z_list (by decide +kernel) (pa_cons (pv 2) pa_nil)))
    (pss_cons (ps_set (i := 4) sc_law.nd rfl (Or.inl rfl) (pe_callTy (kList K) (by rfl) T.z_list (by decide +kernel) (pa_cons (pe_dget (hu_of hr) (pv 1) pe_str (fun _ _ => rfl)) pa_nil)))
    (pss_cons (ps_par3 (i := 5) (j := 6) (l := 7) (by rfl) sc_law.nd rfl rfl rfl (by decide) (by decide) (by decide) rfl rfl rfl (pa_cons (pe_call (ok_begun T) (hr.mono (by decide)) rfl T.g_begun T.F_begun.kp T.b_begun .nil pass0 (pa_cons (pv 3) pa_nil)) (pa_cons (pe_call (ok_inside T) (hr.mono (by decide)) rfl T.g_inside T.F_inside.kp T.b_inside .nil pass0 (pa_cons (pv 3) pa_nil)) (pa_cons (pe_call (ok_turns T) (hr.mono (by decide)) rfl T.g_turns T.F_turns.kp T.b_turns .nil pass0 (pa_cons (pv 3) pa_nil)) pa_nil))) (by rfl))
    (pss_cons (ps_set (i := 8) sc_law.nd rfl (Or.inl rfl) (pe_call (ok_drawn T) (hr.mono (by decide)) rfl T.g_drawn T.F_drawn.kp T.b_drawn .nil pass0 (pa_cons (pv 3) (pa_cons (pv 4) pa_nil))))
    (pss_cons (ps_for PassesOwn.never rfl (pi_list (pe_lst (pa_cons (pv 5) (pa_cons (pv 6) (pa_cons (pv 7) (pa_cons (pv 8) pa_nil)))))) (pg_name (i := 9) sc_law.nd rfl (Or.inl rfl))
        (pss_one (ps_if (pt_not (pt_val (pe_callB (kIsi K) (by rfl) T.z_isinstance (by decide +kernel) (pa_cons (pv 9) (pa_cons (pe_bltn (v := .ty "list") (by rfl) T.z_list (by decide +kernel) rfl) pa_nil)))))
            (pss_one (ps_ret pe_bl))
            pss_nil)))
    (pss_cons (ps_if (PW.pt (pw_or (pt_cmpR (kNeD K hr.units) (pv 3) (pv 2) (nomark _)) (pw_or (pt_cmpR (kNeD K hr.units) (pv 4) (pe_dget (hu_of hr) (pv 1) pe_str (fun _ _ => rfl)) (nomark _)) (pw_or (pt_cmpR (kNeD K hr.units) (pv 5) (pe_dget (hu_of hr) (pv 1) pe_str (fun _ _ => rfl)) (nomark _)) (pw_or1 (pt_cmpR (kNeD K hr.units) (pv 6) (pe_dget (hu_of hr) (pv 1) pe_str (fun _ _ => rfl)) (nomark _)))))))
        (pss_one (ps_ret pe_bl))
        pss_nil)
    (pss_one (ps_ret (pe_and (pe_cmpR (kEqD K hr.units) (pv 7) (pe_dget (hu_of hr) (pv 1) pe_str (fun _ _ => rfl)) (nomark _)) (pe_and (pe_cmpR (kEqD K hr.units) (pv 8) (pe_dget (hu_of hr) (pv 1) pe_str (fun _ _ => rfl)) (nomark _)) (pe_one (pe_callB (kAll K) (by rfl) T.z_all (by decide +kernel) (pa_cons (pe_lc (own := [("_law_row_here", 11)]) (g := gName 11) (tt := tYes) rfl sc_law.nd (pi_list (pv 8)) (blkOk_by (own := [("_law_row_here", 11)]) (N := nm_law) (sc := defScope s_law) (by decide +kernel)) (fun _ _ _ _ _ => (pg_name (i := 11) sc_law.nd rfl (Or.inl rfl))) (fun _ _ _ _ _ => pts_nil) (fun _ _ _ _ _ => (pe_callB (kIsi K) (by rfl) T.z_isinstance (by decide +kernel) (pa_cons (pv 11) (pa_cons (pe_bltn (v := .ty "str") (by rfl) T.z_str (by decide +kernel) rfl) pa_nil))))) pa_nil))))))))))))))), ?_⟩
  intro d hd
  refine ⟨Nat.zero_le _, fun a1 h1 => ⟨Nat.zero_le _, fun a2 h2 => ⟨Nat.zero_le _, fun a3 h3 => ⟨Nat.zero_le _, fun a4 h4 => ⟨Nat.zero_le _, fun a5 h5 => ⟨Nat.zero_le _, fun a6 h6 => ?_⟩⟩⟩⟩⟩⟩
  have k0 := (Kp.refl [] H).new (o := .dK []) hd
  have u0 : upd H d (.dK []) d = some (.dK []) := upd_same
  generalize upd H d (.dK []) = H0 at k0 u0 h1 h2 h3 h4 h5 h6 ⊢
  have k1 := (Kp.refl [] H0).new (o := .lst []) h1
  have u1 : upd H0 a1 (.lst []) a1 = some (.lst []) := upd_same
  generalize upd H0 a1 (.lst []) = H1 at k1 u1 h2 h3 h4 h5 h6 ⊢
  have k2 := (Kp.refl [] H1).new (o := .lst []) h2
  have u2 : upd H1 a2 (.lst []) a2 = some (.lst []) := upd_same
  generalize upd H1 a2 (.lst []) = H2 at k2 u2 h3 h4 h5 h6 ⊢
  have k3 := (Kp.refl [] H2).new (o := .lst []) h3
  have u3 : upd H2 a3 (.lst []) a3 = some (.lst []) := upd_same
  generalize upd H2 a3 (.lst []) = H3 at k3 u3 h4 h5 h6 ⊢
  have k4 := (Kp.refl [] H3).new (o := .lst []) h4
  have u4 : upd H3 a4 (.lst []) a4 = some (.lst []) := upd_same
  generalize upd H3 a4 (.lst []) = H4 at k4 u4 h5 h6 ⊢
  have k5 := (Kp.refl [] H4).new (o := .lst []) h5
  have u5 : upd H4 a5 (.lst []) a5 = some (.lst []) := upd_same
  generalize upd H4 a5 (.lst []) = H5 at k5 u5 h6 ⊢
  have k6 := (Kp.refl [] H5).new (o := .lst []) h6
  have u6 : upd H5 a6 (.lst []) a6 = some (.lst []) := upd_same
  generalize upd H5 a6 (.lst []) = H6 at k6 u6 ⊢
  have k56 := k5.trans k6
  have k46 := k4.trans k56
  have k36 := k3.trans k46
  have k26 := k2.trans k36
  have k16 := k1.trans k26
  have f1 : H a1 = none := k0.dom _ h1
  have f2 : H a2 = none := k0.dom _ (k1.dom _ h2)
  have f3 : H a3 = none := k0.dom _ (k1.dom _ (k2.dom _ h3))
  have f4 : H a4 = none := k0.dom _ (k1.dom _ (k2.dom _ (k3.dom _ h4)))
  have f5 : H a5 = none := k0.dom _ (k1.dom _ (k2.dom _ (k3.dom _ (k4.dom _ h5))))
  have f6 : H a6 = none := k0.dom _ (k1.dom _ (k2.dom _ (k3.dom _ (k4.dom _ (k5.dom _ h6)))))
  let A : OwA := ⟨d, a1, a2, a3, a4, a5, a6, []⟩
  refine ⟨k16.keep0 u0, ownK A, rfl, by show 6 ≤ 15; decide, ?_⟩
  rw [own_merge]
  have kd : Kp [d] H6 (upd H6 d (.dK (ownK A))) := (Kp.refl _ _).dk (.inl (by simp)) (k16.keep0 u0)
  have ud : upd H6 d (.dK (ownK A)) d = some (.dK (ownK A)) := upd_same
  generalize upd H6 d (.dK (ownK A)) = H7 at kd ud ⊢
  have ne : ∀ {Hx : Hp} {x y : Addr} {o : HO}, Hx x = some o → Hx y = none → x ≠ y := fun h1 h2 e => by rw [e, h2] at h1; cases h1
  have nd1 : a1 ≠ d := (ne u0 h1).symm
  have nd2 : a2 ≠ d := (ne (k1.keep0 u0) h2).symm
  have nd3 : a3 ≠ d := (ne (k2.keep0 (k1.keep0 u0)) h3).symm
  have nd4 : a4 ≠ d := (ne (k3.keep0 (k2.keep0 (k1.keep0 u0))) h4).symm
  have nd5 : a5 ≠ d := (ne (k4.keep0 (k3.keep0 (k2.keep0 (k1.keep0 u0)))) h5).symm
  have nd6 : a6 ≠ d := (ne (k5.keep0 (k4.keep0 (k3.keep0 (k2.keep0 (k1.keep0 u0))))) h6).symm
  have B0 : BkAt H7 A (⟨[], [], [], []⟩ : Ow).bk := by
    refine ⟨?_, ?_, ud, kd.keep _ _ (by simpa using nd1) (k26.keep0 u1), ⟨[], kd.keep _ _ (by simpa using nd2) (k36.keep0 u2), .nil⟩, kd.keep _ _ (by simpa using nd3) (k46.keep0 u3), ⟨[], kd.keep _ _ (by simpa using nd4) (k56.keep0 u4), .nil⟩,
      kd.keep _ _ (by simpa using nd6) u6, ⟨by simp [A], kd.keep _ _ (by simpa using nd5) (k6.keep0 u5), .nil⟩⟩
    · show [a1, a2, a3, a4, a6, a5].Nodup
      have n12 := ne u1 h2
      have n13 := ne (k2.keep0 u1) h3
      have n14 := ne (k3.keep0 (k2.keep0 u1)) h4
      have n15 := ne (k4.keep0 (k3.keep0 (k2.keep0 u1))) h5
      have n16 := ne (k5.keep0 (k4.keep0 (k3.keep0 (k2.keep0 u1)))) h6
      have n23 := ne u2 h3
      have n24 := ne (k3.keep0 u2) h4
      have n25 := ne (k4.keep0 (k3.keep0 u2)) h5
      have n26 := ne (k5.keep0 (k4.keep0 (k3.keep0 u2))) h6
      have n34 := ne u3 h4
      have n35 := ne (k4.keep0 u3) h5
      have n36 := ne (k5.keep0 (k4.keep0 u3)) h6
      have n45 := ne u4 h5
      have n46 := ne (k5.keep0 u4) h6
      have n56 := ne u5 h6
      simp only [List.nodup_cons, List.mem_cons, List.not_mem_nil, not_or, or_false, not_false_eq_true, List.nodup_nil, and_true]
      exact ⟨⟨n12, n13, n14, n16, n15⟩, ⟨n23, n24, n26, n25⟩, ⟨n34, n36, n35⟩, ⟨n46, n45⟩, n56.symm⟩
    · show d ∉ [a1, a2, a3, a4, a6, a5]
      simp only [List.mem_cons, List.not_mem_nil, not_or, or_false, not_false_eq_true]
      exact ⟨nd1.symm, nd2.symm, nd3.symm, nd4.symm, nd6.symm, nd5.symm⟩
  have kH7 : Kp [] H H7 := ((k0.trans k16).transM kd fun x hx => .inr (by rw [List.mem_singleton.mp hx]; exact hd)).mono (by simp)
  have fA : ∀ x ∈ A.cells, H x = none := fun x hx => by
    have hx : x ∈ [a1, a2, a3, a4, a6, a5] := hx
    simp only [List.mem_cons, List.not_mem_nil, or_false] at hx
    rcases hx with rfl | rfl | rfl | rfl | rfl | rfl <;> assumption
  have eAd : A.d = d := rfl
  clear_value A
  subst eAd
  walk_at "nf"
  refine lc_go ?_
  refine ⟨_, rfl, a, rfl, ⟨_, SqL.kp kH7 (by simp) hS⟩, ?_⟩
  refine lc_pd (Pd.map (f := V.int) (R := fun v x => v = V.int x) fun _ _ => rfl) (Nat.lt_of_le_of_lt hlen (by decide))
    (fun D pre acc Hx => Kp [] H Hx ∧ ∃ rows as s, BkAt Hx (A.to as) (Ow.bk s) ∧ (∀ x ∈ as, H x = none) ∧ D ∉ (A.to as).cells ∧ Paired (RowAt Hx) acc rows ∧ rows.length = pre.length ∧ J rows s)
    (fun D hD => ⟨kH7.new hD, [], A.as, ⟨[], [], [], []⟩, B0.kp ((Kp.refl [] _).new hD) (by simp) (by simp), fun x hx => fA x (List.mem_append.mpr (.inr hx)), fun q => B0.has D q hD, .nil, rfl, J.zero⟩)
    (fun D pre acc Hx hD e q => SqL.kp q.1 (by simp) hS) ?_ ?_
  · rintro D pre acc x c post Hx Yes No hD ed rfl e ⟨kx, rows, as, s0, B, fas, nD, pr, lr, j⟩ yes no
    have lp : pre.length < 63 := by
      have := congrArg List.length ed
      rw [List.length_append, List.length_cons] at this
      omega
    refine ⟨rfl, tYes_go (iteT ?_)⟩
    obtain ⟨t1, t2, t3⟩ := tale_len (zf s0.evs) rows.length rows rfl
    rw [j.t] at t1 t2 t3
    have t1 : s0.inside.length ≤ rows.length := t1
    have t2 : s0.around.length ≤ rows.length := t2
    have t3 : s0.drawn.length ≤ rows.length := t3
    have jn := j.n
    have hne : s0.around ≠ [] → s0.inside ≠ [] := fun q => by
      have z := tale_in (zf s0.evs) rows
      rw [j.t] at z
      exact z q
    have Dd : D ≠ A.d := fun z => by
      have := B.d
      rw [show (A.to as).d = A.d from rfl, ← z, e] at this
      cases this
    refine ⟨_, rfl, _, rfl, A.to as, s0, c, rfl, B, by omega, by omega, by omega, by omega, hne, fun H2 as2 s2 r v B2 f2 k2 rr st => ?_⟩
    have e2 := k2.keep _ _ nD e
    have nD2 : D ∉ (A.to as2).cells := fun q => by
      rcases List.mem_append.mp q with q | q
      · exact nD (List.mem_append.mpr (.inl q))
      · rcases f2 D q with z | z
        · exact nD (List.mem_append.mpr (.inr z))
        · rw [e] at z; cases z
    have fcell : ∀ y ∈ (A.to as).cells, H y = none := fun y hy => (List.mem_append.mp hy).elim (fun z => fA y (List.mem_append.mpr (.inl z))) (fas y)
    have k02 : Kp [] H H2 := (kx.transM k2 fun y hy => .inr (fcell y hy)).mono (by simp)
    have kD : Kp [D] H2 (upd H2 D (.lst (acc ++ [v]))) := (Kp.refl _ _).lst (.inl (by simp)) e2
    refine yes v H2 e2 ⟨?_, rows ++ [r], as2, s2, B2.kp kD (fun y hy z => nD2 (by rw [List.mem_singleton.mp z] at hy; exact hy)) (fun z => Dd (List.mem_singleton.mp z).symm), fun y hy => (f2 y hy).elim (fas y) (fun z => kx.dom _ z), nD2, ?_, by simp [lr], j.step st (by omega)⟩
    · exact (k02.transM kD fun y hy => .inr (by rw [List.mem_singleton.mp hy]; exact kH7.dom _ hD)).mono (by simp)
    · exact Pd.append (Pd.mono (fun _ _ z => rowStb _ _ _ _ (fun a xs h => kD.tup _ _ (k2.tup _ _ h)) z) pr) (.cons (rowStb _ _ _ _ kD.tk rr) .nil)
  · rintro D acc Hx hD e ⟨kx, rows, as, s0, B, fas, nD, pr, lr, j⟩
    have lr63 : rows.length ≤ 63 := by rw [lr]; exact hlen
    have dgs : ∀ {H' : Hp} {x : Str} {v : V}, H' A.d = some (.dK (ownK A)) → valV (ownK A) (Sum.inr x) = some v → DGet H' A.d (.str x) (some v) := fun {H' x v} h e => e ▸ DGet.k (k := Sum.inr x) h
    obtain ⟨es, hev, pev⟩ := B.ev
    refine ⟨_, rfl, D, acc, rfl, .inl (SqL.of e), fun g hg => ?_⟩
    have ka := (Kp.refl [] Hx).new (o := .lst acc) hg
    have ug : upd Hx g (.lst acc) g = some (.lst acc) := upd_same
    generalize upd Hx g (.lst acc) = Ha at ka ug ⊢
    refine ⟨_, rfl, A.d, _, rfl, dgs (ka.keep0 B.d) (own_ev A), A.ev, es, rfl, .inl (SqL.of (ka.keep0 hev)), fun g2 hg2 => ?_⟩
    have kb := (Kp.refl [] Ha).new (o := .lst es) hg2
    have ug2 : upd Ha g2 (.lst es) g2 = some (.lst es) := upd_same
    generalize upd Ha g2 (.lst es) = Hb at kb ug2 ⊢
    have kab := ka.trans kb
    have ug' := kb.keep0 ug
    have prb := Pd.mono (fun _ _ => rowStb _ _ _ _ kab.tk) pr
    refine ⟨_, rfl, g, acc, rows, rfl, ug', prb, Nat.le_trans lr63 (by decide), fun p5 H5 _ k5 u5 => ⟨_, rfl, zf s0.evs, g, rows, rfl, ⟨acc, k5.keep0 ug', Pd.mono (fun _ _ => rowStb _ _ _ _ k5.tk) prb⟩, Nat.le_trans lr63 (by decide), j.fit, fun p6 H6 _ k6 r6 => ?_⟩⟩
    have k56 := k5.trans k6
    refine ⟨_, rfl, zf s0.evs, g, rows, rfl, ⟨acc, k56.keep0 ug', Pd.mono (fun _ _ => rowStb _ _ _ _ k56.tk) prb⟩, Nat.le_trans lr63 (by decide), j.fit, fun p7 as7 H7' _ k7 l7 => ⟨_, _, _, rfl, ?_⟩⟩
    have k57 := k56.trans k7
    refine ⟨_, rfl, _, rfl, zf s0.evs, g, g2, rows, s0.evs, rfl, ⟨acc, k57.keep0 ug', Pd.mono (fun _ _ => rowStb _ _ _ _ k57.tk) prb⟩, ⟨es, k57.keep0 ug2, Pd.mono (fun _ _ => evtStb _ _ _ _ (kab.trans k57).tk) pev⟩, Nat.le_trans lr63 (by decide), j.fit, j.drw (Nat.le_trans lr63 (by decide)), fun p8 H8 _ k8 u8 => ?_⟩
    rw [j.t] at r6 l7 u8
    rw [j.bg] at u5
    have k58 := k57.trans k8
    have k68 := (k6.trans k7).trans k8
    have k78 := k7.trans k8
    obtain ⟨ps, hps, pps⟩ := r6
    have c5 := k68.keep0 u5
    have c6 := k78.keep0 hps
    have c7 := l7.kp k8 (by simp)
    walk_at "nf"
    refine for_go ?_
    refine ⟨_, rfl, _, rfl, _, rfl, _, rfl, by show 4 ≤ sizeLine; decide, fun p9 h9 => ?_⟩
    have k9 := (Kp.refl [] H8).new (o := .lst [.ref p5, .ref p6, .ref p7, .ref p8]) h9
    have u9 : upd H8 p9 (.lst [.ref p5, .ref p6, .ref p7, .ref p8]) p9 = some (.lst [.ref p5, .ref p6, .ref p7, .ref p8]) := upd_same
    generalize upd H8 p9 (.lst [.ref p5, .ref p6, .ref p7, .ref p8]) = H9 at k9 u9 ⊢
    have kall : Kp [] Hx H9 := ((kab.trans k58).trans k9)
    have B9 := B.kp kall (by simp) (by simp)
    refine ⟨p9, rfl, ⟨_, SqL.of u9⟩, ?_⟩
    have isl : Paired (fun (v : V) (q : Addr) => v = .ref q ∧ ∃ xs, H9 q = some (.lst xs)) [.ref p5, .ref p6, .ref p7, .ref p8] [p5, p6, p7, p8] :=
      .cons ⟨rfl, _, k9.keep0 c5⟩ (.cons ⟨rfl, _, k9.keep0 c6⟩ (.cons ⟨rfl, _, k9.keep0 c7.r⟩ (.cons ⟨rfl, _, k9.keep0 u8⟩ .nil)))
    refine for_pd isl (fun pre σ Hy => Hy = H9 ∧ ∃ o, σ = [some (.ref a), some (.ref A.d), some (.ref D), some (.ref g), some (.ref g2), some (.ref p5), some (.ref p6), some (.ref p7), some (.ref p8), o, none, none]) ⟨rfl, _, rfl⟩ (fun pre σ Hy q => by rw [q.1]; exact SqL.of u9) ?_ ?_
    · rintro pre v q post σ Hy ed2 ⟨rfl, xs2, hq⟩ ⟨rfl, o, rfl⟩
      refine ⟨_, rfl, _, _, _, _, _, rfl, .ty _, isL hq, kit_ty (r := true) (by decide +kernel), _, rfl, iteF ?_⟩
      exact ⟨rfl, _, rfl⟩
    · rintro σ Hy ⟨rfl, o, rfl⟩
      have kb9 := (((kb.trans k58).trans k9))
      have okr := rows_ok j.txt
      have oke := evts_ok (es := s0.evs) fun x hx => (j.wd x hx).2
      have rG : LstAt RowAt Hy g rows := ⟨acc, (k58.trans k9).keep0 ug', Pd.mono (fun _ _ => rowStb _ _ _ _ (k58.trans k9).tk) prb⟩
      have rD : LstAt RowAt Hy D rows := ⟨acc, kall.keep0 e, Pd.mono (fun _ _ => rowStb _ _ _ _ kall.tk) pr⟩
      have eG : LstAt EvtAt Hy g2 s0.evs := ⟨es, (k58.trans k9).keep0 ug2, Pd.mono (fun _ _ => evtStb _ _ _ _ kall.tk) pev⟩
      refine ⟨_, rfl, _, rfl, _, _, rows_dp rG, rows_dp rD, okr.sh, okr.sh, _, rfl, iteF' (notT okr.rfl) ?_⟩
      refine ⟨_, rfl, _, rfl, A.d, _, rfl, dgs B9.d (own_ev A), _, _, evts_dp eG, evts_dp B9.ev, oke.sh, oke.sh, _, rfl, iteF' (notT oke.rfl) ?_⟩
      refine ⟨_, rfl, _, rfl, A.d, _, rfl, dgs B9.d (own_bg A), _, _, dp_ints (k9.keep0 c5), dp_ints B9.bg, (ok_ints _).sh, (ok_ints _).sh, _, rfl, iteF' (notT (ok_ints (s0.inside.map Prod.fst)).rfl) ?_⟩
      have pG : LstAt PairAt Hy p6 s0.inside := ⟨ps, k9.keep0 c6, Pd.mono (fun _ _ => pairStb _ _ _ _ (k78.trans k9).tk) pps⟩
      refine ⟨_, rfl, _, rfl, A.d, _, rfl, dgs B9.d (own_in A), _, _, pairs_dp pG, pairs_dp B9.ins, (pairs_ok _).sh, (pairs_ok _).sh, _, rfl, iteF' (notT (pairs_ok s0.inside).rfl) ?_⟩
      refine ⟨_, rfl, _, rfl, A.d, _, rfl, dgs B9.d (own_tu A), _, _, (c7.kp k9 (by simp)).dp, B9.tu.dp, (ll_ok _).sh, (ll_ok _).sh, _, rfl, iteT' (ll_ok (turnsP s0.inside)).rfl ?_⟩
      refine ⟨_, rfl, _, rfl, A.d, _, rfl, dgs B9.d (own_dr A), _, _, dp_strs (k9.keep0 u8), dp_strs B9.dr, (ok_strs j.dr).sh, (ok_strs j.dr).sh, _, rfl, iteT' (ok_strs j.dr).rfl ?_⟩
      have l8 : s0.drawn.length ≤ 63 := by
        have z := (tale_len (zf s0.evs) rows.length rows rfl).2.2
        rw [j.t] at z
        exact Nat.le_trans z lr63
      walk_at "nf"
      refine lc_go ?_
      refine ⟨_, rfl, p8, rfl, ⟨_, SqL.of (k9.keep0 u8)⟩, ?_⟩
      refine lc_mp (Pd.map (f := V.str) (R := fun v x => v = V.str x) fun _ _ => rfl) (Nat.lt_of_le_of_lt l8 (by decide)) (SqL.of (k9.keep0 u8)) (fun _ => V.bl true) (fun x => rfl) ?_ ?_
      · rintro v x H' Q' hx rfl kx2 q
        exact ⟨_, rfl, _, _, _, _, _, rfl, .ty _, isS, kit_ty (r := true) (by decide +kernel), q _ (Kp.refl _ _)⟩
      · intro E2 H' hE kE uE
        have ee : s0.drawn.map (fun _ => V.bl true) = (s0.drawn.map fun _ => true).map V.bl := by rw [List.map_map]; rfl
        refine ⟨E2, s0.drawn.map fun _ => true, rfl, SqL.of (by rw [← ee]; exact uE), ?_⟩
        have e1 : (s0.drawn.map fun _ => true).all id = true := by simp
        rw [e1]
        exact k H'
end
end Ev
namespace Ev
open PySem L2
theorem all_mk {K : PySem.W.Frag} {h : Heap} {mg : Str → Option Value} {fa : Addr} (X : K.In h) (G : h.Ns mainGlobals mg) (hfa : mg "law" = some (.ref fa))
    {f_begun f_inside f_turns f_drawn f_ltoldAt f_lwordBy f_lrow f_law : Addr}
    {od1 an1 : Option Addr} {sl1 : Array (Option Value)} {oc1 kV1 dc1 pm1 cd1 ct1 : Value}
    {od2 an2 : Option Addr} {sl2 : Array (Option Value)} {oc2 kV2 dc2 pm2 cd2 ct2 : Value}
    {od3 an3 : Option Addr} {sl3 : Array (Option Value)} {oc3 kV3 dc3 pm3 cd3 ct3 : Value}
    {od4 an4 : Option Addr} {sl4 : Array (Option Value)} {oc4 kV4 dc4 pm4 cd4 ct4 : Value}
    {od5 an5 : Option Addr} {sl5 : Array (Option Value)} {oc5 kV5 dc5 pm5 cd5 ct5 : Value}
    {od6 an6 : Option Addr} {sl6 : Array (Option Value)} {oc6 kV6 dc6 pm6 cd6 ct6 : Value}
    {od7 an7 : Option Addr} {sl7 : Array (Option Value)} {oc7 kV7 dc7 pm7 cd7 ct7 : Value}
    {od8 an8 : Option Addr} {sl8 : Array (Option Value)} {oc8 kV8 dc8 pm8 cd8 ct8 : Value}
    (a1 : PySem.W.nsIn K mainGlobals "begun" = some (some (.ref f_begun)))
    (l1 : K.lookup f_begun = some ⟨oc1, od1, .func (PySem.W.fnOf "begun" "begun" (defArgs s_begun) (defBody s_begun) (defScope s_begun) .none kV1 dc1 pm1 an1 cd1 ct1), sl1⟩)
    (c1 : PySem.W.codeIn K cd1 "begun" = true)
    (k1 : PySem.W.keepIn K (.ref f_begun) = true)
    (a2 : PySem.W.nsIn K mainGlobals "inside" = some (some (.ref f_inside)))
    (l2 : K.lookup f_inside = some ⟨oc2, od2, .func (PySem.W.fnOf "inside" "inside" (defArgs s_inside) (defBody s_inside) (defScope s_inside) .none kV2 dc2 pm2 an2 cd2 ct2), sl2⟩)
    (c2 : PySem.W.codeIn K cd2 "inside" = true)
    (k2 : PySem.W.keepIn K (.ref f_inside) = true)
    (a3 : PySem.W.nsIn K mainGlobals "turns" = some (some (.ref f_turns)))
    (l3 : K.lookup f_turns = some ⟨oc3, od3, .func (PySem.W.fnOf "turns" "turns" (defArgs s_turns) (defBody s_turns) (defScope s_turns) .none kV3 dc3 pm3 an3 cd3 ct3), sl3⟩)
    (c3 : PySem.W.codeIn K cd3 "turns" = true)
    (k3 : PySem.W.keepIn K (.ref f_turns) = true)
    (a4 : PySem.W.nsIn K mainGlobals "drawn" = some (some (.ref f_drawn)))
    (l4 : K.lookup f_drawn = some ⟨oc4, od4, .func (PySem.W.fnOf "drawn" "drawn" (defArgs s_drawn) (defBody s_drawn) (defScope s_drawn) .none kV4 dc4 pm4 an4 cd4 ct4), sl4⟩)
    (c4 : PySem.W.codeIn K cd4 "drawn" = true)
    (k4 : PySem.W.keepIn K (.ref f_drawn) = true)
    (a5 : PySem.W.nsIn K mainGlobals "_law_told_at" = some (some (.ref f_ltoldAt)))
    (l5 : K.lookup f_ltoldAt = some ⟨oc5, od5, .func (PySem.W.fnOf "_law_told_at" "_law_told_at" (defArgs s_ltoldAt) (defBody s_ltoldAt) (defScope s_ltoldAt) .none kV5 dc5 pm5 an5 cd5 ct5), sl5⟩)
    (c5 : PySem.W.codeIn K cd5 "_law_told_at" = true)
    (k5 : PySem.W.keepIn K (.ref f_ltoldAt) = true)
    (a6 : PySem.W.nsIn K mainGlobals "_law_word_by" = some (some (.ref f_lwordBy)))
    (l6 : K.lookup f_lwordBy = some ⟨oc6, od6, .func (PySem.W.fnOf "_law_word_by" "_law_word_by" (defArgs s_lwordBy) (defBody s_lwordBy) (defScope s_lwordBy) .none kV6 dc6 pm6 an6 cd6 ct6), sl6⟩)
    (c6 : PySem.W.codeIn K cd6 "_law_word_by" = true)
    (k6 : PySem.W.keepIn K (.ref f_lwordBy) = true)
    (a7 : PySem.W.nsIn K mainGlobals "_law_row" = some (some (.ref f_lrow)))
    (l7 : K.lookup f_lrow = some ⟨oc7, od7, .func (PySem.W.fnOf "_law_row" "_law_row" (defArgs s_lrow) (defBody s_lrow) (defScope s_lrow) .none kV7 dc7 pm7 an7 cd7 ct7), sl7⟩)
    (c7 : PySem.W.codeIn K cd7 "_law_row" = true)
    (k7 : PySem.W.keepIn K (.ref f_lrow) = true)
    (a8 : PySem.W.nsIn K mainGlobals "law" = some (some (.ref f_law)))
    (l8 : K.lookup f_law = some ⟨oc8, od8, .func (PySem.W.fnOf "law" "law" (defArgs s_law) (defBody s_law) (defScope s_law) .none kV8 dc8 pm8 an8 cd8 ct8), sl8⟩)
    (c8 : PySem.W.codeIn K cd8 "law" = true)
    (k8 : PySem.W.keepIn K (.ref f_law) = true)
    (z_str : PySem.W.nsIn K mainGlobals "str" = some none)
    (z_len : PySem.W.nsIn K mainGlobals "len" = some none)
    (z_range : PySem.W.nsIn K mainGlobals "range" = some none)
    (z_list : PySem.W.nsIn K mainGlobals "list" = some none)
    (z_isinstance : PySem.W.nsIn K mainGlobals "isinstance" = some none)
    (z_all : PySem.W.nsIn K mainGlobals "all" = some none)
    : ∃ T : Tx K mg, fa = T.f_law ∧ ∀ (s : Shared) (v : Value), BindsTo s T.d_law ⟨[v], []⟩ [("_law_script", v)] := by
  have F1 := fun_mk (st := s_begun) l1 c1 k1
  have b1 := F1.binds (ps := ["log"]) fun _ _ _ _ _ _ us hl => match us, hl with | [_], _ => rfl
  have F2 := fun_mk (st := s_inside) l2 c2 k2
  have b2 := F2.binds (ps := ["log"]) fun _ _ _ _ _ _ us hl => match us, hl with | [_], _ => rfl
  have F3 := fun_mk (st := s_turns) l3 c3 k3
  have b3 := F3.binds (ps := ["log"]) fun _ _ _ _ _ _ us hl => match us, hl with | [_], _ => rfl
  have F4 := fun_mk (st := s_drawn) l4 c4 k4
  have b4 := F4.binds (ps := ["log", "events"]) fun _ _ _ _ _ _ us hl => match us, hl with | [_, _], _ => rfl
  have F5 := fun_mk (st := s_ltoldAt) l5 c5 k5
  have b5 := F5.binds (ps := ["_law_script", "_law_place"]) fun _ _ _ _ _ _ us hl => match us, hl with | [_, _], _ => rfl
  have F6 := fun_mk (st := s_lwordBy) l6 c6 k6
  have b6 := F6.binds (ps := ["_law_cell"]) fun _ _ _ _ _ _ us hl => match us, hl with | [_], _ => rfl
  have F7 := fun_mk (st := s_lrow) l7 c7 k7
  have b7 := F7.binds (ps := ["_law_own", "_law_cell"]) fun _ _ _ _ _ _ us hl => match us, hl with | [_, _], _ => rfl
  have F8 := fun_mk (st := s_law) l8 c8 k8
  have b8 := F8.binds (ps := ["_law_script"]) fun _ _ _ _ _ _ us hl => match us, hl with | [_], _ => rfl
  have e : fa = f_law := by
    have e0 := hfa.symm.trans (PySem.W.mg_of X G a8)
    cases e0
    rfl
  exact ⟨{
    f_begun := f_begun
    d_begun := PySem.W.fnOf "begun" "begun" (defArgs s_begun) (defBody s_begun) (defScope s_begun) .none kV1 dc1 pm1 an1 cd1 ct1
    F_begun := F1
    b_begun := b1
    g_begun := PySem.W.mg_of X G a1
    f_inside := f_inside
    d_inside := PySem.W.fnOf "inside" "inside" (defArgs s_inside) (defBody s_inside) (defScope s_inside) .none kV2 dc2 pm2 an2 cd2 ct2
    F_inside := F2
    b_inside := b2
    g_inside := PySem.W.mg_of X G a2
    f_turns := f_turns
    d_turns := PySem.W.fnOf "turns" "turns" (defArgs s_turns) (defBody s_turns) (defScope s_turns) .none kV3 dc3 pm3 an3 cd3 ct3
    F_turns := F3
    b_turns := b3
    g_turns := PySem.W.mg_of X G a3
    f_drawn := f_drawn
    d_drawn := PySem.W.fnOf "drawn" "drawn" (defArgs s_drawn) (defBody s_drawn) (defScope s_drawn) .none kV4 dc4 pm4 an4 cd4 ct4
    F_drawn := F4
    b_drawn := b4
    g_drawn := PySem.W.mg_of X G a4
    f_ltoldAt := f_ltoldAt
    d_ltoldAt := PySem.W.fnOf "_law_told_at" "_law_told_at" (defArgs s_ltoldAt) (defBody s_ltoldAt) (defScope s_ltoldAt) .none kV5 dc5 pm5 an5 cd5 ct5
    F_ltoldAt := F5
    b_ltoldAt := b5
    g_ltoldAt := PySem.W.mg_of X G a5
    f_lwordBy := f_lwordBy
    d_lwordBy := PySem.W.fnOf "_law_word_by" "_law_word_by" (defArgs s_lwordBy) (defBody s_lwordBy) (defScope s_lwordBy) .none kV6 dc6 pm6 an6 cd6 ct6
    F_lwordBy := F6
    b_lwordBy := b6
    g_lwordBy := PySem.W.mg_of X G a6
    f_lrow := f_lrow
    d_lrow := PySem.W.fnOf "_law_row" "_law_row" (defArgs s_lrow) (defBody s_lrow) (defScope s_lrow) .none kV7 dc7 pm7 an7 cd7 ct7
    F_lrow := F7
    b_lrow := b7
    g_lrow := PySem.W.mg_of X G a7
    f_law := f_law
    d_law := PySem.W.fnOf "law" "law" (defArgs s_law) (defBody s_law) (defScope s_law) .none kV8 dc8 pm8 an8 cd8 ct8
    F_law := F8
    b_law := b8
    g_law := PySem.W.mg_of X G a8
    z_str := PySem.W.mg_none_of X G z_str
    z_len := PySem.W.mg_none_of X G z_len
    z_range := PySem.W.mg_none_of X G z_range
    z_list := PySem.W.mg_none_of X G z_list
    z_isinstance := PySem.W.mg_none_of X G z_isinstance
    z_all := PySem.W.mg_none_of X G z_all
    }, e, fun s v => .of_eq rfl⟩
theorem walk {l : PySem.W.OpenLaw} {q : Program} {loose : List Str} {XP : (Str → Option Value) → Heap → Prop} {YP : World → Heap → Prop} {d : DefRec} {K : Params → PySem.W.Frag} (hn : l.most = some 63) (hdf : d.params.defaults = [])
    (hY : ∀ (w : World) (h : Heap), YP w h → (K w.params).In h)
    (F : ∀ (w : World) (mg : Str → Option Value) (fa : Addr) (h : Heap), (K w.params).In h → h.Ns mainGlobals mg → mg d.name = some (.ref fa) →
      ∃ T : Tx (K w.params) mg, fa = T.f_law ∧ ∀ (s : Shared) (v : Value), BindsTo s T.d_law ⟨[v], []⟩ [("_law_script", v)]) :
    PySem.W.WalkO q loose XP YP l.row.toRowW d [] (fun f vs => PySem.call f vs) := by
  refine L2.walk_of (n := 63) (k := 3) (x := "_law_script") (CX := fun _ => CX0) (sp := fun w => sp_law (K w.params)) hn (by decide) hdf ⟨rfl, by decide, by decide⟩ hY (fun w mg fa h KX G hmg => ?_) (fun _ _ a ns hl _ hS => ⟨a, ns, rfl, hS, hl, fun _ => rfl⟩) fun _ _ _ _ _ z => z
  obtain ⟨T, e, b⟩ := F w mg fa h KX G hmg
  subst e
  exact ⟨T.d_law, b, fun base _ _ => ok_law T⟩
end Ev
open PySem PySem.W PyProof.Rows in
theorem PySem.Challenge.cw_eventloom_k13_tale_holds : PySem.Challenge.rw_eventloom_k13_tale.Holds := by
  w_on; o_law; k_head; (case hw => w_witness2)
  k_fill
  refine Ev.walk (l := PySem.Challenge.rw_eventloom_k13_tale) rfl rfl (fun w h Y => PySem.W.kIn_of Y) ?F
  case F =>
    intro w mg fa h KX G hmg
    refine' Ev.all_mk KX G hmg ?a1 ?l1 ?c1 ?k1 ?a2 ?l2 ?c2 ?k2 ?a3 ?l3 ?c3 ?k3 ?a4 ?l4 ?c4 ?k4 ?a5 ?l5 ?c5 ?k5 ?a6 ?l6 ?c6 ?k6 ?a7 ?l7 ?c7 ?k7 ?a8 ?l8 ?c8 ?k8 ?z_str ?z_len ?z_range ?z_list ?z_isinstance ?z_all
    (case a1 => k_is)
    (case l1 => k_is)
    (case c1 => k_is)
    (case k1 => k_is)
    (case a2 => k_is)
    (case l2 => k_is)
    (case c2 => k_is)
    (case k2 => k_is)
    (case a3 => k_is)
    (case l3 => k_is)
    (case c3 => k_is)
    (case k3 => k_is)
    (case a4 => k_is)
    (case l4 => k_is)
    (case c4 => k_is)
    (case k4 => k_is)
    (case a5 => k_is)
    (case l5 => k_is)
    (case c5 => k_is)
    (case k5 => k_is)
    (case a6 => k_is)
    (case l6 => k_is)
    (case c6 => k_is)
    (case k6 => k_is)
    (case a7 => k_is)
    (case l7 => k_is)
    (case c7 => k_is)
    (case k7 => k_is)
    (case a8 => k_is)
    (case l8 => k_is)
    (case c8 => k_is)
    (case k8 => k_is)
    (case z_str => k_is)
    (case z_len => k_is)
    (case z_range => k_is)
    (case z_list => k_is)
    (case z_isinstance => k_is)
    (case z_all => k_is)
