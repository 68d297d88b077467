import PyProof.Rows.All
import Wide.All
import OpenK.AllK
import Wide.FinOn
import HandS.ForMost
import HandS.More
import HandS.IsInst
import HandS.Conv
import HandS.Deep
import HandS.TupAny
import HandS.TupLe
import HandS.SortInts
import HandS.SortRule
import HandS.Style
import HandS.Flow
import HandS.Wide
import HandS.Exc
import HandS.ExcOwn
import HandS.WordsExc
import HandS.TryOnly
import HandS.SetFor
import HandS.Walk
import KE.SortData
import PySem.Challenge.RW_eventloom_k07_now_within
set_option Elab.async false
set_option linter.all false
set_option maxRecDepth 100000
set_option maxHeartbeats 4000000
local macro_rules | `(tactic| walk_at "len") => `(tactic| (intro vs H Q E h; first
  | (obtain ⟨e, _⟩ := h; rw [e]; rfl) | (obtain ⟨_, e, _⟩ := h; rw [e]; rfl) | (obtain ⟨_, _, e, _⟩ := h; rw [e]; rfl) | (obtain ⟨_, _, _, e, _⟩ := h; rw [e]; rfl)
  | (obtain ⟨_, _, _, _, e, _⟩ := h; rw [e]; rfl) | (obtain ⟨_, _, _, _, _, e, _⟩ := h; rw [e]; rfl) | (obtain ⟨_, _, _, _, _, _, e, _⟩ := h; rw [e]; rfl)
  | (obtain ⟨_, _, _, _, _, _, _, e, _⟩ := h; rw [e]; rfl) | (obtain ⟨_, _, _, _, _, _, _, _, e, _⟩ := h; rw [e]; rfl) | (obtain ⟨_, _, _, _, _, _, _, _, _, e, _⟩ := h; rw [e]; rfl) | (obtain ⟨_, _, _, _, _, _, _, _, _, _, e, _⟩ := h; rw [e]; rfl) | (obtain ⟨_, _, _, _, _, _, _, _, _, _, _, e, _⟩ := h; rw [e]; rfl) | (obtain ⟨_, _, _, _, _, _, _, _, _, _, _, _, e, _⟩ := h; rw [e]; rfl) | (obtain ⟨_, _, _, _, _, _, _, _, _, _, _, _, _, e, _⟩ := h; rw [e]; rfl) | (obtain ⟨_, _, _, _, _, _, _, _, _, _, _, _, _, _, e, _⟩ := h; rw [e]; rfl)))
local macro_rules | `(tactic| walk_at "nf") => `(tactic| dsimp only [L2.tNext, L2.tSeq, L2.tRet, L2.tAsg, L2.tDrop, L2.tCB, L2.tCons, L2.tNil, L2.tOp, L2.gName, L2.sFld])
local macro_rules | `(tactic| walk_at "go") => `(tactic| repeat (first | refine ⟨_, rfl, ?_⟩ | refine ⟨_, _, rfl, rfl, ?_⟩ | refine ⟨rfl, ?_⟩))
namespace Ev
open PySem L2
/-! ### heaps: what an operation keeps -/
structure Kp (M : List Addr) (H H' : Hp) : Prop where
  keep : ∀ a o, a ∉ M → H a = some o → H' a = some o
  dom : ∀ a, H' a = none → H a = none
  tup : ∀ a xs, H a = some (.tup xs) → H' a = some (.tup xs)
theorem Kp.refl (M : List Addr) (H : Hp) : Kp M H H := ⟨fun _ _ _ h => h, fun _ h => h, fun _ _ h => h⟩
theorem Kp.trans {M : List Addr} {H H1 H2 : Hp} (a : Kp M H H1) (b : Kp M H1 H2) : Kp M H H2 :=
  ⟨fun p o n h => b.keep p o n (a.keep p o n h), fun p h => a.dom p (b.dom p h), fun p xs h => b.tup p xs (a.tup p xs h)⟩
theorem Kp.transM {M M1 : List Addr} {H H1 H2 : Hp} (a : Kp M H H1) (b : Kp M1 H1 H2) (s : ∀ p, p ∈ M1 → p ∈ M ∨ H p = none) : Kp M H H2 :=
  ⟨fun p o n h => b.keep p o (fun z => (s p z).elim n fun q => by rw [q] at h; cases h) (a.keep p o n h), fun p h => a.dom p (b.dom p h), fun p xs h => b.tup p xs (a.tup p xs h)⟩
theorem Kp.mono {M M1 : List Addr} {H H1 : Hp} (a : Kp M1 H H1) (s : ∀ p, p ∈ M1 → p ∈ M ∨ H p = none) : Kp M H H1 := (Kp.refl M H).transM a s
theorem Kp.keep0 {H H' : Hp} (k : Kp [] H H') {a : Addr} {o : HO} (h : H a = some o) : H' a = some o := k.keep a o (by simp) h
theorem upd_none {H : Hp} {p a : Addr} {o : HO} (h : upd H p o a = none) : a ≠ p ∧ H a = none := by
  unfold upd at h
  split at h
  · cases h
  · exact ⟨by assumption, h⟩
theorem Kp.step {M : List Addr} {H H1 : Hp} {p : Addr} {o : HO} (k : Kp M H H1) (hm : p ∈ M ∨ H p = none) (ht : ∀ xs, H1 p ≠ some (.tup xs)) : Kp M H (upd H1 p o) := by
  refine ⟨fun a u n h => ?_, fun a h => k.dom a (upd_none h).2, fun a xs h => ?_⟩
  · have ne : a ≠ p := by
      rintro rfl
      rcases hm with q | q
      · exact n q
      · rw [q] at h; cases h
    rw [upd_ne ne]; exact k.keep a u n h
  · have ne : a ≠ p := by
      rintro rfl
      exact ht xs (k.tup _ _ h)
    rw [upd_ne ne]; exact k.tup a xs h
theorem Kp.new {M : List Addr} {H H1 : Hp} {p : Addr} {o : HO} (k : Kp M H H1) (h : H1 p = none) : Kp M H (upd H1 p o) :=
  k.step (.inr (k.dom p h)) fun xs q => by rw [h] at q; cases q
theorem Kp.lst {M : List Addr} {H H1 : Hp} {p : Addr} {o : HO} {ys : List V} (k : Kp M H H1) (hm : p ∈ M ∨ H p = none) (h : H1 p = some (.lst ys)) : Kp M H (upd H1 p o) :=
  k.step hm fun xs q => by rw [h] at q; cases q
theorem Kp.ins {M : List Addr} {H H1 : Hp} {p C dx : Addr} {o : HO} {fs : List (Str × V)} (k : Kp M H H1) (hm : p ∈ M ∨ H p = none) (h : H1 p = some (.ins C dx fs)) : Kp M H (upd H1 p o) :=
  k.step hm fun xs q => by rw [h] at q; cases q
theorem Kp.dk {M : List Addr} {H H1 : Hp} {p : Addr} {o : HO} {kvs : List (Key × V)} (k : Kp M H H1) (hm : p ∈ M ∨ H p = none) (h : H1 p = some (.dK kvs)) : Kp M H (upd H1 p o) :=
  k.step hm fun xs q => by rw [h] at q; cases q
theorem Kp.ne {M : List Addr} {H H' : Hp} (k : Kp M H H') {a p : Addr} {o : HO} (h : H a = some o) (hp : H' p = none) : a ≠ p := fun e => by
  subst e
  rw [k.dom _ hp] at h
  cases h
theorem SqL.kp {K : PySem.W.Frag} {M : List Addr} {H H' : Hp} {a : Addr} {xs : List V} (k : Kp M H H') (n : a ∉ M) (h : SqL K H a xs) : SqL K H' a xs := by
  rcases h with (h | ⟨o, h⟩) | h
  · exact .inl (.inl (k.keep _ _ n h))
  · exact .inl (.inr ⟨o, k.keep _ _ n h⟩)
  · exact .inr h
theorem SqT.kp {K : PySem.W.Frag} {M : List Addr} {H H' : Hp} {a : Addr} {xs : List V} (k : Kp M H H') (n : a ∉ M) (h : SqT K H a xs) : SqT K H' a xs := by
  rcases h with (h | ⟨o, h⟩) | h
  · exact .inl (.inl (k.keep _ _ n h))
  · exact .inl (.inr ⟨o, k.keep _ _ n h⟩)
  · exact .inr h
theorem SqT.of {K : PySem.W.Frag} {H : Hp} {a : Addr} {xs : List V} (h : H a = some (.tup xs)) : SqT K H a xs := .inl (.inl h)
theorem at0 {α : Type} {x : α} {l : List α} : atI (x :: l) 0 = some x := atI_nat (j := 0) rfl
theorem at1 {α : Type} {x y : α} {l : List α} : atI (x :: y :: l) 1 = some y := atI_nat (j := 1) rfl
theorem at2 {α : Type} {x y z : α} {l : List α} : atI (x :: y :: z :: l) 2 = some z := atI_nat (j := 2) rfl
theorem at3 {α : Type} {x y z u : α} {l : List α} : atI (x :: y :: z :: u :: l) 3 = some u := atI_nat (j := 3) rfl
theorem at4 {α : Type} {x y z u v : α} {l : List α} : atI (x :: y :: z :: u :: v :: l) 4 = some v := atI_nat (j := 4) rfl
theorem atLast {α : Type} {l : List α} {v : α} (h : l.getLast? = some v) : atI l (-1) = some v := by
  obtain ⟨r, rfl⟩ := List.getLast?_eq_some_iff.mp h
  exact atI_last r v
/-! ### fields by their place -/
theorem look_ix : ∀ {l : List (Str × V)} {i : Nat} {k : Str} {v : V}, (l.map Prod.fst).Nodup → l[i]? = some (k, v) → l.lookup k = some v
  | [], _, _, _, _, h => by simp at h
  | (a, b) :: l, 0, k, v, _, h => by
    have e : (a, b) = (k, v) := Option.some.inj h
    cases e
    simp [List.lookup]
  | (a, b) :: l, i + 1, k, v, nd, h => by
    have h' : l[i]? = some (k, v) := h
    have nd' := List.nodup_cons.mp (show (a :: l.map Prod.fst).Nodup from nd)
    have ne : k ≠ a := fun e => nd'.1 (by rw [← e]; exact List.mem_map.mpr ⟨_, List.mem_of_getElem? h', rfl⟩)
    have nb : (k == a) = false := by simpa using ne
    rw [List.lookup, nb]
    exact look_ix nd'.2 h'
theorem put_ix : ∀ {l : List (Str × V)} {i : Nat} {k : Str} {u v : V}, (l.map Prod.fst).Nodup → l[i]? = some (k, u) → putF k v l = l.set i (k, v)
  | [], _, _, _, _, _, h => by simp at h
  | (a, b) :: l, 0, k, u, v, _, h => by
    have e : (a, b) = (k, u) := Option.some.inj h
    cases e
    show (if a = a then _ else _) = _
    rw [if_pos rfl]
    rfl
  | (a, b) :: l, i + 1, k, u, v, nd, h => by
    have h' : l[i]? = some (k, u) := h
    have nd' := List.nodup_cons.mp (show (a :: l.map Prod.fst).Nodup from nd)
    have ne : ¬ a = k := fun e => nd'.1 (by rw [e]; exact List.mem_map.mpr ⟨_, List.mem_of_getElem? h', rfl⟩)
    show (if a = k then _ else (a, b) :: putF k v l) = _
    rw [if_neg ne, put_ix nd'.2 h']
    rfl
theorem put_new : ∀ {l : List (Str × V)} {k : Str} {v : V}, k ∉ l.map Prod.fst → putF k v l = l ++ [(k, v)]
  | [], _, _, _ => rfl
  | (a, b) :: l, k, v, h => by
    have h1 : k ∉ a :: l.map Prod.fst := h
    have ne : ¬ a = k := fun e => h1 (by rw [e]; exact List.mem_cons_self)
    show (if a = k then _ else (a, b) :: putF k v l) = _
    rw [if_neg ne, put_new fun z => h1 (List.mem_cons_of_mem _ z)]
    rfl
theorem look_no : ∀ {l : List (Str × V)} {k : Str}, k ∉ l.map Prod.fst → l.lookup k = none
  | [], _, _ => rfl
  | (a, b) :: l, k, h => by
    have h1 : k ∉ a :: l.map Prod.fst := h
    have ne : (k == a) = false := by simpa using fun e : k = a => h1 (by rw [e]; exact List.mem_cons_self)
    rw [List.lookup, ne]
    exact look_no fun z => h1 (List.mem_cons_of_mem _ z)
/-! ### pairs of lists -/
theorem Pd.len {α : Type} {R : V → α → Prop} : ∀ {xs : List V} {ds : List α}, Paired R xs ds → xs.length = ds.length
  | _, _, .nil => rfl
  | _, _, .cons _ t => by simp [Pd.len t]
theorem Pd.at {α : Type} {R : V → α → Prop} : ∀ {xs : List V} {ds : List α} {i : Nat} {x : V}, Paired R xs ds → xs[i]? = some x → ∃ d, ds[i]? = some d ∧ R x d
  | _, _, _, _, .nil, e => by simp at e
  | _, _, 0, _, .cons r _, e => by simp at e; subst e; exact ⟨_, rfl, r⟩
  | _, _, i + 1, x, .cons _ t, e => by
    obtain ⟨d, h1, h2⟩ := Pd.at (i := i) t (by simpa using e)
    exact ⟨d, by simpa using h1, h2⟩
theorem Pd.at' {α : Type} {R : V → α → Prop} : ∀ {xs : List V} {ds : List α} {i : Nat} {d : α}, Paired R xs ds → ds[i]? = some d → ∃ x, xs[i]? = some x ∧ R x d
  | _, _, _, _, .nil, e => by simp at e
  | _, _, 0, _, .cons r _, e => by simp at e; subst e; exact ⟨_, rfl, r⟩
  | _, _, i + 1, x, .cons _ t, e => by
    obtain ⟨d, h1, h2⟩ := Pd.at' (i := i) t (by simpa using e)
    exact ⟨d, by simpa using h1, h2⟩
theorem Pd.mono {α : Type} {R S : V → α → Prop} (f : ∀ x d, R x d → S x d) : ∀ {xs : List V} {ds : List α}, Paired R xs ds → Paired S xs ds
  | _, _, .nil => .nil
  | _, _, .cons r t => .cons (f _ _ r) (Pd.mono f t)
theorem Pd.map {α : Type} {R : V → α → Prop} {f : α → V} : ∀ {ds : List α}, (∀ d, d ∈ ds → R (f d) d) → Paired R (ds.map f) ds
  | [], _ => .nil
  | d :: ds, h => .cons (h d List.mem_cons_self) (Pd.map fun e he => h e (List.mem_cons_of_mem _ he))
theorem Pd.append {α : Type} {R : V → α → Prop} : ∀ {xs ys : List V} {ds es : List α}, Paired R xs ds → Paired R ys es → Paired R (xs ++ ys) (ds ++ es)
  | _, _, _, _, .nil, s => s
  | _, _, _, _, .cons r t, s => .cons r (Pd.append t s)
theorem Pd.take {α : Type} {R : V → α → Prop} : ∀ {xs : List V} {ds : List α} (n : Nat), Paired R xs ds → Paired R (xs.take n) (ds.take n)
  | _, _, 0, _ => .nil
  | _, _, _ + 1, .nil => .nil
  | _, _, n + 1, .cons r t => .cons r (Pd.take n t)
theorem Pd.drop {α : Type} {R : V → α → Prop} : ∀ {xs : List V} {ds : List α} (n : Nat), Paired R xs ds → Paired R (xs.drop n) (ds.drop n)
  | _, _, 0, r => r
  | _, _, _ + 1, .nil => .nil
  | _, _, n + 1, .cons _ t => Pd.drop n t
theorem Pd.eqmap {α : Type} {f : α → V} : ∀ {xs : List V} {ds : List α}, Paired (fun x d => x = f d) xs ds → xs = ds.map f
  | _, _, .nil => rfl
  | _, _, .cons r t => by rw [r, Pd.eqmap t]; rfl
theorem take_snoc {α : Type} {l : List α} {i : Nat} {d : α} (h : l[i]? = some d) : l.take (i + 1) = l.take i ++ [d] := by
  rw [List.take_add_one, h]; rfl
theorem split_at {α : Type} {l : List α} {i : Nat} {d : α} (h : l[i]? = some d) : l = l.take i ++ d :: l.drop (i + 1) := by
  obtain ⟨hi, e⟩ := List.getElem?_eq_some_iff.mp h
  have q := List.take_append_drop i l
  rw [List.drop_eq_getElem_cons hi, e] at q
  exact q.symm
/-! ### loops over a list whose items read as data -/
section
variable {K : PySem.W.Frag} {a : Addr} {xs : List V} {g : TG} {tb : TS} {D : Ends} {σ : St} {H : Hp} {α : Type} {R : V → α → Prop} {ds : List α}
theorem for_pd (hx : Paired R xs ds) (Pv : List α → St → Hp → Prop) (h0 : Pv [] σ H) (hl : ∀ pre σ H, Pv pre σ H → SqL K H a xs)
    (hs : ∀ pre x d post σ H, ds = pre ++ d :: post → R x d → Pv pre σ H → g x σ H fun σ2 H2 => tb { D with nx := Pv (pre ++ [d]), ct := Pv (pre ++ [d]), bk := D.nx } σ2 H2)
    (hd : ∀ σ H, Pv ds σ H → D.nx σ H) : tFor (fun _ H R => R (Itl K a) H) g tb D σ H :=
  for_list (fun i σ H => Pv (ds.take i) σ H) (by simpa using h0) (fun i σ H _ p => hl _ σ H p)
    (fun i x σ H e p => by
      obtain ⟨d, e1, r⟩ := Pd.at hx e
      have q := hs (ds.take i) x d (ds.drop (i + 1)) σ H (split_at e1) r p
      rw [← take_snoc e1] at q
      exact q)
    (fun σ H p => hd σ H (by rw [Pd.len hx, List.take_length] at p; exact p))
theorem for_pdT (hx : Paired R xs ds) (Pv : List α → St → Hp → Prop) (h0 : Pv [] σ H) (hl : ∀ pre σ H, Pv pre σ H → SqT K H a xs)
    (hs : ∀ pre x d post σ H, ds = pre ++ d :: post → R x d → Pv pre σ H → g x σ H fun σ2 H2 => tb { D with nx := Pv (pre ++ [d]), ct := Pv (pre ++ [d]), bk := D.nx } σ2 H2)
    (hd : ∀ σ H, Pv ds σ H → D.nx σ H) : tFor (fun _ H R => R (Itt K a) H) g tb D σ H :=
  for_tup (fun i σ H => Pv (ds.take i) σ H) (by simpa using h0) (fun i σ H _ p => hl _ σ H p)
    (fun i x σ H e p => by
      obtain ⟨d, e1, r⟩ := Pd.at hx e
      have q := hs (ds.take i) x d (ds.drop (i + 1)) σ H (split_at e1) r p
      rw [← take_snoc e1] at q
      exact q)
    (fun σ H p => hd σ H (by rw [Pd.len hx, List.take_length] at p; exact p))
variable {tt : TT} {te : TE} {vs : List Nat} {Q : VK}
/-- a comprehension: at D the list acc, of which I pre acc holds -/
theorem lc_pd (hx : Paired R xs ds) (hz : ds.length < sizeLine) (Pv : Addr → List α → List V → Hp → Prop) (h0 : ∀ D, H D = none → Pv D [] [] (upd H D (.lst [])))
    (hl : ∀ D pre acc H', H D = none → H' D = some (.lst acc) → Pv D pre acc H' → SqL K H' a xs)
    (hs : ∀ D pre acc x d post H' (Yes : V → Hp → Prop) (No : Hp → Prop), H D = none → ds = pre ++ d :: post → R x d → H' D = some (.lst acc) → Pv D pre acc H' →
      (∀ y H4, H4 D = some (.lst acc) → Pv D (pre ++ [d]) (acc ++ [y]) (upd H4 D (.lst (acc ++ [y]))) → Yes y H4) → (∀ H3, H3 D = some (.lst acc) → Pv D (pre ++ [d]) acc H3 → No H3) →
      g x (wipe σ vs) H' fun σ2 H2 => wipe σ2 vs = wipe σ vs ∧ tt σ2 H2 fun b H3 => if b = true then te σ2 H3 Yes else No H3)
    (hd : ∀ D acc H', H D = none → H' D = some (.lst acc) → Pv D ds acc H' → Q (.ref D) H') : tLc (fun _ H R => R (Itl K a) H) g tt te vs σ H Q := fun D hD =>
  lc_list (fun i H' => ∃ acc, H' D = some (.lst acc) ∧ acc.length ≤ i ∧ Pv D (ds.take i) acc H') ⟨[], upd_same, Nat.le_refl _, by simpa using h0 D hD⟩ (fun i H' _ ⟨acc, e, _, p⟩ => hl D _ acc H' hD e p)
    (fun i x H' e ⟨acc, e2, hi, p⟩ => by
      obtain ⟨d, e1, r⟩ := Pd.at hx e
      have hlt : i < ds.length := (List.getElem?_eq_some_iff.mp e1).1
      have q := fun Yes No => hs D (ds.take i) acc x d (ds.drop (i + 1)) H' Yes No hD (split_at e1) r e2 p
      rw [← take_snoc e1] at q
      exact q _ _ (fun y H4 z1 z2 => ⟨acc, z1, Nat.lt_of_le_of_lt hi (Nat.lt_trans hlt hz), acc ++ [y], upd_same, by simp; exact hi, z2⟩) fun H3 z1 z2 => ⟨acc, z1, Nat.le_succ_of_le hi, z2⟩)
    (fun H' ⟨acc, e, _, p⟩ => hd D acc H' hD e (by rw [Pd.len hx, List.take_length] at p; exact p))
/-- .. over a tuple -/
theorem lc_pdT (hx : Paired R xs ds) (hz : ds.length < sizeLine) (Pv : Addr → List α → List V → Hp → Prop) (h0 : ∀ D, H D = none → Pv D [] [] (upd H D (.lst [])))
    (hl : ∀ D pre acc H', H D = none → H' D = some (.lst acc) → Pv D pre acc H' → SqT K H' a xs)
    (hs : ∀ D pre acc x d post H' (Yes : V → Hp → Prop) (No : Hp → Prop), H D = none → ds = pre ++ d :: post → R x d → H' D = some (.lst acc) → Pv D pre acc H' →
      (∀ y H4, H4 D = some (.lst acc) → Pv D (pre ++ [d]) (acc ++ [y]) (upd H4 D (.lst (acc ++ [y]))) → Yes y H4) → (∀ H3, H3 D = some (.lst acc) → Pv D (pre ++ [d]) acc H3 → No H3) →
      g x (wipe σ vs) H' fun σ2 H2 => wipe σ2 vs = wipe σ vs ∧ tt σ2 H2 fun b H3 => if b = true then te σ2 H3 Yes else No H3)
    (hd : ∀ D acc H', H D = none → H' D = some (.lst acc) → Pv D ds acc H' → Q (.ref D) H') : tLc (fun _ H R => R (Itt K a) H) g tt te vs σ H Q := fun D hD =>
  lc_tup (fun i H' => ∃ acc, H' D = some (.lst acc) ∧ acc.length ≤ i ∧ Pv D (ds.take i) acc H') ⟨[], upd_same, Nat.le_refl _, by simpa using h0 D hD⟩ (fun i H' _ ⟨acc, e, _, p⟩ => hl D _ acc H' hD e p)
    (fun i x H' e ⟨acc, e2, hi, p⟩ => by
      obtain ⟨d, e1, r⟩ := Pd.at hx e
      have hlt : i < ds.length := (List.getElem?_eq_some_iff.mp e1).1
      have q := fun Yes No => hs D (ds.take i) acc x d (ds.drop (i + 1)) H' Yes No hD (split_at e1) r e2 p
      rw [← take_snoc e1] at q
      exact q _ _ (fun y H4 z1 z2 => ⟨acc, z1, Nat.lt_of_le_of_lt hi (Nat.lt_trans hlt hz), acc ++ [y], upd_same, by simp; exact hi, z2⟩) fun H3 z1 z2 => ⟨acc, z1, Nat.le_succ_of_le hi, z2⟩)
    (fun H' ⟨acc, e, _, p⟩ => hd D acc H' hD e (by rw [Pd.len hx, List.take_length] at p; exact p))
end
/-! ### a comprehension that maps what passes a test -/
section
variable {K : PySem.W.Frag} {a : Addr} {xs : List V} {tt : TT} {te : TE} {σ : St} {H : Hp} {α : Type} {R : V → α → Prop} {ds : List α} {vs : List Nat} {Q : VK} {i : Nat}
theorem lc_fm (hx : Paired R xs ds) (hz : ds.length < sizeLine) (ha : SqL K H a xs) (f : α → V) (p : α → Bool) (hw : ∀ x, wipe ((wipe σ vs).set i (some x)) vs = wipe σ vs)
    (ht : ∀ x d H' (Q : Bool → Hp → Prop), d ∈ ds → R x d → Kp [] H H' → (∀ H'', Kp [] H' H'' → Q (p d) H'') → tt ((wipe σ vs).set i (some x)) H' Q)
    (he : ∀ x d H' (Q : VK), d ∈ ds → R x d → p d = true → Kp [] H H' → (∀ H'', Kp [] H' H'' → Q (f d) H'') → te ((wipe σ vs).set i (some x)) H' Q)
    (k : ∀ D H', H D = none → Kp [] H H' → H' D = some (.lst ((ds.filter p).map f)) → Q (.ref D) H') : tLc (fun _ H R => R (Itl K a) H) (gName i) tt te vs σ H Q := by
  refine lc_pd hx hz (fun D pre acc H' => Kp [] H H' ∧ acc = (pre.filter p).map f) (fun D hD => ⟨(Kp.refl _ _).new hD, rfl⟩) (fun D pre acc H' hD e q => SqL.kp q.1 (by simp) ha) ?_ (fun D acc H' hD e q => k D H' hD q.1 (q.2 ▸ e))
  rintro D pre acc x d post H' Yes No hD ed r e ⟨kp, rfl⟩ yes no
  have hd : d ∈ ds := by rw [ed]; simp
  refine ⟨hw x, ht x d H' _ hd r kp fun H2 k2 => ?_⟩
  cases hp : p d with
  | true =>
    rw [if_pos rfl]
    refine he x d H2 _ hd r hp (kp.trans k2) fun H3 k3 => ?_
    have e3 := (k2.trans k3).keep0 e
    exact yes _ _ e3 ⟨((kp.trans k2).trans k3).lst (.inr hD) e3, by simp [List.filter_append, hp]⟩
  | false =>
    rw [if_neg Bool.false_ne_true]
    exact no _ (k2.keep0 e) ⟨kp.trans k2, by simp [List.filter_append, hp]⟩
theorem lc_mp (hx : Paired R xs ds) (hz : ds.length < sizeLine) (ha : SqL K H a xs) (f : α → V) (hw : ∀ x, wipe ((wipe σ vs).set i (some x)) vs = wipe σ vs)
    (he : ∀ x d H' (Q : VK), d ∈ ds → R x d → Kp [] H H' → (∀ H'', Kp [] H' H'' → Q (f d) H'') → te ((wipe σ vs).set i (some x)) H' Q)
    (k : ∀ D H', H D = none → Kp [] H H' → H' D = some (.lst (ds.map f)) → Q (.ref D) H') : tLc (fun _ H R => R (Itl K a) H) (gName i) tYes te vs σ H Q :=
  lc_fm hx hz ha f (fun _ => true) hw (fun x d H' Q _ _ _ q => q H' (Kp.refl _ _)) (fun x d H' Q h1 h2 _ h3 q => he x d H' Q h1 h2 h3 q) fun D H' hD kp e => k D H' hD kp (by
    have e2 : ds.filter (fun _ => true) = ds := List.filter_eq_self.mpr fun _ _ => rfl
    rw [e2] at e
    exact e)
end
/-! ### one step of a reading, named -/
section
variable {σ : L2.St} {H : Hp} {D : Ends} {Q : VK} {te ta : TE} {tr : TA} {t u tb : TS} {wi : TI} {g : TG} {tt : TT} {vs : List Nat}
theorem next_go (h : D.nx σ H) : tNext D σ H := h
theorem ret_go (h : te σ H D.rt) : tRet te D σ H := h
theorem seq_go (h : t { D with nx := u D } σ H) : tSeq t u D σ H := h
theorem asg_go (h : te σ H fun x H1 => g x σ H1 D.nx) : tAsg te g D σ H := h
theorem drop_go (h : te σ H fun _ H1 => D.nx σ H1) : tDrop te D σ H := h
theorem cb_go {r : List V → Hp → VK → Prop} (h : tr σ H fun vs H1 => r vs H1 Q) : tCB r tr σ H Q := h
theorem cons_go {Q : List V → Hp → Prop} (h : ta σ H fun x H1 => tr σ H1 fun xs H2 => Q (x :: xs) H2) : tCons ta tr σ H Q := h
theorem op_go {r : R2} (h : te σ H fun x H1 => ta σ H1 fun y H2 => r x y H2 Q) : tOp r te ta σ H Q := h
theorem for_go (h : wi σ H fun J H1 => tFor (fun _ H R => R J H) g tb D σ H1) : tFor wi g tb D σ H := h
theorem lc_go (h : wi σ H fun J H1 => tLc (fun _ H R => R J H) g tt te vs σ H1 Q) : tLc wi g tt te vs σ H Q := h
theorem if_go {c : TT} {A B : TS} (h : c σ H fun b H1 => if b = true then A D σ H1 else B D σ H1) : tIfS c A B D σ H := h
theorem if_else {c : Prop} [Decidable c] {A B : Prop} (h1 : c → A) (h2 : ¬ c → B) : if decide c = true then A else B := by
  by_cases h : c
  · rw [decide_eq_true h, if_pos rfl]; exact h1 h
  · rw [decide_eq_false h, if_neg Bool.false_ne_true]; exact h2 h
end
/-! ### the layer's rules with K said -/
section
variable {X : Cx}
def rLn (K : PySem.W.Frag) : List V → Hp → VK → Prop := fun xs H Q => ∃ p ys, xs = [.ref p] ∧ (SqL K H p ys ∨ SqT K H p ys) ∧ Q (.int ys.length) H
def rLs (K : PySem.W.Frag) : List V → Hp → VK → Prop := fun xs H Q => ∃ p ys, xs = [.ref p] ∧ (SqL K H p ys ∨ SqT K H p ys) ∧ ∀ l, H l = none → Q (.ref l) (upd H l (.lst ys))
def rIns : V → List V → Hp → VK → Prop := fun x vs H Q => ∃ (l : Addr) (xs : List V) (i : Int) (y : V), x = .ref l ∧ vs = [.int i, y] ∧ H l = some (.lst xs) ∧
  xs.length < sizeLine ∧ 0 ≤ i ∧ i < 2 ^ 63 ∧ Q .non (upd H l (.lst (xs.take i.toNat ++ [y] ++ xs.drop i.toNat)))
theorem kInsert : MtR X "list.insert" rIns := mt_insert
def rTp (K : PySem.W.Frag) : List V → Hp → VK → Prop := fun xs H Q => ∃ p ys, xs = [.ref p] ∧ ((SqL K H p ys ∧ ∀ l, H l = none → Q (.ref l) (upd H l (.tup ys))) ∨ (SqT K H p ys ∧ Q (.ref p) H))
theorem kLen (K : PySem.W.Frag) (h : X.K = K := by rfl) : CallR X (.builtin "len") (rLn K) := by subst h; exact call_len_seq
theorem kList (K : PySem.W.Frag) (h : X.K = K := by rfl) : CallR X (.type "list") (rLs K) := by subst h; exact call_list_of
theorem kTuple (K : PySem.W.Frag) (h : X.K = K := by rfl) : CallR X (.type "tuple") (rTp K) := by subst h; exact call_tuple_of
theorem kAll (K : PySem.W.Frag) (h : X.K = K := by rfl) (hc : X.calm = true := by rfl) : CallR X (.builtin "all") (rAll K) := by subst h; exact cr_all hc
theorem kAny (K : PySem.W.Frag) (h : X.K = K := by rfl) (hc : X.calm = true := by rfl) : CallR X (.builtin "any") (rAny K) := by subst h; exact cr_any hc
theorem kSum (K : PySem.W.Frag) (h : X.K = K := by rfl) (hc : X.calm = true := by rfl) : CallR X (.builtin "sum") (rSum K) := by subst h; exact cr_sum hc
theorem kMax (K : PySem.W.Frag) (h : X.K = K := by rfl) (hc : X.calm = true := by rfl) : CallR X (.builtin "max") (rMax K) := by subst h; exact cr_max hc
theorem kIsi (K : PySem.W.Frag) (h : X.K = K := by rfl) : CallR X (.builtin "isinstance") (rIsi K) := by subst h; exact call_isi
theorem kIsiT (K : PySem.W.Frag) (h : X.K = K := by rfl) : CallR X (.builtin "isinstance") (rIsiT K) := by subst h; exact call_isiT
theorem kSortI (K : PySem.W.Frag) (h : X.K = K := by rfl) : CallR X (.builtin "sorted") (rSortedI K) := by subst h; exact cr_sortedI
theorem kSortP (K : PySem.W.Frag) (h : X.K = K := by rfl) : CallR X (.builtin "sorted") (rSortedPO K) := by subst h; exact cr_sortedPO
theorem kIxL (K : PySem.W.Frag) (h : X.K = K := by rfl) : IxR X (rIxL K) := by subst h; exact ix_list
theorem kIxT (K : PySem.W.Frag) (h : X.K = K := by rfl) : IxR X (rIxT K) := by subst h; exact ix_tup
theorem kSlL (K : PySem.W.Frag) (h : X.K = K := by rfl) : SlR X (rSlL K) := by subst h; exact sl_list
theorem kSlA (K : PySem.W.Frag) (h : X.K = K := by rfl) : SlR X (rSlA K) := by subst h; exact sl_tupA
theorem kIn (K : PySem.W.Frag) (h : X.K = K := by rfl) : OpR X (compareOp .In) (rIn K false) := by subst h; exact op_in_seq
theorem kNotIn (K : PySem.W.Frag) (h : X.K = K := by rfl) : OpR X (compareOp .NotIn) (rIn K true) := by subst h; exact op_notIn_seq
theorem kInD (K : PySem.W.Frag) (hu : X.A.units + 65 < cLine) (h : X.K = K := by rfl) : OpR X (compareOp .In) (rInD K) := by subst h; exact op_inD hu
theorem kNotInD (K : PySem.W.Frag) (hu : X.A.units + 65 < cLine) (h : X.K = K := by rfl) : OpR X (compareOp .NotIn) (rNotInD K) := by subst h; exact op_notInD hu
theorem kEqD (K : PySem.W.Frag) (hu : X.A.units + 64 < cLine) (h : X.K = K := by rfl) : OpR X (compareOp .Eq) (rEqD K) := by subst h; exact op_eqD hu
theorem kNeD (K : PySem.W.Frag) (hu : X.A.units + 64 < cLine) (h : X.K = K := by rfl) : OpR X (compareOp .NotEq) (rNeD K) := by subst h; exact op_neD hu
theorem kLtT (K : PySem.W.Frag) (hu : X.A.units < cLine) (h : X.K = K := by rfl) : OpR X (compareOp .Lt) (rLtT K) := by subst h; exact op_ltT hu
theorem kLeT (K : PySem.W.Frag) (hu : X.A.units < cLine) (h : X.K = K := by rfl) : OpR X (compareOp .LtE) (rLeT K) := by subst h; exact op_leT hu
theorem kCatA (K : PySem.W.Frag) (h : X.K = K := by rfl) : OpR X (binaryOp .Add) (rCatA K) := by subst h; exact op_catA
theorem kFld (K : PySem.W.Frag) {e : Expr} {f : Str} {pos : Pos} {ta : TE} (he : PE X e ta) (h : X.K = K := by rfl) (hb : attributeBase e f X.env (eval e X.env) = eval e X.env := by rfl) : PE X (.Attribute e f pos) (tFld K ta f) := by subst h; exact pe_fld he hb
/-! ### sorted of triples: a rank, a place, a name -/
abbrev Tri := Int × Int × Str
def triD (t : Tri) : PyData := .tuple [.int t.1, .int t.2.1, .str t.2.2]
def triLe : Tri → Tri → Bool := PySem.W.dataLe false triD
def TriAt (K : PySem.W.Frag) (H : Hp) (v : V) (t : Tri) : Prop := ∃ p, v = .ref p ∧ SqT K H p [.int t.1, .int t.2.1, .str t.2.2]
def rSort3 (K : PySem.W.Frag) : List V → Hp → VK → Prop := fun vs H Q => ∃ (a : Addr) (xs : List V) (ts : List Tri), vs = [V.ref a] ∧ SqL K H a xs ∧ Paired (TriAt K H) xs ts ∧
  ∀ ys p, Paired (TriAt K H) ys (ts.mergeSort triLe) → H p = none → Q (.ref p) (upd H p (.lst ys))
theorem TriAt.dp {K : PySem.W.Frag} {H : Hp} {v : V} {t : Tri} (h : TriAt K H v t) : Dp K H v (triD t) := by
  obtain ⟨p, rfl, h⟩ := h
  exact .tup h (.cons (.int _) (.cons (.int _) (.cons (.str _) .nil)))
theorem tri_alike (t u : Tri) : PySem.W.alike (triD t) (triD u) = true := by simp [triD, PySem.W.alike, PySem.W.alikeAll]
theorem tri_depth (t : Tri) : (triD t).depth = 1 := by simp [triD, PyData.depth, PyData.depthAll]
theorem each_of {xs : List V} {its : List Value} {ts : List Tri} {K : PySem.W.Frag} {H : Hp} : ∀ {xs : List V} {its : List Value} {ts : List Tri}, Vals xs its → Paired (TriAt K H) xs ts →
    PySem.W.EachIs (fun u (b : V × Tri) => RelV b.1 u ∧ TriAt K H b.1 b.2) its (xs.zip ts)
  | _, _, _, .nil, .nil => .nil
  | _, _, _, .cons r q, .cons r' q' => .cons ⟨r, r'⟩ (each_of (xs := []) (its := []) (ts := []) q q')
theorem each_vals {K : PySem.W.Frag} {H : Hp} : ∀ {its : List Value} {bs : List (V × Tri)}, PySem.W.EachIs (fun u (b : V × Tri) => RelV b.1 u ∧ TriAt K H b.1 b.2) its bs → Vals (bs.map Prod.fst) its ∧ Paired (TriAt K H) (bs.map Prod.fst) (bs.map Prod.snd)
  | _, _, .nil => ⟨.nil, .nil⟩
  | _, _, .cons r q => ⟨.cons r.1 (each_vals q).1, .cons r.2 (each_vals q).2⟩
theorem zip_snd {α β : Type} {R : α → β → Prop} : ∀ {xs : List α} {ts : List β}, Paired R xs ts → (xs.zip ts).map Prod.snd = ts
  | _, _, .nil => rfl
  | _, _, .cons _ q => by simp [zip_snd q]
theorem kSort3 (K : PySem.W.Frag) (hu : X.A.units + 64 < cLine) (h : X.K = K := by rfl) : CallR X (.builtin "sorted") (rSort3 K) := by
  subst h
  intro pins s σ H vs us Q I r h
  obtain ⟨a, xs, ts, rfl, hs, hx, q⟩ := h
  obtain ⟨its, rv, hl, hz⟩ := I.list hs
  obtain ⟨u, rfl, ru⟩ := vals1 r
  obtain rfl : u = Value.ref a := ru
  have e := each_of (xs := []) (its := []) (ts := []) rv hx
  have hlen : (xs.zip ts).length = its.length := by
    rw [List.length_zip, ← Pd.len hx, Nat.min_self, rv.length]
  refine PySem.W.sorted_data (enc := fun b : V × Tri => triD b.2) (R := fun u (b : V × Tri) => RelV b.1 u ∧ TriAt X.K H b.1 b.2) hl.isList e (e.mono fun u b hb => ?_) (PySem.W.AllAlike.of fun b b' => tri_alike _ _) (PySem.W.Sortable.tuples fun b => ⟨_, _, rfl⟩) ?_ ?_ ?_
  · exact Dp.reads I _ _ _ hb.2.dp hb.1
  · rw [hlen, ← rv.length]; exact hz
  · intro b _
    rw [tri_depth]
    omega
  · intro out ho eo
    obtain ⟨c, hc⟩ := PyProof.Rows.sortedAll_at s.heap its out.toArray
    obtain ⟨v1, v2⟩ := each_vals eo
    have e2 : ((xs.zip ts).mergeSort (PySem.W.dataLe false fun b : V × Tri => triD b.2)).map Prod.snd = ts.mergeSort triLe := by
      have m := List.map_mergeSort (f := Prod.snd) (r := PySem.W.dataLe false fun b : V × Tri => triD b.2) (s := triLe) (l := xs.zip ts) (fun _ _ _ _ => rfl)
      rw [m, zip_snd hx]
    rw [e2] at v2
    have hn : H (s.heap.objs.size + 1) = none := I.hok.fresh (Nat.le_succ _)
    refine ⟨.ref (s.heap.objs.size + 1), upd H (s.heap.objs.size + 1) (.lst (((xs.zip ts).mergeSort (PySem.W.dataLe false fun b : V × Tri => triD b.2)).map Prod.fst)), I.laid (t' := s.toks) (fun b o z => PyProof.Rows.sortedAll_old z) (Nat.le_succ _) ⟨?_, out, c, v1, hc⟩, rfl, q _ _ v2 hn⟩
    rw [v1.length, ho, hlen, ← rv.length]
    exact hz
/-- pairs of whole numbers, greater, or not less -/
def rGtP (K : PySem.W.Frag) : R2 := fun x y H Q => ∃ (a b : Addr) (i j k l : Int), x = .ref a ∧ y = .ref b ∧ SqT K H a [.int i, .int j] ∧ SqT K H b [.int k, .int l] ∧ Q (.bl (decide (k < i ∨ (i = k ∧ l < j)))) H
def rGeP (K : PySem.W.Frag) : R2 := fun x y H Q => ∃ (a b : Addr) (i j k l : Int), x = .ref a ∧ y = .ref b ∧ SqT K H a [.int i, .int j] ∧ SqT K H b [.int k, .int l] ∧ Q (.bl (decide (k < i ∨ (i = k ∧ l ≤ j)))) H
theorem eqInt {A : Around} {s : Shared} {i k : Int} {t u : Tok} : SeqAt.EqAt A s (.int i t) (.int k u) (decide (i = k)) := by
  have z : (i == k) = decide (i = k) := by
    by_cases q : i = k
    · rw [decide_eq_true q]; exact beq_iff_eq.mpr q
    · rw [decide_eq_false q]; exact beq_eq_false_iff_ne.mpr q
  rw [← z]
  exact SeqAt.EqAt.int_int _ _ _ _
theorem pairInts {xs : List Value} {i j : Int} (r : Vals [V.int i, V.int j] xs) : ∃ t u, xs = [.int i t, .int j u] := by
  cases r with
  | cons r1 r =>
    cases r with
    | cons r2 r =>
      cases r
      obtain ⟨t, rfl⟩ := r1
      obtain ⟨u, rfl⟩ := r2
      exact ⟨t, u, rfl⟩
def two (p q : Bool) : Nat → Bool
  | 0 => p
  | _ => q
theorem kGtP (K : PySem.W.Frag) (hu : X.A.units < cLine) (h : X.K = K := by rfl) : OpR X (compareOp .Gt) (rGtP K) := by
  subst h
  intro pins s σ H x y v u Q I rx ry h
  obtain ⟨a, b, i, j, k, l, rfl, rfl, ha, hb, q⟩ := h
  cases rx; cases ry
  obtain ⟨xs, r1, p1, _⟩ := I.tuple ha
  obtain ⟨ys, r2, p2, _⟩ := I.tuple hb
  obtain ⟨t1, u1, rfl⟩ := pairInts r1
  obtain ⟨t2, u2, rfl⟩ := pairInts r2
  have R := Ob.RcOp.tuples_gt (A := X.A) (s := s) (e := two (decide (i = k)) (decide (j = l))) (r := two (decide (i > k)) (decide (j > l))) p1 p2 hu
    (fun m h1 h2 => match m, h1, h2 with | 0, _, _ => eqInt | 1, _, _ => eqInt | m + 2, h1, _ => absurd h1 (by simp)) (fun m h1 h2 _ => match m, h1, h2 with | 0, _, _ => Ob.RcOp.gt_int _ _ _ _ | 1, _, _ => Ob.RcOp.gt_int _ _ _ _ | m + 2, h1, _ => absurd h1 (by simp))
  have e : Ob.lexAt (two (decide (i = k)) (decide (j = l))) (two (decide (i > k)) (decide (j > l))) (decide (([Value.int i t1, .int j u1] : List Value).toArray.size > ([Value.int k t2, .int l u2] : List Value).toArray.size)) 0
      (min ([Value.int i t1, .int j u1] : List Value).toArray.size ([Value.int k t2, .int l u2] : List Value).toArray.size) = decide (k < i ∨ (i = k ∧ l < j)) := by
    show (if decide (i = k) = true then (if decide (j = l) = true then decide (2 > 2) else decide (j > l)) else decide (i > k)) = _
    by_cases e1 : i = k <;> by_cases e2 : j = l <;> simp [e1, e2]
    all_goals omega
  rw [e] at R
  exact R X.prog X.w X.xe (EP X pins σ Q) ⟨.bl _, H, I, rfl, q⟩
theorem kGeP (K : PySem.W.Frag) (hu : X.A.units < cLine) (h : X.K = K := by rfl) : OpR X (compareOp .GtE) (rGeP K) := by
  subst h
  intro pins s σ H x y v u Q I rx ry h
  obtain ⟨a, b, i, j, k, l, rfl, rfl, ha, hb, q⟩ := h
  cases rx; cases ry
  obtain ⟨xs, r1, p1, _⟩ := I.tuple ha
  obtain ⟨ys, r2, p2, _⟩ := I.tuple hb
  obtain ⟨t1, u1, rfl⟩ := pairInts r1
  obtain ⟨t2, u2, rfl⟩ := pairInts r2
  have R := Ob.RcOp.tuples_ge (A := X.A) (s := s) (e := two (decide (i = k)) (decide (j = l))) (r := two (decide (i ≥ k)) (decide (j ≥ l))) p1 p2 hu
    (fun m h1 h2 => match m, h1, h2 with | 0, _, _ => eqInt | 1, _, _ => eqInt | m + 2, h1, _ => absurd h1 (by simp)) (fun m h1 h2 _ => match m, h1, h2 with | 0, _, _ => Ob.RcOp.ge_int _ _ _ _ | 1, _, _ => Ob.RcOp.ge_int _ _ _ _ | m + 2, h1, _ => absurd h1 (by simp))
  have e : Ob.lexAt (two (decide (i = k)) (decide (j = l))) (two (decide (i ≥ k)) (decide (j ≥ l))) (decide (([Value.int i t1, .int j u1] : List Value).toArray.size ≥ ([Value.int k t2, .int l u2] : List Value).toArray.size)) 0
      (min ([Value.int i t1, .int j u1] : List Value).toArray.size ([Value.int k t2, .int l u2] : List Value).toArray.size) = decide (k < i ∨ (i = k ∧ l ≤ j)) := by
    show (if decide (i = k) = true then (if decide (j = l) = true then decide (2 ≥ 2) else decide (j ≥ l)) else decide (i ≥ k)) = _
    by_cases e1 : i = k <;> by_cases e2 : j = l <;> simp [e1, e2]
    all_goals omega
  rw [e] at R
  exact R X.prog X.w X.xe (EP X pins σ Q) ⟨.bl _, H, I, rfl, q⟩
/-- a text, n times -/
def repS (z : Str) (n : Nat) : Str := ⟨(List.replicate n z.cps).foldl (· ++ ·) #[]⟩
theorem fold_cat : ∀ (l : List (Array Nat)) (a : Array Nat), (l.foldl (· ++ ·) a).toList = a.toList ++ (l.map Array.toList).flatten
  | [], a => by simp
  | b :: l, a => by
    rw [List.foldl_cons, fold_cat l (a ++ b)]
    simp
theorem repS_list (z : Str) (n : Nat) : (repS z n).cps.toList = (List.replicate n z.cps.toList).flatten := by
  unfold repS
  rw [fold_cat]
  simp
theorem str_ext {x y : Str} (h : x.cps.toList = y.cps.toList) : x = y := by
  cases x; cases y
  congr
  exact Array.toList_inj.mp h
theorem str_len (x : Str) : x.length = x.cps.toList.length := by
  show x.cps.size = _
  simp
theorem repS_len (z : Str) (n : Nat) : (repS z n).length = n * z.length := by
  rw [str_len, repS_list, str_len]
  simp
def rMulS : R2 := fun x y H Q => ∃ (z : Str) (n : Int), x = .str z ∧ y = .int n ∧ 0 ≤ n ∧ n ≤ 4000 ∧ z.length ≤ 4000 ∧ Q (.str (repS z n.toNat)) H
theorem kMulS : OpR X (binaryOp .Mult) rMulS := by
  intro pins s σ H x y v u Q I rx ry h
  obtain ⟨z, n, rfl, rfl, h0, h1, hz, q⟩ := h
  obtain ⟨t, rfl⟩ := rx
  obtain ⟨t', rfl⟩ := ry
  have big : ∀ m : Nat, m ≤ 16000000 → Builtin.Str.tooLong m = false := fun m hm => by
    unfold Builtin.Str.tooLong
    rw [sizeLine_eq]
    exact decide_eq_false (by omega)
  have hp : z.length * n.toNat ≤ 4000 * 4000 := Nat.mul_le_mul hz (by omega)
  refine P.mul_str (by rw [decide_eq_false (by omega), decide_eq_false (by omega)]; rfl) (fun hn _ hh => ?_) (fun _ _ => big _ (by omega)) ?_
  · have e1 : (4000 : Int) ≤ (2 ^ 63 - 1) / n := Int.le_ediv_of_mul_le (by omega) (by omega)
    omega
  · by_cases hn : n < 1
    · have e : n = 0 := by omega
      subst e
      rw [if_pos hn]
      exact ⟨by decide, .str _, H, I.tok _, ⟨_, rfl⟩, q⟩
    · rw [if_neg hn]
      by_cases h2 : (n == 1 || z.length == 0) = true
      · rw [if_pos h2]
        have e : repS z n.toNat = z := by
          refine str_ext ?_
          rw [repS_list]
          rcases Bool.or_eq_true_iff.mp h2 with h | h
          · have h : n = 1 := by simpa using h
            subst h
            simp
          · have h : z.length = 0 := by simpa using h
            rw [str_len] at h
            have h : z.cps.toList = [] := List.eq_nil_of_length_eq_zero h
            rw [h]
            simp
        rw [e] at q
        exact ⟨.str z, H, I, ⟨_, rfl⟩, q⟩
      · rw [if_neg h2]
        refine ⟨?_, .str _, H, I.tok _, ⟨_, rfl⟩, q⟩
        have e := repS_len z n.toNat
        unfold repS at e
        rw [e, sizeLine_eq, Nat.mul_comm]
        omega
def tTruth (K : PySem.W.Frag) (ta : TE) : TT := fun σ H Q => ta σ H fun x H' => ∃ k, TruV K x H' k ∧ Q k H'
theorem kTruth (K : PySem.W.Frag) {e : Expr} {ta : TE} (he : PE X e ta) (h : X.K = K := by rfl) (hb : ∀ whole, isTrue e X.env whole = (do let v ← whole; standAt e.pos; holding [v] (truthy v)) := by intro _; rfl) : PT X e (tTruth K ta) := by subst h; exact pt_truth he hb
theorem kTup (K : PySem.W.Frag) {es : List Expr} {k n : Nat} {t : TGs} {pos : Pos} (g : PGs X es t) (h : X.K = K := by rfl) (hc : X.calm = true := by rfl)
    (hn : (assignEach es X.env).length = n := by rfl) (hst : (assignEach es X.env).findIdx? (·.1) = none := by rfl) : PG X (.Tuple es k pos) (gTup K n t) := by subst h; exact pg_tup hc g hn hst
end
section
variable {K : PySem.W.Frag}
theorem iteT' {c : Bool} {A B : Prop} (e : c = true) (h : A) : if c = true then A else B := by rw [if_pos e]; exact h
theorem iteF' {c : Bool} {A B : Prop} (e : c = false) (h : B) : if c = true then A else B := by rw [if_neg (by rw [e]; decide)]; exact h
theorem tYes_go {σ : L2.St} {H : Hp} {Q : Bool → Hp → Prop} (h : Q true H) : tYes σ H Q := h
theorem isI {H : Hp} {i : Int} : TyX K H (.int i) (.type "int") := .base (.int _)
theorem isS {H : Hp} {x : Str} : TyX K H (.str x) (.type "str") := .base (.str _)
theorem isB {H : Hp} {x : Bool} : TyX K H (.bl x) (.type "bool") := .base (.bl _)
theorem isT {H : Hp} {p : Addr} {xs : List V} (h : H p = some (.tup xs)) : TyX K H (.ref p) (.type "tuple") := .base (.tup h)
theorem isL {H : Hp} {p : Addr} {xs : List V} (h : H p = some (.lst xs)) : TyX K H (.ref p) (.type "list") := .base (.lst h)
end
theorem flat_strs (l : List Str) : (l.map V.str).all flatV = true := by simp [flatV]
theorem inV_strs (x : Str) (l : List Str) : inV (V.str x) (l.map V.str) = decide (x ∈ l) := by
  unfold inV
  induction l with
  | nil => simp
  | cons y l ih =>
    rw [List.map_cons, List.any_cons, ih]
    have e : eqV (V.str y) (V.str x) = decide (y = x) := by
      show (y == x) = decide (y = x)
      rw [Bool.eq_iff_iff]
      simp
    rw [e]
    by_cases h : y = x <;> simp [h, eq_comm]
    by_cases h2 : x = y
    · exact absurd h2.symm h
    · simp [h2]
theorem nodup_len {α : Type} [DecidableEq α] : ∀ {l m : List α}, l.Nodup → (∀ x ∈ l, x ∈ m) → l.length ≤ m.length
  | [], _, _, _ => Nat.zero_le _
  | x :: l, m, nd, h => by
    have nd' := List.nodup_cons.mp nd
    have hx : x ∈ m := h x List.mem_cons_self
    have ih := nodup_len (l := l) (m := m.erase x) nd'.2 fun y hy => (List.mem_erase_of_ne (fun e => nd'.1 (by rw [← e]; exact hy))).mpr (h y (List.mem_cons_of_mem _ hy))
    rw [List.length_erase_of_mem hx] at ih
    have : 0 < m.length := List.length_pos_of_mem hx
    simp
    omega
/-! ### a comprehension over a range -/
section
variable {tt : TT} {te : TE} {σ : L2.St} {H : Hp} {vs : List Nat} {Q : VK} {j : Nat}
theorem range_snoc {β : Type} (f : Nat → β) (i : Nat) : (List.range (i + 1)).map f = (List.range i).map f ++ [f i] := by
  rw [List.range_succ, List.map_append]
  rfl
/-- no test; the items by S, which the list that is made at D may be part of -/
theorem lc_rg {lo : Int} {n : Nat} {β : Type} (S : Addr → Hp → V → β → Prop) (f : Nat → β) (hz : n < sizeLine) (hw : ∀ x, wipe ((wipe σ vs).set j (some x)) vs = wipe σ vs) (st : ∀ D H H' v d, Kp [D] H H' → S D H v d → S D H' v d)
    (he : ∀ D acc i H' (Q : VK), i < n → H D = none → H' D = some (.lst acc) → Kp [] H H' → (∀ v H'', Kp [] H' H'' → S D H'' v (f i) → Q v H'') → te ((wipe σ vs).set j (some (.int (lo + (i : Nat))))) H' Q)
    (k : ∀ D H' xs, H D = none → Kp [] H H' → H' D = some (.lst xs) → Paired (S D H') xs ((List.range n).map f) → Q (.ref D) H') : tLc (fun _ H R => R (Itr lo n) H) (gName j) tYes te vs σ H Q := fun D hD =>
  lc_range (fun i H' => ∃ acc, H' D = some (.lst acc) ∧ acc.length = i ∧ Kp [] H H' ∧ Paired (S D H') acc ((List.range i).map f)) ⟨[], upd_same, rfl, (Kp.refl _ _).new hD, .nil⟩
    (fun i H' hi ⟨acc, e, hl, kp, pd⟩ => by
      refine ⟨hw _, tYes_go (iteT (he D acc i H' _ hi hD e kp fun v H2 k2 s2 => ?_))⟩
      have e2 := k2.keep0 e
      have kd : Kp [D] H2 (upd H2 D (.lst (acc ++ [v]))) := (Kp.refl _ _).lst (.inl (by simp)) e2
      have k2d : Kp [D] H' H2 := k2.mono (by simp)
      refine ⟨acc, e2, by omega, acc ++ [v], upd_same, by simp [hl], (kp.trans k2).lst (.inr hD) e2, ?_⟩
      rw [range_snoc]
      exact Pd.append (Pd.mono (fun _ _ z => st _ _ _ _ _ kd (st _ _ _ _ _ k2d z)) pd) (.cons (st _ _ _ _ _ kd s2) .nil))
    (fun H' ⟨acc, e, hl, kp, pd⟩ => k D H' acc hD kp e pd)
/-- .. whose items are plain -/
theorem lc_rmp {lo : Int} {n : Nat} (f : Nat → V) (hz : n < sizeLine) (hw : ∀ x, wipe ((wipe σ vs).set j (some x)) vs = wipe σ vs)
    (he : ∀ i H' (Q : VK), i < n → Kp [] H H' → (∀ H'', Kp [] H' H'' → Q (f i) H'') → te ((wipe σ vs).set j (some (.int (lo + (i : Nat))))) H' Q)
    (k : ∀ D H', H D = none → Kp [] H H' → H' D = some (.lst ((List.range n).map f)) → Q (.ref D) H') : tLc (fun _ H R => R (Itr lo n) H) (gName j) tYes te vs σ H Q :=
  lc_rg (fun _ _ v d => v = d) f hz hw (fun _ _ _ _ _ _ e => e) (fun D acc i H' Q hi _ _ kp q => he i H' Q hi kp fun H2 k2 => q _ H2 k2 rfl)
    fun D H' xs hD kp e pd => k D H' hD kp (by
      have e2 := Pd.eqmap (f := fun v => v) pd
      rw [List.map_id'] at e2
      rw [e, e2])
end
end Ev
namespace Ev
open PySem L2
/-! ### the data of a loom -/
inductive Row where
  | send (n : Nat) | begin (n : Nat) (t : Int) | call (n : Nat) (x : Str) | make (m n : Nat) | cancel (n : Nat) (ns : List Nat)
  | join (n : Nat) (x : Str) | leave (n : Nat) (x : Str) | hush (n : Nat) | fin (n : Nat)
  deriving DecidableEq
def nV (n : Nat) : V := .int (n : Int)
def Row.tag : Row → Str
  | .send _ => "send" | .begin _ _ => "begin" | .call _ _ => "call" | .make _ _ => "make" | .cancel _ _ => "cancel"
  | .join _ _ => "join" | .leave _ _ => "leave" | .hush _ => "hush" | .fin _ => "end"
/-- what stands behind the tag; q: where a cancel's numbers stand -/
def Row.rest (q : Addr) : Row → List V
  | .send n => [nV n] | .begin n t => [nV n, .int t] | .call n x => [nV n, .str x] | .make m n => [nV m, nV n] | .cancel n _ => [nV n, .ref q]
  | .join n x => [nV n, .str x] | .leave n x => [nV n, .str x] | .hush n => [nV n] | .fin n => [nV n]
def Row.more (H : Hp) (q : Addr) : Row → Prop
  | .cancel _ ns => H q = some (.tup (ns.map nV))
  | _ => True
def RowAt (H : Hp) (v : V) (r : Row) : Prop := ∃ p q, v = .ref p ∧ H p = some (.tup (.str r.tag :: r.rest q)) ∧ r.more H q
theorem RowAt.kp {M : List Addr} {H H' : Hp} (k : Kp M H H') {v : V} {r : Row} (h : RowAt H v r) : RowAt H' v r := by
  obtain ⟨p, q, e, h1, h2⟩ := h
  refine ⟨p, q, e, k.tup _ _ h1, ?_⟩
  cases r <;> first | trivial | exact k.tup _ _ h2
def Row.isSend : Row → Bool | .send _ => true | _ => false
theorem Row.isSend_tag : ∀ r : Row, decide (V.str r.tag = V.str "send") = r.isSend
  | .send _ => (by decide +kernel : decide (V.str "send" = V.str "send") = true)
  | .begin _ _ => (by decide +kernel : decide (V.str "begin" = V.str "send") = false)
  | .call _ _ => (by decide +kernel : decide (V.str "call" = V.str "send") = false)
  | .make _ _ => (by decide +kernel : decide (V.str "make" = V.str "send") = false)
  | .cancel _ _ => (by decide +kernel : decide (V.str "cancel" = V.str "send") = false)
  | .join _ _ => (by decide +kernel : decide (V.str "join" = V.str "send") = false)
  | .leave _ _ => (by decide +kernel : decide (V.str "leave" = V.str "send") = false)
  | .hush _ => (by decide +kernel : decide (V.str "hush" = V.str "send") = false)
  | .fin _ => (by decide +kernel : decide (V.str "end" = V.str "send") = false)
def Row.isBegin : Row → Bool | .begin _ _ => true | _ => false
theorem Row.isBegin_tag : ∀ r : Row, decide (V.str r.tag = V.str "begin") = r.isBegin
  | .send _ => (by decide +kernel : decide (V.str "send" = V.str "begin") = false)
  | .begin _ _ => (by decide +kernel : decide (V.str "begin" = V.str "begin") = true)
  | .call _ _ => (by decide +kernel : decide (V.str "call" = V.str "begin") = false)
  | .make _ _ => (by decide +kernel : decide (V.str "make" = V.str "begin") = false)
  | .cancel _ _ => (by decide +kernel : decide (V.str "cancel" = V.str "begin") = false)
  | .join _ _ => (by decide +kernel : decide (V.str "join" = V.str "begin") = false)
  | .leave _ _ => (by decide +kernel : decide (V.str "leave" = V.str "begin") = false)
  | .hush _ => (by decide +kernel : decide (V.str "hush" = V.str "begin") = false)
  | .fin _ => (by decide +kernel : decide (V.str "end" = V.str "begin") = false)
def Row.isCall : Row → Bool | .call _ _ => true | _ => false
theorem Row.isCall_tag : ∀ r : Row, decide (V.str r.tag = V.str "call") = r.isCall
  | .send _ => (by decide +kernel : decide (V.str "send" = V.str "call") = false)
  | .begin _ _ => (by decide +kernel : decide (V.str "begin" = V.str "call") = false)
  | .call _ _ => (by decide +kernel : decide (V.str "call" = V.str "call") = true)
  | .make _ _ => (by decide +kernel : decide (V.str "make" = V.str "call") = false)
  | .cancel _ _ => (by decide +kernel : decide (V.str "cancel" = V.str "call") = false)
  | .join _ _ => (by decide +kernel : decide (V.str "join" = V.str "call") = false)
  | .leave _ _ => (by decide +kernel : decide (V.str "leave" = V.str "call") = false)
  | .hush _ => (by decide +kernel : decide (V.str "hush" = V.str "call") = false)
  | .fin _ => (by decide +kernel : decide (V.str "end" = V.str "call") = false)
def Row.isMake : Row → Bool | .make _ _ => true | _ => false
theorem Row.isMake_tag : ∀ r : Row, decide (V.str r.tag = V.str "make") = r.isMake
  | .send _ => (by decide +kernel : decide (V.str "send" = V.str "make") = false)
  | .begin _ _ => (by decide +kernel : decide (V.str "begin" = V.str "make") = false)
  | .call _ _ => (by decide +kernel : decide (V.str "call" = V.str "make") = false)
  | .make _ _ => (by decide +kernel : decide (V.str "make" = V.str "make") = true)
  | .cancel _ _ => (by decide +kernel : decide (V.str "cancel" = V.str "make") = false)
  | .join _ _ => (by decide +kernel : decide (V.str "join" = V.str "make") = false)
  | .leave _ _ => (by decide +kernel : decide (V.str "leave" = V.str "make") = false)
  | .hush _ => (by decide +kernel : decide (V.str "hush" = V.str "make") = false)
  | .fin _ => (by decide +kernel : decide (V.str "end" = V.str "make") = false)
def Row.isCancel : Row → Bool | .cancel _ _ => true | _ => false
theorem Row.isCancel_tag : ∀ r : Row, decide (V.str r.tag = V.str "cancel") = r.isCancel
  | .send _ => (by decide +kernel : decide (V.str "send" = V.str "cancel") = false)
  | .begin _ _ => (by decide +kernel : decide (V.str "begin" = V.str "cancel") = false)
  | .call _ _ => (by decide +kernel : decide (V.str "call" = V.str "cancel") = false)
  | .make _ _ => (by decide +kernel : decide (V.str "make" = V.str "cancel") = false)
  | .cancel _ _ => (by decide +kernel : decide (V.str "cancel" = V.str "cancel") = true)
  | .join _ _ => (by decide +kernel : decide (V.str "join" = V.str "cancel") = false)
  | .leave _ _ => (by decide +kernel : decide (V.str "leave" = V.str "cancel") = false)
  | .hush _ => (by decide +kernel : decide (V.str "hush" = V.str "cancel") = false)
  | .fin _ => (by decide +kernel : decide (V.str "end" = V.str "cancel") = false)
def Row.isJoin : Row → Bool | .join _ _ => true | _ => false
theorem Row.isJoin_tag : ∀ r : Row, decide (V.str r.tag = V.str "join") = r.isJoin
  | .send _ => (by decide +kernel : decide (V.str "send" = V.str "join") = false)
  | .begin _ _ => (by decide +kernel : decide (V.str "begin" = V.str "join") = false)
  | .call _ _ => (by decide +kernel : decide (V.str "call" = V.str "join") = false)
  | .make _ _ => (by decide +kernel : decide (V.str "make" = V.str "join") = false)
  | .cancel _ _ => (by decide +kernel : decide (V.str "cancel" = V.str "join") = false)
  | .join _ _ => (by decide +kernel : decide (V.str "join" = V.str "join") = true)
  | .leave _ _ => (by decide +kernel : decide (V.str "leave" = V.str "join") = false)
  | .hush _ => (by decide +kernel : decide (V.str "hush" = V.str "join") = false)
  | .fin _ => (by decide +kernel : decide (V.str "end" = V.str "join") = false)
def Row.isLeave : Row → Bool | .leave _ _ => true | _ => false
theorem Row.isLeave_tag : ∀ r : Row, decide (V.str r.tag = V.str "leave") = r.isLeave
  | .send _ => (by decide +kernel : decide (V.str "send" = V.str "leave") = false)
  | .begin _ _ => (by decide +kernel : decide (V.str "begin" = V.str "leave") = false)
  | .call _ _ => (by decide +kernel : decide (V.str "call" = V.str "leave") = false)
  | .make _ _ => (by decide +kernel : decide (V.str "make" = V.str "leave") = false)
  | .cancel _ _ => (by decide +kernel : decide (V.str "cancel" = V.str "leave") = false)
  | .join _ _ => (by decide +kernel : decide (V.str "join" = V.str "leave") = false)
  | .leave _ _ => (by decide +kernel : decide (V.str "leave" = V.str "leave") = true)
  | .hush _ => (by decide +kernel : decide (V.str "hush" = V.str "leave") = false)
  | .fin _ => (by decide +kernel : decide (V.str "end" = V.str "leave") = false)
def Row.isHush : Row → Bool | .hush _ => true | _ => false
theorem Row.isHush_tag : ∀ r : Row, decide (V.str r.tag = V.str "hush") = r.isHush
  | .send _ => (by decide +kernel : decide (V.str "send" = V.str "hush") = false)
  | .begin _ _ => (by decide +kernel : decide (V.str "begin" = V.str "hush") = false)
  | .call _ _ => (by decide +kernel : decide (V.str "call" = V.str "hush") = false)
  | .make _ _ => (by decide +kernel : decide (V.str "make" = V.str "hush") = false)
  | .cancel _ _ => (by decide +kernel : decide (V.str "cancel" = V.str "hush") = false)
  | .join _ _ => (by decide +kernel : decide (V.str "join" = V.str "hush") = false)
  | .leave _ _ => (by decide +kernel : decide (V.str "leave" = V.str "hush") = false)
  | .hush _ => (by decide +kernel : decide (V.str "hush" = V.str "hush") = true)
  | .fin _ => (by decide +kernel : decide (V.str "end" = V.str "hush") = false)
def Row.isFin : Row → Bool | .fin _ => true | _ => false
theorem Row.isFin_tag : ∀ r : Row, decide (V.str r.tag = V.str "end") = r.isFin
  | .send _ => (by decide +kernel : decide (V.str "send" = V.str "end") = false)
  | .begin _ _ => (by decide +kernel : decide (V.str "begin" = V.str "end") = false)
  | .call _ _ => (by decide +kernel : decide (V.str "call" = V.str "end") = false)
  | .make _ _ => (by decide +kernel : decide (V.str "make" = V.str "end") = false)
  | .cancel _ _ => (by decide +kernel : decide (V.str "cancel" = V.str "end") = false)
  | .join _ _ => (by decide +kernel : decide (V.str "join" = V.str "end") = false)
  | .leave _ _ => (by decide +kernel : decide (V.str "leave" = V.str "end") = false)
  | .hush _ => (by decide +kernel : decide (V.str "hush" = V.str "end") = false)
  | .fin _ => (by decide +kernel : decide (V.str "end" = V.str "end") = true)
end Ev
namespace Ev
open PySem L2
/-! ### the loom's data -/
inductive Deed where
  | now (w : Str) | soon (w : Str) | wait (n : Int) (w : Str) | cancel (w : Str) | join (x : Str) | leave (x : Str) | hush
  deriving DecidableEq
def Deed.vals : Deed → List V
  | .now w => [.str "now", .str w] | .soon w => [.str "soon", .str w] | .wait n w => [.str "wait", .int n, .str w] | .cancel w => [.str "cancel", .str w]
  | .join x => [.str "join", .str x] | .leave x => [.str "leave", .str x] | .hush => [.str "hush"]
structure Hnd where
  name : Str
  rank : Int
  hears : Str
  once : Bool
  deeds : List Deed
inductive Road where
  | now | soon | wait
  deriving DecidableEq
def Road.str : Road → Str
  | .now => "now" | .soon => "soon" | .wait => "wait"
structure Evt where
  word : Str
  maker : Option Nat
  road : Road
  due : Int
  deriving DecidableEq
def onV : Option Nat → V
  | none => .non
  | some n => nV n
def Evt.vals (e : Evt) : List V := [.str e.word, onV e.maker, .str e.road.str, .int e.due]
structure Frm where
  number : Nat
  called : List (Str × Nat)
  deeds : List Deed
  place : Nat
structure LoomS where
  hs : List Hnd
  time : Int
  events : List Evt
  log : List Row
  frames : List Frm
  fresh : Option Nat
  soon : List Nat
  rows : List (Int × Nat)
  stood : Nat
  stands : List (Str × Nat)
/-! ### where it stands -/
def TK (H H' : Hp) : Prop := ∀ a xs, H a = some (.tup xs) → H' a = some (.tup xs)
def DeedAt (H : Hp) (v : V) (d : Deed) : Prop := ∃ p, v = .ref p ∧ H p = some (.tup d.vals)
def HndAt (H : Hp) (v : V) (h : Hnd) : Prop := ∃ p q ds, v = .ref p ∧ H p = some (.tup [.str h.name, .int h.rank, .str h.hears, .bl h.once, .ref q]) ∧ H q = some (.tup ds) ∧ Paired (DeedAt H) ds h.deeds
def CallAt (H : Hp) (v : V) (c : Str × Nat) : Prop := ∃ p, v = .ref p ∧ H p = some (.tup [.str c.1, nV c.2])
def EvtAt (H : Hp) (v : V) (e : Evt) : Prop := ∃ p, v = .ref p ∧ H p = some (.tup e.vals)
def RwAt (H : Hp) (v : V) (r : Int × Nat) : Prop := ∃ p, v = .ref p ∧ H p = some (.tup [.int r.1, nV r.2])
theorem DeedAt.tk {H H' : Hp} (k : TK H H') {v : V} {d : Deed} (h : DeedAt H v d) : DeedAt H' v d := by
  obtain ⟨p, e, h1⟩ := h
  exact ⟨p, e, k _ _ h1⟩
theorem HndAt.tk {H H' : Hp} (k : TK H H') {v : V} {d : Hnd} (h : HndAt H v d) : HndAt H' v d := by
  obtain ⟨p, q, ds, e, h1, h2, h3⟩ := h
  exact ⟨p, q, ds, e, k _ _ h1, k _ _ h2, Pd.mono (fun _ _ => DeedAt.tk k) h3⟩
theorem CallAt.tk {H H' : Hp} (k : TK H H') {v : V} {d : Str × Nat} (h : CallAt H v d) : CallAt H' v d := by
  obtain ⟨p, e, h1⟩ := h
  exact ⟨p, e, k _ _ h1⟩
theorem EvtAt.tk {H H' : Hp} (k : TK H H') {v : V} {d : Evt} (h : EvtAt H v d) : EvtAt H' v d := by
  obtain ⟨p, e, h1⟩ := h
  exact ⟨p, e, k _ _ h1⟩
theorem RwAt.tk {H H' : Hp} (k : TK H H') {v : V} {d : Int × Nat} (h : RwAt H v d) : RwAt H' v d := by
  obtain ⟨p, e, h1⟩ := h
  exact ⟨p, e, k _ _ h1⟩
theorem RowAt.tk {H H' : Hp} (k : TK H H') {v : V} {r : Row} (h : RowAt H v r) : RowAt H' v r := by
  obtain ⟨p, q, e, h1, h2⟩ := h
  refine ⟨p, q, e, k _ _ h1, ?_⟩
  cases r <;> first | trivial | exact k _ _ h2
def Stb {α : Type} (R : Hp → V → α → Prop) : Prop := ∀ H H' v d, TK H H' → R H v d → R H' v d
theorem deedStb : Stb DeedAt := fun _ _ _ _ k h => DeedAt.tk k h
theorem hndStb : Stb HndAt := fun _ _ _ _ k h => HndAt.tk k h
theorem callStb : Stb CallAt := fun _ _ _ _ k h => CallAt.tk k h
theorem evtStb : Stb EvtAt := fun _ _ _ _ k h => EvtAt.tk k h
theorem rwStb : Stb RwAt := fun _ _ _ _ k h => RwAt.tk k h
theorem rowStb : Stb RowAt := fun _ _ _ _ k h => RowAt.tk k h
/-- at c a list of data -/
def LstAt {α : Type} (R : Hp → V → α → Prop) (H : Hp) (c : Addr) (ds : List α) : Prop := ∃ xs, H c = some (.lst xs) ∧ Paired (R H) xs ds
theorem LstAt.tr {α : Type} {R : Hp → V → α → Prop} (f : Stb R) {H H' : Hp} {c : Addr} {ds : List α} (k : TK H H') (e : H' c = H c) (h : LstAt R H c ds) : LstAt R H' c ds := by
  obtain ⟨xs, h1, h2⟩ := h
  exact ⟨xs, by rw [e]; exact h1, Pd.mono (fun _ _ => f _ _ _ _ k) h2⟩
theorem LstAt.put {α : Type} {R : Hp → V → α → Prop} (f : Stb R) {H : Hp} {c : Addr} {ds : List α} {xs : List V} (k : TK H (upd H c (.lst xs))) (h2 : Paired (R H) xs ds) : LstAt R (upd H c (.lst xs)) c ds :=
  ⟨xs, upd_same, Pd.mono (fun _ _ => f _ _ _ _ k) h2⟩
structure FrA where
  fa : Addr
  dx : Addr
  lc : Addr
def frmFs (f : Frm) (lc dq : Addr) : List (Str × V) := [("number", nV f.number), ("called", .ref lc), ("deeds", .ref dq), ("place", nV f.place)]
def DdsAt (H : Hp) (q : Addr) (ds : List Deed) : Prop := ∃ xs, H q = some (.tup xs) ∧ Paired (DeedAt H) xs ds
theorem DdsAt.tk {H H' : Hp} (k : TK H H') {q : Addr} {ds : List Deed} (h : DdsAt H q ds) : DdsAt H' q ds := by
  obtain ⟨xs, h1, h2⟩ := h
  exact ⟨xs, k _ _ h1, Pd.mono (fun _ _ => DeedAt.tk k) h2⟩
def FrmAt (CF : Addr) (H : Hp) (A : FrA) (f : Frm) : Prop :=
  ∃ dq, H A.fa = some (.ins CF A.dx (frmFs f A.lc dq)) ∧ LstAt CallAt H A.lc f.called ∧ DdsAt H dq f.deeds
theorem FrmAt.tr {CF : Addr} {H H' : Hp} (k : TK H H') {A : FrA} {f : Frm} (e1 : H' A.fa = H A.fa) (e2 : H' A.lc = H A.lc) (h : FrmAt CF H A f) : FrmAt CF H' A f := by
  obtain ⟨dq, h1, h2, h3⟩ := h
  exact ⟨dq, by rw [e1]; exact h1, h2.tr callStb k e2, h3.tk k⟩
structure LoomA where
  p : Addr
  dx : Addr
  hl : Addr
  ev : Addr
  lg : Addr
  fr : Addr
  sd : Addr
  wa : Addr
  wdx : Addr
  fo : Addr
  rw : Addr
  frs : List FrA
def frCells (l : List FrA) : List Addr := l.flatMap fun f => [f.fa, f.lc]
def LoomA.cells (A : LoomA) : List Addr := [A.p, A.hl, A.ev, A.lg, A.fr, A.sd, A.wa, A.fo, A.rw] ++ frCells A.frs
def loomFs (A : LoomA) (s : LoomS) : List (Str × V) :=
  [("handlers", .ref A.hl), ("time", .int s.time), ("events", .ref A.ev), ("log", .ref A.lg), ("frames", .ref A.fr), ("fresh", onV s.fresh), ("line", .ref A.wa), ("stood", nV s.stood), ("standings", .ref A.sd)]
def waitFs (A : LoomA) : List (Str × V) := [("first_ones", .ref A.fo), ("rows", .ref A.rw)]
def sdK (l : List (Str × Nat)) : List (Key × V) := l.map fun c => (Sum.inr c.1, nV c.2)
structure Cs where
  L : Addr
  W : Addr
  F : Addr
/-- the frames' records stand -/
inductive FrsAt (CF : Addr) (H : Hp) : List FrA → List Frm → Prop
  | nil : FrsAt CF H [] []
  | cons {A : FrA} {f : Frm} {As : List FrA} {fs : List Frm} : FrmAt CF H A f → FrsAt CF H As fs → FrsAt CF H (A :: As) (f :: fs)
structure LoomAt (C : Cs) (H : Hp) (A : LoomA) (s : LoomS) : Prop where
  nd : A.cells.Nodup
  p : H A.p = some (.ins C.L A.dx (loomFs A s))
  hl : LstAt HndAt H A.hl s.hs
  ev : LstAt EvtAt H A.ev s.events
  lg : LstAt RowAt H A.lg s.log
  fr : H A.fr = some (.lst (A.frs.map fun f => .ref f.fa))
  frs : FrsAt C.F H A.frs s.frames
  sd : H A.sd = some (.dK (sdK s.stands))
  wa : H A.wa = some (.ins C.W A.wdx (waitFs A))
  fo : H A.fo = some (.lst (s.soon.map nV))
  rw : LstAt RwAt H A.rw s.rows
theorem FrsAt.tr {CF : Addr} {H H' : Hp} (k : TK H H') : ∀ {As : List FrA} {fs : List Frm}, (∀ a ∈ frCells As, H' a = H a) → FrsAt CF H As fs → FrsAt CF H' As fs
  | _, _, _, .nil => .nil
  | A :: As, _, e, .cons h t => .cons (h.tr k (e _ (by simp [frCells])) (e _ (by simp [frCells]))) (FrsAt.tr k (fun a ha => e a (by
      unfold frCells at ha ⊢
      rw [List.flatMap_cons]
      exact List.mem_append.mpr (.inr ha))) t)
theorem FrsAt.snoc {CF : Addr} {H : Hp} {A : FrA} {f : Frm} : ∀ {As : List FrA} {fs : List Frm}, FrsAt CF H As fs → FrmAt CF H A f → FrsAt CF H (As ++ [A]) (fs ++ [f])
  | _, _, .nil, h => .cons h .nil
  | _, _, .cons g t, h => .cons g (FrsAt.snoc t h)
theorem FrsAt.len {CF : Addr} {H : Hp} : ∀ {As : List FrA} {fs : List Frm}, FrsAt CF H As fs → As.length = fs.length
  | _, _, .nil => rfl
  | _, _, .cons _ t => by simp [FrsAt.len t]
theorem FrsAt.unsnoc {CF : Addr} {H : Hp} {f : Frm} : ∀ {As : List FrA} {fs : List Frm}, FrsAt CF H As (fs ++ [f]) → ∃ Bs B, As = Bs ++ [B] ∧ FrsAt CF H Bs fs ∧ FrmAt CF H B f
  | _, [], .cons h .nil => ⟨[], _, rfl, .nil, h⟩
  | _, g :: fs, .cons h t => by
    obtain ⟨Bs, B, e, t1, t2⟩ := FrsAt.unsnoc (fs := fs) t
    exact ⟨_ :: Bs, B, by rw [e]; rfl, .cons h t1, t2⟩
theorem frCells_app (l m : List FrA) : frCells (l ++ m) = frCells l ++ frCells m := by simp [frCells]
theorem nd_ne {α : Type} {l : List α} (nd : l.Nodup) (i j : Nat) {a b : α} (h : i ≠ j) (ha : l[i]? = some a) (hb : l[j]? = some b) : a ≠ b := fun e => by
  subst e
  exact h (nd_ix nd ha hb)
theorem nd_neR {α : Type} {l m : List α} (nd : (l ++ m).Nodup) {a b : α} (ha : a ∈ l) (hb : b ∈ m) : a ≠ b := fun e => by
  subst e
  exact (List.nodup_append.mp nd).2.2 a ha a hb rfl
theorem TK.upd {H : Hp} {c : Addr} {o : HO} (h : ∀ xs, H c ≠ some (.tup xs)) : TK H (upd H c o) := fun a xs e => by
  by_cases q : a = c
  · subst q; exact absurd e (h xs)
  · rw [upd_ne q]; exact e
theorem Kp.tk {M : List Addr} {H H' : Hp} (k : Kp M H H') : TK H H' := k.tup
section
variable {C : Cs} {H H' : Hp} {A : LoomA} {s : LoomS}
theorem LoomAt.notup (L : LoomAt C H A s) : ∀ a ∈ A.cells, ∀ xs, H a ≠ some (.tup xs) := by
  have key : ∀ {As : List FrA} {fs : List Frm}, FrsAt C.F H As fs → ∀ a ∈ frCells As, ∀ xs, H a ≠ some (.tup xs) := by
    intro As fs h
    induction h with
    | nil => intro a ha; simp [frCells] at ha
    | cons h t ih =>
      intro a ha xs e
      obtain ⟨dq, h1, ⟨ys, h2, _⟩, _⟩ := h
      unfold frCells at ha
      rw [List.flatMap_cons] at ha
      rcases List.mem_append.mp ha with ha | ha
      · simp at ha
        rcases ha with rfl | rfl
        · rw [h1] at e; cases e
        · rw [h2] at e; cases e
      · exact ih a ha xs e
  intro a ha xs e
  unfold LoomA.cells at ha
  rcases List.mem_append.mp ha with ha | ha
  · obtain ⟨_, hl, _⟩ := L.hl
    obtain ⟨_, ev, _⟩ := L.ev
    obtain ⟨_, lg, _⟩ := L.lg
    obtain ⟨_, rw_, _⟩ := L.rw
    simp at ha
    rcases ha with rfl | rfl | rfl | rfl | rfl | rfl | rfl | rfl | rfl
    · rw [L.p] at e; cases e
    · rw [hl] at e; cases e
    · rw [ev] at e; cases e
    · rw [lg] at e; cases e
    · rw [L.fr] at e; cases e
    · rw [L.sd] at e; cases e
    · rw [L.wa] at e; cases e
    · rw [L.fo] at e; cases e
    · rw [rw_] at e; cases e
  · exact key L.frs a ha xs e
/-- what stands elsewhere may change -/
theorem LoomAt.tr (L : LoomAt C H A s) (k : TK H H') (e : ∀ a ∈ A.cells, H' a = H a) : LoomAt C H' A s where
  nd := L.nd
  p := by rw [e A.p (by simp [LoomA.cells])]; exact L.p
  hl := L.hl.tr hndStb k (e A.hl (by simp [LoomA.cells]))
  ev := L.ev.tr evtStb k (e A.ev (by simp [LoomA.cells]))
  lg := L.lg.tr rowStb k (e A.lg (by simp [LoomA.cells]))
  fr := by rw [e A.fr (by simp [LoomA.cells])]; exact L.fr
  frs := L.frs.tr k fun a ha => e a (List.mem_append.mpr (.inr ha))
  sd := by rw [e A.sd (by simp [LoomA.cells])]; exact L.sd
  wa := by rw [e A.wa (by simp [LoomA.cells])]; exact L.wa
  fo := by rw [e A.fo (by simp [LoomA.cells])]; exact L.fo
  rw := L.rw.tr rwStb k (e A.rw (by simp [LoomA.cells]))
theorem LoomAt.has (L : LoomAt C H A s) : ∀ a ∈ A.cells, ∃ o, H a = some o := by
  have key : ∀ {As : List FrA} {fs : List Frm}, FrsAt C.F H As fs → ∀ a ∈ frCells As, ∃ o, H a = .some o := by
    intro As fs h
    induction h with
    | nil => intro a ha; simp [frCells] at ha
    | cons h t ih =>
      intro a ha
      obtain ⟨dq, h1, ⟨ys, h2, _⟩, _⟩ := h
      unfold frCells at ha
      rw [List.flatMap_cons] at ha
      rcases List.mem_append.mp ha with ha | ha
      · simp at ha
        rcases ha with rfl | rfl
        · exact ⟨_, h1⟩
        · exact ⟨_, h2⟩
      · exact ih a ha
  intro a ha
  unfold LoomA.cells at ha
  rcases List.mem_append.mp ha with ha | ha
  · obtain ⟨_, hl, _⟩ := L.hl
    obtain ⟨_, ev, _⟩ := L.ev
    obtain ⟨_, lg, _⟩ := L.lg
    obtain ⟨_, rw_, _⟩ := L.rw
    simp at ha
    rcases ha with rfl | rfl | rfl | rfl | rfl | rfl | rfl | rfl | rfl
    · exact ⟨_, L.p⟩
    · exact ⟨_, hl⟩
    · exact ⟨_, ev⟩
    · exact ⟨_, lg⟩
    · exact ⟨_, L.fr⟩
    · exact ⟨_, L.sd⟩
    · exact ⟨_, L.wa⟩
    · exact ⟨_, L.fo⟩
    · exact ⟨_, rw_⟩
  · exact key L.frs a ha
theorem LoomAt.kp {M : List Addr} (L : LoomAt C H A s) (k : Kp M H H') (n : ∀ a ∈ A.cells, a ∉ M) : LoomAt C H' A s :=
  L.tr k.tk fun a ha => by
    obtain ⟨o, e⟩ := L.has a ha
    rw [e, k.keep _ _ (n a ha) e]
theorem LoomAt.new (L : LoomAt C H A s) {p : Addr} {o : HO} (h : H p = none) : LoomAt C (upd H p o) A s :=
  L.kp ((Kp.refl [] H).new h) (by simp)
end
/-! ### single changes -/
structure Went (C : Cs) (H : Hp) (A : LoomA) (H' : Hp) (A' : LoomA) (s' : LoomS) : Prop where
  l : LoomAt C H' A' s'
  kp : Kp A.cells H H'
  sub : ∀ a ∈ A'.cells, a ∈ A.cells ∨ H a = none
  p : A'.p = A.p
section
variable {C : Cs} {H H1 H' : Hp} {A A1 A2 : LoomA} {s s1 s2 : LoomS}
theorem Went.refl (L : LoomAt C H A s) : Went C H A H A s := ⟨L, Kp.refl _ _, fun _ h => .inl h, rfl⟩
theorem Went.trans (W : Went C H A H1 A1 s1) (V : Went C H1 A1 H' A2 s2) : Went C H A H' A2 s2 :=
  ⟨V.l, W.kp.transM V.kp W.sub, fun a h => (V.sub a h).elim (W.sub a) fun q => .inr (W.kp.dom a q), V.p.trans W.p⟩
theorem Went.new (W : Went C H A H1 A1 s1) {p : Addr} {o : HO} (h : H1 p = none) : Went C H A (upd H1 p o) A1 s1 :=
  ⟨W.l.new h, W.kp.new h, W.sub, W.p⟩
theorem Went.kp0 (W : Went C H A H1 A1 s1) (k : Kp [] H1 H') : Went C H A H' A1 s1 :=
  ⟨W.l.kp k (by simp), W.kp.transM k (by simp), W.sub, W.p⟩
/-- one cell changed, the places as before -/
theorem LoomAt.step (L : LoomAt C H A s) {c : Addr} (hc : c ∈ A.cells) (o : HO) : Kp A.cells H (upd H c o) ∧ TK H (upd H c o) := by
  have k := (Kp.refl A.cells H).step (o := o) (.inl hc) (L.notup c hc)
  exact ⟨k, k.tk⟩
theorem at_c {l m : List Addr} {a : Addr} {i : Nat} (h : l[i]? = some a) : a ∈ l ++ m := List.mem_append.mpr (.inl (List.mem_of_getElem? h))
def LoomA.fix (A : LoomA) : List Addr := [A.p, A.hl, A.ev, A.lg, A.fr, A.sd, A.wa, A.fo, A.rw]
theorem LoomAt.ne (L : LoomAt C H A s) (i j : Nat) (h : i ≠ j) {a b : Addr} (ha : A.fix[i]? = some a) (hb : A.fix[j]? = some b) : a ≠ b :=
  nd_ne (List.nodup_append.mp (show (A.fix ++ frCells A.frs).Nodup from L.nd)).1 i j h ha hb
theorem LoomAt.neR (L : LoomAt C H A s) {i : Nat} {a b : Addr} (ha : A.fix[i]? = some a) (hb : b ∈ frCells A.frs) : b ≠ a := fun e =>
  nd_neR (show (A.fix ++ frCells A.frs).Nodup from L.nd) (List.mem_of_getElem? ha) hb e.symm
theorem LoomAt.setP (L : LoomAt C H A s) (s' : LoomS) (e1 : s'.hs = s.hs) (e2 : s'.events = s.events) (e3 : s'.log = s.log) (e4 : s'.frames = s.frames) (e5 : s'.soon = s.soon) (e6 : s'.rows = s.rows) (e7 : s'.stands = s.stands) :
    Went C H A (upd H A.p (.ins C.L A.dx (loomFs A s'))) A s' := by
  obtain ⟨k, tk⟩ := L.step (c := A.p) (at_c (i := 0) rfl) (.ins C.L A.dx (loomFs A s'))
  refine ⟨⟨L.nd, upd_same, ?_, ?_, ?_, ?_, ?_, ?_, ?_, ?_, ?_⟩, k, fun _ h => .inl h, rfl⟩
  · rw [e1]; exact L.hl.tr hndStb tk (upd_ne (L.ne 1 0 (by decide) rfl rfl))
  · rw [e2]; exact L.ev.tr evtStb tk (upd_ne (L.ne 2 0 (by decide) rfl rfl))
  · rw [e3]; exact L.lg.tr rowStb tk (upd_ne (L.ne 3 0 (by decide) rfl rfl))
  · rw [upd_ne (L.ne 4 0 (by decide) rfl rfl)]; exact L.fr
  · rw [e4]; exact L.frs.tr tk fun a ha => upd_ne (L.neR (i := 0) rfl ha)
  · rw [e7, upd_ne (L.ne 5 0 (by decide) rfl rfl)]; exact L.sd
  · rw [upd_ne (L.ne 6 0 (by decide) rfl rfl)]; exact L.wa
  · rw [e5, upd_ne (L.ne 7 0 (by decide) rfl rfl)]; exact L.fo
  · rw [e6]; exact L.rw.tr rwStb tk (upd_ne (L.ne 8 0 (by decide) rfl rfl))
theorem LoomAt.setEv (L : LoomAt C H A s) {xs : List V} {es : List Evt} (h : Paired (EvtAt H) xs es) : Went C H A (upd H A.ev (.lst xs)) A { s with events := es } := by
  obtain ⟨k, tk⟩ := L.step (c := A.ev) (at_c (i := 2) rfl) (.lst xs)
  refine ⟨⟨L.nd, ?_, ?_, ?_, ?_, ?_, ?_, ?_, ?_, ?_, ?_⟩, k, fun _ h => .inl h, rfl⟩
  · rw [upd_ne (L.ne 0 2 (by decide) rfl rfl)]; exact L.p
  · exact L.hl.tr hndStb tk (upd_ne (L.ne 1 2 (by decide) rfl rfl))
  · exact LstAt.put evtStb tk h
  · exact L.lg.tr rowStb tk (upd_ne (L.ne 3 2 (by decide) rfl rfl))
  · rw [upd_ne (L.ne 4 2 (by decide) rfl rfl)]; exact L.fr
  · exact L.frs.tr tk fun a ha => upd_ne (L.neR (i := 2) rfl ha)
  · rw [upd_ne (L.ne 5 2 (by decide) rfl rfl)]; exact L.sd
  · rw [upd_ne (L.ne 6 2 (by decide) rfl rfl)]; exact L.wa
  · rw [upd_ne (L.ne 7 2 (by decide) rfl rfl)]; exact L.fo
  · exact L.rw.tr rwStb tk (upd_ne (L.ne 8 2 (by decide) rfl rfl))
theorem LoomAt.setLg (L : LoomAt C H A s) {xs : List V} {es : List Row} (h : Paired (RowAt H) xs es) : Went C H A (upd H A.lg (.lst xs)) A { s with log := es } := by
  obtain ⟨k, tk⟩ := L.step (c := A.lg) (at_c (i := 3) rfl) (.lst xs)
  refine ⟨⟨L.nd, ?_, ?_, ?_, ?_, ?_, ?_, ?_, ?_, ?_, ?_⟩, k, fun _ h => .inl h, rfl⟩
  · rw [upd_ne (L.ne 0 3 (by decide) rfl rfl)]; exact L.p
  · exact L.hl.tr hndStb tk (upd_ne (L.ne 1 3 (by decide) rfl rfl))
  · exact L.ev.tr evtStb tk (upd_ne (L.ne 2 3 (by decide) rfl rfl))
  · exact LstAt.put rowStb tk h
  · rw [upd_ne (L.ne 4 3 (by decide) rfl rfl)]; exact L.fr
  · exact L.frs.tr tk fun a ha => upd_ne (L.neR (i := 3) rfl ha)
  · rw [upd_ne (L.ne 5 3 (by decide) rfl rfl)]; exact L.sd
  · rw [upd_ne (L.ne 6 3 (by decide) rfl rfl)]; exact L.wa
  · rw [upd_ne (L.ne 7 3 (by decide) rfl rfl)]; exact L.fo
  · exact L.rw.tr rwStb tk (upd_ne (L.ne 8 3 (by decide) rfl rfl))
theorem LoomAt.setSd (L : LoomAt C H A s) (l : List (Str × Nat)) : Went C H A (upd H A.sd (.dK (sdK l))) A { s with stands := l } := by
  obtain ⟨k, tk⟩ := L.step (c := A.sd) (at_c (i := 5) rfl) (.dK (sdK l))
  refine ⟨⟨L.nd, ?_, ?_, ?_, ?_, ?_, ?_, ?_, ?_, ?_, ?_⟩, k, fun _ h => .inl h, rfl⟩
  · rw [upd_ne (L.ne 0 5 (by decide) rfl rfl)]; exact L.p
  · exact L.hl.tr hndStb tk (upd_ne (L.ne 1 5 (by decide) rfl rfl))
  · exact L.ev.tr evtStb tk (upd_ne (L.ne 2 5 (by decide) rfl rfl))
  · exact L.lg.tr rowStb tk (upd_ne (L.ne 3 5 (by decide) rfl rfl))
  · rw [upd_ne (L.ne 4 5 (by decide) rfl rfl)]; exact L.fr
  · exact L.frs.tr tk fun a ha => upd_ne (L.neR (i := 5) rfl ha)
  · exact upd_same
  · rw [upd_ne (L.ne 6 5 (by decide) rfl rfl)]; exact L.wa
  · rw [upd_ne (L.ne 7 5 (by decide) rfl rfl)]; exact L.fo
  · exact L.rw.tr rwStb tk (upd_ne (L.ne 8 5 (by decide) rfl rfl))
theorem LoomAt.setFo (L : LoomAt C H A s) (l : List Nat) : Went C H A (upd H A.fo (.lst (l.map nV))) A { s with soon := l } := by
  obtain ⟨k, tk⟩ := L.step (c := A.fo) (at_c (i := 7) rfl) (.lst (l.map nV))
  refine ⟨⟨L.nd, ?_, ?_, ?_, ?_, ?_, ?_, ?_, ?_, ?_, ?_⟩, k, fun _ h => .inl h, rfl⟩
  · rw [upd_ne (L.ne 0 7 (by decide) rfl rfl)]; exact L.p
  · exact L.hl.tr hndStb tk (upd_ne (L.ne 1 7 (by decide) rfl rfl))
  · exact L.ev.tr evtStb tk (upd_ne (L.ne 2 7 (by decide) rfl rfl))
  · exact L.lg.tr rowStb tk (upd_ne (L.ne 3 7 (by decide) rfl rfl))
  · rw [upd_ne (L.ne 4 7 (by decide) rfl rfl)]; exact L.fr
  · exact L.frs.tr tk fun a ha => upd_ne (L.neR (i := 7) rfl ha)
  · rw [upd_ne (L.ne 5 7 (by decide) rfl rfl)]; exact L.sd
  · rw [upd_ne (L.ne 6 7 (by decide) rfl rfl)]; exact L.wa
  · exact upd_same
  · exact L.rw.tr rwStb tk (upd_ne (L.ne 8 7 (by decide) rfl rfl))
theorem LoomAt.setRw (L : LoomAt C H A s) {xs : List V} {es : List (Int × Nat)} (h : Paired (RwAt H) xs es) : Went C H A (upd H A.rw (.lst xs)) A { s with rows := es } := by
  obtain ⟨k, tk⟩ := L.step (c := A.rw) (at_c (i := 8) rfl) (.lst xs)
  refine ⟨⟨L.nd, ?_, ?_, ?_, ?_, ?_, ?_, ?_, ?_, ?_, ?_⟩, k, fun _ h => .inl h, rfl⟩
  · rw [upd_ne (L.ne 0 8 (by decide) rfl rfl)]; exact L.p
  · exact L.hl.tr hndStb tk (upd_ne (L.ne 1 8 (by decide) rfl rfl))
  · exact L.ev.tr evtStb tk (upd_ne (L.ne 2 8 (by decide) rfl rfl))
  · exact L.lg.tr rowStb tk (upd_ne (L.ne 3 8 (by decide) rfl rfl))
  · rw [upd_ne (L.ne 4 8 (by decide) rfl rfl)]; exact L.fr
  · exact L.frs.tr tk fun a ha => upd_ne (L.neR (i := 8) rfl ha)
  · rw [upd_ne (L.ne 5 8 (by decide) rfl rfl)]; exact L.sd
  · rw [upd_ne (L.ne 6 8 (by decide) rfl rfl)]; exact L.wa
  · rw [upd_ne (L.ne 7 8 (by decide) rfl rfl)]; exact L.fo
  · exact LstAt.put rwStb tk h
theorem nodup_set {α : Type} : ∀ {l : List α} {i : Nat} {d : α}, l.Nodup → d ∉ l → (l.set i d).Nodup
  | [], _, _, _, _ => by simp
  | a :: l, 0, d, nd, h => List.nodup_cons.mpr ⟨fun q => h (List.mem_cons_of_mem _ q), (List.nodup_cons.mp nd).2⟩
  | a :: l, i + 1, d, nd, h => by
    refine List.nodup_cons.mpr ⟨fun q => ?_, nodup_set (List.nodup_cons.mp nd).2 fun q => h (List.mem_cons_of_mem _ q)⟩
    rcases List.mem_or_eq_of_mem_set q with q | q
    · exact (List.nodup_cons.mp nd).1 q
    · exact h (by rw [q]; exact List.mem_cons_self)
/-- places that change: a list of fixed places with one of them new -/
theorem nd_new {A : LoomA} {B : LoomA} {d : Addr} (nd : A.cells.Nodup) (hd : d ∉ A.cells) (i : Nat) (hi : i < 9) (e : B.fix = A.fix.set i d) (ef : B.frs = A.frs) : B.cells.Nodup := by
  have nd' : (A.fix ++ frCells A.frs).Nodup := nd
  have hd' : d ∉ A.fix ++ frCells A.frs := hd
  obtain ⟨n1, n2, n3⟩ := List.nodup_append.mp nd'
  show (B.fix ++ frCells B.frs).Nodup
  rw [e, ef]
  have hs : ∀ x, x ∈ A.fix.set i d → x = d ∨ x ∈ A.fix := fun x hx => (List.mem_or_eq_of_mem_set hx).symm
  refine List.nodup_append.mpr ⟨?_, n2, fun a ha b hb q => ?_⟩
  · exact nodup_set n1 fun q => hd' (List.mem_append.mpr (.inl q))
  · rcases hs a ha with r | r
    · subst r; subst q; exact hd' (List.mem_append.mpr (.inr hb))
    · exact n3 a r b hb q
theorem mem_new {A B : LoomA} {d : Addr} (i : Nat) (e : B.fix = A.fix.set i d) (ef : B.frs = A.frs) : ∀ a ∈ B.cells, a ∈ A.cells ∨ a = d := by
  intro a ha
  have ha' : a ∈ B.fix ++ frCells B.frs := ha
  rw [e, ef] at ha'
  rcases List.mem_append.mp ha' with h | h
  · rcases List.mem_or_eq_of_mem_set h with h | h
    · exact .inl (List.mem_append.mpr (.inl h))
    · exact .inr h
  · exact .inl (List.mem_append.mpr (.inr h))
theorem LoomAt.fresh (L : LoomAt C H A s) {d : Addr} (h : H d = none) : d ∉ A.cells := fun q => by
  obtain ⟨o, e⟩ := L.has d q
  rw [h] at e; cases e
variable {H0 : Hp} {A0 : LoomA}
/-- the instance, a wait's instance or a frame's record is written: what else stands, stands -/
theorem LoomAt.others (L : LoomAt C H A s) {c : Addr} (hc : c ∈ A.cells) (o : HO) : ∀ a, a ∈ A.cells → a ≠ c → upd H c o a = H a := fun a _ n => upd_ne n
theorem Went.newSd (W : Went C H0 A0 H A s) {d : Addr} (l : List (Str × Nat)) (z : H0 d = none) (n : d ∉ A.cells) (h : H d = some (.dK (sdK l))) :
    Went C H0 A0 (upd H A.p (.ins C.L A.dx (loomFs { A with sd := d } { s with stands := l }))) { A with sd := d } { s with stands := l } := by
  have L := W.l
  obtain ⟨k, tk⟩ := L.step (c := A.p) (at_c (i := 0) rfl) (.ins C.L A.dx (loomFs { A with sd := d } { s with stands := l }))
  have np : d ≠ A.p := fun e => n (by rw [e]; exact at_c (i := 0) rfl)
  refine ⟨⟨nd_new (A := A) (d := d) L.nd n 5 (by decide) rfl rfl, upd_same, ?_, ?_, ?_, ?_, ?_, ?_, ?_, ?_, ?_⟩, W.kp.transM k W.sub, fun a ha => ?_, W.p⟩
  · exact L.hl.tr hndStb tk (upd_ne (L.ne 1 0 (by decide) rfl rfl))
  · exact L.ev.tr evtStb tk (upd_ne (L.ne 2 0 (by decide) rfl rfl))
  · exact L.lg.tr rowStb tk (upd_ne (L.ne 3 0 (by decide) rfl rfl))
  · rw [upd_ne (L.ne 4 0 (by decide) rfl rfl)]; exact L.fr
  · exact L.frs.tr tk fun a ha => upd_ne (L.neR (i := 0) rfl ha)
  · exact (upd_ne np).trans h
  · rw [upd_ne (L.ne 6 0 (by decide) rfl rfl)]; exact L.wa
  · rw [upd_ne (L.ne 7 0 (by decide) rfl rfl)]; exact L.fo
  · exact L.rw.tr rwStb tk (upd_ne (L.ne 8 0 (by decide) rfl rfl))
  · rcases mem_new (A := A) (B := { A with sd := d }) (d := d) 5 rfl rfl a ha with q | q
    · exact W.sub a q
    · exact .inr (by rw [q]; exact z)
theorem Went.newFo (W : Went C H0 A0 H A s) {d : Addr} (l : List Nat) (z : H0 d = none) (n : d ∉ A.cells) (h : H d = some (.lst (l.map nV))) :
    Went C H0 A0 (upd H A.wa (.ins C.W A.wdx (waitFs { A with fo := d }))) { A with fo := d } { s with soon := l } := by
  have L := W.l
  obtain ⟨k, tk⟩ := L.step (c := A.wa) (at_c (i := 6) rfl) (.ins C.W A.wdx (waitFs { A with fo := d }))
  have np : d ≠ A.wa := fun e => n (by rw [e]; exact at_c (i := 6) rfl)
  refine ⟨⟨nd_new (A := A) (d := d) L.nd n 7 (by decide) rfl rfl, ?_, ?_, ?_, ?_, ?_, ?_, ?_, upd_same, ?_, ?_⟩, W.kp.transM k W.sub, fun a ha => ?_, W.p⟩
  · rw [upd_ne (L.ne 0 6 (by decide) rfl rfl)]; exact L.p
  · exact L.hl.tr hndStb tk (upd_ne (L.ne 1 6 (by decide) rfl rfl))
  · exact L.ev.tr evtStb tk (upd_ne (L.ne 2 6 (by decide) rfl rfl))
  · exact L.lg.tr rowStb tk (upd_ne (L.ne 3 6 (by decide) rfl rfl))
  · rw [upd_ne (L.ne 4 6 (by decide) rfl rfl)]; exact L.fr
  · exact L.frs.tr tk fun a ha => upd_ne (L.neR (i := 6) rfl ha)
  · rw [upd_ne (L.ne 5 6 (by decide) rfl rfl)]; exact L.sd
  · exact (upd_ne np).trans h
  · exact L.rw.tr rwStb tk (upd_ne (L.ne 8 6 (by decide) rfl rfl))
  · rcases mem_new (A := A) (B := { A with fo := d }) (d := d) 7 rfl rfl a ha with q | q
    · exact W.sub a q
    · exact .inr (by rw [q]; exact z)
theorem Went.newRw (W : Went C H0 A0 H A s) {d : Addr} (l : List (Int × Nat)) (z : H0 d = none) (n : d ∉ A.cells) (h : LstAt RwAt H d l) :
    Went C H0 A0 (upd H A.wa (.ins C.W A.wdx (waitFs { A with rw := d }))) { A with rw := d } { s with rows := l } := by
  have L := W.l
  obtain ⟨k, tk⟩ := L.step (c := A.wa) (at_c (i := 6) rfl) (.ins C.W A.wdx (waitFs { A with rw := d }))
  have np : d ≠ A.wa := fun e => n (by rw [e]; exact at_c (i := 6) rfl)
  refine ⟨⟨nd_new (A := A) (d := d) L.nd n 8 (by decide) rfl rfl, ?_, ?_, ?_, ?_, ?_, ?_, ?_, upd_same, ?_, ?_⟩, W.kp.transM k W.sub, fun a ha => ?_, W.p⟩
  · rw [upd_ne (L.ne 0 6 (by decide) rfl rfl)]; exact L.p
  · exact L.hl.tr hndStb tk (upd_ne (L.ne 1 6 (by decide) rfl rfl))
  · exact L.ev.tr evtStb tk (upd_ne (L.ne 2 6 (by decide) rfl rfl))
  · exact L.lg.tr rowStb tk (upd_ne (L.ne 3 6 (by decide) rfl rfl))
  · rw [upd_ne (L.ne 4 6 (by decide) rfl rfl)]; exact L.fr
  · exact L.frs.tr tk fun a ha => upd_ne (L.neR (i := 6) rfl ha)
  · rw [upd_ne (L.ne 5 6 (by decide) rfl rfl)]; exact L.sd
  · rw [upd_ne (L.ne 7 6 (by decide) rfl rfl)]; exact L.fo
  · exact h.tr rwStb tk (upd_ne np)
  · rcases mem_new (A := A) (B := { A with rw := d }) (d := d) 8 rfl rfl a ha with q | q
    · exact W.sub a q
    · exact .inr (by rw [q]; exact z)
/-- the frames' list and what else stands when a list of the same cells stands at fr -/
theorem Went.pushFr (W : Went C H0 A0 H A s) {B : FrA} {f : Frm} (hB : FrmAt C.F H B f) (n1 : B.fa ∉ A.cells) (n2 : B.lc ∉ A.cells) (n3 : B.fa ≠ B.lc) (z1 : H0 B.fa = none) (z2 : H0 B.lc = none) :
    Went C H0 A0 (upd H A.fr (.lst ((A.frs ++ [B]).map fun f => V.ref f.fa))) { A with frs := A.frs ++ [B] } { s with frames := s.frames ++ [f] } := by
  have L := W.l
  obtain ⟨k, tk⟩ := L.step (c := A.fr) (at_c (i := 4) rfl) (.lst ((A.frs ++ [B]).map fun f => V.ref f.fa))
  have q1 : B.fa ≠ A.fr := fun e => n1 (by rw [e]; exact at_c (i := 4) rfl)
  have q2 : B.lc ≠ A.fr := fun e => n2 (by rw [e]; exact at_c (i := 4) rfl)
  have ec : LoomA.cells { A with frs := A.frs ++ [B] } = A.cells ++ [B.fa, B.lc] := by
    show A.fix ++ frCells (A.frs ++ [B]) = (A.fix ++ frCells A.frs) ++ [B.fa, B.lc]
    rw [frCells_app, List.append_assoc]
    rfl
  refine ⟨⟨?_, ?_, ?_, ?_, ?_, upd_same, ?_, ?_, ?_, ?_, ?_⟩, W.kp.transM k W.sub, fun a ha => ?_, W.p⟩
  · rw [ec]
    refine List.nodup_append.mpr ⟨L.nd, by simp [n3], fun a ha b hb e => ?_⟩
    subst e
    simp at hb
    rcases hb with rfl | rfl
    · exact n1 ha
    · exact n2 ha
  · rw [upd_ne (L.ne 0 4 (by decide) rfl rfl)]; exact L.p
  · exact L.hl.tr hndStb tk (upd_ne (L.ne 1 4 (by decide) rfl rfl))
  · exact L.ev.tr evtStb tk (upd_ne (L.ne 2 4 (by decide) rfl rfl))
  · exact L.lg.tr rowStb tk (upd_ne (L.ne 3 4 (by decide) rfl rfl))
  · exact (L.frs.tr tk fun a ha => upd_ne (L.neR (i := 4) rfl ha)).snoc (hB.tr tk (upd_ne q1) (upd_ne q2))
  · rw [upd_ne (L.ne 5 4 (by decide) rfl rfl)]; exact L.sd
  · rw [upd_ne (L.ne 6 4 (by decide) rfl rfl)]; exact L.wa
  · rw [upd_ne (L.ne 7 4 (by decide) rfl rfl)]; exact L.fo
  · exact L.rw.tr rwStb tk (upd_ne (L.ne 8 4 (by decide) rfl rfl))
  · rw [ec] at ha
    rcases List.mem_append.mp ha with q | q
    · exact W.sub a q
    · simp at q
      rcases q with rfl | rfl
      · exact .inr z1
      · exact .inr z2
theorem LoomAt.popFr (L : LoomAt C H A s) {Bs : List FrA} {B : FrA} {fs : List Frm} {f : Frm} (eA : A.frs = Bs ++ [B]) (es : s.frames = fs ++ [f]) :
    Went C H A (upd H A.fr (.lst (Bs.map fun f => V.ref f.fa))) { A with frs := Bs } { s with frames := fs } := by
  obtain ⟨k, tk⟩ := L.step (c := A.fr) (at_c (i := 4) rfl) (.lst (Bs.map fun f => V.ref f.fa))
  have ec : A.cells = (A.fix ++ frCells Bs) ++ [B.fa, B.lc] := by
    show A.fix ++ frCells A.frs = _
    rw [eA, frCells_app, List.append_assoc]
    rfl
  have fr0 := L.frs
  rw [eA, es] at fr0
  obtain ⟨Bs', B', eB, t1, t2⟩ := fr0.unsnoc
  obtain ⟨rfl, hh⟩ := List.append_inj' eB rfl
  refine ⟨⟨?_, ?_, ?_, ?_, ?_, upd_same, ?_, ?_, ?_, ?_, ?_⟩, k, fun a ha => .inl ?_, rfl⟩
  · have := L.nd
    rw [ec] at this
    exact (List.nodup_append.mp this).1
  · rw [upd_ne (L.ne 0 4 (by decide) rfl rfl)]; exact L.p
  · exact L.hl.tr hndStb tk (upd_ne (L.ne 1 4 (by decide) rfl rfl))
  · exact L.ev.tr evtStb tk (upd_ne (L.ne 2 4 (by decide) rfl rfl))
  · exact L.lg.tr rowStb tk (upd_ne (L.ne 3 4 (by decide) rfl rfl))
  · exact t1.tr tk fun a ha => upd_ne (L.neR (i := 4) rfl (by rw [eA, frCells_app]; exact List.mem_append.mpr (.inl ha)))
  · rw [upd_ne (L.ne 5 4 (by decide) rfl rfl)]; exact L.sd
  · rw [upd_ne (L.ne 6 4 (by decide) rfl rfl)]; exact L.wa
  · rw [upd_ne (L.ne 7 4 (by decide) rfl rfl)]; exact L.fo
  · exact L.rw.tr rwStb tk (upd_ne (L.ne 8 4 (by decide) rfl rfl))
  · rw [ec]
    exact List.mem_append.mpr (.inl ha)
/-- what is known of the innermost frame's record -/
theorem LoomAt.last (L : LoomAt C H A s) {fs : List Frm} {f : Frm} (es : s.frames = fs ++ [f]) : ∃ Bs B, A.frs = Bs ++ [B] ∧ FrsAt C.F H Bs fs ∧ FrmAt C.F H B f ∧ B.fa ∈ A.cells ∧ B.lc ∈ A.cells ∧ B.fa ≠ B.lc ∧
    (∀ a ∈ A.fix, a ≠ B.fa ∧ a ≠ B.lc) ∧ ∀ a ∈ frCells Bs, a ≠ B.fa ∧ a ≠ B.lc := by
  have fr0 := L.frs
  rw [es] at fr0
  obtain ⟨Bs, B, eB, t1, t2⟩ := fr0.unsnoc
  have nd : (A.fix ++ (frCells Bs ++ [B.fa, B.lc])).Nodup := by
    have h := L.nd
    have e : A.cells = A.fix ++ (frCells Bs ++ [B.fa, B.lc]) := by
      show A.fix ++ frCells A.frs = _
      rw [eB, frCells_app]
      rfl
    rw [e] at h
    exact h
  have m : ∀ a, a ∈ frCells Bs ++ [B.fa, B.lc] → a ∈ A.cells := fun a ha => by
    show a ∈ A.fix ++ frCells A.frs
    rw [eB, frCells_app]
    exact List.mem_append.mpr (.inr ha)
  obtain ⟨_, n2, n3⟩ := List.nodup_append.mp nd
  obtain ⟨_, n4, n5⟩ := List.nodup_append.mp n2
  refine ⟨Bs, B, eB, t1, t2, m _ (by simp), m _ (by simp), ?_, fun a ha => ⟨n3 a ha _ (by simp), n3 a ha _ (by simp)⟩, fun a ha => ⟨n5 a ha _ (by simp), n5 a ha _ (by simp)⟩⟩
  have := n4
  simp at this
  exact this
theorem LoomAt.setFrm (L : LoomAt C H A s) {Bs : List FrA} {B : FrA} {fs : List Frm} {f : Frm} (eA : A.frs = Bs ++ [B]) (es : s.frames = fs ++ [f]) (f' : Frm) {dq : Addr} (hc : f'.called = f.called) (hd : DdsAt H dq f'.deeds) :
    Went C H A (upd H B.fa (.ins C.F B.dx (frmFs f' B.lc dq))) A { s with frames := fs ++ [f'] } := by
  obtain ⟨Bs', B', eB, t1, t2, m1, m2, ne, nf, nb⟩ := L.last es
  rw [eA] at eB
  obtain ⟨rfl, hh⟩ := List.append_inj' eB rfl
  have hh : B = B' := by simpa using hh
  subst hh
  obtain ⟨k, tk⟩ := L.step m1 (.ins C.F B.dx (frmFs f' B.lc dq))
  obtain ⟨dq0, _, g2, _⟩ := t2
  have nx : ∀ {i a}, A.fix[i]? = some a → a ≠ B.fa := fun h => (nf _ (List.mem_of_getElem? h)).1
  refine ⟨⟨L.nd, ?_, ?_, ?_, ?_, ?_, ?_, ?_, ?_, ?_, ?_⟩, k, fun _ h => .inl h, rfl⟩
  · rw [upd_ne (nx (i := 0) rfl)]; exact L.p
  · exact L.hl.tr hndStb tk (upd_ne (nx (i := 1) rfl))
  · exact L.ev.tr evtStb tk (upd_ne (nx (i := 2) rfl))
  · exact L.lg.tr rowStb tk (upd_ne (nx (i := 3) rfl))
  · rw [upd_ne (nx (i := 4) rfl)]; exact L.fr
  · rw [eA]
    refine (t1.tr tk fun a ha => upd_ne (nb a ha).1).snoc ⟨dq, upd_same, ?_, hd.tk tk⟩
    rw [hc]
    exact g2.tr callStb tk (upd_ne (Ne.symm ne))
  · rw [upd_ne (nx (i := 5) rfl)]; exact L.sd
  · rw [upd_ne (nx (i := 6) rfl)]; exact L.wa
  · rw [upd_ne (nx (i := 7) rfl)]; exact L.fo
  · exact L.rw.tr rwStb tk (upd_ne (nx (i := 8) rfl))
theorem LoomAt.setLc (L : LoomAt C H A s) {Bs : List FrA} {B : FrA} {fs : List Frm} {f : Frm} (eA : A.frs = Bs ++ [B]) (es : s.frames = fs ++ [f]) {cs : List V} {l : List (Str × Nat)} (h : Paired (CallAt H) cs l) :
    Went C H A (upd H B.lc (.lst cs)) A { s with frames := fs ++ [{ f with called := l }] } := by
  obtain ⟨Bs', B', eB, t1, t2, m1, m2, ne, nf, nb⟩ := L.last es
  rw [eA] at eB
  obtain ⟨rfl, hh⟩ := List.append_inj' eB rfl
  have hh : B = B' := by simpa using hh
  subst hh
  obtain ⟨k, tk⟩ := L.step m2 (.lst cs)
  obtain ⟨dq0, g1, g2, g3⟩ := t2
  have nx : ∀ {i a}, A.fix[i]? = some a → a ≠ B.lc := fun h => (nf _ (List.mem_of_getElem? h)).2
  refine ⟨⟨L.nd, ?_, ?_, ?_, ?_, ?_, ?_, ?_, ?_, ?_, ?_⟩, k, fun _ h => .inl h, rfl⟩
  · rw [upd_ne (nx (i := 0) rfl)]; exact L.p
  · exact L.hl.tr hndStb tk (upd_ne (nx (i := 1) rfl))
  · exact L.ev.tr evtStb tk (upd_ne (nx (i := 2) rfl))
  · exact L.lg.tr rowStb tk (upd_ne (nx (i := 3) rfl))
  · rw [upd_ne (nx (i := 4) rfl)]; exact L.fr
  · rw [eA]
    exact (t1.tr tk fun a ha => upd_ne (nb a ha).2).snoc ⟨dq0, by rw [upd_ne ne]; exact g1, LstAt.put callStb tk h, g3.tk tk⟩
  · rw [upd_ne (nx (i := 5) rfl)]; exact L.sd
  · rw [upd_ne (nx (i := 6) rfl)]; exact L.wa
  · rw [upd_ne (nx (i := 7) rfl)]; exact L.fo
  · exact L.rw.tr rwStb tk (upd_ne (nx (i := 8) rfl))
/-- the innermost frame's list of those still to be called is a new, empty one -/
theorem Went.hush (W : Went C H0 A0 H A s) {Bs : List FrA} {B : FrA} {fs : List Frm} {f : Frm} (eA : A.frs = Bs ++ [B]) (es : s.frames = fs ++ [f]) {d dq : Addr} (z : H0 d = none) (n : d ∉ A.cells) (h : H d = some (.lst []))
    (hd : DdsAt H dq f.deeds) :
    Went C H0 A0 (upd H B.fa (.ins C.F B.dx (frmFs { f with called := [] } d dq))) { A with frs := Bs ++ [{ B with lc := d }] } { s with frames := fs ++ [{ f with called := [] }] } := by
  have L := W.l
  obtain ⟨Bs', B', eB, t1, t2, m1, m2, ne, nf, nb⟩ := L.last es
  rw [eA] at eB
  obtain ⟨rfl, hh⟩ := List.append_inj' eB rfl
  have hh : B = B' := by simpa using hh
  subst hh
  obtain ⟨k, tk⟩ := L.step m1 (.ins C.F B.dx (frmFs { f with called := [] } d dq))
  have nx : ∀ {i a}, A.fix[i]? = some a → a ≠ B.fa := fun h => (nf _ (List.mem_of_getElem? h)).1
  have ndf : d ≠ B.fa := fun e => n (by rw [e]; exact m1)
  have nd : (A.fix ++ (frCells Bs ++ [B.fa, B.lc])).Nodup := by
    have q := L.nd
    have e : A.cells = A.fix ++ (frCells Bs ++ [B.fa, B.lc]) := by
      show A.fix ++ frCells A.frs = _
      rw [eA, frCells_app]
      rfl
    rw [e] at q
    exact q
  have ec : LoomA.cells { A with frs := Bs ++ [{ B with lc := d }] } = A.fix ++ (frCells Bs ++ [B.fa, d]) := by
    show A.fix ++ frCells (Bs ++ [{ B with lc := d }]) = _
    rw [frCells_app]
    rfl
  have hm : ∀ a, a ∈ A.fix ∨ a ∈ frCells Bs ∨ a = B.fa → a ∈ A.cells := fun a ha => by
    show a ∈ A.fix ++ frCells A.frs
    rw [eA, frCells_app]
    rcases ha with q | q | q
    · exact List.mem_append.mpr (.inl q)
    · exact List.mem_append.mpr (.inr (List.mem_append.mpr (.inl q)))
    · exact List.mem_append.mpr (.inr (List.mem_append.mpr (.inr (by rw [q]; simp [frCells]))))
  refine ⟨⟨?_, ?_, ?_, ?_, ?_, ?_, ?_, ?_, ?_, ?_, ?_⟩, W.kp.transM k W.sub, fun a ha => ?_, W.p⟩
  · rw [ec]
    obtain ⟨n1, n2, n3⟩ := List.nodup_append.mp nd
    obtain ⟨n4, n5, n6⟩ := List.nodup_append.mp n2
    refine List.nodup_append.mpr ⟨n1, List.nodup_append.mpr ⟨n4, by simp; exact Ne.symm ndf, fun a ha b hb e => ?_⟩, fun a ha b hb e => ?_⟩
    · subst e
      simp at hb
      rcases hb with rfl | rfl
      · exact (nb _ ha).1 rfl
      · exact n (hm _ (.inr (.inl ha)))
    · subst e
      rcases List.mem_append.mp hb with hb | hb
      · exact n3 a ha a (List.mem_append.mpr (.inl hb)) rfl
      · simp at hb
        rcases hb with rfl | rfl
        · exact (nf _ ha).1 rfl
        · exact n (hm _ (.inl ha))
  · rw [upd_ne (nx (i := 0) rfl)]; exact L.p
  · exact L.hl.tr hndStb tk (upd_ne (nx (i := 1) rfl))
  · exact L.ev.tr evtStb tk (upd_ne (nx (i := 2) rfl))
  · exact L.lg.tr rowStb tk (upd_ne (nx (i := 3) rfl))
  · rw [upd_ne (nx (i := 4) rfl), L.fr, eA]
    simp
  · exact (t1.tr tk fun a ha => upd_ne (nb a ha).1).snoc ⟨dq, upd_same, ⟨[], by rw [upd_ne ndf]; exact h, .nil⟩, hd.tk tk⟩
  · rw [upd_ne (nx (i := 5) rfl)]; exact L.sd
  · rw [upd_ne (nx (i := 6) rfl)]; exact L.wa
  · rw [upd_ne (nx (i := 7) rfl)]; exact L.fo
  · exact L.rw.tr rwStb tk (upd_ne (nx (i := 8) rfl))
  · rw [ec] at ha
    rcases List.mem_append.mp ha with q | q
    · exact W.sub a (hm a (.inl q))
    · rcases List.mem_append.mp q with q | q
      · exact W.sub a (hm a (.inr (.inl q)))
      · simp at q
        rcases q with rfl | rfl
        · exact W.sub _ m1
        · exact .inr z
end
/-! ### fields -/
theorem loomFs_nd (A : LoomA) (s : LoomS) : ((loomFs A s).map Prod.fst).Nodup := by
  show (["handlers", "time", "events", "log", "frames", "fresh", "line", "stood", "standings"] : List Str).Nodup
  decide +kernel
theorem lf_handlers (A : LoomA) (s : LoomS) : (loomFs A s).lookup ("handlers" : Str) = some (.ref A.hl) := look_ix (loomFs_nd A s) (i := 0) rfl
theorem lf_time (A : LoomA) (s : LoomS) : (loomFs A s).lookup ("time" : Str) = some (.int s.time) := look_ix (loomFs_nd A s) (i := 1) rfl
theorem lf_events (A : LoomA) (s : LoomS) : (loomFs A s).lookup ("events" : Str) = some (.ref A.ev) := look_ix (loomFs_nd A s) (i := 2) rfl
theorem lf_log (A : LoomA) (s : LoomS) : (loomFs A s).lookup ("log" : Str) = some (.ref A.lg) := look_ix (loomFs_nd A s) (i := 3) rfl
theorem lf_frames (A : LoomA) (s : LoomS) : (loomFs A s).lookup ("frames" : Str) = some (.ref A.fr) := look_ix (loomFs_nd A s) (i := 4) rfl
theorem lf_fresh (A : LoomA) (s : LoomS) : (loomFs A s).lookup ("fresh" : Str) = some (onV s.fresh) := look_ix (loomFs_nd A s) (i := 5) rfl
theorem lf_line (A : LoomA) (s : LoomS) : (loomFs A s).lookup ("line" : Str) = some (.ref A.wa) := look_ix (loomFs_nd A s) (i := 6) rfl
theorem lf_stood (A : LoomA) (s : LoomS) : (loomFs A s).lookup ("stood" : Str) = some (nV s.stood) := look_ix (loomFs_nd A s) (i := 7) rfl
theorem lf_standings (A : LoomA) (s : LoomS) : (loomFs A s).lookup ("standings" : Str) = some (.ref A.sd) := look_ix (loomFs_nd A s) (i := 8) rfl
theorem lp_time (A : LoomA) (s : LoomS) (t : Int) : putF "time" (.int t) (loomFs A s) = loomFs A { s with time := t } := put_ix (loomFs_nd A s) (i := 1) rfl
theorem lp_fresh (A : LoomA) (s : LoomS) (o : Option Nat) : putF "fresh" (onV o) (loomFs A s) = loomFs A { s with fresh := o } := put_ix (loomFs_nd A s) (i := 5) rfl
theorem lp_stood (A : LoomA) (s : LoomS) (n : Nat) : putF "stood" (nV n) (loomFs A s) = loomFs A { s with stood := n } := put_ix (loomFs_nd A s) (i := 7) rfl
theorem lp_sd (A : LoomA) (s : LoomS) (d : Addr) (l : List (Str × Nat)) : putF "standings" (.ref d) (loomFs A s) = loomFs { A with sd := d } { s with stands := l } := put_ix (loomFs_nd A s) (i := 8) rfl
theorem frmFs_nd (f : Frm) (lc dq : Addr) : ((frmFs f lc dq).map Prod.fst).Nodup := by
  show (["number", "called", "deeds", "place"] : List Str).Nodup
  decide +kernel
theorem ff_number (f : Frm) (lc dq : Addr) : (frmFs f lc dq).lookup ("number" : Str) = some (nV f.number) := look_ix (frmFs_nd f lc dq) (i := 0) rfl
theorem ff_called (f : Frm) (lc dq : Addr) : (frmFs f lc dq).lookup ("called" : Str) = some (.ref lc) := look_ix (frmFs_nd f lc dq) (i := 1) rfl
theorem ff_deeds (f : Frm) (lc dq : Addr) : (frmFs f lc dq).lookup ("deeds" : Str) = some (.ref dq) := look_ix (frmFs_nd f lc dq) (i := 2) rfl
theorem ff_place (f : Frm) (lc dq : Addr) : (frmFs f lc dq).lookup ("place" : Str) = some (nV f.place) := look_ix (frmFs_nd f lc dq) (i := 3) rfl
theorem fp_place (f : Frm) (lc dq : Addr) (n : Nat) : putF "place" (nV n) (frmFs f lc dq) = frmFs { f with place := n } lc dq := put_ix (frmFs_nd f lc dq) (i := 3) rfl
theorem fp_deeds (f : Frm) (lc dq d : Addr) (l : List Deed) : putF "deeds" (.ref d) (frmFs f lc dq) = frmFs { f with deeds := l } lc d := put_ix (frmFs_nd f lc dq) (i := 2) rfl
theorem fp_called (f : Frm) (lc dq d : Addr) (l : List (Str × Nat)) : putF "called" (.ref d) (frmFs f lc dq) = frmFs { f with called := l } d dq := put_ix (frmFs_nd f lc dq) (i := 1) rfl
/-! ### those that wait -/
structure WtA where
  wa : Addr
  wdx : Addr
  fo : Addr
  rw : Addr
def WtA.cells (A : WtA) : List Addr := [A.wa, A.fo, A.rw]
def wFs (fo rw : Addr) : List (Str × V) := [("first_ones", .ref fo), ("rows", .ref rw)]
theorem wFs_nd (fo rw : Addr) : ((wFs fo rw).map Prod.fst).Nodup := by
  show (["first_ones", "rows"] : List Str).Nodup
  decide +kernel
theorem wFs_fo (fo rw : Addr) : (wFs fo rw).lookup ("first_ones" : Str) = some (.ref fo) := look_ix (wFs_nd fo rw) (i := 0) rfl
theorem wFs_rw (fo rw : Addr) : (wFs fo rw).lookup ("rows" : Str) = some (.ref rw) := look_ix (wFs_nd fo rw) (i := 1) rfl
theorem wFs_pfo (fo rw x : Addr) : putF "first_ones" (.ref x) (wFs fo rw) = wFs x rw := put_ix (wFs_nd fo rw) (i := 0) rfl
theorem wFs_prw (fo rw x : Addr) : putF "rows" (.ref x) (wFs fo rw) = wFs fo x := put_ix (wFs_nd fo rw) (i := 1) rfl
structure WaitsAt (W : Addr) (H : Hp) (A : WtA) (soon : List Nat) (rows : List (Int × Nat)) : Prop where
  n1 : A.wa ≠ A.fo
  n2 : A.wa ≠ A.rw
  n3 : A.fo ≠ A.rw
  wa : H A.wa = some (.ins W A.wdx (wFs A.fo A.rw))
  fo : H A.fo = some (.lst (soon.map nV))
  rw : LstAt RwAt H A.rw rows
/-- what a deed of those that wait leaves -/
structure WtPost (W : Addr) (H : Hp) (A : WtA) (H' : Hp) (A' : WtA) (soon : List Nat) (rows : List (Int × Nat)) : Prop where
  w : WaitsAt W H' A' soon rows
  kp : Kp A.cells H H'
  wa : A'.wa = A.wa
  wdx : A'.wdx = A.wdx
  fo : A'.fo = A.fo ∨ H A'.fo = none
  rw : A'.rw = A.rw ∨ H A'.rw = none
def LoomA.wt (A : LoomA) : WtA := ⟨A.wa, A.wdx, A.fo, A.rw⟩
theorem WaitsAt.kp {W : Addr} {H H' : Hp} {A : WtA} {soon : List Nat} {rows : List (Int × Nat)} (w : WaitsAt W H A soon rows) {M : List Addr} (k : Kp M H H') (n : ∀ a ∈ A.cells, a ∉ M) : WaitsAt W H' A soon rows := by
  obtain ⟨xs, h1, h2⟩ := w.rw
  refine ⟨w.n1, w.n2, w.n3, k.keep _ _ (n _ (by simp [WtA.cells])) w.wa, k.keep _ _ (n _ (by simp [WtA.cells])) w.fo, ⟨xs, k.keep _ _ (n _ (by simp [WtA.cells])) h1, Pd.mono (fun _ _ => rwStb _ _ _ _ k.tk) h2⟩⟩
section
variable {C : Cs} {H H' : Hp} {A : LoomA} {s : LoomS}
theorem LoomAt.waits (L : LoomAt C H A s) : WaitsAt C.W H A.wt s.soon s.rows :=
  ⟨L.ne 6 7 (by decide) rfl rfl, L.ne 6 8 (by decide) rfl rfl, L.ne 7 8 (by decide) rfl rfl, L.wa, L.fo, L.rw⟩
theorem LoomAt.wait (L : LoomAt C H A s) {A' : WtA} {soon : List Nat} {rows : List (Int × Nat)} (p : WtPost C.W H A.wt H' A' soon rows) : Went C H A H' { A with fo := A'.fo, rw := A'.rw } { s with soon := soon, rows := rows } := by
  have mem : ∀ a ∈ A.wt.cells, a ∈ A.cells := fun a ha => by
    simp [WtA.cells, LoomA.wt] at ha
    rcases ha with rfl | rfl | rfl <;> simp [LoomA.cells]
  have k : Kp A.cells H H' := p.kp.mono fun a ha => .inl (mem a ha)
  have tk := k.tk
  have same : ∀ {a : Addr} {i : Nat}, A.fix[i]? = some a → i ≠ 6 → i ≠ 7 → i ≠ 8 → H' a = H a := fun {a i} h h6 h7 h8 => by
    obtain ⟨o, e⟩ := L.has a (List.mem_append.mpr (.inl (List.mem_of_getElem? h)))
    rw [e, p.kp.keep a o (fun z => ?_) e]
    simp [WtA.cells, LoomA.wt] at z
    rcases z with z | z | z
    · exact L.ne i 6 h6 h rfl z
    · exact L.ne i 7 h7 h rfl z
    · exact L.ne i 8 h8 h rfl z
  have sameR : ∀ a ∈ frCells A.frs, H' a = H a := fun a ha => by
    obtain ⟨o, e⟩ := L.has a (List.mem_append.mpr (.inr ha))
    rw [e, p.kp.keep a o (fun z => ?_) e]
    simp [WtA.cells, LoomA.wt] at z
    rcases z with z | z | z
    · exact L.neR (i := 6) rfl ha z
    · exact L.neR (i := 7) rfl ha z
    · exact L.neR (i := 8) rfl ha z
  have nf : ∀ {d : Addr}, H d = none → d ∉ A.cells := fun h => L.fresh h
  have nd1 : LoomA.cells { A with fo := A'.fo } |>.Nodup := by
    rcases p.fo with e | e
    · rw [e]; exact L.nd
    · exact nd_new (A := A) (d := A'.fo) L.nd (nf e) 7 (by decide) rfl rfl
  have nd2 : LoomA.cells { A with fo := A'.fo, rw := A'.rw } |>.Nodup := by
    rcases p.rw with e | e
    · rw [e]; exact nd1
    · refine nd_new (A := { A with fo := A'.fo }) (d := A'.rw) nd1 (fun z => ?_) 8 (by decide) rfl rfl
      rcases mem_new (A := A) (B := { A with fo := A'.fo }) (d := A'.fo) 7 rfl rfl _ z with z | z
      · exact nf e z
      · exact p.w.n3 z.symm
  have ewa : A'.wa = A.wa := p.wa
  have ewd : A'.wdx = A.wdx := p.wdx
  refine ⟨⟨nd2, ?_, ?_, ?_, ?_, ?_, ?_, ?_, ?_, p.w.fo, p.w.rw⟩, k, fun a ha => ?_, rfl⟩
  · rw [same (i := 0) rfl (by decide) (by decide) (by decide)]; exact L.p
  · exact L.hl.tr hndStb tk (same (i := 1) rfl (by decide) (by decide) (by decide))
  · exact L.ev.tr evtStb tk (same (i := 2) rfl (by decide) (by decide) (by decide))
  · exact L.lg.tr rowStb tk (same (i := 3) rfl (by decide) (by decide) (by decide))
  · rw [same (i := 4) rfl (by decide) (by decide) (by decide)]; exact L.fr
  · exact L.frs.tr tk sameR
  · rw [same (i := 5) rfl (by decide) (by decide) (by decide)]; exact L.sd
  · have q := p.w.wa
    rw [ewa, ewd] at q
    exact q
  · rcases mem_new (A := { A with fo := A'.fo }) (B := { A with fo := A'.fo, rw := A'.rw }) (d := A'.rw) 8 rfl rfl a ha with z | z
    · rcases mem_new (A := A) (B := { A with fo := A'.fo }) (d := A'.fo) 7 rfl rfl a z with z | z
      · exact .inl z
      · subst z
        rcases p.fo with e | e
        · exact .inl (by rw [e]; simp [LoomA.cells, LoomA.wt])
        · exact .inr e
    · subst z
      rcases p.rw with e | e
      · exact .inl (by rw [e]; simp [LoomA.cells, LoomA.wt])
      · exact .inr e
end
/-! ### the waits' mirror -/
def rowGt (r q : Int × Nat) : Bool := decide (q.1 < r.1 ∨ (r.1 = q.1 ∧ q.2 < r.2))
/-- the place of q among the first k rows, from behind -/
def placeOf (rows : List (Int × Nat)) (q : Int × Nat) : Nat → Nat
  | 0 => 0
  | k + 1 => match rows[k]? with
    | some r => if rowGt r q then placeOf rows q k else k + 1
    | none => k + 1
def laterM (rows : List (Int × Nat)) (q : Int × Nat) : List (Int × Nat) := rows.take (placeOf rows q rows.length) ++ [q] ++ rows.drop (placeOf rows q rows.length)
theorem placeOf_le (rows : List (Int × Nat)) (q : Int × Nat) : ∀ k, placeOf rows q k ≤ k
  | 0 => Nat.le_refl _
  | k + 1 => by
    unfold placeOf
    split
    · split
      · exact Nat.le_succ_of_le (placeOf_le rows q k)
      · exact Nat.le_refl _
    · exact Nat.le_refl _
/-! ### the loom's mirror -/
def lk (l : List (Str × Nat)) (x : Str) : Option Nat := (l.find? fun c => decide (c.1 = x)).map Prod.snd
theorem lk_pos {c : Str × Nat} {l : List (Str × Nat)} {x : Str} (h : c.1 = x) : lk (c :: l) x = some c.2 := by
  unfold lk
  rw [List.find?_cons, decide_eq_true h]
  rfl
theorem lk_neg {c : Str × Nat} {l : List (Str × Nat)} {x : Str} (h : ¬ c.1 = x) : lk (c :: l) x = lk l x := by
  unfold lk
  rw [List.find?_cons, decide_eq_false h]
theorem sd_val : ∀ (l : List (Str × Nat)) (x : Str), valV (sdK l) (Sum.inr x) = (lk l x).map nV
  | [], _ => rfl
  | c :: l, x => by
    have ih := sd_val l x
    show valV ((Sum.inr c.1, nV c.2) :: sdK l) (Sum.inr x) = _
    by_cases h : c.1 = x
    · rw [lk_pos h, valV_pos (show (Sum.inr c.1 : Key) = Sum.inr x by rw [h])]
      rfl
    · rw [lk_neg h, valV_neg (show ¬ (Sum.inr c.1 : Key) = Sum.inr x from fun q => h (Sum.inr.inj q)), ih]
theorem lk_none {l : List (Str × Nat)} {x : Str} : lk l x = none ↔ x ∉ l.map Prod.fst := by
  unfold lk
  rw [Option.map_eq_none_iff, List.find?_eq_none]
  constructor
  · intro h q
    obtain ⟨c, hc, e⟩ := List.mem_map.mp q
    exact h c hc (decide_eq_true e)
  · intro h c hc q
    exact h (List.mem_map.mpr ⟨c, hc, of_decide_eq_true q⟩)
theorem sd_put {l : List (Str × Nat)} {x : Str} {n : Nat} (h : lk l x = none) : putK (sdK l) (Sum.inr x) (nV n) = sdK (l ++ [(x, n)]) := by
  unfold putK
  have e : ((sdK l).any fun kv => decide (kv.1 = Sum.inr x)) = false := by
    rw [List.any_eq_false]
    intro kv hkv q
    obtain ⟨c, hc, rfl⟩ := List.mem_map.mp hkv
    have q := of_decide_eq_true q
    exact lk_none.mp h (List.mem_map.mpr ⟨c, hc, Sum.inr.inj q⟩)
  rw [if_neg (by rw [e]; decide)]
  simp [sdK]
def LoomS.come (s : LoomS) (x : Str) : LoomS := if (lk s.stands x).isSome then s else { s with stood := s.stood + 1, stands := s.stands ++ [(x, s.stood + 1)] }
def LoomS.go (s : LoomS) (x : Str) : LoomS := { s with stands := s.stands.filter fun c => decide (c.1 ≠ x) }
def LoomS.sendM (s : LoomS) (z : Str) : LoomS :=
  { s with events := s.events ++ [⟨z, none, .wait, s.time⟩], rows := laterM s.rows (s.time, s.events.length), log := s.log ++ [.send s.events.length] }
/-- an event that a deed makes -/
def LoomS.mk1 (s : LoomS) (m : Nat) (z : Str) (r : Road) (t : Int) : LoomS := { s with events := s.events ++ [⟨z, some m, r, s.time + t⟩] }
def LoomS.logd (s : LoomS) (r : Row) : LoomS := { s with log := s.log ++ [r] }
/-- a deed of the innermost event n -/
def LoomS.doM (s : LoomS) (n : Nat) : Deed → LoomS
  | .now z => LoomS.logd { (s.mk1 n z .now 0) with fresh := some s.events.length } (.make n s.events.length)
  | .soon z => LoomS.logd { (s.mk1 n z .soon 0) with soon := s.soon ++ [s.events.length] } (.make n s.events.length)
  | .wait t z => LoomS.logd { (s.mk1 n z .wait t) with rows := laterM s.rows (s.time + t, s.events.length) } (.make n s.events.length)
  | .cancel z =>
    let ns := (s.soon ++ s.rows.map Prod.snd).filter fun k => decide ((s.events[k]?.map Evt.word) = some z)
    LoomS.logd { s with soon := s.soon.filter (fun k => !decide (k ∈ ns)), rows := s.rows.filter fun r => !decide (r.2 ∈ ns) } (.cancel n (ns.mergeSort fun a b => decide (a ≤ b)))
  | .join x => (s.come x).logd (.join n x)
  | .leave x => (s.go x).logd (.leave n x)
  | .hush => LoomS.logd { s with frames := s.frames.dropLast ++ (s.frames.getLast?.map fun f => { f with called := [] }).toList } (.hush n)
def loomNs : List Str := ["handlers", "time", "events", "log", "frames", "fresh", "line", "stood", "standings"]
theorem lf_no {A : LoomA} {s : LoomS} {m : Str} (h : m ∉ loomNs) : (loomFs A s).lookup m = none := look_no h
def wNs : List Str := ["first_ones", "rows"]
theorem wf_no {fo rw : Addr} {m : Str} (h : m ∉ wNs) : (wFs fo rw).lookup m = none := look_no h
theorem Went.to {C : Cs} {H H' : Hp} {A A' : LoomA} {s s' : LoomS} (W : Went C H A H' A' s) (e : s = s') : Went C H A H' A' s' := e ▸ W
theorem LoomAt.frm {C : Cs} {H : Hp} {A : LoomA} {s : LoomS} (L : LoomAt C H A s) {Bs : List FrA} {B : FrA} {fs : List Frm} {f : Frm} (eA : A.frs = Bs ++ [B]) (es : s.frames = fs ++ [f]) : FrmAt C.F H B f := by
  obtain ⟨Bs', B', eB, t1, t2, _⟩ := L.last es
  rw [eA] at eB
  obtain ⟨rfl, hh⟩ := List.append_inj' eB rfl
  have hh : B = B' := by simpa using hh
  subst hh
  exact t2
def LoomS.last (s : LoomS) (f : Frm) : LoomS := { s with frames := s.frames.dropLast ++ [f] }
theorem last_eq {s : LoomS} {fs : List Frm} {f f' : Frm} (es : s.frames = fs ++ [f]) : s.last f' = { s with frames := fs ++ [f'] } := by
  unfold LoomS.last
  rw [es, List.dropLast_concat]
/-- a handler is called for the innermost event -/
def LoomS.callM (s : LoomS) (f : Frm) (x : Str) (h : Hnd) : LoomS :=
  let s2 := (s.last { f with deeds := h.deeds, place := 0 }).logd (.call f.number x)
  if h.once then s2.go x else s2
def frmNs : List Str := ["number", "called", "deeds", "place"]
theorem ff_no {f : Frm} {lc dq : Addr} {m : Str} (h : m ∉ frmNs) : (frmFs f lc dq).lookup m = none := look_no h
end Ev
namespace Ev
open PySem L2
def top (i : Nat) : Stmt := PySem.Challenge.pw_eventloom_k07_now_within.main.body.getD i (.Pass ⟨0, 0, 0, 0⟩)
abbrev s_Wall : Stmt := top 0
abbrev nm_Wall : List Str := ["k"]
theorem sc_Wall : FnScope nm_Wall ["k"] (defScope s_Wall) := ⟨rfl, rfl, rfl, by decide +kernel, rfl, by decide +kernel, by decide +kernel⟩
abbrev s_isWhole : Stmt := top 11
abbrev nm_isWhole : List Str := ["thing"]
theorem sc_isWhole : FnScope nm_isWhole ["thing"] (defScope s_isWhole) := ⟨rfl, rfl, rfl, by decide +kernel, rfl, by decide +kernel, by decide +kernel⟩
abbrev s_isWord : Stmt := top 12
abbrev nm_isWord : List Str := ["thing", "sign"]
theorem sc_isWord : FnScope nm_isWord ["thing"] (defScope s_isWord) := ⟨rfl, rfl, rfl, by decide +kernel, rfl, by decide +kernel, by decide +kernel⟩
abbrev s_needWord : Stmt := top 13
abbrev nm_needWord : List Str := ["thing"]
theorem sc_needWord : FnScope nm_needWord ["thing"] (defScope s_needWord) := ⟨rfl, rfl, rfl, by decide +kernel, rfl, by decide +kernel, by decide +kernel⟩
abbrev s_isDeed : Stmt := top 19
abbrev nm_isDeed : List Str := ["thing"]
theorem sc_isDeed : FnScope nm_isDeed ["thing"] (defScope s_isDeed) := ⟨rfl, rfl, rfl, by decide +kernel, rfl, by decide +kernel, by decide +kernel⟩
abbrev s_isHandler : Stmt := top 20
abbrev nm_isHandler : List Str := ["thing", "name", "rank", "hears", "once", "deeds", "deed"]
theorem sc_isHandler : FnScope nm_isHandler ["thing"] (defScope s_isHandler) := ⟨rfl, rfl, rfl, by decide +kernel, rfl, by decide +kernel, by decide +kernel⟩
abbrev s_needHandlers : Stmt := top 21
abbrev nm_needHandlers : List Str := ["handlers", "found", "one", "names", "deed", "other"]
theorem sc_needHandlers : FnScope nm_needHandlers ["handlers"] (defScope s_needHandlers) := ⟨rfl, rfl, rfl, by decide +kernel, rfl, by decide +kernel, by decide +kernel⟩
abbrev s_needNames : Stmt := top 22
abbrev nm_needNames : List Str := ["handlers", "names", "found", "known", "name", "one"]
theorem sc_needNames : FnScope nm_needNames ["handlers", "names"] (defScope s_needNames) := ⟨rfl, rfl, rfl, by decide +kernel, rfl, by decide +kernel, by decide +kernel⟩
abbrev s_handlerOf : Stmt := top 23
abbrev nm_handlerOf : List Str := ["handlers", "name", "one"]
theorem sc_handlerOf : FnScope nm_handlerOf ["handlers", "name"] (defScope s_handlerOf) := ⟨rfl, rfl, rfl, by decide +kernel, rfl, by decide +kernel, by decide +kernel⟩
abbrev s_hearers : Stmt := top 24
abbrev nm_hearers : List Str := ["handlers", "names", "word", "rows", "place", "name", "one", "row"]
theorem sc_hearers : FnScope nm_hearers ["handlers", "names", "word"] (defScope s_hearers) := ⟨rfl, rfl, rfl, by decide +kernel, rfl, by decide +kernel, by decide +kernel⟩
abbrev s_WaitsInit : Stmt := inClass (top 26) 0
abbrev nm_WaitsInit : List Str := ["self"]
theorem sc_WaitsInit : FnScope nm_WaitsInit ["self"] (defScope s_WaitsInit) := ⟨rfl, rfl, rfl, by decide +kernel, rfl, by decide +kernel, by decide +kernel⟩
abbrev s_WaitsSooner : Stmt := inClass (top 26) 1
abbrev nm_WaitsSooner : List Str := ["self", "number"]
theorem sc_WaitsSooner : FnScope nm_WaitsSooner ["self", "number"] (defScope s_WaitsSooner) := ⟨rfl, rfl, rfl, by decide +kernel, rfl, by decide +kernel, by decide +kernel⟩
abbrev s_WaitsLater : Stmt := inClass (top 26) 2
abbrev nm_WaitsLater : List Str := ["self", "number", "due", "place"]
theorem sc_WaitsLater : FnScope nm_WaitsLater ["self", "number", "due"] (defScope s_WaitsLater) := ⟨rfl, rfl, rfl, by decide +kernel, rfl, by decide +kernel, by decide +kernel⟩
abbrev s_WaitsLineup : Stmt := inClass (top 26) 3
abbrev nm_WaitsLineup : List Str := ["self", "row"]
theorem sc_WaitsLineup : FnScope nm_WaitsLineup ["self"] (defScope s_WaitsLineup) := ⟨rfl, rfl, rfl, by decide +kernel, rfl, by decide +kernel, by decide +kernel⟩
abbrev s_WaitsLead : Stmt := inClass (top 26) 4
abbrev nm_WaitsLead : List Str := ["self", "due", "number"]
theorem sc_WaitsLead : FnScope nm_WaitsLead ["self"] (defScope s_WaitsLead) := ⟨rfl, rfl, rfl, by decide +kernel, rfl, by decide +kernel, by decide +kernel⟩
abbrev s_WaitsDrop : Stmt := inClass (top 26) 5
abbrev nm_WaitsDrop : List Str := ["self", "numbers", "one", "row"]
theorem sc_WaitsDrop : FnScope nm_WaitsDrop ["self", "numbers"] (defScope s_WaitsDrop) := ⟨rfl, rfl, rfl, by decide +kernel, rfl, by decide +kernel, by decide +kernel⟩
abbrev s_FrameInit : Stmt := inClass (top 28) 0
abbrev nm_FrameInit : List Str := ["self", "number", "called"]
theorem sc_FrameInit : FnScope nm_FrameInit ["self", "number", "called"] (defScope s_FrameInit) := ⟨rfl, rfl, rfl, by decide +kernel, rfl, by decide +kernel, by decide +kernel⟩
abbrev s_LoomInit : Stmt := inClass (top 29) 0
abbrev nm_LoomInit : List Str := ["self", "handlers", "names", "name"]
theorem sc_LoomInit : FnScope nm_LoomInit ["self", "handlers", "names"] (defScope s_LoomInit) := ⟨rfl, rfl, rfl, by decide +kernel, rfl, by decide +kernel, by decide +kernel⟩
abbrev s_LoomCome : Stmt := inClass (top 29) 1
abbrev nm_LoomCome : List Str := ["self", "name"]
theorem sc_LoomCome : FnScope nm_LoomCome ["self", "name"] (defScope s_LoomCome) := ⟨rfl, rfl, rfl, by decide +kernel, rfl, by decide +kernel, by decide +kernel⟩
abbrev s_LoomGo : Stmt := inClass (top 29) 2
abbrev nm_LoomGo : List Str := ["self", "name", "left", "one"]
theorem sc_LoomGo : FnScope nm_LoomGo ["self", "name"] (defScope s_LoomGo) := ⟨rfl, rfl, rfl, by decide +kernel, rfl, by decide +kernel, by decide +kernel⟩
abbrev s_LoomMade : Stmt := inClass (top 29) 3
abbrev nm_LoomMade : List Str := ["self", "word", "maker", "road", "due"]
theorem sc_LoomMade : FnScope nm_LoomMade ["self", "word", "maker", "road", "due"] (defScope s_LoomMade) := ⟨rfl, rfl, rfl, by decide +kernel, rfl, by decide +kernel, by decide +kernel⟩
abbrev s_LoomSend : Stmt := inClass (top 29) 4
abbrev nm_LoomSend : List Str := ["self", "word", "number"]
theorem sc_LoomSend : FnScope nm_LoomSend ["self", "word"] (defScope s_LoomSend) := ⟨rfl, rfl, rfl, by decide +kernel, rfl, by decide +kernel, by decide +kernel⟩
abbrev s_LoomStep : Stmt := inClass (top 29) 5
abbrev nm_LoomStep : List Str := ["self", "number", "lead"]
theorem sc_LoomStep : FnScope nm_LoomStep ["self"] (defScope s_LoomStep) := ⟨rfl, rfl, rfl, by decide +kernel, rfl, by decide +kernel, by decide +kernel⟩
abbrev s_LoomBegin : Stmt := inClass (top 29) 6
abbrev nm_LoomBegin : List Str := ["self", "number", "names", "name"]
theorem sc_LoomBegin : FnScope nm_LoomBegin ["self", "number"] (defScope s_LoomBegin) := ⟨rfl, rfl, rfl, by decide +kernel, rfl, by decide +kernel, by decide +kernel⟩
abbrev s_LoomGoOn : Stmt := inClass (top 29) 7
abbrev nm_LoomGoOn : List Str := ["self", "frame", "name", "standing"]
theorem sc_LoomGoOn : FnScope nm_LoomGoOn ["self", "frame"] (defScope s_LoomGoOn) := ⟨rfl, rfl, rfl, by decide +kernel, rfl, by decide +kernel, by decide +kernel⟩
abbrev s_LoomCall : Stmt := inClass (top 29) 8
abbrev nm_LoomCall : List Str := ["self", "frame", "name", "handler"]
theorem sc_LoomCall : FnScope nm_LoomCall ["self", "frame", "name"] (defScope s_LoomCall) := ⟨rfl, rfl, rfl, by decide +kernel, rfl, by decide +kernel, by decide +kernel⟩
abbrev s_LoomDo : Stmt := inClass (top 29) 9
abbrev nm_LoomDo : List Str := ["self", "frame", "deed", "numbers", "one"]
theorem sc_LoomDo : FnScope nm_LoomDo ["self", "frame", "deed"] (defScope s_LoomDo) := ⟨rfl, rfl, rfl, by decide +kernel, rfl, by decide +kernel, by decide +kernel⟩
abbrev s_LoomMake : Stmt := inClass (top 29) 10
abbrev nm_LoomMake : List Str := ["self", "maker", "deed", "due", "number"]
theorem sc_LoomMake : FnScope nm_LoomMake ["self", "maker", "deed"] (defScope s_LoomMake) := ⟨rfl, rfl, rfl, by decide +kernel, rfl, by decide +kernel, by decide +kernel⟩
abbrev s_LoomRun : Stmt := inClass (top 29) 11
abbrev nm_LoomRun : List Str := ["self", "most", "done"]
theorem sc_LoomRun : FnScope nm_LoomRun ["self", "most"] (defScope s_LoomRun) := ⟨rfl, rfl, rfl, by decide +kernel, rfl, by decide +kernel, by decide +kernel⟩
abbrev s_LoomWaiting : Stmt := inClass (top 29) 12
abbrev nm_LoomWaiting : List Str := ["self"]
theorem sc_LoomWaiting : FnScope nm_LoomWaiting ["self"] (defScope s_LoomWaiting) := ⟨rfl, rfl, rfl, by decide +kernel, rfl, by decide +kernel, by decide +kernel⟩
abbrev s_LoomAround : Stmt := inClass (top 29) 13
abbrev nm_LoomAround : List Str := ["self"]
theorem sc_LoomAround : FnScope nm_LoomAround ["self"] (defScope s_LoomAround) := ⟨rfl, rfl, rfl, by decide +kernel, rfl, by decide +kernel, by decide +kernel⟩
abbrev s_LoomStanding : Stmt := inClass (top 29) 14
abbrev nm_LoomStanding : List Str := ["self"]
theorem sc_LoomStanding : FnScope nm_LoomStanding ["self"] (defScope s_LoomStanding) := ⟨rfl, rfl, rfl, by decide +kernel, rfl, by decide +kernel, by decide +kernel⟩
abbrev s_LoomIdle : Stmt := inClass (top 29) 15
abbrev nm_LoomIdle : List Str := ["self"]
theorem sc_LoomIdle : FnScope nm_LoomIdle ["self"] (defScope s_LoomIdle) := ⟨rfl, rfl, rfl, by decide +kernel, rfl, by decide +kernel, by decide +kernel⟩
abbrev s_ltoldAt : Stmt := top 31
abbrev nm_ltoldAt : List Str := ["_law_script", "_law_place"]
theorem sc_ltoldAt : FnScope nm_ltoldAt ["_law_script", "_law_place"] (defScope s_ltoldAt) := ⟨rfl, rfl, rfl, by decide +kernel, rfl, by decide +kernel, by decide +kernel⟩
abbrev s_lmixed : Stmt := top 32
abbrev nm_lmixed : List Str := ["_law_cell", "_law_k", "_law_many", "_law_primes"]
theorem sc_lmixed : FnScope nm_lmixed ["_law_cell", "_law_k", "_law_many"] (defScope s_lmixed) := ⟨rfl, rfl, rfl, by decide +kernel, rfl, by decide +kernel, by decide +kernel⟩
abbrev s_lwordsBy : Stmt := top 33
abbrev nm_lwordsBy : List Str := ["_law_cell", "_law_letters", "_law_some", "_law_size", "_law_at", "_law_k", "_law_word", "_law_j"]
theorem sc_lwordsBy : FnScope nm_lwordsBy ["_law_cell"] (defScope s_lwordsBy) := ⟨rfl, rfl, rfl, by decide +kernel, rfl, by decide +kernel, by decide +kernel⟩
abbrev s_lhandlersBy : Stmt := top 34
abbrev nm_lhandlersBy : List Str := ["_law_script", "_law_words", "_law_found", "_law_k", "_law_cell", "_law_hears", "_law_deeds", "_law_j"]
theorem sc_lhandlersBy : FnScope nm_lhandlersBy ["_law_script", "_law_words"] (defScope s_lhandlersBy) := ⟨rfl, rfl, rfl, by decide +kernel, rfl, by decide +kernel, by decide +kernel⟩
abbrev s_lcallsDue : Stmt := top 35
abbrev nm_lcallsDue : List Str := ["_law_word", "_law_handlers", "_law_some", "_law_k", "_law_row"]
theorem sc_lcallsDue : FnScope nm_lcallsDue ["_law_word", "_law_handlers"] (defScope s_lcallsDue) := ⟨rfl, rfl, rfl, by decide +kernel, rfl, by decide +kernel, by decide +kernel⟩
abbrev s_lframe : Stmt := top 36
abbrev nm_lframe : List Str := ["_law_number", "_law_word", "_law_handlers", "_law_wanted", "_law_one", "_law_deed"]
theorem sc_lframe : FnScope nm_lframe ["_law_number", "_law_word", "_law_handlers"] (defScope s_lframe) := ⟨rfl, rfl, rfl, by decide +kernel, rfl, by decide +kernel, by decide +kernel⟩
abbrev s_lwalked : Stmt := top 37
abbrev nm_lwalked : List Str := ["_law_log", "_law_events", "_law_handlers", "_law_around", "_law_born", "_law_met", "_law_row", "_law_wanted"]
theorem sc_lwalked : FnScope nm_lwalked ["_law_log", "_law_events", "_law_handlers"] (defScope s_lwalked) := ⟨rfl, rfl, rfl, by decide +kernel, rfl, by decide +kernel, by decide +kernel⟩
abbrev s_law : Stmt := top 38
abbrev nm_law : List Str := ["_law_script", "_law_words", "_law_handlers", "_law_loom", "_law_sent", "_law_word", "_law_rows", "_law_found", "_law_one"]
theorem sc_law : FnScope nm_law ["_law_script"] (defScope s_law) := ⟨rfl, rfl, rfl, by decide +kernel, rfl, by decide +kernel, by decide +kernel⟩
structure Tx (K : PySem.W.Frag) (mg : Str → Option Value) where
  c_LoomError : Addr
  g_LoomError : mg "LoomError" = some (.ref c_LoomError)
  c_NoWord : Addr
  g_NoWord : mg "NoWord" = some (.ref c_NoWord)
  c_NoHandler : Addr
  g_NoHandler : mg "NoHandler" = some (.ref c_NoHandler)
  c_Twice : Addr
  g_Twice : mg "Twice" = some (.ref c_Twice)
  c_Stranger : Addr
  g_Stranger : mg "Stranger" = some (.ref c_Stranger)
  c_NoCount : Addr
  g_NoCount : mg "NoCount" = some (.ref c_NoCount)
  c_Waits : Addr
  g_Waits : mg "Waits" = some (.ref c_Waits)
  c_Frame : Addr
  g_Frame : mg "Frame" = some (.ref c_Frame)
  c_Loom : Addr
  g_Loom : mg "Loom" = some (.ref c_Loom)
  x_LoomError : PySem.W.excIn K c_LoomError [.type "ValueError", .type "Exception", .type "BaseException", .type "object"] "ValueError.__new__" = true
  k_LoomError : PySem.W.keepIn K (.ref c_LoomError) = true
  sb_LoomError : PySem.W.subIn K (.ref c_LoomError) (.type "BaseException") = some true
  ty_LoomError : PySem.W.typeIn K (.ref c_LoomError) = some (.type "type")
  x_NoWord : PySem.W.excIn K c_NoWord [.type "ValueError", .type "Exception", .type "BaseException", .type "object"] "ValueError.__new__" = true
  k_NoWord : PySem.W.keepIn K (.ref c_NoWord) = true
  sb_NoWord : PySem.W.subIn K (.ref c_NoWord) (.type "BaseException") = some true
  ty_NoWord : PySem.W.typeIn K (.ref c_NoWord) = some (.type "type")
  x_NoHandler : PySem.W.excIn K c_NoHandler [.type "ValueError", .type "Exception", .type "BaseException", .type "object"] "ValueError.__new__" = true
  k_NoHandler : PySem.W.keepIn K (.ref c_NoHandler) = true
  sb_NoHandler : PySem.W.subIn K (.ref c_NoHandler) (.type "BaseException") = some true
  ty_NoHandler : PySem.W.typeIn K (.ref c_NoHandler) = some (.type "type")
  x_Twice : PySem.W.excIn K c_Twice [.type "ValueError", .type "Exception", .type "BaseException", .type "object"] "ValueError.__new__" = true
  k_Twice : PySem.W.keepIn K (.ref c_Twice) = true
  sb_Twice : PySem.W.subIn K (.ref c_Twice) (.type "BaseException") = some true
  ty_Twice : PySem.W.typeIn K (.ref c_Twice) = some (.type "type")
  x_Stranger : PySem.W.excIn K c_Stranger [.type "ValueError", .type "Exception", .type "BaseException", .type "object"] "ValueError.__new__" = true
  k_Stranger : PySem.W.keepIn K (.ref c_Stranger) = true
  sb_Stranger : PySem.W.subIn K (.ref c_Stranger) (.type "BaseException") = some true
  ty_Stranger : PySem.W.typeIn K (.ref c_Stranger) = some (.type "type")
  x_NoCount : PySem.W.excIn K c_NoCount [.type "ValueError", .type "Exception", .type "BaseException", .type "object"] "ValueError.__new__" = true
  k_NoCount : PySem.W.keepIn K (.ref c_NoCount) = true
  sb_NoCount : PySem.W.subIn K (.ref c_NoCount) (.type "BaseException") = some true
  ty_NoCount : PySem.W.typeIn K (.ref c_NoCount) = some (.type "type")
  cl_Waits : Cls K c_Waits
  n_Waits_first_ones : NoAttr K c_Waits "first_ones"
  n_Waits_rows : NoAttr K c_Waits "rows"
  cl_Frame : Cls K c_Frame
  n_Frame_number : NoAttr K c_Frame "number"
  n_Frame_called : NoAttr K c_Frame "called"
  n_Frame_deeds : NoAttr K c_Frame "deeds"
  n_Frame_place : NoAttr K c_Frame "place"
  cl_Loom : Cls K c_Loom
  n_Loom_handlers : NoAttr K c_Loom "handlers"
  n_Loom_time : NoAttr K c_Loom "time"
  n_Loom_events : NoAttr K c_Loom "events"
  n_Loom_log : NoAttr K c_Loom "log"
  n_Loom_frames : NoAttr K c_Loom "frames"
  n_Loom_fresh : NoAttr K c_Loom "fresh"
  n_Loom_line : NoAttr K c_Loom "line"
  n_Loom_stood : NoAttr K c_Loom "stood"
  n_Loom_standings : NoAttr K c_Loom "standings"
  f_Wall : Addr
  d_Wall : FuncData
  F_Wall : Fun K "_wall" "_wall" s_Wall f_Wall d_Wall
  b_Wall : Binds K d_Wall ["k"] []
  g_Wall : mg "_wall" = some (.ref f_Wall)
  f_isWhole : Addr
  d_isWhole : FuncData
  F_isWhole : Fun K "is_whole" "is_whole" s_isWhole f_isWhole d_isWhole
  b_isWhole : Binds K d_isWhole ["thing"] []
  g_isWhole : mg "is_whole" = some (.ref f_isWhole)
  f_isWord : Addr
  d_isWord : FuncData
  F_isWord : Fun K "is_word" "is_word" s_isWord f_isWord d_isWord
  b_isWord : Binds K d_isWord ["thing"] []
  g_isWord : mg "is_word" = some (.ref f_isWord)
  f_needWord : Addr
  d_needWord : FuncData
  F_needWord : Fun K "need_word" "need_word" s_needWord f_needWord d_needWord
  b_needWord : Binds K d_needWord ["thing"] []
  g_needWord : mg "need_word" = some (.ref f_needWord)
  f_isDeed : Addr
  d_isDeed : FuncData
  F_isDeed : Fun K "is_deed" "is_deed" s_isDeed f_isDeed d_isDeed
  b_isDeed : Binds K d_isDeed ["thing"] []
  g_isDeed : mg "is_deed" = some (.ref f_isDeed)
  f_isHandler : Addr
  d_isHandler : FuncData
  F_isHandler : Fun K "is_handler" "is_handler" s_isHandler f_isHandler d_isHandler
  b_isHandler : Binds K d_isHandler ["thing"] []
  g_isHandler : mg "is_handler" = some (.ref f_isHandler)
  f_needHandlers : Addr
  d_needHandlers : FuncData
  F_needHandlers : Fun K "need_handlers" "need_handlers" s_needHandlers f_needHandlers d_needHandlers
  b_needHandlers : Binds K d_needHandlers ["handlers"] []
  g_needHandlers : mg "need_handlers" = some (.ref f_needHandlers)
  f_needNames : Addr
  d_needNames : FuncData
  F_needNames : Fun K "need_names" "need_names" s_needNames f_needNames d_needNames
  b_needNames : Binds K d_needNames ["handlers", "names"] []
  g_needNames : mg "need_names" = some (.ref f_needNames)
  f_handlerOf : Addr
  d_handlerOf : FuncData
  F_handlerOf : Fun K "handler_of" "handler_of" s_handlerOf f_handlerOf d_handlerOf
  b_handlerOf : Binds K d_handlerOf ["handlers", "name"] []
  g_handlerOf : mg "handler_of" = some (.ref f_handlerOf)
  f_hearers : Addr
  d_hearers : FuncData
  F_hearers : Fun K "hearers" "hearers" s_hearers f_hearers d_hearers
  b_hearers : Binds K d_hearers ["handlers", "names", "word"] []
  g_hearers : mg "hearers" = some (.ref f_hearers)
  f_WaitsInit : Addr
  d_WaitsInit : FuncData
  F_WaitsInit : Fun K "__init__" "Waits.__init__" s_WaitsInit f_WaitsInit d_WaitsInit
  b_WaitsInit : Binds K d_WaitsInit ["self"] []
  mk_Waits : Mk K c_Waits f_WaitsInit
  f_WaitsSooner : Addr
  d_WaitsSooner : FuncData
  F_WaitsSooner : Fun K "sooner" "Waits.sooner" s_WaitsSooner f_WaitsSooner d_WaitsSooner
  b_WaitsSooner : Binds K d_WaitsSooner ["self", "number"] []
  m_WaitsSooner : Meth K c_Waits "sooner" f_WaitsSooner
  f_WaitsLater : Addr
  d_WaitsLater : FuncData
  F_WaitsLater : Fun K "later" "Waits.later" s_WaitsLater f_WaitsLater d_WaitsLater
  b_WaitsLater : Binds K d_WaitsLater ["self", "number", "due"] []
  m_WaitsLater : Meth K c_Waits "later" f_WaitsLater
  f_WaitsLineup : Addr
  d_WaitsLineup : FuncData
  F_WaitsLineup : Fun K "lineup" "Waits.lineup" s_WaitsLineup f_WaitsLineup d_WaitsLineup
  b_WaitsLineup : Binds K d_WaitsLineup ["self"] []
  m_WaitsLineup : Meth K c_Waits "lineup" f_WaitsLineup
  f_WaitsLead : Addr
  d_WaitsLead : FuncData
  F_WaitsLead : Fun K "lead" "Waits.lead" s_WaitsLead f_WaitsLead d_WaitsLead
  b_WaitsLead : Binds K d_WaitsLead ["self"] []
  m_WaitsLead : Meth K c_Waits "lead" f_WaitsLead
  f_WaitsDrop : Addr
  d_WaitsDrop : FuncData
  F_WaitsDrop : Fun K "drop" "Waits.drop" s_WaitsDrop f_WaitsDrop d_WaitsDrop
  b_WaitsDrop : Binds K d_WaitsDrop ["self", "numbers"] []
  m_WaitsDrop : Meth K c_Waits "drop" f_WaitsDrop
  f_FrameInit : Addr
  d_FrameInit : FuncData
  F_FrameInit : Fun K "__init__" "Frame.__init__" s_FrameInit f_FrameInit d_FrameInit
  b_FrameInit : Binds K d_FrameInit ["self", "number", "called"] []
  mk_Frame : Mk K c_Frame f_FrameInit
  f_LoomInit : Addr
  d_LoomInit : FuncData
  F_LoomInit : Fun K "__init__" "Loom.__init__" s_LoomInit f_LoomInit d_LoomInit
  b_LoomInit : Binds K d_LoomInit ["self", "handlers", "names"] []
  mk_Loom : Mk K c_Loom f_LoomInit
  f_LoomCome : Addr
  d_LoomCome : FuncData
  F_LoomCome : Fun K "come" "Loom.come" s_LoomCome f_LoomCome d_LoomCome
  b_LoomCome : Binds K d_LoomCome ["self", "name"] []
  m_LoomCome : Meth K c_Loom "come" f_LoomCome
  f_LoomGo : Addr
  d_LoomGo : FuncData
  F_LoomGo : Fun K "go" "Loom.go" s_LoomGo f_LoomGo d_LoomGo
  b_LoomGo : Binds K d_LoomGo ["self", "name"] []
  m_LoomGo : Meth K c_Loom "go" f_LoomGo
  f_LoomMade : Addr
  d_LoomMade : FuncData
  F_LoomMade : Fun K "made" "Loom.made" s_LoomMade f_LoomMade d_LoomMade
  b_LoomMade : Binds K d_LoomMade ["self", "word", "maker", "road", "due"] []
  m_LoomMade : Meth K c_Loom "made" f_LoomMade
  f_LoomSend : Addr
  d_LoomSend : FuncData
  F_LoomSend : Fun K "send" "Loom.send" s_LoomSend f_LoomSend d_LoomSend
  b_LoomSend : Binds K d_LoomSend ["self", "word"] []
  m_LoomSend : Meth K c_Loom "send" f_LoomSend
  f_LoomStep : Addr
  d_LoomStep : FuncData
  F_LoomStep : Fun K "step" "Loom.step" s_LoomStep f_LoomStep d_LoomStep
  b_LoomStep : Binds K d_LoomStep ["self"] []
  m_LoomStep : Meth K c_Loom "step" f_LoomStep
  f_LoomBegin : Addr
  d_LoomBegin : FuncData
  F_LoomBegin : Fun K "begin" "Loom.begin" s_LoomBegin f_LoomBegin d_LoomBegin
  b_LoomBegin : Binds K d_LoomBegin ["self", "number"] []
  m_LoomBegin : Meth K c_Loom "begin" f_LoomBegin
  f_LoomGoOn : Addr
  d_LoomGoOn : FuncData
  F_LoomGoOn : Fun K "go_on" "Loom.go_on" s_LoomGoOn f_LoomGoOn d_LoomGoOn
  b_LoomGoOn : Binds K d_LoomGoOn ["self", "frame"] []
  m_LoomGoOn : Meth K c_Loom "go_on" f_LoomGoOn
  f_LoomCall : Addr
  d_LoomCall : FuncData
  F_LoomCall : Fun K "call" "Loom.call" s_LoomCall f_LoomCall d_LoomCall
  b_LoomCall : Binds K d_LoomCall ["self", "frame", "name"] []
  m_LoomCall : Meth K c_Loom "call" f_LoomCall
  f_LoomDo : Addr
  d_LoomDo : FuncData
  F_LoomDo : Fun K "do" "Loom.do" s_LoomDo f_LoomDo d_LoomDo
  b_LoomDo : Binds K d_LoomDo ["self", "frame", "deed"] []
  m_LoomDo : Meth K c_Loom "do" f_LoomDo
  f_LoomMake : Addr
  d_LoomMake : FuncData
  F_LoomMake : Fun K "make" "Loom.make" s_LoomMake f_LoomMake d_LoomMake
  b_LoomMake : Binds K d_LoomMake ["self", "maker", "deed"] []
  m_LoomMake : Meth K c_Loom "make" f_LoomMake
  f_LoomRun : Addr
  d_LoomRun : FuncData
  F_LoomRun : Fun K "run" "Loom.run" s_LoomRun f_LoomRun d_LoomRun
  b_LoomRun : Binds K d_LoomRun ["self", "most"] []
  m_LoomRun : Meth K c_Loom "run" f_LoomRun
  f_LoomWaiting : Addr
  d_LoomWaiting : FuncData
  F_LoomWaiting : Fun K "waiting" "Loom.waiting" s_LoomWaiting f_LoomWaiting d_LoomWaiting
  b_LoomWaiting : Binds K d_LoomWaiting ["self"] []
  m_LoomWaiting : Meth K c_Loom "waiting" f_LoomWaiting
  f_LoomAround : Addr
  d_LoomAround : FuncData
  F_LoomAround : Fun K "around" "Loom.around" s_LoomAround f_LoomAround d_LoomAround
  b_LoomAround : Binds K d_LoomAround ["self"] []
  m_LoomAround : Meth K c_Loom "around" f_LoomAround
  f_LoomStanding : Addr
  d_LoomStanding : FuncData
  F_LoomStanding : Fun K "standing" "Loom.standing" s_LoomStanding f_LoomStanding d_LoomStanding
  b_LoomStanding : Binds K d_LoomStanding ["self"] []
  m_LoomStanding : Meth K c_Loom "standing" f_LoomStanding
  f_LoomIdle : Addr
  d_LoomIdle : FuncData
  F_LoomIdle : Fun K "idle" "Loom.idle" s_LoomIdle f_LoomIdle d_LoomIdle
  b_LoomIdle : Binds K d_LoomIdle ["self"] []
  m_LoomIdle : Meth K c_Loom "idle" f_LoomIdle
  f_ltoldAt : Addr
  d_ltoldAt : FuncData
  F_ltoldAt : Fun K "_law_told_at" "_law_told_at" s_ltoldAt f_ltoldAt d_ltoldAt
  b_ltoldAt : Binds K d_ltoldAt ["_law_script", "_law_place"] []
  g_ltoldAt : mg "_law_told_at" = some (.ref f_ltoldAt)
  f_lmixed : Addr
  d_lmixed : FuncData
  F_lmixed : Fun K "_law_mixed" "_law_mixed" s_lmixed f_lmixed d_lmixed
  b_lmixed : Binds K d_lmixed ["_law_cell", "_law_k", "_law_many"] []
  g_lmixed : mg "_law_mixed" = some (.ref f_lmixed)
  f_lwordsBy : Addr
  d_lwordsBy : FuncData
  F_lwordsBy : Fun K "_law_words_by" "_law_words_by" s_lwordsBy f_lwordsBy d_lwordsBy
  b_lwordsBy : Binds K d_lwordsBy ["_law_cell"] []
  g_lwordsBy : mg "_law_words_by" = some (.ref f_lwordsBy)
  f_lhandlersBy : Addr
  d_lhandlersBy : FuncData
  F_lhandlersBy : Fun K "_law_handlers_by" "_law_handlers_by" s_lhandlersBy f_lhandlersBy d_lhandlersBy
  b_lhandlersBy : Binds K d_lhandlersBy ["_law_script", "_law_words"] []
  g_lhandlersBy : mg "_law_handlers_by" = some (.ref f_lhandlersBy)
  f_lcallsDue : Addr
  d_lcallsDue : FuncData
  F_lcallsDue : Fun K "_law_calls_due" "_law_calls_due" s_lcallsDue f_lcallsDue d_lcallsDue
  b_lcallsDue : Binds K d_lcallsDue ["_law_word", "_law_handlers"] []
  g_lcallsDue : mg "_law_calls_due" = some (.ref f_lcallsDue)
  f_lframe : Addr
  d_lframe : FuncData
  F_lframe : Fun K "_law_frame" "_law_frame" s_lframe f_lframe d_lframe
  b_lframe : Binds K d_lframe ["_law_number", "_law_word", "_law_handlers"] []
  g_lframe : mg "_law_frame" = some (.ref f_lframe)
  f_lwalked : Addr
  d_lwalked : FuncData
  F_lwalked : Fun K "_law_walked" "_law_walked" s_lwalked f_lwalked d_lwalked
  b_lwalked : Binds K d_lwalked ["_law_log", "_law_events", "_law_handlers"] []
  g_lwalked : mg "_law_walked" = some (.ref f_lwalked)
  f_law : Addr
  d_law : FuncData
  F_law : Fun K "law" "law" s_law f_law d_law
  b_law : Binds K d_law ["_law_script"] []
  g_law : mg "law" = some (.ref f_law)
  z_isinstance : mg "isinstance" = none
  z_int : mg "int" = none
  z_bool : mg "bool" = none
  z_str : mg "str" = none
  z_len : mg "len" = none
  z_all : mg "all" = none
  z_tuple : mg "tuple" = none
  z_list : mg "list" = none
  z_enumerate : mg "enumerate" = none
  z_sorted : mg "sorted" = none
  z_range : mg "range" = none
  u_LETTERS : Value
  g_LETTERS : mg "LETTERS" = some u_LETTERS
  r_LETTERS : RelV (.str "abcdefghijklmnopqrstuvwxyz") u_LETTERS
  u_MOST_SIGNS : Value
  g_MOST_SIGNS : mg "MOST_SIGNS" = some u_MOST_SIGNS
  r_MOST_SIGNS : RelV (.int 12) u_MOST_SIGNS
  u_MOST_HANDLERS : Value
  g_MOST_HANDLERS : mg "MOST_HANDLERS" = some u_MOST_HANDLERS
  r_MOST_HANDLERS : RelV (.int 40) u_MOST_HANDLERS
  u_MOST_DEEDS : Value
  g_MOST_DEEDS : mg "MOST_DEEDS" = some u_MOST_DEEDS
  r_MOST_DEEDS : RelV (.int 30) u_MOST_DEEDS
  u_MOST_TICKS : Value
  g_MOST_TICKS : mg "MOST_TICKS" = some u_MOST_TICKS
  r_MOST_TICKS : RelV (.int 1000000000) u_MOST_TICKS
  a_WORDED : Addr
  g_WORDED : mg "WORDED" = some (.ref a_WORDED)
  t_WORDED : ∀ H, SqT K H a_WORDED [.str "now", .str "soon", .str "cancel", .str "join", .str "leave"]
end Ev
namespace Ev
open PySem L2
section
variable {P : Program} {w : World} {K : PySem.W.Frag} {mg : Str → Option Value} {base : Heap}
/-! ### words -/
def letters : Str := "abcdefghijklmnopqrstuvwxyz"
def isWord (z : Str) : Bool := (decide (0 < z.length) && decide (z.length ≤ 12)) && z.cps.toList.all fun c => decide (c ∈ letters.cps.toList)
def sp_isWhole (K : PySem.W.Frag) : Sp := fun vs H Q _ => ∃ (v : V) (t : String) (b1 b2 : Bool), vs = [v] ∧ TyX K H v (.type t) ∧ kitB t "int" = some b1 ∧ kitB t "bool" = some b2 ∧ Q (.bl (b1 && !b2)) H
theorem ok_isWhole (T : Tx K mg) : FnOk P w K mg base CX0 1 T.f_isWhole T.d_isWhole ["thing"] (sp_isWhole K) := by
  refine T.F_isWhole.ok sc_isWhole (by walk_at "len") (fun cdv A outer s H vs Q E hr h => ?_)
  obtain ⟨v, t, b1, b2, rfl, ty, h1, h2, k⟩ := h
  refine ⟨_, (pss_one (ps_ret (pe_and (pe_callB (kIsi K) (by rfl) T.z_isinstance (by decide +kernel) (pa_cons (pv 0) (pa_cons (pe_bltn (v := .ty "int") (by rfl) T.z_int (by decide +kernel) rfl) pa_nil))) (pe_one (pe_not (pe_callB (kIsi K) (by rfl) T.z_isinstance (by decide +kernel) (pa_cons (pv 0) (pa_cons (pe_bltn (v := .ty "bool") (by rfl) T.z_bool (by decide +kernel) rfl) pa_nil)))))))), ?_⟩
  refine ⟨_, rfl, _, _, _, _, _, rfl, .ty _, ty, kit_ty h1, _, rfl, ?_⟩
  cases b1 with
  | false => exact iteF k
  | true => exact iteT ⟨_, rfl, _, _, _, _, _, rfl, .ty _, ty, kit_ty h2, _, rfl, k⟩
def sp_isWord (K : PySem.W.Frag) : Sp := fun vs H Q _ => ∃ (v : V), vs = [v] ∧ ((∃ z : Str, v = .str z ∧ z.length ≤ sizeLine ∧ ∀ H', Kp [] H H' → Q (.bl (isWord z)) H') ∨ (∃ t, TyX K H v (.type t) ∧ kitB t "str" = some false ∧ Q (.bl false) H))
theorem ok_isWord (T : Tx K mg) : FnOk P w K mg base CX0 1 T.f_isWord T.d_isWord ["thing"] (sp_isWord K) := by
  refine T.F_isWord.ok sc_isWord (by walk_at "len") (fun cdv A outer s H vs Q E hr h => ?_)
  obtain ⟨v, rfl, h⟩ := h
  refine ⟨_, (pss_cons (ps_if (PW.pt (pw_or (pt_not (pt_val (pe_callB (kIsi K) (by rfl) T.z_isinstance (by decide +kernel) (pa_cons (pv 0) (pa_cons (pe_bltn (v := .ty "str") (by rfl) T.z_str (by decide +kernel) rfl) pa_nil))))) (pw_or1 (pt_not (pt_chain op_lt op_le pe_int (pe_callB call_len_str (by rfl) T.z_len PySem.boot_len (pa_cons (pv 0) pa_nil)) (pe_glob rfl T.g_MOST_SIGNS T.r_MOST_SIGNS))))))
        (pss_one (ps_ret pe_bl))
        pss_nil)
    (pss_one (ps_ret (pe_callB (kAll K) (by rfl) T.z_all (by decide +kernel) (pa_cons (pe_lc (own := [("sign", 1)]) (g := gName 1) (tt := tYes) rfl sc_isWord.nd (pi_str (pv 0)) (blkOk_by (own := [("sign", 1)]) (N := nm_isWord) (sc := defScope s_isWord) (by decide +kernel)) (fun _ _ _ _ _ => (pg_name (i := 1) sc_isWord.nd rfl (Or.inl rfl))) (fun _ _ _ _ _ => pts_nil) (fun _ _ _ _ _ => (pe_cmpR op_in_sign (pv 1) (pe_glob rfl T.g_LETTERS T.r_LETTERS) rfl))) pa_nil))))), ?_⟩
  rcases h with ⟨z, rfl, hz, k⟩ | ⟨t, ty, h2, k⟩
  · have bad : isWord z = false → Q (.bl false) H := fun e => by
      have q := k H (Kp.refl _ _)
      rw [e] at q
      exact q
    refine ⟨_, rfl, _, _, _, _, _, rfl, .ty _, isS, kit_ty (r := true) (by decide +kernel), _, rfl, ?_⟩
    refine iteF ⟨_, rfl, z, rfl, hz, _, _, rfl, rfl, _, rfl, ?_⟩
    refine ite2 (fun h0 => ?_) fun h0 => ?_
    · have h0 : 0 < z.length := by
        have := of_decide_eq_true h0
        omega
      refine ⟨_, _, rfl, rfl, _, rfl, ?_⟩
      by_cases h1 : ((z.length : Nat) : Int) ≤ 12
      · rw [decide_eq_true h1]
        refine iteF ⟨_, rfl, _, rfl, ?_⟩
        intro D hD
        refine lc_it (walk_str (z := z)) (fun i H' => Kp [] H H' ∧ H' D = some (.lst (((z.cps.toList.take i).map fun c => decide (c ∈ letters.cps.toList)).map V.bl))) ⟨(Kp.refl _ _).new hD, by simpa using upd_same⟩ (fun _ _ _ _ => trivial) ?_ ?_
        · rintro i x H1 H2 hi ⟨kp, hd⟩ ⟨rfl, c, hc, rfl⟩
          refine ⟨rfl, tYes_go (iteT ⟨_, rfl, c, _, rfl, rfl, _, hd, ?_, kp.lst (.inr hD) hd, ?_⟩)⟩
          · have : z.cps.size ≤ 12 := by
              have : z.length ≤ 12 := by omega
              exact this
            exact small1000 (by simp; omega)
          · have hc' : z.cps.toList[i]? = some c := by rw [Array.getElem?_toList]; exact hc
            rw [upd_same, take_snoc hc']
            simp [letters]
        · rintro H1 ⟨kp, hd⟩
          refine ⟨D, _, rfl, SqL.of hd, ?_⟩
          have e : isWord z = (((z.cps.toList.take z.cps.size).map fun c => decide (c ∈ letters.cps.toList)).all id) := by
            have e1 : z.cps.toList.take z.cps.size = z.cps.toList := List.take_of_length_le (by simp)
            rw [e1]
            unfold isWord
            rw [decide_eq_true h0, decide_eq_true (show z.length ≤ 12 by omega), List.all_map]
            rfl
          rw [← e]
          exact k _ kp
      · rw [decide_eq_false h1]
        refine iteT (bad ?_)
        unfold isWord
        rw [decide_eq_false (show ¬ z.length ≤ 12 by omega), Bool.and_false, Bool.false_and]
    · refine ⟨_, rfl, iteT (bad ?_)⟩
      have h0 : ¬ (0 < z.length) := fun q => h0 (decide_eq_true (by omega))
      unfold isWord
      rw [decide_eq_false h0, Bool.false_and, Bool.false_and]
  · exact ⟨_, rfl, _, _, _, _, _, rfl, .ty _, ty, kit_ty h2, _, rfl, iteT (iteT k)⟩
def sp_needWord (K : PySem.W.Frag) : Sp := fun vs H Q _ => ∃ (z : Str), vs = [.str z] ∧ isWord z = true ∧ z.length ≤ sizeLine ∧ ∀ H', Kp [] H H' → Q (.str z) H'
theorem ok_needWord (T : Tx K mg) : FnOk P w K mg base CX0 2 T.f_needWord T.d_needWord ["thing"] (sp_needWord K) := by
  refine T.F_needWord.ok sc_needWord (by walk_at "len") (fun cdv A outer s H vs Q E hr h => ?_)
  obtain ⟨z, rfl, hw, hz, k⟩ := h
  refine ⟨_, (pss_cons (ps_if (pt_not (pt_val (pe_call (ok_isWord T) (hr.mono (by decide)) rfl T.g_isWord T.F_isWord.kp T.b_isWord .nil pass0 (pa_cons (pv 0) pa_nil))))
        (pss_one ps_never)
        pss_nil)
    (pss_one (ps_ret (pv 0)))), ?_⟩
  refine ⟨_, rfl, _, rfl, .inl ⟨z, rfl, hz, fun H1 kp => ⟨_, rfl, ?_⟩⟩⟩
  rw [hw]
  exact iteF ⟨_, rfl, k _ kp⟩
/-! ### deeds and handlers -/
def Deed.ok : Deed → Bool
  | .now x => isWord x | .soon x => isWord x | .wait n x => decide (0 ≤ n) && decide (n ≤ 1000000000) && isWord x | .cancel x => isWord x
  | .join x => isWord x | .leave x => isWord x | .hush => true
def sp_isDeed (K : PySem.W.Frag) : Sp := fun vs H Q _ => ∃ (v : V) (d : Deed), vs = [v] ∧ DeedAt H v d ∧ d.ok = true ∧ ∀ H', Kp [] H H' → Q (.bl true) H'
theorem ok_isDeed (T : Tx K mg) : FnOk P w K mg base CX0 2 T.f_isDeed T.d_isDeed ["thing"] (sp_isDeed K) := by
  refine T.F_isDeed.ok sc_isDeed (by walk_at "len") (fun cdv A outer s H vs Q E hr h => ?_)
  obtain ⟨v, d, rfl, ⟨p, rfl, hp⟩, hok, k⟩ := h
  refine ⟨_, (pss_cons (ps_if (PW.pt (pw_or (pt_not (pt_val (pe_callB (kIsi K) (by rfl) T.z_isinstance (by decide +kernel) (pa_cons (pv 0) (pa_cons (pe_bltn (v := .ty "tuple") (by rfl) T.z_tuple (by decide +kernel) rfl) pa_nil))))) (pw_or (pt_cmpR op_eq (pe_callB (kLen K) (by rfl) T.z_len PySem.boot_len (pa_cons (pv 0) pa_nil)) pe_int (nomark _)) (pw_or1 (pt_not (pt_val (pe_callB (kIsi K) (by rfl) T.z_isinstance (by decide +kernel) (pa_cons (pe_ix (kIxT K) (pv 0) pe_int (fun _ _ => rfl)) (pa_cons (pe_bltn (v := .ty "str") (by rfl) T.z_str (by decide +kernel) rfl) pa_nil)))))))))
        (pss_one (ps_ret pe_bl))
        pss_nil)
    (pss_cons (ps_if (pt_cmpR op_eq (pe_ix (kIxT K) (pv 0) pe_int (fun _ _ => rfl)) pe_str (nomark _))
        (pss_one (ps_ret (pe_cmpR op_eq (pe_callB (kLen K) (by rfl) T.z_len PySem.boot_len (pa_cons (pv 0) pa_nil)) pe_int (nomark _))))
        pss_nil)
    (pss_cons (ps_if (pt_cmpR op_eq (pe_ix (kIxT K) (pv 0) pe_int (fun _ _ => rfl)) pe_str (nomark _))
        (pss_one (ps_ret (pe_and (pe_cmpR op_eq (pe_callB (kLen K) (by rfl) T.z_len PySem.boot_len (pa_cons (pv 0) pa_nil)) pe_int (nomark _)) (pe_and (pe_call (ok_isWhole T) (hr.mono (by decide)) rfl T.g_isWhole T.F_isWhole.kp T.b_isWhole .nil pass0 (pa_cons (pe_ix (kIxT K) (pv 0) pe_int (fun _ _ => rfl)) pa_nil)) (pe_and (pe_chain op_le op_le pe_int (pe_ix (kIxT K) (pv 0) pe_int (fun _ _ => rfl)) (pe_glob rfl T.g_MOST_TICKS T.r_MOST_TICKS)) (pe_one (pe_call (ok_isWord T) (hr.mono (by decide)) rfl T.g_isWord T.F_isWord.kp T.b_isWord .nil pass0 (pa_cons (pe_ix (kIxT K) (pv 0) pe_int (fun _ _ => rfl)) pa_nil))))))))
        pss_nil)
    (pss_one (ps_ret (pe_and (pe_cmpR (kIn K) (pe_ix (kIxT K) (pv 0) pe_int (fun _ _ => rfl)) (pe_glob (v := .ref T.a_WORDED) rfl T.g_WORDED rfl) rfl) (pe_and (pe_cmpR op_eq (pe_callB (kLen K) (by rfl) T.z_len PySem.boot_len (pa_cons (pv 0) pa_nil)) pe_int (nomark _)) (pe_one (pe_call (ok_isWord T) (hr.mono (by decide)) rfl T.g_isWord T.F_isWord.kp T.b_isWord .nil pass0 (pa_cons (pe_ix (kIxT K) (pv 0) pe_int (fun _ _ => rfl)) pa_nil)))))))))), ?_⟩
  have hK := k H (Kp.refl _ _)
  refine ⟨_, rfl, _, _, _, _, _, rfl, .ty _, isT hp, kit_ty (r := true) (by decide +kernel), _, rfl, iteF ?_⟩
  refine ⟨_, rfl, p, _, rfl, .inr (SqT.of hp), rfl, _, rfl, ?_⟩
  have len0 : decide (V.int ((d.vals.length : Nat) : Int) = V.int 0) = false := by cases d <;> rfl
  rw [len0]
  refine iteF ?_
  obtain ⟨tg, rest, ev⟩ : ∃ tg rest, d.vals = V.str tg :: rest := by cases d <;> exact ⟨_, _, rfl⟩
  have hp' := hp
  rw [ev] at hp'
  refine ⟨_, rfl, p, _, _, _, rfl, rfl, SqT.of hp', at0, _, _, _, _, _, rfl, .ty _, isS, kit_ty (r := true) (by decide +kernel), _, rfl, iteF ?_⟩
  refine ⟨_, rfl, p, _, _, _, rfl, rfl, SqT.of hp', at0, rfl, _, rfl, ?_⟩
  have wd : ∀ z, isWord z = true → z.length ≤ sizeLine := fun z h => by
    unfold isWord at h
    simp only [Bool.and_eq_true, decide_eq_true_eq] at h
    exact Nat.le_trans h.1.2 (by decide)
  cases d with
  | hush =>
    cases ev
    refine iteT ⟨_, rfl, p, _, rfl, .inr (SqT.of hp), rfl, hK⟩
  | wait n x =>
    cases ev
    simp only [Deed.ok, Bool.and_eq_true, decide_eq_true_eq] at hok
    rw [(by decide +kernel : decide (V.str "wait" = V.str "hush") = false)]
    refine iteF ⟨_, rfl, p, _, _, _, rfl, rfl, SqT.of hp, at0, rfl, _, rfl, ?_⟩
    rw [(by decide +kernel : decide (V.str "wait" = V.str "wait") = true)]
    refine iteT ⟨_, rfl, p, _, rfl, .inr (SqT.of hp), rfl, _, rfl, iteT ?_⟩
    refine ⟨_, rfl, p, _, _, _, rfl, rfl, SqT.of hp, at1, _, _, _, _, rfl, isI, (by decide +kernel : kitB "int" "int" = some true), (by decide +kernel : kitB "int" "bool" = some false), _, rfl, iteT ?_⟩
    refine ⟨_, rfl, p, _, _, _, rfl, rfl, SqT.of hp, at1, _, _, rfl, rfl, _, rfl, ?_⟩
    rw [decide_eq_true hok.1.1]
    refine iteT ⟨_, _, rfl, rfl, _, rfl, ?_⟩
    rw [decide_eq_true hok.1.2]
    refine iteT ⟨_, rfl, p, _, _, _, rfl, rfl, SqT.of hp, at2, _, rfl, .inl ⟨x, rfl, wd x hok.2, fun H1 kp => ?_⟩⟩
    rw [hok.2]
    exact k _ kp
  | now x =>
    cases ev
    rw [(by decide +kernel : decide (V.str "now" = V.str "hush") = false)]
    refine iteF ⟨_, rfl, p, _, _, _, rfl, rfl, SqT.of hp, at0, rfl, _, rfl, ?_⟩
    rw [(by decide +kernel : decide (V.str "now" = V.str "wait") = false)]
    refine iteF ⟨_, rfl, p, _, _, _, rfl, rfl, SqT.of hp, at0, _, _, rfl, .inr (T.t_WORDED H), rfl, rfl, _, rfl, ?_⟩
    refine iteT' (by decide +kernel) ⟨_, rfl, p, _, rfl, .inr (SqT.of hp), rfl, _, rfl, iteT ?_⟩
    refine ⟨_, rfl, p, _, _, _, rfl, rfl, SqT.of hp, at1, _, rfl, .inl ⟨x, rfl, wd x hok, fun H1 kp => ?_⟩⟩
    rw [show isWord x = true from hok]
    exact k _ kp
  | soon x =>
    cases ev
    rw [(by decide +kernel : decide (V.str "soon" = V.str "hush") = false)]
    refine iteF ⟨_, rfl, p, _, _, _, rfl, rfl, SqT.of hp, at0, rfl, _, rfl, ?_⟩
    rw [(by decide +kernel : decide (V.str "soon" = V.str "wait") = false)]
    refine iteF ⟨_, rfl, p, _, _, _, rfl, rfl, SqT.of hp, at0, _, _, rfl, .inr (T.t_WORDED H), rfl, rfl, _, rfl, ?_⟩
    refine iteT' (by decide +kernel) ⟨_, rfl, p, _, rfl, .inr (SqT.of hp), rfl, _, rfl, iteT ?_⟩
    refine ⟨_, rfl, p, _, _, _, rfl, rfl, SqT.of hp, at1, _, rfl, .inl ⟨x, rfl, wd x hok, fun H1 kp => ?_⟩⟩
    rw [show isWord x = true from hok]
    exact k _ kp
  | cancel x =>
    cases ev
    rw [(by decide +kernel : decide (V.str "cancel" = V.str "hush") = false)]
    refine iteF ⟨_, rfl, p, _, _, _, rfl, rfl, SqT.of hp, at0, rfl, _, rfl, ?_⟩
    rw [(by decide +kernel : decide (V.str "cancel" = V.str "wait") = false)]
    refine iteF ⟨_, rfl, p, _, _, _, rfl, rfl, SqT.of hp, at0, _, _, rfl, .inr (T.t_WORDED H), rfl, rfl, _, rfl, ?_⟩
    refine iteT' (by decide +kernel) ⟨_, rfl, p, _, rfl, .inr (SqT.of hp), rfl, _, rfl, iteT ?_⟩
    refine ⟨_, rfl, p, _, _, _, rfl, rfl, SqT.of hp, at1, _, rfl, .inl ⟨x, rfl, wd x hok, fun H1 kp => ?_⟩⟩
    rw [show isWord x = true from hok]
    exact k _ kp
  | join x =>
    cases ev
    rw [(by decide +kernel : decide (V.str "join" = V.str "hush") = false)]
    refine iteF ⟨_, rfl, p, _, _, _, rfl, rfl, SqT.of hp, at0, rfl, _, rfl, ?_⟩
    rw [(by decide +kernel : decide (V.str "join" = V.str "wait") = false)]
    refine iteF ⟨_, rfl, p, _, _, _, rfl, rfl, SqT.of hp, at0, _, _, rfl, .inr (T.t_WORDED H), rfl, rfl, _, rfl, ?_⟩
    refine iteT' (by decide +kernel) ⟨_, rfl, p, _, rfl, .inr (SqT.of hp), rfl, _, rfl, iteT ?_⟩
    refine ⟨_, rfl, p, _, _, _, rfl, rfl, SqT.of hp, at1, _, rfl, .inl ⟨x, rfl, wd x hok, fun H1 kp => ?_⟩⟩
    rw [show isWord x = true from hok]
    exact k _ kp
  | leave x =>
    cases ev
    rw [(by decide +kernel : decide (V.str "leave" = V.str "hush") = false)]
    refine iteF ⟨_, rfl, p, _, _, _, rfl, rfl, SqT.of hp, at0, rfl, _, rfl, ?_⟩
    rw [(by decide +kernel : decide (V.str "leave" = V.str "wait") = false)]
    refine iteF ⟨_, rfl, p, _, _, _, rfl, rfl, SqT.of hp, at0, _, _, rfl, .inr (T.t_WORDED H), rfl, rfl, _, rfl, ?_⟩
    refine iteT' (by decide +kernel) ⟨_, rfl, p, _, rfl, .inr (SqT.of hp), rfl, _, rfl, iteT ?_⟩
    refine ⟨_, rfl, p, _, _, _, rfl, rfl, SqT.of hp, at1, _, rfl, .inl ⟨x, rfl, wd x hok, fun H1 kp => ?_⟩⟩
    rw [show isWord x = true from hok]
    exact k _ kp
/-- a handler that is handed in: its deeds a list or a tuple -/
def HndIn (H : Hp) (v : V) (h : Hnd) : Prop := ∃ p q ds, v = .ref p ∧ H p = some (.tup [.str h.name, .int h.rank, .str h.hears, .bl h.once, .ref q]) ∧ (H q = some (.lst ds) ∨ H q = some (.tup ds)) ∧ Paired (DeedAt H) ds h.deeds
def Hnd.ok (h : Hnd) : Bool := isWord h.name && (isWord h.hears || decide (h.hears = Str.empty)) && decide (h.deeds.length ≤ 30) && h.deeds.all Deed.ok
theorem HndIn.kp {H H' : Hp} (k : Kp [] H H') {v : V} {h : Hnd} (x : HndIn H v h) : HndIn H' v h := by
  obtain ⟨p, q, ds, e, h1, h2, h3⟩ := x
  exact ⟨p, q, ds, e, k.keep0 h1, h2.elim (fun z => .inl (k.keep0 z)) fun z => .inr (k.keep0 z), Pd.mono (fun _ _ => DeedAt.tk k.tk) h3⟩
def sp_isHandler (K : PySem.W.Frag) : Sp := fun vs H Q _ => ∃ (v : V) (h : Hnd), vs = [v] ∧ HndIn H v h ∧ h.ok = true ∧ ∀ H', Kp [] H H' → Q (.bl true) H'
theorem ok_isHandler (T : Tx K mg) : FnOk P w K mg base CX0 3 T.f_isHandler T.d_isHandler ["thing"] (sp_isHandler K) := by
  refine T.F_isHandler.ok sc_isHandler (by walk_at "len") (fun cdv A outer s H vs Q E hr h => ?_)
  obtain ⟨v, d, rfl, ⟨p, q, ds, rfl, hp, hq, hds⟩, hok, k⟩ := h
  have wd : ∀ z, isWord z = true → z.length ≤ sizeLine := fun z h => by
    unfold isWord at h
    simp only [Bool.and_eq_true, decide_eq_true_eq] at h
    exact Nat.le_trans h.1.2 (by decide)
  unfold Hnd.ok at hok
  simp only [Bool.and_eq_true, Bool.or_eq_true, decide_eq_true_eq, List.all_eq_true] at hok
  obtain ⟨⟨⟨ok1, ok2⟩, ok3⟩, ok4⟩ := hok
  rcases hq with hq | hq
  · refine ⟨_, (pss_cons (ps_if (PW.pt (pw_or (pt_not (pt_val (pe_callB (kIsi K) (by rfl) T.z_isinstance (by decide +kernel) (pa_cons (pv 0) (pa_cons (pe_bltn (v := .ty "tuple") (by rfl) T.z_tuple (by decide +kernel) rfl) pa_nil))))) (pw_or1 (pt_cmpR op_ne (pe_callB (kLen K) (by rfl) T.z_len PySem.boot_len (pa_cons (pv 0) pa_nil)) pe_int (nomark _)))))
        (pss_one (ps_ret pe_bl))
        pss_nil)
    (pss_cons (ps_asg (pv 0) (kTup K (pgs_cons (pg_name (i := 1) sc_isHandler.nd rfl (Or.inl rfl)) (pgs_cons (pg_name (i := 2) sc_isHandler.nd rfl (Or.inl rfl)) (pgs_cons (pg_name (i := 3) sc_isHandler.nd rfl (Or.inl rfl)) (pgs_cons (pg_name (i := 4) sc_isHandler.nd rfl (Or.inl rfl)) (pgs_cons (pg_name (i := 5) sc_isHandler.nd rfl (Or.inl rfl)) pgs_nil)))))))
    (pss_cons (ps_if (PW.pt (pw_or (pt_not (pt_val (pe_call (ok_isWord T) (hr.mono (by decide)) rfl T.g_isWord T.F_isWord.kp T.b_isWord .nil pass0 (pa_cons (pv 1) pa_nil)))) (pw_or (pt_not (pt_val (pe_call (ok_isWhole T) (hr.mono (by decide)) rfl T.g_isWhole T.F_isWhole.kp T.b_isWhole .nil pass0 (pa_cons (pv 2) pa_nil)))) (pw_or1 (pt_not (pt_val (pe_callB (kIsi K) (by rfl) T.z_isinstance (by decide +kernel) (pa_cons (pv 4) (pa_cons (pe_bltn (v := .ty "bool") (by rfl) T.z_bool (by decide +kernel) rfl) pa_nil)))))))))
        (pss_one (ps_ret pe_bl))
        pss_nil)
    (pss_cons (ps_if (PW.pt (pw_and (pt_not (pt_val (pe_call (ok_isWord T) (hr.mono (by decide)) rfl T.g_isWord T.F_isWord.kp T.b_isWord .nil pass0 (pa_cons (pv 3) pa_nil)))) (pw_and1 (pt_not (PW.pt (pw_and (pt_val (pe_callB (kIsi K) (by rfl) T.z_isinstance (by decide +kernel) (pa_cons (pv 3) (pa_cons (pe_bltn (v := .ty "str") (by rfl) T.z_str (by decide +kernel) rfl) pa_nil)))) (pw_and1 (pt_cmpR op_eq (pv 3) pe_str (nomark _)))))))))
        (pss_one (ps_ret pe_bl))
        pss_nil)
    (pss_cons (ps_if (PW.pt (pw_or (pt_not (pt_val (pe_callB (kIsiT K) (by rfl) T.z_isinstance (by decide +kernel) (pa_cons (pv 5) (pa_cons (pe_tup (pa_cons (pe_bltn (v := .ty "list") (by rfl) T.z_list (by decide +kernel) rfl) (pa_cons (pe_bltn (v := .ty "tuple") (by rfl) T.z_tuple (by decide +kernel) rfl) pa_nil))) pa_nil))))) (pw_or1 (pt_cmpR op_gt (pe_callB (kLen K) (by rfl) T.z_len PySem.boot_len (pa_cons (pv 5) pa_nil)) (pe_glob rfl T.g_MOST_DEEDS T.r_MOST_DEEDS) (nomark _)))))
        (pss_one (ps_ret pe_bl))
        pss_nil)
    (pss_one (ps_ret (pe_callB (kAll K) (by rfl) T.z_all (by decide +kernel) (pa_cons (pe_lc (own := [("deed", 6)]) (g := gName 6) (tt := tYes) rfl sc_isHandler.nd (pi_list (pv 5)) (blkOk_by (own := [("deed", 6)]) (N := nm_isHandler) (sc := defScope s_isHandler) (by decide +kernel)) (fun _ _ _ _ _ => (pg_name (i := 6) sc_isHandler.nd rfl (Or.inl rfl))) (fun _ _ _ _ _ => pts_nil) (fun _ _ _ _ _ => (pe_call (ok_isDeed T) (hr.mono (by decide)) rfl T.g_isDeed T.F_isDeed.kp T.b_isDeed .nil pass0 (pa_cons (pv 6) pa_nil)))) pa_nil))))))))), ?_⟩
    refine ⟨_, rfl, _, _, _, _, _, rfl, .ty _, isT hp, kit_ty (r := true) (by decide +kernel), _, rfl, iteF ?_⟩
    refine ⟨_, rfl, p, _, rfl, .inr (SqT.of hp), rfl, _, rfl, iteF' rfl ?_⟩
    refine ⟨_, rfl, p, _, rfl, SqT.of hp, rfl, _, _, rfl, _, _, rfl, _, _, rfl, _, _, rfl, _, _, rfl, rfl, ?_⟩
    refine ⟨_, rfl, _, rfl, .inl ⟨_, rfl, wd _ ok1, fun H1 k1 => ⟨_, rfl, iteF' (by rw [ok1]; rfl) ?_⟩⟩⟩
    refine ⟨_, rfl, _, _, _, _, rfl, isI, (by decide +kernel : kitB "int" "int" = some true), (by decide +kernel : kitB "int" "bool" = some false), _, rfl, iteF ?_⟩
    refine ⟨_, rfl, _, _, _, _, _, rfl, .ty _, isB, kit_ty (r := true) (by decide +kernel), _, rfl, iteF ?_⟩
    have hl2 : d.hears.length ≤ sizeLine := by
      rcases ok2 with h | h
      · exact wd _ h
      · rw [h]; decide
    refine ⟨_, rfl, _, rfl, .inl ⟨_, rfl, hl2, fun H2 k2 => ⟨_, rfl, ?_⟩⟩⟩
    have fin : ∀ {D : Ends} {tz : TS} , True := fun {_ _} => trivial
    have k12 := k1.trans k2
    have rest : ∀ {A B : Prop}, (isWord d.hears = true → B) → (isWord d.hears = false → A) → (if (!isWord d.hears) = true then A else B) := fun {A B} hb ha => by
      cases e : isWord d.hears with
      | true => exact iteF (hb e)
      | false => exact iteT (ha e)
    refine rest (fun _ => iteF ?_) fun e => ?_
    rotate_left
    have e2 : d.hears = "" := by
      rcases ok2 with h | h
      · rw [h] at e; cases e
      · exact h
    refine ⟨_, rfl, _, _, _, _, _, rfl, .ty _, isS, kit_ty (r := true) (by decide +kernel), _, rfl, iteT ⟨_, rfl, rfl, _, rfl, ?_⟩⟩
    rw [e2, (by decide +kernel : decide (V.str "" = V.str "") = true)]
    refine iteF ?_
    all_goals
      refine ⟨_, rfl, (by show 2 ≤ sizeLine; decide), fun t ht => ⟨_, t, _, _, _, true, rfl, upd_same, .cons (.ty _) (.cons (.ty _) .nil), isL ((k12.new ht).keep0 hq), kitAny_cons (b := true) (kit_ty (by decide +kernel)) (fun z => by cases z) (fun _ => rfl), _, rfl, iteF ?_⟩⟩
      have k3 := k12.new (o := .tup [V.ty "list", V.ty "tuple"]) ht
      refine ⟨_, rfl, q, _, rfl, .inl (SqL.of (k3.keep0 hq)), _, _, rfl, rfl, _, rfl, ?_⟩
      rw [decide_eq_false (show ¬ (30 : Int) < ((ds.length : Nat) : Int) from by have := Pd.len hds; omega)]
      refine iteF ?_
      walk_at "nf"
      refine lc_go ?_
      refine ⟨_, rfl, q, rfl, ⟨_, SqL.of (k3.keep0 hq)⟩, ?_⟩
      refine lc_pd hds (Nat.lt_of_le_of_lt ok3 (by decide)) (fun D pre acc H' => Kp [] H H' ∧ acc = (pre.map fun _ => true).map V.bl) (fun D hD => ⟨k3.new hD, rfl⟩) (fun D pre acc H' hD e ⟨kp, _⟩ => SqL.of (kp.keep0 hq)) ?_
        (fun D acc H' hD e ⟨kp, ea⟩ => ⟨D, d.deeds.map fun _ => true, rfl, SqL.of (ea ▸ e), ?_⟩)
      · rintro D pre acc x dd post H' Yes No hD ed r e ⟨kp, rfl⟩ yes no
        refine ⟨rfl, tYes_go (iteT ⟨_, rfl, x, dd, rfl, r.tk kp.tk, ok4 _ (by rw [ed]; simp), fun H4 k4 => yes _ _ (k4.keep0 e) ⟨(kp.trans k4).lst (.inr (k3.dom _ hD)) (k4.keep0 e), by simp⟩⟩)⟩
      · have : ((d.deeds.map fun _ => true).all id) = true := by simp
        rw [this]
        exact k _ kp
  · refine ⟨_, (pss_cons (ps_if (PW.pt (pw_or (pt_not (pt_val (pe_callB (kIsi K) (by rfl) T.z_isinstance (by decide +kernel) (pa_cons (pv 0) (pa_cons (pe_bltn (v := .ty "tuple") (by rfl) T.z_tuple (by decide +kernel) rfl) pa_nil))))) (pw_or1 (pt_cmpR op_ne (pe_callB (kLen K) (by rfl) T.z_len PySem.boot_len (pa_cons (pv 0) pa_nil)) pe_int (nomark _)))))
        (pss_one (ps_ret pe_bl))
        pss_nil)
    (pss_cons (ps_asg (pv 0) (kTup K (pgs_cons (pg_name (i := 1) sc_isHandler.nd rfl (Or.inl rfl)) (pgs_cons (pg_name (i := 2) sc_isHandler.nd rfl (Or.inl rfl)) (pgs_cons (pg_name (i := 3) sc_isHandler.nd rfl (Or.inl rfl)) (pgs_cons (pg_name (i := 4) sc_isHandler.nd rfl (Or.inl rfl)) (pgs_cons (pg_name (i := 5) sc_isHandler.nd rfl (Or.inl rfl)) pgs_nil)))))))
    (pss_cons (ps_if (PW.pt (pw_or (pt_not (pt_val (pe_call (ok_isWord T) (hr.mono (by decide)) rfl T.g_isWord T.F_isWord.kp T.b_isWord .nil pass0 (pa_cons (pv 1) pa_nil)))) (pw_or (pt_not (pt_val (pe_call (ok_isWhole T) (hr.mono (by decide)) rfl T.g_isWhole T.F_isWhole.kp T.b_isWhole .nil pass0 (pa_cons (pv 2) pa_nil)))) (pw_or1 (pt_not (pt_val (pe_callB (kIsi K) (by rfl) T.z_isinstance (by decide +kernel) (pa_cons (pv 4) (pa_cons (pe_bltn (v := .ty "bool") (by rfl) T.z_bool (by decide +kernel) rfl) pa_nil)))))))))
        (pss_one (ps_ret pe_bl))
        pss_nil)
    (pss_cons (ps_if (PW.pt (pw_and (pt_not (pt_val (pe_call (ok_isWord T) (hr.mono (by decide)) rfl T.g_isWord T.F_isWord.kp T.b_isWord .nil pass0 (pa_cons (pv 3) pa_nil)))) (pw_and1 (pt_not (PW.pt (pw_and (pt_val (pe_callB (kIsi K) (by rfl) T.z_isinstance (by decide +kernel) (pa_cons (pv 3) (pa_cons (pe_bltn (v := .ty "str") (by rfl) T.z_str (by decide +kernel) rfl) pa_nil)))) (pw_and1 (pt_cmpR op_eq (pv 3) pe_str (nomark _)))))))))
        (pss_one (ps_ret pe_bl))
        pss_nil)
    (pss_cons (ps_if (PW.pt (pw_or (pt_not (pt_val (pe_callB (kIsiT K) (by rfl) T.z_isinstance (by decide +kernel) (pa_cons (pv 5) (pa_cons (pe_tup (pa_cons (pe_bltn (v := .ty "list") (by rfl) T.z_list (by decide +kernel) rfl) (pa_cons (pe_bltn (v := .ty "tuple") (by rfl) T.z_tuple (by decide +kernel) rfl) pa_nil))) pa_nil))))) (pw_or1 (pt_cmpR op_gt (pe_callB (kLen K) (by rfl) T.z_len PySem.boot_len (pa_cons (pv 5) pa_nil)) (pe_glob rfl T.g_MOST_DEEDS T.r_MOST_DEEDS) (nomark _)))))
        (pss_one (ps_ret pe_bl))
        pss_nil)
    (pss_one (ps_ret (pe_callB (kAll K) (by rfl) T.z_all (by decide +kernel) (pa_cons (pe_lc (own := [("deed", 6)]) (g := gName 6) (tt := tYes) rfl sc_isHandler.nd (pi_tup (pv 5)) (blkOk_by (own := [("deed", 6)]) (N := nm_isHandler) (sc := defScope s_isHandler) (by decide +kernel)) (fun _ _ _ _ _ => (pg_name (i := 6) sc_isHandler.nd rfl (Or.inl rfl))) (fun _ _ _ _ _ => pts_nil) (fun _ _ _ _ _ => (pe_call (ok_isDeed T) (hr.mono (by decide)) rfl T.g_isDeed T.F_isDeed.kp T.b_isDeed .nil pass0 (pa_cons (pv 6) pa_nil)))) pa_nil))))))))), ?_⟩
    refine ⟨_, rfl, _, _, _, _, _, rfl, .ty _, isT hp, kit_ty (r := true) (by decide +kernel), _, rfl, iteF ?_⟩
    refine ⟨_, rfl, p, _, rfl, .inr (SqT.of hp), rfl, _, rfl, iteF' rfl ?_⟩
    refine ⟨_, rfl, p, _, rfl, SqT.of hp, rfl, _, _, rfl, _, _, rfl, _, _, rfl, _, _, rfl, _, _, rfl, rfl, ?_⟩
    refine ⟨_, rfl, _, rfl, .inl ⟨_, rfl, wd _ ok1, fun H1 k1 => ⟨_, rfl, iteF' (by rw [ok1]; rfl) ?_⟩⟩⟩
    refine ⟨_, rfl, _, _, _, _, rfl, isI, (by decide +kernel : kitB "int" "int" = some true), (by decide +kernel : kitB "int" "bool" = some false), _, rfl, iteF ?_⟩
    refine ⟨_, rfl, _, _, _, _, _, rfl, .ty _, isB, kit_ty (r := true) (by decide +kernel), _, rfl, iteF ?_⟩
    have hl2 : d.hears.length ≤ sizeLine := by
      rcases ok2 with h | h
      · exact wd _ h
      · rw [h]; decide
    refine ⟨_, rfl, _, rfl, .inl ⟨_, rfl, hl2, fun H2 k2 => ⟨_, rfl, ?_⟩⟩⟩
    have fin : ∀ {D : Ends} {tz : TS} , True := fun {_ _} => trivial
    have k12 := k1.trans k2
    have rest : ∀ {A B : Prop}, (isWord d.hears = true → B) → (isWord d.hears = false → A) → (if (!isWord d.hears) = true then A else B) := fun {A B} hb ha => by
      cases e : isWord d.hears with
      | true => exact iteF (hb e)
      | false => exact iteT (ha e)
    refine rest (fun _ => iteF ?_) fun e => ?_
    rotate_left
    have e2 : d.hears = "" := by
      rcases ok2 with h | h
      · rw [h] at e; cases e
      · exact h
    refine ⟨_, rfl, _, _, _, _, _, rfl, .ty _, isS, kit_ty (r := true) (by decide +kernel), _, rfl, iteT ⟨_, rfl, rfl, _, rfl, ?_⟩⟩
    rw [e2, (by decide +kernel : decide (V.str "" = V.str "") = true)]
    refine iteF ?_
    all_goals
      refine ⟨_, rfl, (by show 2 ≤ sizeLine; decide), fun t ht => ⟨_, t, _, _, _, true, rfl, upd_same, .cons (.ty _) (.cons (.ty _) .nil), isT ((k12.new ht).keep0 hq), kitAny_cons (b := false) (kit_ty (by decide +kernel)) (fun _ => kitAny_cons (b := true) (kit_ty (by decide +kernel)) (fun z => by cases z) (fun _ => rfl)) (fun z => by cases z), _, rfl, iteF ?_⟩⟩
      have k3 := k12.new (o := .tup [V.ty "list", V.ty "tuple"]) ht
      refine ⟨_, rfl, q, _, rfl, .inr (SqT.of (k3.keep0 hq)), _, _, rfl, rfl, _, rfl, ?_⟩
      rw [decide_eq_false (show ¬ (30 : Int) < ((ds.length : Nat) : Int) from by have := Pd.len hds; omega)]
      refine iteF ?_
      walk_at "nf"
      refine lc_go ?_
      refine ⟨_, rfl, q, rfl, ⟨_, SqT.of (k3.keep0 hq)⟩, ?_⟩
      refine lc_pdT hds (Nat.lt_of_le_of_lt ok3 (by decide)) (fun D pre acc H' => Kp [] H H' ∧ acc = (pre.map fun _ => true).map V.bl) (fun D hD => ⟨k3.new hD, rfl⟩) (fun D pre acc H' hD e ⟨kp, _⟩ => SqT.of (kp.keep0 hq)) ?_
        (fun D acc H' hD e ⟨kp, ea⟩ => ⟨D, d.deeds.map fun _ => true, rfl, SqL.of (ea ▸ e), ?_⟩)
      · rintro D pre acc x dd post H' Yes No hD ed r e ⟨kp, rfl⟩ yes no
        refine ⟨rfl, tYes_go (iteT ⟨_, rfl, x, dd, rfl, r.tk kp.tk, ok4 _ (by rw [ed]; simp), fun H4 k4 => yes _ _ (k4.keep0 e) ⟨(kp.trans k4).lst (.inr (k3.dom _ hD)) (k4.keep0 e), by simp⟩⟩)⟩
      · have : ((d.deeds.map fun _ => true).all id) = true := by simp
        rw [this]
        exact k _ kp
end
end Ev
namespace Ev
open PySem L2
section
variable {P : Program} {w : World} {K : PySem.W.Frag} {mg : Str → Option Value} {base : Heap}
def handlerOf (hs : List Hnd) (x : Str) : Option Hnd := hs.find? fun h => decide (h.name = x)
def sp_handlerOf : Sp := fun vs H Q _ => ∃ (a : Addr) (x : Str) (hs : List Hnd) (h : Hnd), vs = [.ref a, .str x] ∧ LstAt HndAt H a hs ∧ handlerOf hs x = some h ∧ ∀ v, HndAt H v h → Q v H
theorem ok_handlerOf (T : Tx K mg) : FnOk P w K mg base CX0 1 T.f_handlerOf T.d_handlerOf ["handlers", "name"] (sp_handlerOf) := by
  refine T.F_handlerOf.ok sc_handlerOf (by walk_at "len") (fun cdv A outer s H vs Q E hr h => ?_)
  obtain ⟨a, x, hs, h, rfl, ⟨xs, ha, hx⟩, hf, k⟩ := h
  refine ⟨_, (pss_cons (ps_for PassesOwn.never rfl (pi_list (pv 0)) (pg_name (i := 2) sc_handlerOf.nd rfl (Or.inl rfl))
        (pss_one (ps_if (pt_cmpR op_eq (pe_ix (kIxT K) (pv 2) pe_int (fun _ _ => rfl)) (pv 1) (nomark _))
            (pss_one (ps_ret (pv 2)))
            pss_nil)))
    (pss_one ps_never)), ?_⟩
  refine seq_go ?_
  refine for_go ?_
  refine ⟨_, rfl, a, rfl, ⟨_, SqL.of ha⟩, ?_⟩
  refine for_pd hx (fun pre σ H' => H' = H ∧ (∃ o, σ = [some (.ref a), some (.str x), o]) ∧ pre.find? (fun h => decide (h.name = x)) = none) ⟨rfl, ⟨_, rfl⟩, rfl⟩ (fun pre σ H' q => by rw [q.1]; exact SqL.of ha) ?_ ?_
  · rintro pre v d post σ H' ed r ⟨rfl, ⟨o, rfl⟩, hn⟩
    obtain ⟨p, q, ds, rfl, hp, hq, hds⟩ := id r
    refine ⟨_, rfl, p, _, _, _, rfl, rfl, SqT.of hp, at0, _, rfl, rfl, _, rfl, ?_⟩
    by_cases hb : d.name = x
    · rw [decide_eq_true (by rw [hb])]
      refine iteT ⟨_, rfl, ?_⟩
      have e : handlerOf hs x = some d := by
        unfold handlerOf
        rw [ed, List.find?_append, hn, List.find?_cons, decide_eq_true hb]
        rfl
      rw [e] at hf
      cases hf
      exact k _ r
    · rw [decide_eq_false (fun q => hb (V.str.inj q))]
      refine iteF ⟨rfl, ⟨_, rfl⟩, ?_⟩
      rw [List.find?_append, hn, List.find?_cons, decide_eq_false hb]
      rfl
  · rintro σ H' ⟨rfl, _, hn⟩
    unfold handlerOf at hf
    rw [hn] at hf
    cases hf
def sp_needNames : Sp := fun vs H Q _ => ∃ (a b : Addr) (hs : List Hnd) (ns : List Str), vs = [.ref a, .ref b] ∧ LstAt HndAt H a hs ∧ H b = some (.lst (ns.map V.str)) ∧ hs.length ≤ 40 ∧ ns.Nodup ∧ (∀ x ∈ ns, x ∈ hs.map Hnd.name) ∧
  ∀ p H', H p = none → Kp [] H H' → H' p = some (.lst (ns.map V.str)) → Q (.ref p) H'
theorem ok_needNames (T : Tx K mg) : FnOk P w K mg base CX0 1 T.f_needNames T.d_needNames ["handlers", "names"] (sp_needNames) := by
  refine T.F_needNames.ok sc_needNames (by walk_at "len") (fun cdv A outer s H vs Q E hr h => ?_)
  obtain ⟨a, b, hs, ns, rfl, ⟨xs, ha, hx⟩, hb, hl, nd, hin, k⟩ := h
  have hns : ns.length ≤ 40 := Nat.le_trans (nodup_len nd hin) (by simpa using hl)
  refine ⟨_, (pss_cons (ps_set (i := 2) sc_needNames.nd rfl (Or.inl rfl) (pe_lst pa_nil))
    (pss_cons (ps_setLc (i := 3) (own := [("one", 5)]) (g := gName 5) (tt := tYes) rfl sc_needNames.nd rfl rfl (sw_true rfl rfl rfl (by decide +kernel)) (pi_list (pv 0)) (blkOk_by (own := [("one", 5)]) (N := nm_needNames) (sc := defScope s_needNames) (by decide +kernel)) (fun _ _ _ _ _ => (pg_name (i := 5) sc_needNames.nd rfl (Or.inl rfl))) (fun _ _ _ _ _ => pts_nil) (fun _ _ _ _ _ => (pe_ix (kIxT K) (pv 5) pe_int (fun _ _ => rfl))))
    (pss_cons (ps_for PassesOwn.never rfl (pi_list (pv 1)) (pg_name (i := 4) sc_needNames.nd rfl (Or.inl rfl))
        (pss_cons (ps_if (pt_cmpR (kNotIn K) (pv 4) (pv 3) rfl)
            (pss_one ps_never)
            pss_nil)
        (pss_cons (ps_if (pt_cmpR (kIn K) (pv 4) (pv 2) rfl)
            (pss_one ps_never)
            pss_nil)
        (pss_one (ps_expr (pe_bm PySem.F.plainAttrs_list PySem.F.slot_list_append PySem.F.type_list_append mt_append (pv 2) (pa_cons (pv 4) pa_nil)))))))
    (pss_one (ps_ret (pv 2)))))), ?_⟩
  refine ⟨Nat.zero_le _, fun f hf => ?_⟩
  walk_at "nf"
  refine lc_go ?_
  have k1 : Kp [] H (upd H f (.lst [])) := (Kp.refl _ _).new hf
  refine ⟨_, rfl, a, rfl, ⟨_, SqL.of (k1.keep0 ha)⟩, ?_⟩
  refine lc_mp hx (Nat.lt_of_le_of_lt hl (by decide)) (SqL.of (k1.keep0 ha)) (fun h => V.str h.name) (fun x => rfl) ?_ ?_
  · rintro v d H' Q' hd r kp q
    obtain ⟨p, q1, ds, rfl, hp, hq, hds⟩ := r
    exact ⟨_, rfl, p, _, _, _, rfl, rfl, SqT.of ((k1.trans kp).tk _ _ hp), at0, q _ (Kp.refl _ _)⟩
  · intro D H2 hD k2 hD2
    have k12 := k1.trans k2
    have e0 : hs.map (fun h => V.str h.name) = (hs.map Hnd.name).map V.str := by simp
    rw [e0] at hD2
    have nDf : D ≠ f := (upd_none hD).1
    refine for_go ?_
    refine ⟨_, rfl, b, rfl, ⟨_, SqL.of (k12.keep0 hb)⟩, ?_⟩
    refine for_pd (Pd.map (f := V.str) (R := fun v x => v = V.str x) fun _ _ => rfl) (fun pre σ H' => Kp [] H H' ∧ H' f = some (.lst (pre.map V.str)) ∧ H' D = some (.lst ((hs.map Hnd.name).map V.str)) ∧ ∃ o o', σ = [some (.ref a), some (.ref b), some (.ref f), some (.ref D), o, o'])
      ⟨k12, k2.keep0 upd_same, hD2, _, _, rfl⟩ (fun pre σ H' q => SqL.of (q.1.keep0 hb)) ?_ ?_
    · rintro pre v x post σ H' ed rfl ⟨kp, hf1, hD3, o, o', rfl⟩
      have hx1 : x ∈ hs.map Hnd.name := hin x (by rw [ed]; simp)
      have hx2 : x ∉ pre := fun q => by
        rw [ed] at nd
        exact (List.nodup_append.mp nd).2.2 x q x (by simp) rfl
      refine ⟨_, rfl, _, rfl, D, _, rfl, .inl (SqL.of hD3), rfl, flat_strs _, _, rfl, ?_⟩
      rw [inV_strs, decide_eq_true hx1]
      refine iteF' rfl ⟨_, rfl, _, rfl, f, _, rfl, .inl (SqL.of hf1), rfl, flat_strs _, _, rfl, ?_⟩
      rw [inV_strs, decide_eq_false hx2]
      refine iteF' rfl ⟨_, rfl, .inl ⟨rfl, _, SqL.of hf1⟩, _, rfl, f, _, _, rfl, rfl, hf1, ?_, ?_⟩
      · refine small1000 ?_
        have : pre.length ≤ ns.length := by rw [ed]; simp
        simp
        omega
      · exact ⟨kp.lst (.inr hf) hf1, by rw [upd_same]; simp, by rw [upd_ne nDf]; exact hD3, _, _, rfl⟩
    · rintro σ H' ⟨kp, hf1, _, o, o', rfl⟩
      exact ⟨_, rfl, k _ _ hf kp hf1⟩
def Deed.names : Deed → List Str
  | .join x => [x] | .leave x => [x] | _ => []
def sp_needHandlers : Sp := fun vs H Q _ => ∃ (a : Addr) (xs : List V) (hs : List Hnd), vs = [.ref a] ∧ H a = some (.lst xs) ∧ Paired (HndIn H) xs hs ∧ hs.length ≤ 40 ∧ (∀ h ∈ hs, h.ok = true) ∧ (hs.map Hnd.name).Nodup ∧
  (∀ h ∈ hs, ∀ d ∈ h.deeds, ∀ x ∈ d.names, x ∈ hs.map Hnd.name) ∧ ∀ p H', H p = none → Kp [] H H' → LstAt HndAt H' p hs → Q (.ref p) H'
theorem ok_needHandlers (T : Tx K mg) : FnOk P w K mg base CX0 4 T.f_needHandlers T.d_needHandlers ["handlers"] (sp_needHandlers) := by
  refine T.F_needHandlers.ok sc_needHandlers (by walk_at "len") (fun cdv A outer s H vs Q E hr h => ?_)
  obtain ⟨a, xs, hs, rfl, ha, hx, hl, hok, nd, hin, k⟩ := h
  refine ⟨_, (pss_cons (ps_set (i := 1) sc_needHandlers.nd rfl (Or.inl rfl) (pe_lst pa_nil))
    (pss_cons (ps_for PassesOwn.never rfl (pi_list (pv 0)) (pg_name (i := 2) sc_needHandlers.nd rfl (Or.inl rfl))
        (pss_cons (ps_if (PW.pt (pw_or (pt_cmpR op_eq (pe_callB (kLen K) (by rfl) T.z_len PySem.boot_len (pa_cons (pv 1) pa_nil)) (pe_glob rfl T.g_MOST_HANDLERS T.r_MOST_HANDLERS) (nomark _)) (pw_or1 (pt_not (pt_val (pe_call (ok_isHandler T) (hr.mono (by decide)) rfl T.g_isHandler T.F_isHandler.kp T.b_isHandler .nil pass0 (pa_cons (pv 2) pa_nil)))))))
            (pss_one ps_never)
            pss_nil)
        (pss_cons (ps_if (pt_cmpR (kIn K) (pe_ix (kIxT K) (pv 2) pe_int (fun _ _ => rfl)) (pe_lc (own := [("other", 5)]) (g := gName 5) (tt := tYes) rfl sc_needHandlers.nd (pi_list (pv 1)) (blkOk_by (own := [("other", 5)]) (N := nm_needHandlers) (sc := defScope s_needHandlers) (by decide +kernel)) (fun _ _ _ _ _ => (pg_name (i := 5) sc_needHandlers.nd rfl (Or.inl rfl))) (fun _ _ _ _ _ => pts_nil) (fun _ _ _ _ _ => (pe_ix (kIxT K) (pv 5) pe_int (fun _ _ => rfl)))) rfl)
            (pss_one ps_never)
            pss_nil)
        (pss_one (ps_expr (pe_bm PySem.F.plainAttrs_list PySem.F.slot_list_append PySem.F.type_list_append mt_append (pv 1) (pa_cons (pe_tup (pa_cons (pe_ix (kIxT K) (pv 2) pe_int (fun _ _ => rfl)) (pa_cons (pe_ix (kIxT K) (pv 2) pe_int (fun _ _ => rfl)) (pa_cons (pe_ix (kIxT K) (pv 2) pe_int (fun _ _ => rfl)) (pa_cons (pe_ix (kIxT K) (pv 2) pe_int (fun _ _ => rfl)) (pa_cons (pe_callTy (kTuple K) (by rfl) T.z_tuple (by decide +kernel) (pa_cons (pe_ix (kIxT K) (pv 2) pe_int (fun _ _ => rfl)) pa_nil)) pa_nil)))))) pa_nil)))))))
    (pss_cons (ps_setLc (i := 3) (own := [("one", 2)]) (g := gName 2) (tt := tYes) rfl sc_needHandlers.nd rfl rfl (sw_true rfl rfl rfl (by decide +kernel)) (pi_list (pv 1)) (blkOk_by (own := [("one", 2)]) (N := nm_needHandlers) (sc := defScope s_needHandlers) (by decide +kernel)) (fun _ _ _ _ _ => (pg_name (i := 2) sc_needHandlers.nd rfl (Or.inl rfl))) (fun _ _ _ _ _ => pts_nil) (fun _ _ _ _ _ => (pe_ix (kIxT K) (pv 2) pe_int (fun _ _ => rfl))))
    (pss_cons (ps_for PassesOwn.never rfl (pi_list (pv 1)) (pg_name (i := 2) sc_needHandlers.nd rfl (Or.inl rfl))
        (pss_one (ps_for PassesOwn.never rfl (pi_tup (pe_ix (kIxT K) (pv 2) pe_int (fun _ _ => rfl))) (pg_name (i := 4) sc_needHandlers.nd rfl (Or.inl rfl))
            (pss_one (ps_if (PW.pt (pw_and (pt_cmpR (kIn K) (pe_ix (kIxT K) (pv 4) pe_int (fun _ _ => rfl)) (pe_tup (pa_cons pe_str (pa_cons pe_str pa_nil))) rfl) (pw_and1 (pt_cmpR (kNotIn K) (pe_ix (kIxT K) (pv 4) pe_int (fun _ _ => rfl)) (pv 3) rfl))))
                (pss_one ps_never)
                pss_nil)))))
    (pss_one (ps_ret (pv 1))))))), ?_⟩
  refine ⟨Nat.zero_le _, fun f hf => ?_⟩
  walk_at "nf"
  refine for_go ?_
  have k1 : Kp [] H (upd H f (.lst [])) := (Kp.refl _ _).new hf
  refine ⟨_, rfl, a, rfl, ⟨_, SqL.of (k1.keep0 ha)⟩, ?_⟩
  refine for_pd hx (fun pre σ H' => Kp [] H H' ∧ ∃ acc, H' f = some (.lst acc) ∧ Paired (HndAt H') acc pre ∧ ∃ o, σ = [some (.ref a), some (.ref f), o, none, none, none]) ⟨k1, _, upd_same, .nil, _, rfl⟩ (fun pre σ H' q => SqL.of (q.1.keep0 ha)) ?_ ?_
  · rintro pre v d post σ H' ed r ⟨kp, acc, hf1, hac, o, rfl⟩
    have lp : pre.length < hs.length := by rw [ed]; simp
    have la : acc.length = pre.length := Pd.len hac
    refine ⟨_, rfl, f, _, rfl, .inl (SqL.of hf1), rfl, _, rfl, ?_⟩
    rw [decide_eq_false (show ¬ V.int ((acc.length : Nat) : Int) = V.int 40 from fun q => by have := V.int.inj q; omega)]
    refine iteF ⟨_, rfl, v, d, rfl, r.kp kp, hok d (by rw [ed]; simp), fun H1 q1 => ⟨_, rfl, iteF ?_⟩⟩
    obtain ⟨p, q, ds, rfl, hp, hq, hds⟩ := id r
    have kp1 := kp.trans q1
    refine ⟨_, rfl, p, _, _, _, rfl, rfl, SqT.of (kp1.tk _ _ hp), at0, ?_⟩
    walk_at "nf"
    refine lc_go ?_
    refine ⟨_, rfl, f, rfl, ⟨_, SqL.of (q1.keep0 hf1)⟩, ?_⟩
    refine lc_mp (Pd.mono (fun _ _ z => HndAt.tk q1.tk z) hac) (Nat.lt_of_lt_of_le lp (Nat.le_trans hl (by decide))) (SqL.of (q1.keep0 hf1)) (fun h => V.str h.name) (fun x => rfl) ?_ ?_
    · rintro v d H' Q' hd r kp q
      obtain ⟨p, q1, ds, rfl, hp, hq, hds⟩ := r
      exact ⟨_, rfl, p, _, _, _, rfl, rfl, SqT.of (kp.tk _ _ hp), at0, q _ (Kp.refl _ _)⟩
    · intro D H2 hD q2 hD2
      have e0 : pre.map (fun h => V.str h.name) = (pre.map Hnd.name).map V.str := by simp
      rw [e0] at hD2
      have k12 := q1.trans q2
      have k2 := kp.trans k12
      refine ⟨D, _, rfl, .inl (SqL.of hD2), rfl, flat_strs _, _, rfl, ?_⟩
      have nn : d.name ∉ pre.map Hnd.name := fun z => by
        rw [ed, List.map_append] at nd
        exact (List.nodup_append.mp nd).2.2 _ z _ (by simp) rfl
      rw [inV_strs, decide_eq_false nn]
      refine iteF' rfl ?_
      have hp2 := SqT.of (K := K) (k2.tk _ _ hp)
      refine ⟨_, rfl, .inl ⟨rfl, _, SqL.of (k12.keep0 hf1)⟩, ?_⟩
      refine ⟨_, rfl, p, _, _, _, rfl, rfl, hp2, at0, _, rfl, p, _, _, _, rfl, rfl, hp2, at1, _, rfl, p, _, _, _, rfl, rfl, hp2, at2, _, rfl, p, _, _, _, rfl, rfl, hp2, at3, _, rfl, p, _, _, _, rfl, rfl, hp2, at4, q, ds, rfl, ?_⟩
      rcases hq with hq | hq
      · refine .inl ⟨SqL.of (k2.keep0 hq), fun l hl' => ?_⟩
        have k23 : Kp [] H2 (upd H2 l (.tup ds)) := (Kp.refl _ _).new hl'
        have k3 := k12.trans k23
        refine ⟨(by show 5 ≤ sizeLine; decide), fun t ht => ?_⟩
        have k4 := k3.new (o := .tup [.str d.name, .int d.rank, .str d.hears, .bl d.once, .ref l]) ht
        have hf4 := ((k23.new (o := .tup [.str d.name, .int d.rank, .str d.hears, .bl d.once, .ref l]) ht)).keep0 (k12.keep0 hf1)
        refine ⟨f, _, _, rfl, rfl, hf4, ?_, ?_⟩
        · exact small1000 (by have := Pd.len hac; omega)
        · refine ⟨(kp.trans k4).lst (.inr hf) hf4, _, upd_same, ?_, _, rfl⟩
          have kk := (kp.trans k4).lst (o := .lst (acc ++ [V.ref t])) (.inr hf) hf4
          have kk4 := (Kp.refl [f] _).lst (o := .lst (acc ++ [V.ref t])) (.inl (List.mem_singleton.mpr rfl)) hf4
          have kac := (k12.trans (k23.new (o := .tup [.str d.name, .int d.rank, .str d.hears, .bl d.once, .ref l]) ht)).tk
          have nt : t ≠ f := fun e => by rw [e] at ht; rw [k23.keep0 (k12.keep0 hf1)] at ht; cases ht
          refine Pd.append (Pd.mono (fun _ _ z => (HndAt.tk kac z).tk kk4.tk) hac) (.cons ⟨t, l, ds, rfl, ?_, ?_, ?_⟩ .nil)
          · rw [upd_ne nt]; exact upd_same
          · exact kk4.tk _ _ ((Kp.refl [] _).new ht |>.tk _ _ upd_same)
          · exact Pd.mono (fun _ _ z => DeedAt.tk kk.tk z) hds
      · refine .inr ⟨SqT.of (k2.keep0 hq), ?_⟩
        have k23 : Kp [] H2 H2 := Kp.refl _ _
        have k3 := k12.trans k23
        refine ⟨(by show 5 ≤ sizeLine; decide), fun t ht => ?_⟩
        have k4 := k3.new (o := .tup [.str d.name, .int d.rank, .str d.hears, .bl d.once, .ref q]) ht
        have hf4 := ((k23.new (o := .tup [.str d.name, .int d.rank, .str d.hears, .bl d.once, .ref q]) ht)).keep0 (k12.keep0 hf1)
        refine ⟨f, _, _, rfl, rfl, hf4, ?_, ?_⟩
        · exact small1000 (by have := Pd.len hac; omega)
        · refine ⟨(kp.trans k4).lst (.inr hf) hf4, _, upd_same, ?_, _, rfl⟩
          have kk := (kp.trans k4).lst (o := .lst (acc ++ [V.ref t])) (.inr hf) hf4
          have kk4 := (Kp.refl [f] _).lst (o := .lst (acc ++ [V.ref t])) (.inl (List.mem_singleton.mpr rfl)) hf4
          have kac := (k12.trans (k23.new (o := .tup [.str d.name, .int d.rank, .str d.hears, .bl d.once, .ref q]) ht)).tk
          have nt : t ≠ f := fun e => by rw [e] at ht; rw [k23.keep0 (k12.keep0 hf1)] at ht; cases ht
          refine Pd.append (Pd.mono (fun _ _ z => (HndAt.tk kac z).tk kk4.tk) hac) (.cons ⟨t, q, ds, rfl, ?_, ?_, ?_⟩ .nil)
          · rw [upd_ne nt]; exact upd_same
          · exact kk4.tk _ _ ((Kp.refl [] _).new ht |>.tk _ _ (k2.keep0 hq))
          · exact Pd.mono (fun _ _ z => DeedAt.tk kk.tk z) hds
  · rintro σ H' ⟨kp, acc, hf1, hac, o, rfl⟩
    walk_at "nf"
    refine lc_go ?_
    refine ⟨_, rfl, f, rfl, ⟨_, SqL.of hf1⟩, ?_⟩
    refine lc_mp hac (Nat.lt_of_le_of_lt hl (by decide)) (SqL.of hf1) (fun h => V.str h.name) (fun x => rfl) ?_ ?_
    · rintro v d H' Q' hd r kp q
      obtain ⟨p, q1, ds, rfl, hp, hq, hds⟩ := r
      exact ⟨_, rfl, p, _, _, _, rfl, rfl, SqT.of (kp.tk _ _ hp), at0, q _ (Kp.refl _ _)⟩
    · intro N H2 hN q2 hN2
      have e0 : hs.map (fun h => V.str h.name) = (hs.map Hnd.name).map V.str := by simp
      rw [e0] at hN2
      have nf : N ≠ f := fun e => by rw [e, hf1] at hN; cases hN
      refine for_go ?_
      refine ⟨_, rfl, f, rfl, ⟨_, SqL.of (q2.keep0 hf1)⟩, ?_⟩
      refine for_pd hac (fun pre σ H5 => Kp [] H' H5 ∧ H5 N = some (.lst ((hs.map Hnd.name).map V.str)) ∧ ∃ o o', σ = [some (.ref a), some (.ref f), o, some (.ref N), o', none]) ⟨q2, hN2, _, _, rfl⟩ (fun pre σ H5 q => SqL.of (q.1.keep0 hf1)) ?_ ?_
      · rintro pre v d post σ H5 ed r ⟨k5, hN5, o, o', rfl⟩
        obtain ⟨p, q, ds, rfl, hp, hq, hds⟩ := r
        refine for_go ?_
        refine ⟨_, rfl, p, _, _, _, rfl, rfl, SqT.of (k5.tk _ _ hp), at4, q, rfl, ⟨_, SqT.of (k5.tk _ _ hq)⟩, ?_⟩
        refine for_pdT hds (fun pre σ H6 => Kp [] H5 H6 ∧ ∃ o', σ = [some (.ref a), some (.ref f), some (.ref p), some (.ref N), o', none]) ⟨Kp.refl _ _, _, rfl⟩ (fun pre σ H6 q6 => SqT.of ((k5.trans q6.1).tk _ _ hq)) ?_ ?_
        · rintro pre6 v6 d6 post6 σ H6 ed6 r6 ⟨k6, o6, rfl⟩
          obtain ⟨p5, rfl, hp5⟩ := r6.tk (k5.trans k6).tk
          have hN6 := k6.keep0 hN5
          obtain ⟨tg, rest, ev⟩ : ∃ tg rest, d6.vals = V.str tg :: rest := by cases d6 <;> exact ⟨_, _, rfl⟩
          have hp5' := hp5
          rw [ev] at hp5'
          refine ⟨_, rfl, p5, _, _, _, rfl, rfl, SqT.of hp5', at0, (by show 2 ≤ sizeLine; decide), fun t ht => ⟨t, _, rfl, .inr (SqT.of upd_same), rfl, rfl, _, rfl, ?_⟩⟩
          have ev2 := ev
          cases d6
          all_goals cases ev
          case join.refl x =>
            refine iteT' (by decide +kernel) ⟨_, rfl, p5, _, _, _, rfl, rfl, SqT.of ((Kp.refl [] _).new ht |>.tk _ _ hp5), at1, _, rfl, N, _, rfl, .inl (SqL.of ((Kp.refl [] _).new ht |>.keep0 hN6)), rfl, flat_strs _, _, rfl, ?_⟩
            have hx : x ∈ hs.map Hnd.name := hin d (by rw [ed]; simp) (.join x) (by rw [ed6]; simp) x (by simp [Deed.names])
            rw [inV_strs, decide_eq_true hx]
            exact iteF' rfl ⟨k6.new ht, _, rfl⟩
          case leave.refl x =>
            refine iteT' (by decide +kernel) ⟨_, rfl, p5, _, _, _, rfl, rfl, SqT.of ((Kp.refl [] _).new ht |>.tk _ _ hp5), at1, _, rfl, N, _, rfl, .inl (SqL.of ((Kp.refl [] _).new ht |>.keep0 hN6)), rfl, flat_strs _, _, rfl, ?_⟩
            have hx : x ∈ hs.map Hnd.name := hin d (by rw [ed]; simp) (.leave x) (by rw [ed6]; simp) x (by simp [Deed.names])
            rw [inV_strs, decide_eq_true hx]
            exact iteF' rfl ⟨k6.new ht, _, rfl⟩
          all_goals exact iteF' (by decide +kernel) (iteF ⟨k6.new ht, _, rfl⟩)
        · rintro σ H6 ⟨k6, o6, rfl⟩
          exact ⟨k5.trans k6, k6.keep0 hN5, _, _, rfl⟩
      · rintro σ H5 ⟨k5, hN5, o, o', rfl⟩
        exact ⟨_, rfl, k _ _ hf (kp.trans k5) ⟨_, k5.keep0 hf1, Pd.mono (fun _ _ z => HndAt.tk k5.tk z) hac⟩⟩
def hearRow (hs : List Hnd) (word : Str) (i : Nat) (x : Str) : Option Tri := (handlerOf hs x).bind fun h => if h.hears = "" ∨ h.hears = word then some (h.rank, (i : Int), x) else none
def hearRows (hs : List Hnd) (word : Str) : Nat → List Str → List Tri
  | _, [] => []
  | i, x :: r => (hearRow hs word i x).toList ++ hearRows hs word (i + 1) r
def hearersM (hs : List Hnd) (names : List Str) (word : Str) : List Str := ((hearRows hs word 0 names).mergeSort triLe).map fun t => t.2.2
theorem hearRows_snoc {hs : List Hnd} {word x : Str} : ∀ {l : List Str} {i : Nat}, hearRows hs word i (l ++ [x]) = hearRows hs word i l ++ (hearRow hs word (i + l.length) x).toList
  | [], i => by simp [hearRows]
  | y :: l, i => by
    rw [List.cons_append, hearRows, hearRows_snoc (l := l), hearRows, List.append_assoc, List.length_cons]
    congr 4
    omega
theorem hearRows_len {hs : List Hnd} {word : Str} : ∀ {l : List Str} {i : Nat}, (hearRows hs word i l).length ≤ l.length
  | [], i => Nat.le_refl _
  | y :: l, i => by
    have ih := hearRows_len (hs := hs) (word := word) (l := l) (i := i + 1)
    have h1 : (hearRow hs word i y).toList.length ≤ 1 := by cases hearRow hs word i y <;> simp
    rw [hearRows, List.length_append, List.length_cons]
    omega
def TriR (H : Hp) (v : V) (t : Tri) : Prop := ∃ p, v = .ref p ∧ H p = some (.tup [.int t.1, .int t.2.1, .str t.2.2])
theorem TriR.tk {H H' : Hp} (k : TK H H') {v : V} {t : Tri} (h : TriR H v t) : TriR H' v t := by
  obtain ⟨p, e, h⟩ := h
  exact ⟨p, e, k _ _ h⟩
def sp_hearers : Sp := fun vs H Q _ => ∃ (a b : Addr) (z : Str) (hs : List Hnd) (ns : List Str), vs = [.ref a, .ref b, .str z] ∧ LstAt HndAt H a hs ∧ H b = some (.lst (ns.map V.str)) ∧ ns.length ≤ 100000 ∧ (∀ x ∈ ns, ∃ h, handlerOf hs x = some h) ∧
  ∀ p H', H p = none → Kp [] H H' → H' p = some (.lst ((hearersM hs ns z).map V.str)) → Q (.ref p) H'
theorem ok_hearers (T : Tx K mg) : FnOk P w K mg base CX0 2 T.f_hearers T.d_hearers ["handlers", "names", "word"] (sp_hearers) := by
  refine T.F_hearers.ok sc_hearers (by walk_at "len") (fun cdv A outer s H vs Q E hr h => ?_)
  obtain ⟨a, b, z, hs, ns, rfl, lh, hb, hns, hex, k⟩ := h
  refine ⟨_, (pss_cons (ps_set (i := 3) sc_hearers.nd rfl (Or.inl rfl) (pe_lst pa_nil))
    (pss_cons (ps_for PassesOwn.never rfl (pi_enum (by rfl) T.z_enumerate (pa_cons (pv 1) pa_nil)) (kTup K (pgs_cons (pg_name (i := 4) sc_hearers.nd rfl (Or.inl rfl)) (pgs_cons (pg_name (i := 5) sc_hearers.nd rfl (Or.inl rfl)) pgs_nil)))
        (pss_cons (ps_set (i := 6) sc_hearers.nd rfl (Or.inl rfl) (pe_call (ok_handlerOf T) (hr.mono (by decide)) rfl T.g_handlerOf T.F_handlerOf.kp T.b_handlerOf .nil pass0 (pa_cons (pv 0) (pa_cons (pv 5) pa_nil))))
        (pss_one (ps_if (PW.pt (pw_or (pt_cmpR op_eq (pe_ix (kIxT K) (pv 6) pe_int (fun _ _ => rfl)) pe_str (nomark _)) (pw_or1 (pt_cmpR op_eq (pe_ix (kIxT K) (pv 6) pe_int (fun _ _ => rfl)) (pv 2) (nomark _)))))
            (pss_one (ps_expr (pe_bm PySem.F.plainAttrs_list PySem.F.slot_list_append PySem.F.type_list_append mt_append (pv 3) (pa_cons (pe_tup (pa_cons (pe_ix (kIxT K) (pv 6) pe_int (fun _ _ => rfl)) (pa_cons (pv 4) (pa_cons (pv 5) pa_nil)))) pa_nil))))
            pss_nil))))
    (pss_one (ps_ret (pe_lc (own := [("row", 7)]) (g := gName 7) (tt := tYes) rfl sc_hearers.nd (pi_list (pe_callB (kSort3 K hr.units) (by rfl) T.z_sorted (by decide +kernel) (pa_cons (pv 3) pa_nil))) (blkOk_by (own := [("row", 7)]) (N := nm_hearers) (sc := defScope s_hearers) (by decide +kernel)) (fun _ _ _ _ _ => (pg_name (i := 7) sc_hearers.nd rfl (Or.inl rfl))) (fun _ _ _ _ _ => pts_nil) (fun _ _ _ _ _ => (pe_ix (kIxT K) (pv 7) pe_int (fun _ _ => rfl)))))))), ?_⟩
  refine ⟨Nat.zero_le _, fun f hf => ?_⟩
  walk_at "nf"
  refine for_go ?_
  have k1 : Kp [] H (upd H f (.lst [])) := (Kp.refl _ _).new hf
  refine ⟨_, rfl, b, _, rfl, SqL.of (k1.keep0 hb), ?_⟩
  refine for_it walk_enum (fun i σ H' => Kp [] H H' ∧ ∃ acc, H' f = some (.lst acc) ∧ Paired (TriR H') acc (hearRows hs z 0 (ns.take i)) ∧ ∃ o4 o5 o6, σ = [some (.ref a), some (.ref b), some (.str z), some (.ref f), o4, o5, o6, none])
    ⟨k1, _, upd_same, .nil, _, _, _, rfl⟩ (fun i σ H' _ q => SqL.of (q.1.keep0 hb)) ?_ ?_
  · rintro i v σ H1 H2 hi ⟨kp, acc, hf1, hac, o4, o5, o6, rfl⟩ ⟨T1, x, y, rfl, hT, rfl, hxe, hye⟩
    have hxe : V.int ((i : Nat) : Int) = x := Option.some.inj hxe
    subst hxe
    obtain ⟨nm, hnm, rfl⟩ : ∃ nm, ns[i]? = some nm ∧ y = V.str nm := by
      have hye : (ns.map V.str)[i]? = some y := hye
      rw [List.getElem?_map] at hye
      cases e : ns[i]? with
      | none => rw [e] at hye; cases hye
      | some q => rw [e] at hye; exact ⟨q, rfl, (Option.some.inj hye).symm⟩
    obtain ⟨h, hh⟩ := hex nm (List.mem_of_getElem? hnm)
    have kT := kp.new (o := .tup [V.int ((i : Nat) : Int), V.str nm]) hT
    have kT1 : Kp [] H1 (upd H1 T1 (.tup [V.int ((i : Nat) : Int), V.str nm])) := (Kp.refl _ _).new hT
    refine ⟨T1, _, rfl, SqT.of upd_same, rfl, _, _, rfl, _, _, rfl, rfl, ?_⟩
    refine ⟨_, rfl, _, rfl, a, nm, hs, h, rfl, lh.tr hndStb kT.tk ?_, hh, fun v hv => ?_⟩
    · obtain ⟨xs, ha, _⟩ := lh
      rw [ha, kT.keep0 ha]
    have en : ns.take (i + 1) = ns.take i ++ [nm] := take_snoc hnm
    have li : (ns.take i).length = i := by
      rw [List.length_take]
      have := (List.getElem?_eq_some_iff.mp hnm).1
      omega
    obtain ⟨p, q, ds, rfl, hp, hq, hds⟩ := hv
    have hf2 := kT1.keep0 hf1
    have lac : acc.length < sizeLine := by
      refine Nat.lt_of_le_of_lt (m := 100000) ?_ (by decide)
      rw [Pd.len hac]
      exact Nat.le_trans (hearRows_len) (by rw [List.length_take]; omega)
    refine ⟨_, rfl, p, _, _, _, rfl, rfl, SqT.of hp, at2, rfl, _, rfl, ?_⟩
    by_cases e1 : h.hears = ""
    · rw [decide_eq_true (show V.str h.hears = V.str "" by rw [e1])]
      refine iteT (iteT ?_)
      have er : hearRow hs z i nm = some (h.rank, (i : Int), nm) := by
        unfold hearRow
        rw [hh]
        exact if_pos (.inl e1)
      refine ⟨_, rfl, .inl ⟨rfl, _, SqL.of hf2⟩, _, rfl, p, _, _, _, rfl, rfl, SqT.of hp, at1, _, rfl, _, rfl, (by show 3 ≤ sizeLine; decide), fun t ht => ?_⟩
      have k3 : Kp [] (upd H1 T1 (.tup [V.int ((i : Nat) : Int), V.str nm])) (upd _ t (.tup [.int h.rank, .int (i : Int), .str nm])) := (Kp.refl _ _).new ht
      have hf3 := k3.keep0 hf2
      have nt : t ≠ f := fun e => by rw [e, hf2] at ht; cases ht
      refine ⟨f, _, _, rfl, rfl, hf3, lac, (kT.trans k3).lst (.inr hf) hf3, _, upd_same, ?_, _, _, _, rfl⟩
      have kk := (Kp.refl [f] _).lst (o := .lst (acc ++ [V.ref t])) (.inl (List.mem_singleton.mpr rfl)) hf3
      rw [en, hearRows_snoc, li, Nat.zero_add, er]
      refine Pd.append (Pd.mono (fun _ _ z => (TriR.tk (kT1.trans k3).tk z).tk kk.tk) hac) (.cons ⟨t, rfl, ?_⟩ .nil)
      rw [upd_ne nt]
      exact upd_same
    · rw [decide_eq_false (show ¬ V.str h.hears = V.str "" from fun q => e1 (V.str.inj q))]
      refine iteF ⟨_, rfl, p, _, _, _, rfl, rfl, SqT.of hp, at2, _, rfl, rfl, _, rfl, ?_⟩
      by_cases e2 : h.hears = z
      · rw [decide_eq_true (show V.str h.hears = V.str z by rw [e2])]
        refine iteT ?_
        have er : hearRow hs z i nm = some (h.rank, (i : Int), nm) := by
          unfold hearRow
          rw [hh]
          exact if_pos (.inr e2)
        refine ⟨_, rfl, .inl ⟨rfl, _, SqL.of hf2⟩, _, rfl, p, _, _, _, rfl, rfl, SqT.of hp, at1, _, rfl, _, rfl, (by show 3 ≤ sizeLine; decide), fun t ht => ?_⟩
        have k3 : Kp [] (upd H1 T1 (.tup [V.int ((i : Nat) : Int), V.str nm])) (upd _ t (.tup [.int h.rank, .int (i : Int), .str nm])) := (Kp.refl _ _).new ht
        have hf3 := k3.keep0 hf2
        have nt : t ≠ f := fun e => by rw [e, hf2] at ht; cases ht
        refine ⟨f, _, _, rfl, rfl, hf3, lac, (kT.trans k3).lst (.inr hf) hf3, _, upd_same, ?_, _, _, _, rfl⟩
        have kk := (Kp.refl [f] _).lst (o := .lst (acc ++ [V.ref t])) (.inl (List.mem_singleton.mpr rfl)) hf3
        rw [en, hearRows_snoc, li, Nat.zero_add, er]
        refine Pd.append (Pd.mono (fun _ _ z => (TriR.tk (kT1.trans k3).tk z).tk kk.tk) hac) (.cons ⟨t, rfl, ?_⟩ .nil)
        rw [upd_ne nt]
        exact upd_same
      · rw [decide_eq_false (show ¬ V.str h.hears = V.str z from fun q => e2 (V.str.inj q))]
        have er : hearRow hs z i nm = none := by
          unfold hearRow
          rw [hh]
          exact if_neg fun q => q.elim e1 e2
        refine iteF ⟨kT, _, hf2, ?_, _, _, _, rfl⟩
        rw [en, hearRows_snoc, li, Nat.zero_add, er]
        show Paired _ acc (_ ++ [])
        rw [List.append_nil]
        exact Pd.mono (fun _ _ z => TriR.tk kT1.tk z) hac
  · rintro σ H' ⟨kp, acc, hf1, hac, o4, o5, o6, rfl⟩
    rw [List.length_map, List.take_length] at hac
    walk_at "nf"
    refine lc_go ?_
    refine ⟨_, rfl, f, acc, _, rfl, SqL.of hf1, Pd.mono (fun _ _ z => by obtain ⟨p, e, h⟩ := z; exact ⟨p, e, SqT.of h⟩) hac, fun ys p hys hp => ?_⟩
    have kS : Kp [] H' (upd H' p (.lst ys)) := (Kp.refl _ _).new hp
    refine ⟨p, rfl, ⟨_, SqL.of upd_same⟩, ?_⟩
    refine lc_mp (Pd.mono (R := TriAt K H') (S := TriAt K (upd H' p (.lst ys))) (fun _ _ z => by obtain ⟨p, e, h⟩ := z; exact ⟨p, e, SqT.kp kS (by simp) h⟩) hys) ?_ (SqL.of upd_same) (fun t => V.str t.2.2) (fun x => rfl) ?_ ?_
    · rw [List.length_mergeSort]
      exact Nat.lt_of_le_of_lt hearRows_len (Nat.lt_of_le_of_lt hns (by decide))
    · rintro v d H2 Q' hd ⟨p2, rfl, hp2⟩ k2 q
      exact ⟨_, rfl, p2, _, _, _, rfl, rfl, SqT.kp k2 (by simp) hp2, at2, q _ (Kp.refl _ _)⟩
    · intro D H2 hD k2 hD2
      refine k _ _ (kp.dom _ (upd_none hD).2) (kp.trans (kS.trans k2)) ?_
      rw [hD2]
      simp [hearersM]
end
end Ev
namespace Ev
open PySem L2
/-! ### a step of the loom, as its mirror goes -/
def calledM (s : LoomS) (z : Str) : List (Str × Nat) := (hearersM s.hs (s.stands.map Prod.fst) z).map fun x => (x, (lk s.stands x).getD 0)
def LoomS.beginM (s : LoomS) (n : Nat) : LoomS := match s.events[n]? with
  | some e => ({ s with frames := s.frames ++ [⟨n, calledM s e.word, [], 0⟩] } : LoomS).logd (.begin n s.time)
  | none => s
def stale (s : LoomS) (c : Str × Nat) : Bool := decide (lk s.stands c.1 ≠ some c.2)
def LoomS.goOnM (s : LoomS) (f : Frm) : LoomS := match f.deeds[f.place]? with
  | some d => (s.last { f with place := f.place + 1 }).doM f.number d
  | none => match f.called.dropWhile (stale s) with
    | c :: rest => match handlerOf s.hs c.1 with
      | some h => (s.last { f with called := rest }).callM { f with called := rest } c.1 h
      | none => s
    | [] => ({ s with frames := s.frames.dropLast } : LoomS).logd (.fin f.number)
def LoomS.stepM (s : LoomS) : Option LoomS := match s.fresh with
  | some n => some (({ s with fresh := none } : LoomS).beginM n)
  | none => match s.frames.getLast? with
    | some f => some (s.goOnM f)
    | none => match s.soon with
      | n :: r => some (({ s with soon := r } : LoomS).beginM n)
      | [] => match s.rows with
        | (d, n) :: r => some (({ s with rows := r, time := if d > s.time then d else s.time } : LoomS).beginM n)
        | [] => none
/-- up to k steps; how many were done -/
def LoomS.runM (s : LoomS) : Nat → LoomS × Nat
  | 0 => (s, 0)
  | k + 1 => match s.stepM with
    | some s' => let r := s'.runM k; (r.1, r.2 + 1)
    | none => (s, 0)
def LoomS.lineM (s : LoomS) : List Nat := s.soon ++ s.rows.map Prod.snd
/-- what holds of every loom of good handlers -/
structure Wf (s : LoomS) : Prop where
  hl : s.hs.length ≤ 40
  hok : ∀ h ∈ s.hs, h.ok = true
  hnd : (s.hs.map Hnd.name).Nodup
  hin : ∀ h ∈ s.hs, ∀ d ∈ h.deeds, ∀ x ∈ d.names, x ∈ s.hs.map Hnd.name
  snd : (s.stands.map Prod.fst).Nodup
  sin : ∀ c ∈ s.stands, c.1 ∈ s.hs.map Hnd.name
  evlg : s.events.length ≤ s.log.length
  wait : s.soon.length + s.rows.length ≤ s.events.length
  line : ∀ n ∈ s.soon ++ s.rows.map Prod.snd, n < s.events.length
  fresh : ∀ n, s.fresh = some n → n < s.events.length
  frs : ∀ f ∈ s.frames, f.deeds.length ≤ 30 ∧ (∀ d ∈ f.deeds, ∀ x ∈ d.names, x ∈ s.hs.map Hnd.name) ∧ (∀ c ∈ f.called, c.1 ∈ s.hs.map Hnd.name) ∧ f.called.length ≤ 40
theorem handlerOf_some {hs : List Hnd} {x : Str} (h : x ∈ hs.map Hnd.name) : ∃ h, handlerOf hs x = some h := by
  cases e : handlerOf hs x with
  | some h => exact ⟨h, rfl⟩
  | none =>
    unfold handlerOf at e
    rw [List.find?_eq_none] at e
    obtain ⟨q, hq, eq⟩ := List.mem_map.mp h
    exact absurd (decide_eq_true eq) (e q hq)
theorem handlerOf_mem {hs : List Hnd} {x : Str} {h : Hnd} (e : handlerOf hs x = some h) : h ∈ hs ∧ h.name = x := by
  unfold handlerOf at e
  exact ⟨List.mem_of_find?_eq_some e, of_decide_eq_true (List.find?_some (p := fun h : Hnd => decide (h.name = x)) e)⟩
theorem laterM_perm (rows : List (Int × Nat)) (q : Int × Nat) : (laterM rows q).Perm (q :: rows) := by
  unfold laterM
  refine List.Perm.trans ?_ (List.Perm.of_eq (show q :: (rows.take (placeOf rows q rows.length) ++ rows.drop (placeOf rows q rows.length)) = q :: rows by rw [List.take_append_drop]))
  rw [List.append_assoc]
  exact List.perm_middle
theorem laterM_len (rows : List (Int × Nat)) (q : Int × Nat) : (laterM rows q).length = rows.length + 1 := by
  rw [(laterM_perm rows q).length_eq]
  rfl
theorem Wf.stl {s : LoomS} (w : Wf s) : s.stands.length ≤ 40 := by
  have := nodup_len w.snd (m := s.hs.map Hnd.name) fun x hx => by
    obtain ⟨c, hc, rfl⟩ := List.mem_map.mp hx
    exact w.sin c hc
  rw [List.length_map, List.length_map] at this
  exact Nat.le_trans this w.hl
theorem Wf.logd {s : LoomS} (w : Wf s) (r : Row) : Wf (s.logd r) :=
  ⟨w.hl, w.hok, w.hnd, w.hin, w.snd, w.sin, by show _ ≤ (s.log ++ [r]).length; rw [List.length_append]; exact Nat.le_add_right_of_le w.evlg, w.wait, w.line, w.fresh, w.frs⟩
theorem Wf.come {s : LoomS} (w : Wf s) {x : Str} (h : x ∈ s.hs.map Hnd.name) : Wf (s.come x) := by
  unfold LoomS.come
  split
  · exact w
  · rename_i e
    have e : lk s.stands x = none := by
      cases q : lk s.stands x with
      | none => rfl
      | some n => rw [q] at e; exact absurd rfl e
    refine ⟨w.hl, w.hok, w.hnd, w.hin, ?_, ?_, w.evlg, w.wait, w.line, w.fresh, w.frs⟩
    · show ((s.stands ++ [(x, s.stood + 1)]).map Prod.fst).Nodup
      rw [List.map_append]
      refine List.nodup_append.mpr ⟨w.snd, by simp, fun a ha b hb e2 => ?_⟩
      simp at hb
      subst hb; subst e2
      exact lk_none.mp e ha
    · intro c hc
      have hc : c ∈ s.stands ++ [(x, s.stood + 1)] := hc
      rcases List.mem_append.mp hc with q | q
      · exact w.sin c q
      · simp at q; subst q; exact h
theorem Wf.go {s : LoomS} (w : Wf s) (x : Str) : Wf (s.go x) := by
  refine ⟨w.hl, w.hok, w.hnd, w.hin, ?_, fun c hc => w.sin c (List.mem_filter.mp hc).1, w.evlg, w.wait, w.line, w.fresh, w.frs⟩
  exact w.snd.sublist ((List.filter_sublist).map _)
theorem Wf.last {s : LoomS} (w : Wf s) {f : Frm} (h1 : f.deeds.length ≤ 30) (h2 : ∀ d ∈ f.deeds, ∀ x ∈ d.names, x ∈ s.hs.map Hnd.name) (h3 : ∀ c ∈ f.called, c.1 ∈ s.hs.map Hnd.name) (h4 : f.called.length ≤ 40) : Wf (s.last f) := by
  refine ⟨w.hl, w.hok, w.hnd, w.hin, w.snd, w.sin, w.evlg, w.wait, w.line, w.fresh, fun g hg => ?_⟩
  have hg : g ∈ s.frames.dropLast ++ [f] := hg
  rcases List.mem_append.mp hg with q | q
  · exact w.frs g (List.dropLast_subset _ q)
  · simp at q; subst q; exact ⟨h1, h2, h3, h4⟩
theorem Wf.sendM {s : LoomS} (w : Wf s) (z : Str) : Wf (s.sendM z) := by
  have hp := (laterM_perm s.rows (s.time, s.events.length)).map Prod.snd
  refine ⟨w.hl, w.hok, w.hnd, w.hin, w.snd, w.sin, ?_, ?_, fun n hn => ?_, fun n hn => ?_, w.frs⟩
  · show (s.events ++ [_]).length ≤ (s.log ++ [_]).length
    simp
    exact w.evlg
  · show s.soon.length + (laterM s.rows _).length ≤ (s.events ++ [_]).length
    rw [laterM_len]
    simp
    have := w.wait
    omega
  · show n < (s.events ++ [_]).length
    simp
    have hn : n ∈ s.soon ++ (laterM s.rows (s.time, s.events.length)).map Prod.snd := hn
    rcases List.mem_append.mp hn with q | q
    · have := w.line n (List.mem_append.mpr (.inl q)); omega
    · rw [hp.mem_iff] at q
      simp at q
      rcases q with rfl | ⟨a, q⟩
      · omega
      · have := w.line n (List.mem_append.mpr (.inr (List.mem_map.mpr ⟨(a, n), q, rfl⟩))); omega
  · show n < (s.events ++ [_]).length
    have := w.fresh n hn
    simp
    omega
theorem Wf.doM {s : LoomS} (w : Wf s) (n : Nat) {d : Deed} (hd : ∀ x ∈ d.names, x ∈ s.hs.map Hnd.name) : Wf (s.doM n d) := by
  have ev1 : ∀ e : Evt, (s.events ++ [e]).length = s.events.length + 1 := fun e => by simp
  cases d with
  | now z =>
    refine ⟨w.hl, w.hok, w.hnd, w.hin, w.snd, w.sin, ?_, ?_, fun k hk => ?_, fun k hk => ?_, w.frs⟩
    · show (s.events ++ [_]).length ≤ (s.log ++ [_]).length
      simp
      exact w.evlg
    · show s.soon.length + s.rows.length ≤ (s.events ++ [_]).length
      have := w.wait
      rw [ev1]; omega
    · show k < (s.events ++ [_]).length
      have := w.line k hk
      rw [ev1]; omega
    · show k < (s.events ++ [_]).length
      have hk : some s.events.length = some k := hk
      cases hk
      rw [ev1]; omega
  | soon z =>
    refine ⟨w.hl, w.hok, w.hnd, w.hin, w.snd, w.sin, ?_, ?_, fun k hk => ?_, fun k hk => ?_, w.frs⟩
    · show (s.events ++ [_]).length ≤ (s.log ++ [_]).length
      simp
      exact w.evlg
    · show (s.soon ++ [_]).length + s.rows.length ≤ (s.events ++ [_]).length
      have := w.wait
      rw [ev1, List.length_append, List.length_singleton]; omega
    · show k < (s.events ++ [_]).length
      have hk : k ∈ (s.soon ++ [s.events.length]) ++ s.rows.map Prod.snd := hk
      rw [ev1]
      rcases List.mem_append.mp hk with q | q
      · rcases List.mem_append.mp q with q | q
        · have := w.line k (List.mem_append.mpr (.inl q)); omega
        · simp at q; omega
      · have := w.line k (List.mem_append.mpr (.inr q)); omega
    · show k < (s.events ++ [_]).length
      have := w.fresh k hk
      rw [ev1]; omega
  | wait t z =>
    have hp := (laterM_perm s.rows (s.time + t, s.events.length)).map Prod.snd
    refine ⟨w.hl, w.hok, w.hnd, w.hin, w.snd, w.sin, ?_, ?_, fun k hk => ?_, fun k hk => ?_, w.frs⟩
    · show (s.events ++ [_]).length ≤ (s.log ++ [_]).length
      simp
      exact w.evlg
    · show s.soon.length + (laterM s.rows _).length ≤ (s.events ++ [_]).length
      have := w.wait
      rw [ev1, laterM_len]; omega
    · show k < (s.events ++ [_]).length
      have hk : k ∈ s.soon ++ (laterM s.rows (s.time + t, s.events.length)).map Prod.snd := hk
      rw [ev1]
      rcases List.mem_append.mp hk with q | q
      · have := w.line k (List.mem_append.mpr (.inl q)); omega
      · rw [hp.mem_iff] at q
        simp at q
        rcases q with rfl | ⟨a, q⟩
        · omega
        · have := w.line k (List.mem_append.mpr (.inr (List.mem_map.mpr ⟨(a, k), q, rfl⟩))); omega
    · show k < (s.events ++ [_]).length
      have := w.fresh k hk
      rw [ev1]; omega
  | cancel z =>
    refine Wf.logd ?_ _
    refine ⟨w.hl, w.hok, w.hnd, w.hin, w.snd, w.sin, w.evlg, ?_, fun k hk => ?_, w.fresh, w.frs⟩
    · refine Nat.le_trans (Nat.add_le_add (List.length_filter_le _ _) (List.length_filter_le _ _)) w.wait
    · rcases List.mem_append.mp hk with q | q
      · exact w.line k (List.mem_append.mpr (.inl (List.mem_filter.mp q).1))
      · obtain ⟨r, hr, e⟩ := List.mem_map.mp q
        exact w.line k (List.mem_append.mpr (.inr (List.mem_map.mpr ⟨r, (List.mem_filter.mp hr).1, e⟩)))
  | join x => exact (w.come (hd x (by simp [Deed.names]))).logd _
  | leave x => exact (w.go x).logd _
  | hush =>
    refine Wf.logd ?_ _
    refine ⟨w.hl, w.hok, w.hnd, w.hin, w.snd, w.sin, w.evlg, w.wait, w.line, w.fresh, fun g hg => ?_⟩
    rcases List.mem_append.mp hg with q | q
    · exact w.frs g (List.dropLast_subset _ q)
    · cases e : s.frames.getLast? with
      | none => rw [e] at q; simp at q
      | some f =>
        rw [e] at q
        simp at q
        subst q
        have := w.frs f (List.mem_of_getLast? e)
        exact ⟨this.1, this.2.1, by simp, by simp⟩
theorem Wf.callM {s : LoomS} (w : Wf s) {f : Frm} {x : Str} {h : Hnd} (hh : handlerOf s.hs x = some h) (h3 : ∀ c ∈ f.called, c.1 ∈ s.hs.map Hnd.name) (h4 : f.called.length ≤ 40) : Wf (s.callM f x h) := by
  have hm := (handlerOf_mem hh).1
  have hk := w.hok h hm
  have h30 : h.deeds.length ≤ 30 := by
    unfold Hnd.ok at hk
    simp only [Bool.and_eq_true, decide_eq_true_eq] at hk
    exact hk.1.2
  have w1 : Wf ((s.last { f with deeds := h.deeds, place := 0 }).logd (.call f.number x)) := (w.last (f := { f with deeds := h.deeds, place := 0 }) h30 (w.hin h hm) h3 h4).logd _
  unfold LoomS.callM
  show Wf (if h.once then _ else _)
  split
  · exact w1.go x
  · exact w1
theorem hearRows_names {hs : List Hnd} {z : Str} : ∀ {l : List Str} {i : Nat} {t : Tri}, t ∈ hearRows hs z i l → t.2.2 ∈ l
  | [], _, _, h => by simp [hearRows] at h
  | x :: l, i, t, h => by
    rw [hearRows] at h
    rcases List.mem_append.mp h with q | q
    · unfold hearRow at q
      cases e : handlerOf hs x with
      | none => rw [e] at q; simp at q
      | some hh =>
        rw [e] at q
        simp only [Option.bind_some] at q
        split at q
        · simp at q; subst q; exact List.mem_cons_self
        · simp at q
    · exact List.mem_cons_of_mem _ (hearRows_names q)
theorem hearersM_names {hs : List Hnd} {l : List Str} {z x : Str} (h : x ∈ hearersM hs l z) : x ∈ l := by
  unfold hearersM at h
  obtain ⟨t, ht, rfl⟩ := List.mem_map.mp h
  exact hearRows_names ((List.mergeSort_perm _ _).mem_iff.mp ht)
theorem hearersM_len (hs : List Hnd) (l : List Str) (z : Str) : (hearersM hs l z).length ≤ l.length := by
  unfold hearersM
  rw [List.length_map, List.length_mergeSort]
  exact hearRows_len
theorem Wf.beginM {s : LoomS} (w : Wf s) (n : Nat) : Wf (s.beginM n) := by
  unfold LoomS.beginM
  split
  · rename_i e he
    refine Wf.logd ?_ _
    refine ⟨w.hl, w.hok, w.hnd, w.hin, w.snd, w.sin, w.evlg, w.wait, w.line, w.fresh, fun g hg => ?_⟩
    rcases List.mem_append.mp hg with q | q
    · exact w.frs g q
    · simp at q
      subst q
      refine ⟨by simp, by simp, fun c hc => ?_, ?_⟩
      · unfold calledM at hc
        obtain ⟨x, hx, rfl⟩ := List.mem_map.mp hc
        obtain ⟨c2, hc2, e2⟩ := List.mem_map.mp (hearersM_names hx)
        show x ∈ _
        rw [← e2]
        exact w.sin c2 hc2
      · show (calledM s e.word).length ≤ 40
        unfold calledM
        rw [List.length_map]
        refine Nat.le_trans (hearersM_len _ _ _) ?_
        rw [List.length_map]
        exact w.stl
  · exact w
theorem Wf.goOnM {s : LoomS} (w : Wf s) {f : Frm} (hf : f ∈ s.frames) : Wf (s.goOnM f) := by
  obtain ⟨f1, f2, f3, f4⟩ := w.frs f hf
  unfold LoomS.goOnM
  split
  · rename_i d hd
    have hm := List.mem_of_getElem? hd
    exact (w.last (f := { f with place := f.place + 1 }) f1 f2 f3 f4).doM _ fun x hx => f2 d hm x hx
  · split
    · rename_i c rest e
      have sub : ∀ a, a ∈ c :: rest → a ∈ f.called := fun a ha => (List.dropWhile_sublist (stale s)).subset (by rw [e]; exact ha)
      have len : (c :: rest).length ≤ f.called.length := by rw [← e]; exact (List.dropWhile_sublist (stale s)).length_le
      split
      · rename_i h hh
        have r3 : ∀ a ∈ rest, a.1 ∈ s.hs.map Hnd.name := fun a ha => f3 a (sub a (List.mem_cons_of_mem _ ha))
        have r4 : rest.length ≤ 40 := by simp at len; omega
        exact (w.last (f := { f with called := rest }) f1 f2 r3 r4).callM hh r3 r4
      · exact w
    · refine Wf.logd ?_ _
      refine ⟨w.hl, w.hok, w.hnd, w.hin, w.snd, w.sin, w.evlg, w.wait, w.line, w.fresh, fun g hg => w.frs g (List.dropLast_subset _ hg)⟩
theorem Wf.stepM {s s' : LoomS} (w : Wf s) (h : s.stepM = some s') : Wf s' := by
  unfold LoomS.stepM at h
  split at h
  · rename_i n hn
    cases h
    exact Wf.beginM (s := { s with fresh := none }) ⟨w.hl, w.hok, w.hnd, w.hin, w.snd, w.sin, w.evlg, w.wait, w.line, (fun _ h => nomatch h), w.frs⟩ n
  · split at h
    · rename_i f hf
      cases h
      exact w.goOnM (List.mem_of_getLast? hf)
    · split at h
      · rename_i n r e
        cases h
        refine Wf.beginM (s := { s with soon := r }) ⟨w.hl, w.hok, w.hnd, w.hin, w.snd, w.sin, w.evlg, ?_, fun k hk => w.line k ?_, w.fresh, w.frs⟩ n
        · have := w.wait
          rw [e] at this
          simp at this
          show r.length + s.rows.length ≤ s.events.length
          omega
        · rw [e]
          rcases List.mem_append.mp hk with q | q
          · exact List.mem_append.mpr (.inl (List.mem_cons_of_mem _ q))
          · exact List.mem_append.mpr (.inr q)
      · split at h
        · rename_i e d n r e2
          cases h
          refine Wf.beginM (s := { s with rows := r, time := _ }) ⟨w.hl, w.hok, w.hnd, w.hin, w.snd, w.sin, w.evlg, ?_, fun k hk => w.line k ?_, w.fresh, w.frs⟩ n
          · have := w.wait
            rw [e2] at this
            simp at this
            show s.soon.length + r.length ≤ s.events.length
            omega
          · rw [e2]
            rcases List.mem_append.mp hk with q | q
            · exact List.mem_append.mpr (.inl q)
            · exact List.mem_append.mpr (.inr (List.mem_cons_of_mem _ q))
        · cases h
theorem doM_log (s : LoomS) (n : Nat) (d : Deed) : (s.doM n d).log.length = s.log.length + 1 ∧ (s.doM n d).frames.length ≤ s.frames.length := by
  cases d with
  | hush =>
    refine ⟨by simp [LoomS.doM, LoomS.logd], ?_⟩
    show (s.frames.dropLast ++ _).length ≤ _
    rw [List.length_append, List.length_dropLast]
    cases e : s.frames.getLast? with
    | none => simp
    | some f =>
      have : s.frames ≠ [] := fun q => by rw [q] at e; cases e
      have := List.length_pos_iff.mpr this
      simp
      omega
  | join x => exact ⟨by show ((s.come x).log ++ [_]).length = _; unfold LoomS.come; split <;> simp, by show (s.come x).frames.length ≤ _; unfold LoomS.come; split <;> exact Nat.le_refl _⟩
  | now _ => exact ⟨by simp [LoomS.doM, LoomS.logd, LoomS.mk1], Nat.le_refl _⟩
  | soon _ => exact ⟨by simp [LoomS.doM, LoomS.logd, LoomS.mk1], Nat.le_refl _⟩
  | wait _ _ => exact ⟨by simp [LoomS.doM, LoomS.logd, LoomS.mk1], Nat.le_refl _⟩
  | cancel _ => exact ⟨by simp [LoomS.doM, LoomS.logd], Nat.le_refl _⟩
  | leave _ => exact ⟨by simp [LoomS.doM, LoomS.logd, LoomS.go], Nat.le_refl _⟩
theorem beginM_log {s : LoomS} {n : Nat} (h : n < s.events.length) : (s.beginM n).log.length = s.log.length + 1 ∧ (s.beginM n).frames.length ≤ s.frames.length + 1 := by
  unfold LoomS.beginM
  have e : s.events[n]? = some s.events[n] := by simp [h]
  rw [e]
  exact ⟨by simp [LoomS.logd], by simp [LoomS.logd]⟩
theorem last_log {s : LoomS} {f : Frm} (hf : s.frames ≠ []) : (s.last f).log.length = s.log.length ∧ (s.last f).frames.length = s.frames.length := by
  refine ⟨rfl, ?_⟩
  show (s.frames.dropLast ++ [f]).length = _
  have := List.length_pos_iff.mpr hf
  simp
  omega
theorem goOnM_log {s : LoomS} (w : Wf s) {f : Frm} (hf : f ∈ s.frames) : (s.goOnM f).log.length = s.log.length + 1 ∧ (s.goOnM f).frames.length ≤ s.frames.length := by
  obtain ⟨f1, f2, f3, f4⟩ := w.frs f hf
  have ne : s.frames ≠ [] := fun q => by rw [q] at hf; cases hf
  unfold LoomS.goOnM
  split
  · rename_i d hd
    have h1 := doM_log (s.last { f with place := f.place + 1 }) f.number d
    have h2 := last_log (f := { f with place := f.place + 1 }) ne
    rw [h2.1, h2.2] at h1
    exact h1
  · split
    · rename_i c rest e
      have sub : c ∈ f.called := (List.dropWhile_sublist (stale s)).subset (by rw [e]; exact List.mem_cons_self)
      obtain ⟨h, hh⟩ := handlerOf_some (f3 c sub)
      rw [hh]
      have h2 := last_log (f := { f with called := rest }) ne
      have ne2 : (s.last { f with called := rest }).frames ≠ [] := fun q => by
        have := h2.2
        rw [q] at this
        have := List.length_pos_iff.mpr ne
        simp at *
        omega
      have h3 := last_log (s := s.last { f with called := rest }) (f := { f with called := rest, deeds := h.deeds, place := 0 }) ne2
      show ((if h.once then _ else _ : LoomS)).log.length = _ ∧ ((if h.once then _ else _ : LoomS)).frames.length ≤ _
      split
      · exact ⟨by show (((s.last _).last _).log ++ [_]).length = _; simp [LoomS.last], by show (((s.last _).last _).frames).length ≤ _; rw [h3.2, h2.2]; exact Nat.le_refl _⟩
      · exact ⟨by show (((s.last _).last _).log ++ [_]).length = _; simp [LoomS.last], by show (((s.last _).last _).frames).length ≤ _; rw [h3.2, h2.2]; exact Nat.le_refl _⟩
    · refine ⟨by simp [LoomS.logd], ?_⟩
      show s.frames.dropLast.length ≤ _
      simp
theorem stepM_log {s s' : LoomS} (w : Wf s) (h : s.stepM = some s') : s'.log.length = s.log.length + 1 ∧ s'.frames.length ≤ s.frames.length + 1 := by
  unfold LoomS.stepM at h
  split at h
  · rename_i n hn
    cases h
    exact beginM_log (s := { s with fresh := none }) (w.fresh n hn)
  · split at h
    · rename_i f hf
      cases h
      have := goOnM_log w (List.mem_of_getLast? hf)
      exact ⟨this.1, Nat.le_succ_of_le this.2⟩
    · split at h
      · rename_i n r e
        cases h
        exact beginM_log (s := { s with soon := r }) (w.line n (by rw [e]; simp))
      · split at h
        · rename_i e d n r e2
          cases h
          exact beginM_log (s := { s with rows := r, time := _ }) (w.line n (by rw [e2]; simp))
        · cases h
theorem runM_wf {s : LoomS} (w : Wf s) : ∀ k, Wf (s.runM k).1
  | 0 => w
  | k + 1 => by
    unfold LoomS.runM
    cases e : s.stepM with
    | none => exact w
    | some s' => exact runM_wf (w.stepM e) k
theorem runM_log {s : LoomS} (w : Wf s) : ∀ k, (s.runM k).1.log.length = s.log.length + (s.runM k).2 ∧ (s.runM k).1.frames.length ≤ s.frames.length + (s.runM k).2 ∧ (s.runM k).2 ≤ k
  | 0 => ⟨rfl, Nat.le_refl _, Nat.le_refl _⟩
  | k + 1 => by
    unfold LoomS.runM
    cases e : s.stepM with
    | none => exact ⟨rfl, Nat.le_refl _, Nat.zero_le _⟩
    | some s' =>
      have h1 := stepM_log w e
      have h2 := runM_log (w.stepM e) k
      refine ⟨?_, ?_, ?_⟩
      · show (s'.runM k).1.log.length = s.log.length + ((s'.runM k).2 + 1)
        omega
      · show (s'.runM k).1.frames.length ≤ s.frames.length + ((s'.runM k).2 + 1)
        omega
      · show (s'.runM k).2 + 1 ≤ k + 1
        omega
def LoomS.waitM (s : LoomS) : List Nat := (match s.fresh with | some n => [n] | none => []) ++ (s.soon ++ s.rows.map Prod.snd)
def LoomS.idleM (s : LoomS) : Bool := s.frames.isEmpty && s.waitM.isEmpty
def LoomS.zero (hs : List Hnd) : LoomS := ⟨hs, 0, [], [], [], none, [], [], 0, []⟩
def LoomS.init (hs : List Hnd) (ns : List Str) : LoomS := ns.foldl LoomS.come (LoomS.zero hs)
theorem Wf.zero {hs : List Hnd} (h40 : hs.length ≤ 40) (hok : ∀ h ∈ hs, h.ok = true) (hnd : (hs.map Hnd.name).Nodup) (hin : ∀ h ∈ hs, ∀ d ∈ h.deeds, ∀ x ∈ d.names, x ∈ hs.map Hnd.name) : Wf (LoomS.zero hs) :=
  ⟨h40, hok, hnd, hin, List.nodup_nil, (fun _ h => nomatch h), Nat.le_refl _, Nat.le_refl _, (fun _ h => nomatch h), (fun _ h => nomatch h), (fun _ h => nomatch h)⟩
theorem come_hs (s : LoomS) (x : Str) : (s.come x).hs = s.hs := by
  unfold LoomS.come
  split <;> rfl
theorem Wf.comes : ∀ (ns : List Str) {s : LoomS}, Wf s → (∀ x ∈ ns, x ∈ s.hs.map Hnd.name) → Wf (ns.foldl LoomS.come s)
  | [], _, w, _ => w
  | x :: ns, s, w, h => Wf.comes ns (w.come (h x (List.mem_cons_self ..))) fun y hy => by
      rw [come_hs]
      exact h y (List.mem_cons_of_mem _ hy)
theorem Wf.init {hs : List Hnd} {ns : List Str} (h40 : hs.length ≤ 40) (hok : ∀ h ∈ hs, h.ok = true) (hnd : (hs.map Hnd.name).Nodup) (hin : ∀ h ∈ hs, ∀ d ∈ h.deeds, ∀ x ∈ d.names, x ∈ hs.map Hnd.name) (h : ∀ x ∈ ns, x ∈ hs.map Hnd.name) : Wf (LoomS.init hs ns) :=
  Wf.comes ns (Wf.zero h40 hok hnd hin) h
end Ev
namespace Ev
open PySem L2
section
variable {P : Program} {w : World} {K : PySem.W.Frag} {mg : Str → Option Value} {base : Heap}
theorem flat_nats (l : List Nat) : (l.map nV).all flatV = true := by simp [flatV, nV]
theorem inV_nats (x : Nat) (l : List Nat) : inV (nV x) (l.map nV) = decide (x ∈ l) := by
  unfold inV
  induction l with
  | nil => simp
  | cons y l ih =>
    rw [List.map_cons, List.any_cons, ih]
    have e : eqV (nV y) (nV x) = decide (y = x) := by
      show ((y : Int) == (x : Int)) = decide (y = x)
      rw [Bool.eq_iff_iff]
      simp
      omega
    rw [e]
    by_cases h : y = x <;> simp [h, eq_comm]
    by_cases h2 : x = y
    · exact absurd h2.symm h
    · simp [h2]
def sp_WaitsInit (W : Addr) : Sp := fun vs H Q _ => ∃ (p dx : Addr), vs = [.ref p] ∧ H p = some (.ins W dx []) ∧
  ∀ H' A', WaitsAt W H' A' [] [] → Kp [p] H H' → A'.wa = p → A'.wdx = dx → H A'.fo = none → H A'.rw = none → Q .non H'
theorem ok_WaitsInit (T : Tx K mg) : FnOk P w K mg base CX0 1 T.f_WaitsInit T.d_WaitsInit ["self"] (sp_WaitsInit T.c_Waits) := by
  refine T.F_WaitsInit.ok sc_WaitsInit (by walk_at "len") (fun cdv A outer s H vs Q E hr h => ?_)
  obtain ⟨p, dx, rfl, hp, k⟩ := h
  refine ⟨_, (pss_cons (ps_fld (pv 0) (pe_lst pa_nil) rfl)
    (pss_one (ps_fld (pv 0) (pe_lst pa_nil) rfl))), ?_⟩
  refine ⟨Nat.zero_le _, fun f hf => ?_⟩
  have k1 : Kp [p] H (upd H f (.lst [])) := (Kp.refl _ _).new hf
  have hp1 : upd H f (.lst []) p = some (.ins T.c_Waits dx []) := by rw [upd_ne (ne_of_none hp hf)]; exact hp
  refine ⟨_, rfl, p, _, dx, [], rfl, hp1, T.cl_Waits, T.n_Waits_first_ones, by decide, ?_⟩
  have k2 := k1.ins (o := .ins T.c_Waits dx (putF "first_ones" (.ref f) [])) (.inl (by simp)) hp1
  refine ⟨Nat.zero_le _, fun r hr' => ?_⟩
  have k3 := k2.new (o := .lst []) hr'
  have npr : p ≠ r := (upd_none hr').1.symm
  have hp3 : upd (upd (upd H f (.lst [])) p (.ins T.c_Waits dx (putF "first_ones" (.ref f) []))) r (.lst []) p = some (.ins T.c_Waits dx (putF "first_ones" (.ref f) [])) := by rw [upd_ne npr]; exact upd_same
  refine ⟨_, rfl, p, _, dx, _, rfl, hp3, T.cl_Waits, T.n_Waits_rows, (by show 1 < 1000; decide), ?_⟩
  have k4 := k3.ins (o := .ins T.c_Waits dx (putF "rows" (.ref r) (putF "first_ones" (.ref f) []))) (.inl (by simp)) hp3
  have nrf : r ≠ f := (upd_none (upd_none hr').2).1
  have npf : p ≠ f := ne_of_none hp hf
  have e : putF "rows" (.ref r) (putF "first_ones" (.ref f) []) = wFs f r := put_new (l := [("first_ones", V.ref f)]) (by show ("rows" : Str) ∉ (["first_ones"] : List Str); decide +kernel)
  refine k _ ⟨p, dx, f, r⟩ ⟨npf, npr, Ne.symm nrf, ?_, ?_, ?_⟩ k4 rfl rfl hf (k2.dom _ hr')
  · rw [← e]; exact upd_same
  · show upd _ p _ f = _
    rw [upd_ne (Ne.symm npf), upd_ne (Ne.symm nrf), upd_ne (Ne.symm npf)]
    exact upd_same
  · exact ⟨[], by rw [upd_ne (Ne.symm npr)]; exact upd_same, .nil⟩
def sp_WaitsSooner (W : Addr) : Sp := fun vs H Q _ => ∃ (A : WtA) (soon : List Nat) (rows : List (Int × Nat)) (n : Nat), vs = [.ref A.wa, nV n] ∧ WaitsAt W H A soon rows ∧ soon.length ≤ 100000 ∧
  ∀ H' A', WtPost W H A H' A' (soon ++ [n]) rows → Q .non H'
theorem ok_WaitsSooner (T : Tx K mg) : FnOk P w K mg base CX0 1 T.f_WaitsSooner T.d_WaitsSooner ["self", "number"] (sp_WaitsSooner T.c_Waits) := by
  refine T.F_WaitsSooner.ok sc_WaitsSooner (by walk_at "len") (fun cdv A outer s H vs Q E hr h => ?_)
  obtain ⟨A, soon, rows, n, rfl, w, hl, k⟩ := h
  refine ⟨_, (pss_one (ps_expr (pe_bm PySem.F.plainAttrs_list PySem.F.slot_list_append PySem.F.type_list_append mt_append (kFld K (pv 0)) (pa_cons (pv 1) pa_nil)))), ?_⟩
  refine ⟨_, rfl, _, _, _, _, _, rfl, w.wa, T.cl_Waits, T.n_Waits_first_ones, wFs_fo _ _, .inl ⟨rfl, _, SqL.of w.fo⟩, _, rfl, A.fo, _, _, rfl, rfl, w.fo, Nat.lt_of_le_of_lt (by simpa using hl) (by decide), ?_⟩
  have kk : Kp A.cells H (upd H A.fo (.lst (soon.map nV ++ [nV n]))) := (Kp.refl _ _).lst (.inl (by simp [WtA.cells])) w.fo
  obtain ⟨xs, h1, h2⟩ := w.rw
  refine k _ A ⟨⟨w.n1, w.n2, w.n3, by rw [upd_ne w.n1]; exact w.wa, by rw [upd_same]; simp, ⟨xs, by rw [upd_ne (Ne.symm w.n3)]; exact h1, Pd.mono (fun _ _ => rwStb _ _ _ _ kk.tk) h2⟩⟩, kk, rfl, rfl, .inl rfl, .inl rfl⟩
def sp_WaitsLineup (W : Addr) : Sp := fun vs H Q _ => ∃ (A : WtA) (soon : List Nat) (rows : List (Int × Nat)), vs = [.ref A.wa] ∧ WaitsAt W H A soon rows ∧ soon.length + rows.length ≤ 100000 ∧
  ∀ p H', H p = none → Kp [] H H' → H' p = some (.lst ((soon ++ rows.map Prod.snd).map nV)) → Q (.ref p) H'
theorem ok_WaitsLineup (T : Tx K mg) : FnOk P w K mg base CX0 1 T.f_WaitsLineup T.d_WaitsLineup ["self"] (sp_WaitsLineup T.c_Waits) := by
  refine T.F_WaitsLineup.ok sc_WaitsLineup (by walk_at "len") (fun cdv A outer s H vs Q E hr h => ?_)
  obtain ⟨A, soon, rows, rfl, w, hl, k⟩ := h
  refine ⟨_, (pss_one (ps_ret (pe_op op_cat (kFld K (pv 0)) (pe_lc (own := [("row", 1)]) (g := gName 1) (tt := tYes) rfl sc_WaitsLineup.nd (pi_list (kFld K (pv 0))) (blkOk_by (own := [("row", 1)]) (N := nm_WaitsLineup) (sc := defScope s_WaitsLineup) (by decide +kernel)) (fun _ _ _ _ _ => (pg_name (i := 1) sc_WaitsLineup.nd rfl (Or.inl rfl))) (fun _ _ _ _ _ => pts_nil) (fun _ _ _ _ _ => (pe_ix (kIxT K) (pv 1) pe_int (fun _ _ => rfl))))))), ?_⟩
  refine ⟨_, rfl, _, _, _, _, _, rfl, w.wa, T.cl_Waits, T.n_Waits_first_ones, wFs_fo _ _, ?_⟩
  walk_at "nf"
  refine lc_go ?_
  obtain ⟨xs, h1, h2⟩ := w.rw
  refine ⟨_, rfl, _, _, _, _, _, rfl, w.wa, T.cl_Waits, T.n_Waits_rows, wFs_rw _ _, _, rfl, ⟨_, SqL.of h1⟩, ?_⟩
  refine lc_mp h2 (Nat.lt_of_le_of_lt (by omega : rows.length ≤ 100000) (by decide)) (SqL.of h1) (fun r => nV r.2) (fun x => rfl) ?_ ?_
  · rintro v d H' Q' hd r kp q
    obtain ⟨p, rfl, hp⟩ := r
    exact ⟨_, rfl, p, _, _, _, rfl, rfl, SqT.of (kp.tk _ _ hp), at1, q _ (Kp.refl _ _)⟩
  · intro D H2 hD k2 hD2
    refine ⟨A.fo, D, _, _, rfl, rfl, k2.keep0 w.fo, hD2, ?_, fun p hp => ?_⟩
    · simp
      exact Nat.le_trans hl (by decide)
    · refine k _ _ (k2.dom _ hp) (k2.new hp) ?_
      rw [upd_same]
      simp
theorem sq0 {n : Nat} (h : 0 < n) : seqIndex? 0 n = some 0 := by
  unfold seqIndex?
  simp
  omega
def sp_WaitsLead (W : Addr) : Sp := fun vs H Q _ => ∃ (A : WtA) (soon : List Nat) (rows : List (Int × Nat)), vs = [.ref A.wa] ∧ WaitsAt W H A soon rows ∧
  (∀ n soon', soon = n :: soon' → ∀ p H' A', WtPost W H A H' A' soon' rows → H' p = some (.tup [nV n, .non]) → Q (.ref p) H') ∧
  (∀ d n rows', soon = [] → rows = (d, n) :: rows' → ∀ p H' A', WtPost W H A H' A' [] rows' → H' p = some (.tup [nV n, .int d]) → Q (.ref p) H') ∧
  (soon = [] → rows = [] → Q .non H)
theorem ok_WaitsLead (T : Tx K mg) : FnOk P w K mg base CX0 1 T.f_WaitsLead T.d_WaitsLead ["self"] (sp_WaitsLead T.c_Waits) := by
  refine T.F_WaitsLead.ok sc_WaitsLead (by walk_at "len") (fun cdv A outer s H vs Q E hr h => ?_)
  obtain ⟨A, soon, rows, rfl, w, k1, k2, k3⟩ := h
  refine ⟨_, (pss_cons (ps_if (kTruth K (kFld K (pv 0)))
        (pss_one (ps_ret (pe_tup (pa_cons (pe_bm PySem.F.plainAttrs_list PySem.F.slot_list_pop PySem.F.type_list_pop mt_popAt (kFld K (pv 0)) (pa_cons pe_int pa_nil)) (pa_cons pe_non pa_nil)))))
        pss_nil)
    (pss_cons (ps_if (kTruth K (kFld K (pv 0)))
        (pss_cons (ps_asg (pe_bm PySem.F.plainAttrs_list PySem.F.slot_list_pop PySem.F.type_list_pop mt_popAt (kFld K (pv 0)) (pa_cons pe_int pa_nil)) (kTup K (pgs_cons (pg_name (i := 1) sc_WaitsLead.nd rfl (Or.inl rfl)) (pgs_cons (pg_name (i := 2) sc_WaitsLead.nd rfl (Or.inl rfl)) pgs_nil))))
        (pss_one (ps_ret (pe_tup (pa_cons (pv 2) (pa_cons (pv 1) pa_nil))))))
        pss_nil)
    (pss_one (ps_ret pe_non)))), ?_⟩
  refine ⟨_, rfl, _, _, _, _, _, rfl, w.wa, T.cl_Waits, T.n_Waits_first_ones, wFs_fo _ _, _, .inl ⟨_, SqL.of w.fo, rfl⟩, ?_⟩
  obtain ⟨xs, h1, h2⟩ := w.rw
  cases soon with
  | cons n soon' =>
    refine iteT ⟨_, rfl, _, _, _, _, _, rfl, w.wa, T.cl_Waits, T.n_Waits_first_ones, wFs_fo _ _, .inl ⟨rfl, _, SqL.of w.fo⟩, A.fo, _, 0, 0, nV n, rfl, rfl, w.fo, by decide, by decide, sq0 (by simp), rfl, ?_⟩
    refine ⟨(by show 2 ≤ sizeLine; decide), fun t ht => ?_⟩
    have kk : Kp A.cells H (upd H A.fo (.lst (soon'.map nV))) := (Kp.refl _ _).lst (.inl (by simp [WtA.cells])) w.fo
    have e : ((n :: soon').map nV).eraseIdx 0 = soon'.map nV := rfl
    rw [e] at ht
    have ntf : ∀ {a : Addr} {o : HO}, upd H A.fo (.lst (soon'.map nV)) a = some o → a ≠ t := fun h => ne_of_none h ht
    have w1 : WaitsAt T.c_Waits (upd H A.fo (.lst (soon'.map nV))) A soon' rows :=
      ⟨w.n1, w.n2, w.n3, by rw [upd_ne w.n1]; exact w.wa, upd_same, ⟨xs, by rw [upd_ne (Ne.symm w.n3)]; exact h1, Pd.mono (fun _ _ => rwStb _ _ _ _ kk.tk) h2⟩⟩
    exact k1 n soon' rfl t _ A ⟨w1.kp (M := []) ((Kp.refl _ _).new ht) (by simp), kk.new ht, rfl, rfl, .inl rfl, .inl rfl⟩ upd_same
  | nil =>
    refine iteF ⟨_, rfl, _, _, _, _, _, rfl, w.wa, T.cl_Waits, T.n_Waits_rows, wFs_rw _ _, _, .inl ⟨_, SqL.of h1, rfl⟩, ?_⟩
    cases rows with
    | nil =>
      cases h2
      exact iteF (k3 rfl rfl)
    | cons r rows' =>
      cases h2 with
      | cons g1 g2 =>
        rename_i x xs'
        obtain ⟨p, rfl, hp⟩ := g1
        refine iteT ⟨_, rfl, _, _, _, _, _, rfl, w.wa, T.cl_Waits, T.n_Waits_rows, wFs_rw _ _, .inl ⟨rfl, _, SqL.of h1⟩, A.rw, _, 0, 0, V.ref p, rfl, rfl, h1, by decide, by decide, sq0 (by simp), rfl, ?_⟩
        have e : (V.ref p :: xs').eraseIdx 0 = xs' := rfl
        rw [e]
        have kk : Kp A.cells H (upd H A.rw (.lst xs')) := (Kp.refl _ _).lst (.inl (by simp [WtA.cells])) h1
        refine ⟨p, _, rfl, SqT.of (kk.tk _ _ hp), rfl, _, _, rfl, _, _, rfl, rfl, ?_⟩
        refine ⟨_, rfl, _, rfl, (by show 2 ≤ sizeLine; decide), fun t ht => ?_⟩
        have w1 : WaitsAt T.c_Waits (upd H A.rw (.lst xs')) A [] rows' :=
          ⟨w.n1, w.n2, w.n3, by rw [upd_ne w.n2]; exact w.wa, by rw [upd_ne w.n3]; exact w.fo, ⟨xs', upd_same, Pd.mono (fun _ _ => rwStb _ _ _ _ kk.tk) g2⟩⟩
        exact k2 r.1 r.2 rows' rfl rfl t _ A ⟨w1.kp (M := []) ((Kp.refl _ _).new ht) (by simp), kk.new ht, rfl, rfl, .inl rfl, .inl rfl⟩ upd_same
def sp_WaitsLater (W : Addr) : Sp := fun vs H Q _ => ∃ (A : WtA) (soon : List Nat) (rows : List (Int × Nat)) (n : Nat) (d : Int), vs = [.ref A.wa, nV n, .int d] ∧ WaitsAt W H A soon rows ∧ rows.length ≤ 100000 ∧
  ∀ H' A', WtPost W H A H' A' soon (laterM rows (d, n)) → Q .non H'
theorem ok_WaitsLater (T : Tx K mg) : FnOk P w K mg base CX0 1 T.f_WaitsLater T.d_WaitsLater ["self", "number", "due"] (sp_WaitsLater T.c_Waits) := by
  refine T.F_WaitsLater.ok sc_WaitsLater (by walk_at "len") (fun cdv A outer s H vs Q E hr h => ?_)
  obtain ⟨A, soon, rows, n, d, rfl, w, hl, k⟩ := h
  refine ⟨_, (pss_cons (ps_set (i := 3) sc_WaitsLater.nd rfl (Or.inl rfl) (pe_callB (kLen K) (by rfl) T.z_len PySem.boot_len (pa_cons (kFld K (pv 0)) pa_nil)))
    (pss_cons (ps_while PassesOwn.never (PW.pt (pw_and (pt_cmpR op_gt (pv 3) pe_int (nomark _)) (pw_and1 (pt_cmpR (kGtP K hr.units0) (pe_ix (kIxL K) (kFld K (pv 0)) (pe_op op_sub (pv 3) pe_int) (fun _ _ => rfl)) (pe_tup (pa_cons (pv 2) (pa_cons (pv 1) pa_nil))) (nomark _)))))
        (pss_one (ps_set (i := 3) sc_WaitsLater.nd rfl (Or.inl rfl) (pe_op op_sub (pv 3) pe_int))))
    (pss_one (ps_expr (pe_bm PySem.F.plainAttrs_list PySem.F.slot_list_insert PySem.F.type_list_insert kInsert (kFld K (pv 0)) (pa_cons (pv 3) (pa_cons (pe_tup (pa_cons (pv 2) (pa_cons (pv 1) pa_nil))) pa_nil))))))), ?_⟩
  obtain ⟨xs, h1, h2⟩ := w.rw
  have lx : xs.length = rows.length := Pd.len h2
  refine ⟨_, rfl, _, _, _, _, _, rfl, w.wa, T.cl_Waits, T.n_Waits_rows, wFs_rw _ _, A.rw, _, rfl, .inl (SqL.of h1), ?_⟩
  refine ⟨fun m σ H' => m ≤ rows.length ∧ placeOf rows (d, n) rows.length = placeOf rows (d, n) m ∧ Kp [] H H' ∧ σ = [some (.ref A.wa), some (nV n), some (.int d), some (nV m)], ⟨rows.length, Nat.le_refl _, rfl, Kp.refl _ _, by rw [lx]; rfl⟩, ?_⟩
  rintro m σ H1 ⟨hm, hp, kp, rfl⟩
  have w1 := w.kp kp (by simp)
  refine ⟨_, rfl, _, _, rfl, rfl, _, rfl, ?_⟩
  have fin : ∀ H2, Kp [] H1 H2 → placeOf rows (d, n) rows.length = m → tDrop (tBM K "list" rIns (tFld K (tVar 0) "rows") (tCons (tVar 3) (tCons (tTup (tCons (tVar 2) (tCons (tVar 1) tNil))) tNil))) { nx := fun x H' => Q .non H', rt := Q } [some (.ref A.wa), some (nV n), some (.int d), some (nV m)] H2 := fun H2 q2 e => by
    have w2 := w1.kp q2 (by simp)
    obtain ⟨ys, g1, g2⟩ := w2.rw
    have ly : ys.length = rows.length := Pd.len g2
    refine ⟨_, rfl, _, _, _, _, _, rfl, w2.wa, T.cl_Waits, T.n_Waits_rows, wFs_rw _ _, .inl ⟨rfl, _, SqL.of g1⟩, _, rfl, _, rfl, _, rfl, (by show 2 ≤ sizeLine; decide), fun t ht => ?_⟩
    have g3 := ((Kp.refl [] _).new (o := .tup [.int d, nV n]) ht).keep0 g1
    refine ⟨A.rw, ys, (m : Int), V.ref t, rfl, rfl, g3, Nat.lt_of_le_of_lt (by omega : ys.length ≤ 100000) (by decide), by omega, by omega, ?_⟩
    have kk : Kp A.cells H (upd (upd H2 t (.tup [.int d, nV n])) A.rw (.lst (ys.take ((m : Int).toNat) ++ [V.ref t] ++ ys.drop ((m : Int).toNat)))) :=
      ((((kp.trans q2).mono (M := A.cells) (by simp)).new ht)).lst (.inl (by simp [WtA.cells])) g3
    have em : ((m : Int)).toNat = m := Int.toNat_natCast m
    have ntr : t ≠ A.rw := fun e => by rw [e, g1] at ht; cases ht
    have kt := (Kp.refl [A.rw] (upd H2 t (.tup [.int d, nV n]))).lst (o := .lst (ys.take ((m : Int).toNat) ++ [V.ref t] ++ ys.drop ((m : Int).toNat))) (.inl (by simp)) g3
    have k2t := (((Kp.refl [] H2).new (o := .tup [.int d, nV n]) ht).tk)
    refine k _ A ⟨⟨w.n1, w.n2, w.n3, ?_, ?_, ?_⟩, kk, rfl, rfl, .inl rfl, .inl rfl⟩
    · rw [upd_ne w.n2, upd_ne (ne_of_none w2.wa ht)]; exact w2.wa
    · rw [upd_ne w.n3, upd_ne (ne_of_none w2.fo ht)]; exact w2.fo
    · refine ⟨_, upd_same, ?_⟩
      rw [em]
      unfold laterM
      rw [e]
      refine Pd.append (Pd.append (Pd.take m (Pd.mono (fun _ _ z => (RwAt.tk k2t z).tk kt.tk) g2)) (.cons ⟨t, rfl, ?_⟩ .nil)) (Pd.drop m (Pd.mono (fun _ _ z => (RwAt.tk k2t z).tk kt.tk) g2))
      rw [upd_ne ntr]
      exact upd_same
  cases m with
  | zero =>
    refine iteF ?_
    exact fin H1 (Kp.refl _ _) hp
  | succ m =>
    refine iteT' (by simp) ?_
    obtain ⟨r, hr1⟩ : ∃ r, rows[m]? = some r := ⟨rows[m]'(by omega), by simp [show m < rows.length by omega]⟩
    obtain ⟨ys, g1, g2⟩ := w1.rw
    obtain ⟨y, hy, p, rfl, hpy⟩ := Pd.at' g2 hr1
    have em : (((m + 1 : Nat) : Int) - 1) = (m : Int) := by omega
    refine ⟨_, rfl, _, _, _, _, _, rfl, w1.wa, T.cl_Waits, T.n_Waits_rows, wFs_rw _ _, _, rfl, _, _, rfl, rfl, A.rw, ys, _, _, rfl, rfl, SqL.of g1, at_of em hy, ?_⟩
    refine ⟨_, rfl, _, rfl, (by show 2 ≤ sizeLine; decide), fun t ht => ⟨p, t, _, _, _, _, rfl, rfl, SqT.of ((Kp.refl [] _).new ht |>.tk _ _ hpy), SqT.of upd_same, _, rfl, ?_⟩⟩
    have q2 : Kp [] H1 (upd H1 t (.tup [.int d, nV n])) := (Kp.refl _ _).new ht
    have eg : decide (d < r.1 ∨ (r.1 = d ∧ ((n : Nat) : Int) < ((r.2 : Nat) : Int))) = rowGt r (d, n) := by
      unfold rowGt
      simp
    rw [eg]
    have ep : placeOf rows (d, n) (m + 1) = if rowGt r (d, n) then placeOf rows (d, n) m else m + 1 := by
      rw [placeOf, hr1]
    rw [ep] at hp
    cases e : rowGt r (d, n) with
    | true =>
      rw [e, if_pos rfl] at hp
      refine iteT ⟨fun σ' H' => m ≤ rows.length ∧ placeOf rows (d, n) rows.length = placeOf rows (d, n) m ∧ Kp [] H H' ∧ σ' = [some (.ref A.wa), some (nV n), some (.int d), some (nV m)], fun σ' H' z => ⟨m, Nat.lt_succ_self _, z⟩, ?_⟩
      refine ⟨_, rfl, _, _, rfl, rfl, by omega, hp, kp.trans q2, ?_⟩
      show [some (V.ref A.wa), some (nV n), some (V.int d), some (V.int (((m + 1 : Nat) : Int) - 1))] = _
      rw [em]
      rfl
    | false =>
      rw [e, if_neg (by decide)] at hp
      exact iteF (fin _ q2 hp)
def sp_WaitsDrop (W : Addr) : Sp := fun vs H Q _ => ∃ (A : WtA) (soon : List Nat) (rows : List (Int × Nat)) (b : Addr) (ns : List Nat), vs = [.ref A.wa, .ref b] ∧ WaitsAt W H A soon rows ∧ soon.length ≤ 100000 ∧ rows.length ≤ 100000 ∧ H b = some (.lst (ns.map nV)) ∧
  ∀ H' A', WtPost W H A H' A' (soon.filter fun n => !decide (n ∈ ns)) (rows.filter fun r => !decide (r.2 ∈ ns)) → Q .non H'
theorem ok_WaitsDrop (T : Tx K mg) : FnOk P w K mg base CX0 1 T.f_WaitsDrop T.d_WaitsDrop ["self", "numbers"] (sp_WaitsDrop T.c_Waits) := by
  refine T.F_WaitsDrop.ok sc_WaitsDrop (by walk_at "len") (fun cdv A outer s H vs Q E hr h => ?_)
  obtain ⟨A, soon, rows, b, ns, rfl, w, hl, hl2, hb, k⟩ := h
  refine ⟨_, (pss_cons (ps_fld (pv 0) (pe_lc (own := [("one", 2)]) (g := gName 2) rfl sc_WaitsDrop.nd (pi_list (kFld K (pv 0))) (blkOk_by (own := [("one", 2)]) (N := nm_WaitsDrop) (sc := defScope s_WaitsDrop) (by decide +kernel)) (fun _ _ _ _ _ => (pg_name (i := 2) sc_WaitsDrop.nd rfl (Or.inl rfl))) (fun _ _ _ _ _ => pts_one (pt_cmpR (kNotIn K) (pv 2) (pv 1) rfl)) (fun _ _ _ _ _ => (pv 2))) rfl)
    (pss_one (ps_fld (pv 0) (pe_lc (own := [("row", 3)]) (g := gName 3) rfl sc_WaitsDrop.nd (pi_list (kFld K (pv 0))) (blkOk_by (own := [("row", 3)]) (N := nm_WaitsDrop) (sc := defScope s_WaitsDrop) (by decide +kernel)) (fun _ _ _ _ _ => (pg_name (i := 3) sc_WaitsDrop.nd rfl (Or.inl rfl))) (fun _ _ _ _ _ => pts_one (pt_cmpR (kNotIn K) (pe_ix (kIxT K) (pv 3) pe_int (fun _ _ => rfl)) (pv 1) rfl)) (fun _ _ _ _ _ => (pv 3))) rfl))), ?_⟩
  obtain ⟨xs, h1, h2⟩ := w.rw
  walk_at "nf"
  refine lc_go ?_
  refine ⟨_, rfl, _, _, _, _, _, rfl, w.wa, T.cl_Waits, T.n_Waits_first_ones, wFs_fo _ _, A.fo, rfl, ⟨_, SqL.of w.fo⟩, ?_⟩
  refine lc_fm (Pd.map (f := nV) (R := fun v n => v = nV n) fun _ _ => rfl) (Nat.lt_of_le_of_lt hl (by decide)) (SqL.of w.fo) nV (fun n => !decide (n ∈ ns)) (fun x => rfl) ?_ ?_ ?_
  · rintro x n H' Q' hn rfl kp q
    refine ⟨_, rfl, _, rfl, b, _, rfl, .inl (SqL.of (kp.keep0 hb)), rfl, flat_nats _, _, rfl, ?_⟩
    rw [inV_nats]
    exact q _ (Kp.refl _ _)
  · rintro x n H' Q' hn rfl hp kp q
    exact ⟨_, rfl, q _ (Kp.refl _ _)⟩
  · intro D H1 hD q1 hD1
    have w1 := w.kp q1 (by simp)
    refine ⟨_, rfl, A.wa, _, A.wdx, _, rfl, w1.wa, T.cl_Waits, T.n_Waits_first_ones, (by show 2 < 1000; decide), ?_⟩
    rw [wFs_pfo]
    have nD : D ≠ A.wa := fun e => by rw [e, w.wa] at hD; cases hD
    have nD2 : D ≠ A.rw := fun e => by rw [e, h1] at hD; cases hD
    have kA : Kp A.cells H1 (upd H1 A.wa (.ins T.c_Waits A.wdx (wFs D A.rw))) := (Kp.refl _ _).ins (.inl (by simp [WtA.cells])) w1.wa
    have nbw : b ≠ A.wa := fun e => by rw [e, w.wa] at hb; cases hb
    have hb2 : upd H1 A.wa (.ins T.c_Waits A.wdx (wFs D A.rw)) b = some (.lst (ns.map nV)) := by rw [upd_ne nbw]; exact q1.keep0 hb
    obtain ⟨ys, g1, g2⟩ := w1.rw
    have w2 : WaitsAt T.c_Waits (upd H1 A.wa (.ins T.c_Waits A.wdx (wFs D A.rw))) ⟨A.wa, A.wdx, D, A.rw⟩ (soon.filter fun n => !decide (n ∈ ns)) rows :=
      ⟨Ne.symm nD, w.n2, nD2, upd_same, (upd_ne nD).trans hD1, ⟨ys, by rw [upd_ne (Ne.symm w.n2)]; exact g1, Pd.mono (fun _ _ => rwStb _ _ _ _ kA.tk) g2⟩⟩
    refine lc_go ?_
    refine ⟨_, rfl, _, _, _, _, _, rfl, w2.wa, T.cl_Waits, T.n_Waits_rows, wFs_rw _ _, A.rw, rfl, ?_⟩
    obtain ⟨zs, e1, e2⟩ := w2.rw
    refine ⟨⟨_, SqL.of e1⟩, ?_⟩
    refine lc_pd e2 (Nat.lt_of_le_of_lt hl2 (by decide)) (fun E pre acc H' => Kp [] (upd H1 A.wa (.ins T.c_Waits A.wdx (wFs D A.rw))) H' ∧ Paired (RwAt (upd H1 A.wa (.ins T.c_Waits A.wdx (wFs D A.rw)))) acc (pre.filter fun r => !decide (r.2 ∈ ns)))
      (fun E hE => ⟨(Kp.refl _ _).new hE, .nil⟩) (fun E pre acc H' hE e q => SqL.of (q.1.keep0 e1)) ?_ ?_
    · rintro E pre acc x r post H' Yes No hE ed rr e ⟨kp, hac⟩ yes no
      obtain ⟨p, rfl, hp⟩ := id rr
      refine ⟨rfl, _, rfl, p, _, _, _, rfl, rfl, SqT.of (kp.tk _ _ hp), at1, _, rfl, b, _, rfl, .inl (SqL.of (kp.keep0 hb2)), rfl, flat_nats _, _, rfl, ?_⟩
      have en : inV (nV r.2) (ns.map nV) = decide (r.2 ∈ ns) := inV_nats _ _
      show if (if _ then !inV (nV r.2) (ns.map nV) else _) = true then _ else _
      rw [en]
      by_cases hin : r.2 ∈ ns
      · rw [decide_eq_true hin]
        refine iteF' rfl (no _ e ⟨kp, ?_⟩)
        rw [List.filter_append]
        simp [hin]
        exact hac
      · rw [decide_eq_false hin]
        refine iteT' rfl ⟨_, rfl, yes _ _ e ⟨kp.lst (.inr hE) e, ?_⟩⟩
        rw [List.filter_append]
        simp [hin]
        exact Pd.append hac (.cons rr .nil)
    · rintro E acc H2 hE e ⟨kp, hac⟩
      have w3 := w2.kp kp (by simp)
      refine ⟨_, rfl, A.wa, _, A.wdx, _, rfl, w3.wa, T.cl_Waits, T.n_Waits_rows, (by show 2 < 1000; decide), ?_⟩
      rw [wFs_prw]
      have kB : Kp A.cells H2 (upd H2 A.wa (.ins T.c_Waits A.wdx (wFs D E))) := (Kp.refl _ _).ins (.inl (by simp [WtA.cells])) w3.wa
      have nE : E ≠ A.wa := fun z => by rw [z, upd_same] at hE; cases hE
      have nED : D ≠ E := fun z => by rw [← z, upd_ne nD, hD1] at hE; cases hE
      have hE1 : H E = none := q1.dom _ (upd_none hE).2
      refine k _ ⟨A.wa, A.wdx, D, E⟩ ⟨⟨Ne.symm nD, Ne.symm nE, nED, upd_same, ?_, ⟨acc, ?_, ?_⟩⟩, ?_, rfl, rfl, .inr hD, .inr hE1⟩
      · show upd H2 A.wa _ D = _
        rw [upd_ne nD]
        exact w3.fo
      · show upd H2 A.wa _ E = _
        rw [upd_ne nE]
        exact e
      · exact Pd.mono (fun _ _ z => (RwAt.tk kp.tk z).tk kB.tk) hac
      · exact (((q1.mono (M := A.cells) (by simp)).trans kA).trans (kp.mono (by simp))).trans kB
end
end Ev
namespace Ev
open PySem L2
section
variable {P : Program} {w : World} {K : PySem.W.Frag} {mg : Str → Option Value} {base : Heap}
def Tx.cs (T : Tx K mg) : Cs := ⟨T.c_Loom, T.c_Waits, T.c_Frame⟩
def sp_LoomCome (C : Cs) : Sp := fun vs H Q _ => ∃ (A : LoomA) (s : LoomS) (x : Str), vs = [.ref A.p, .str x] ∧ LoomAt C H A s ∧ s.stands.length ≤ 100000 ∧ ∀ H' A', Went C H A H' A' (s.come x) → A'.frs = A.frs → Q .non H'
theorem ok_LoomCome (T : Tx K mg) : FnOk P w K mg base CX0 1 T.f_LoomCome T.d_LoomCome ["self", "name"] (sp_LoomCome T.cs) := by
  refine T.F_LoomCome.ok sc_LoomCome (by walk_at "len") (fun cdv A outer s H vs Q E hr h => ?_)
  obtain ⟨A, s1, x, rfl, L, hl, k⟩ := h
  refine ⟨_, (pss_one (ps_if (pt_cmp (pc_dnotin (hu_of hr) (pv 1) (kFld K (pv 0))) rfl)
        (pss_cons (ps_fld (pv 0) (pe_op op_add (kFld K (pv 0)) pe_int) rfl)
        (pss_one (ps_dput (hu_of hr) (kFld K (pv 0)) (pv 1) (kFld K (pv 0)) rfl)))
        pss_nil)), ?_⟩
  refine ⟨_, rfl, _, rfl, A.p, T.c_Loom, A.dx, _, _, rfl, L.p, T.cl_Loom, T.n_Loom_standings, lf_standings _ _, A.sd, _, rfl, DGet.k (k := Sum.inr x) L.sd, _, rfl, ?_⟩
  rw [sd_val]
  cases e : lk s1.stands x with
  | some n =>
    refine iteF' rfl ?_
    have W := Went.refl L
    have es : s1.come x = s1 := by unfold LoomS.come; rw [e]; rfl
    exact k _ A (by rw [es]; exact W) rfl
  | none =>
    refine iteT' rfl ?_
    refine ⟨_, rfl, A.p, _, A.dx, _, _, rfl, L.p, T.cl_Loom, T.n_Loom_stood, lf_stood _ _, _, _, rfl, rfl, _, rfl, A.p, _, A.dx, _, rfl, L.p, T.cl_Loom, T.n_Loom_stood, (by show 9 < 1000; decide), ?_⟩
    have e1 : putF "stood" (V.int ((s1.stood : Int) + 1)) (loomFs A s1) = loomFs A { s1 with stood := s1.stood + 1 } := lp_stood A s1 (s1.stood + 1)
    rw [e1]
    have W1 := L.setP { s1 with stood := s1.stood + 1 } rfl rfl rfl rfl rfl rfl rfl
    have L1 := W1.l
    refine ⟨_, rfl, A.p, _, A.dx, _, _, rfl, L1.p, T.cl_Loom, T.n_Loom_stood, lf_stood _ _, ?_⟩
    refine ⟨_, rfl, A.p, _, A.dx, _, _, rfl, L1.p, T.cl_Loom, T.n_Loom_standings, lf_standings _ _, _, rfl, A.sd, _, rfl, DPut.k (k := Sum.inr x) L1.sd ?_, ?_⟩
    · unfold sdK
      rw [List.length_map]
      exact Nat.lt_of_le_of_lt hl (by decide)
    · have e2 : putK (sdK s1.stands) (Sum.inr x) (nV (s1.stood + 1)) = sdK (s1.stands ++ [(x, s1.stood + 1)]) := sd_put e
      show Q V.non (upd _ A.sd (.dK (putK (sdK s1.stands) (Sum.inr x) (nV (s1.stood + 1)))))
      rw [e2]
      have es : s1.come x = { s1 with stood := s1.stood + 1, stands := s1.stands ++ [(x, s1.stood + 1)] } := by unfold LoomS.come; rw [e]; rfl
      refine k _ A ?_ rfl
      rw [es]
      exact W1.trans (L1.setSd (s1.stands ++ [(x, s1.stood + 1)]))
def sp_LoomGo (C : Cs) : Sp := fun vs H Q _ => ∃ (A : LoomA) (s : LoomS) (x : Str), vs = [.ref A.p, .str x] ∧ LoomAt C H A s ∧ s.stands.length ≤ 100000 ∧ (s.stands.map Prod.fst).Nodup ∧ ∀ H' A', Went C H A H' A' (s.go x) → A'.frs = A.frs → Q .non H'
theorem ok_LoomGo (T : Tx K mg) : FnOk P w K mg base CX0 1 T.f_LoomGo T.d_LoomGo ["self", "name"] (sp_LoomGo T.cs) := by
  refine T.F_LoomGo.ok sc_LoomGo (by walk_at "len") (fun cdv A outer s H vs Q E hr h => ?_)
  obtain ⟨A, s1, x, rfl, L, hl, nd, k⟩ := h
  refine ⟨_, (pss_cons (ps_set (i := 2) sc_LoomGo.nd rfl (Or.inl rfl) pe_dnewK)
    (pss_cons (ps_for PassesOwn.never rfl (pi_list (pe_callTy (call_list_dK rfl) (by rfl) T.z_list (by decide +kernel) (pa_cons (kFld K (pv 0)) pa_nil))) (pg_name (i := 3) sc_LoomGo.nd rfl (Or.inl rfl))
        (pss_one (ps_if (pt_cmpR op_ne (pv 3) (pv 1) (nomark _))
            (pss_one (ps_dput (hu_of hr) (pv 2) (pv 3) (pe_dget (hu_of hr) (kFld K (pv 0)) (pv 3) (fun _ _ => rfl)) rfl))
            pss_nil)))
    (pss_one (ps_fld (pv 0) (pv 2) rfl)))), ?_⟩
  refine seq_go ?_
  intro d hd
  have k1 : Kp [] H (upd H d (.dK [])) := (Kp.refl _ _).new hd
  have L1 := L.new (o := .dK []) hd
  walk_at "nf"
  refine for_go ?_
  refine ⟨_, rfl, A.p, _, A.dx, _, _, rfl, L1.p, T.cl_Loom, T.n_Loom_standings, lf_standings _ _, A.sd, _, rfl, L1.sd, fun q hq => ?_⟩
  have k2 := k1.new (o := .lst ((sdK s1.stands).map fun kv => kV kv.1)) hq
  have L2 := L1.new (o := .lst ((sdK s1.stands).map fun kv => kV kv.1)) hq
  have nqd : q ≠ d := (upd_none hq).1
  have ek : (sdK s1.stands).map (fun kv => kV kv.1) = s1.stands.map (fun c => V.str c.1) := by simp [sdK, kV]
  refine ⟨q, rfl, ⟨_, SqL.of upd_same⟩, ?_⟩
  rw [ek] at L2 k2 ⊢
  refine for_pd (Pd.map (f := fun c : Str × Nat => V.str c.1) (R := fun v c => v = V.str c.1) fun _ _ => rfl) (fun pre σ H' => Kp [d] (upd (upd H d (.dK [])) q (.lst (s1.stands.map fun c => V.str c.1))) H' ∧ LoomAt T.cs H' A s1 ∧ H' q = some (.lst (s1.stands.map fun c => V.str c.1)) ∧
      H' d = some (.dK (sdK (pre.filter fun c => decide (c.1 ≠ x)))) ∧ ∃ o, σ = [some (.ref A.p), some (.str x), some (.ref d), o])
    ⟨Kp.refl _ _, L2, upd_same, by rw [upd_ne (Ne.symm nqd)]; exact upd_same, _, rfl⟩ (fun pre σ H' z => SqL.of z.2.2.1) ?_ ?_
  · rintro pre v c post σ H' ed rfl ⟨kp, L3, hq3, hd3, o, rfl⟩
    refine ⟨_, rfl, _, rfl, rfl, _, rfl, ?_⟩
    by_cases hc : c.1 = x
    · rw [decide_eq_true (by rw [hc])]
      refine iteF' rfl ⟨kp, L3, hq3, ?_, _, rfl⟩
      rw [hd3, List.filter_append]
      simp [hc]
    · rw [decide_eq_false (fun z => hc (V.str.inj z))]
      refine iteT' rfl ?_
      have ev : lk s1.stands c.1 = some c.2 := by
        unfold lk
        have : s1.stands.find? (fun e => decide (e.1 = c.1)) = some c := by
          rw [List.find?_eq_some_iff_append]
          refine ⟨by simp, pre, post, ed, fun a ha => ?_⟩
          have : a.1 ≠ c.1 := fun z => by
            rw [ed, List.map_append] at nd
            exact (List.nodup_append.mp nd).2.2 a.1 (List.mem_map.mpr ⟨a, ha, rfl⟩) c.1 (by simp) z
          simpa using this
        rw [this]
        rfl
      refine ⟨_, rfl, A.p, _, A.dx, _, _, rfl, L3.p, T.cl_Loom, T.n_Loom_standings, lf_standings _ _, _, rfl, A.sd, nV c.2, rfl, ?_, _, rfl, _, rfl, d, _, rfl, DPut.k (k := Sum.inr c.1) hd3 ?_, ?_⟩
      · have := DGet.k (k := Sum.inr c.1) L3.sd
        rw [sd_val, ev] at this
        exact this
      · unfold sdK
        rw [List.length_map]
        refine Nat.lt_of_le_of_lt (m := 100000) ?_ (by decide)
        refine Nat.le_trans (List.length_filter_le _ _) (Nat.le_trans ?_ hl)
        rw [ed]
        simp
      · have en : lk (pre.filter fun c => decide (c.1 ≠ x)) c.1 = none := lk_none.mpr fun z => by
          obtain ⟨a, ha, e⟩ := List.mem_map.mp z
          rw [ed, List.map_append] at nd
          exact (List.nodup_append.mp nd).2.2 a.1 (List.mem_map.mpr ⟨a, (List.mem_filter.mp ha).1, rfl⟩) c.1 (by simp) e
        rw [sd_put en]
        have nd3 : d ∉ A.cells := L.fresh hd
        have kk : Kp [d] H' (upd H' d (.dK (sdK ((pre.filter fun c => decide (c.1 ≠ x)) ++ [(c.1, c.2)])))) := (Kp.refl _ _).dk (.inl (by simp)) hd3
        refine ⟨kp.trans kk, L3.kp kk (fun a ha z => nd3 (by rw [List.mem_singleton] at z; rw [← z]; exact ha)), kk.keep _ _ (by simp [nqd]) hq3, ?_, _, rfl⟩
        rw [upd_same, List.filter_append]
        simp [hc]
  · rintro σ H' ⟨kp, L3, hq3, hd3, o, rfl⟩
    refine ⟨_, rfl, _, rfl, A.p, _, A.dx, _, rfl, L3.p, T.cl_Loom, T.n_Loom_standings, (by show 9 < 1000; decide), ?_⟩
    rw [lp_sd A s1 d (s1.stands.filter fun c => decide (c.1 ≠ x))]
    have kH : Kp [] H H' := by
      refine (k2.transM kp fun p hp => .inr ?_).mono (by simp)
      rw [List.mem_singleton] at hp
      rw [hp]; exact hd
    have W : Went T.cs H A H' A s1 := ⟨L3, kH.mono (by simp), fun _ h => .inl h, rfl⟩
    exact k _ _ (W.newSd (s1.stands.filter fun c => decide (c.1 ≠ x)) hd (L.fresh hd) hd3) rfl
end
end Ev
namespace Ev
open PySem L2
section
variable {P : Program} {w : World} {K : PySem.W.Frag} {mg : Str → Option Value} {base : Heap}
def sp_LoomMade (C : Cs) : Sp := fun vs H Q _ => ∃ (A : LoomA) (s : LoomS) (e : Evt), vs = [.ref A.p, .str e.word, onV e.maker, .str e.road.str, .int e.due] ∧ LoomAt C H A s ∧ s.events.length ≤ 100000 ∧
  ∀ H' A', Went C H A H' A' { s with events := s.events ++ [e] } → Q (nV s.events.length) H'
theorem ok_LoomMade (T : Tx K mg) : FnOk P w K mg base CX0 1 T.f_LoomMade T.d_LoomMade ["self", "word", "maker", "road", "due"] (sp_LoomMade T.cs) := by
  refine T.F_LoomMade.ok sc_LoomMade (by walk_at "len") (fun cdv A outer s H vs Q E hr h => ?_)
  obtain ⟨A, s1, e, rfl, L, hl, k⟩ := h
  refine ⟨_, (pss_cons (ps_expr (pe_bm PySem.F.plainAttrs_list PySem.F.slot_list_append PySem.F.type_list_append mt_append (kFld K (pv 0)) (pa_cons (pe_tup (pa_cons (pv 1) (pa_cons (pv 2) (pa_cons (pv 3) (pa_cons (pv 4) pa_nil))))) pa_nil)))
    (pss_one (ps_ret (pe_op op_sub (pe_callB (kLen K) (by rfl) T.z_len PySem.boot_len (pa_cons (kFld K (pv 0)) pa_nil)) pe_int)))), ?_⟩
  obtain ⟨xs, h1, h2⟩ := L.ev
  refine ⟨_, rfl, A.p, _, A.dx, _, _, rfl, L.p, T.cl_Loom, T.n_Loom_events, lf_events _ _, .inl ⟨rfl, _, SqL.of h1⟩, _, rfl, _, rfl, _, rfl, _, rfl, (by show 4 ≤ sizeLine; decide), fun t ht => ?_⟩
  have W1 := (Went.refl L).new (o := .tup [.str e.word, onV e.maker, .str e.road.str, .int e.due]) ht
  have L1 := W1.l
  have tk1 := ((Kp.refl [] H).new (o := .tup [.str e.word, onV e.maker, .str e.road.str, .int e.due]) ht)
  have hx : xs.length = s1.events.length := Pd.len h2
  refine ⟨A.ev, xs, _, rfl, rfl, tk1.keep0 h1, Nat.lt_of_le_of_lt (by omega : xs.length ≤ 100000) (by decide), ?_⟩
  have W2 := W1.trans (L1.setEv (xs := xs ++ [.ref t]) (es := s1.events ++ [e]) (Pd.append (Pd.mono (fun _ _ z => evtStb _ _ _ _ tk1.tk z) h2) (.cons ⟨t, rfl, upd_same⟩ .nil)))
  have L2 := W2.l
  obtain ⟨ys, g1, g2⟩ := L2.ev
  refine ⟨_, rfl, A.p, _, A.dx, _, _, rfl, L2.p, T.cl_Loom, T.n_Loom_events, lf_events _ _, A.ev, _, rfl, .inl (SqL.of g1), _, _, rfl, rfl, ?_⟩
  have e3 : ((ys.length : Nat) : Int) - 1 = ((s1.events.length : Nat) : Int) := by
    have : ys.length = (s1.events ++ [e]).length := Pd.len g2
    rw [this, List.length_append, List.length_singleton]
    omega
  show Q (.int (((ys.length : Nat) : Int) - 1)) _
  rw [e3]
  exact k _ A W2
/-- a row is written -/
theorem logged {C : Cs} {H0 : Hp} {A0 A : LoomA} {H : Hp} {s : LoomS} (W : Went C H0 A0 H A s) {xs : List V} {v : V} {r : Row} (h : H A.lg = some (.lst xs)) (h2 : Paired (RowAt H) xs s.log) (hr : RowAt H v r) : Went C H0 A0 (upd H A.lg (.lst (xs ++ [v]))) A (s.logd r) :=
  W.trans (W.l.setLg (Pd.append h2 (.cons hr .nil)))
def sp_LoomSend (C : Cs) : Sp := fun vs H Q _ => ∃ (A : LoomA) (s : LoomS) (z : Str), vs = [.ref A.p, .str z] ∧ LoomAt C H A s ∧ isWord z = true ∧ s.events.length ≤ 100000 ∧ s.log.length ≤ 100000 ∧ s.rows.length ≤ 100000 ∧
  ∀ H' A', Went C H A H' A' (s.sendM z) → Q (nV s.events.length) H'
theorem ok_LoomSend (T : Tx K mg) : FnOk P w K mg base CX0 3 T.f_LoomSend T.d_LoomSend ["self", "word"] (sp_LoomSend T.cs) := by
  refine T.F_LoomSend.ok sc_LoomSend (by walk_at "len") (fun cdv A outer s H vs Q E hr h => ?_)
  obtain ⟨A, s1, z, rfl, L, hz, hl1, hl2, hl3, k⟩ := h
  have wd : z.length ≤ sizeLine := by
    unfold isWord at hz
    simp only [Bool.and_eq_true, decide_eq_true_eq] at hz
    exact Nat.le_trans hz.1.2 (by decide)
  refine ⟨_, (pss_cons (ps_set (i := 2) sc_LoomSend.nd rfl (Or.inl rfl) (pe_meth (pv 0) T.cl_Loom T.m_LoomMade (ok_LoomMade T) (hr.mono (by decide)) T.b_LoomMade .nil pass0 (pa_cons (pe_call (ok_needWord T) (hr.mono (by decide)) rfl T.g_needWord T.F_needWord.kp T.b_needWord .nil pass0 (pa_cons (pv 1) pa_nil)) (pa_cons pe_non (pa_cons pe_str (pa_cons (kFld K (pv 0)) pa_nil))))))
    (pss_cons (ps_expr (pe_meth (kFld K (pv 0)) T.cl_Waits T.m_WaitsLater (ok_WaitsLater T) (hr.mono (by decide)) T.b_WaitsLater .nil pass0 (pa_cons (pv 2) (pa_cons (kFld K (pv 0)) pa_nil))))
    (pss_cons (ps_expr (pe_bm PySem.F.plainAttrs_list PySem.F.slot_list_append PySem.F.type_list_append mt_append (kFld K (pv 0)) (pa_cons (pe_tup (pa_cons pe_str (pa_cons (pv 2) pa_nil))) pa_nil)))
    (pss_one (ps_ret (pv 2)))))), ?_⟩
  refine ⟨_, rfl, A.p, A.dx, _, rfl, L.p, lf_no (by decide +kernel), _, rfl, z, rfl, hz, wd, fun H1 k1 => ?_⟩
  have W1 := (Went.refl L).kp0 k1
  have L1 := W1.l
  refine ⟨_, rfl, A.p, _, A.dx, _, _, rfl, L1.p, T.cl_Loom, T.n_Loom_time, lf_time _ _, ?_⟩
  refine ⟨A, s1, ⟨z, none, .wait, s1.time⟩, rfl, L1, hl1, fun H2 A2 V2 => ?_⟩
  have W2 := W1.trans V2
  have L2 := W2.l
  have pe := V2.p
  refine ⟨_, rfl, A.p, _, A2.dx, _, _, rfl, by rw [← pe]; exact L2.p, T.cl_Loom, T.n_Loom_line, lf_line _ _, A2.wa, A2.wdx, _, rfl, L2.wa, wf_no (by decide +kernel), ?_⟩
  refine ⟨_, rfl, _, rfl, A.p, _, A2.dx, _, _, rfl, by rw [← pe]; exact L2.p, T.cl_Loom, T.n_Loom_time, lf_time _ _, ?_⟩
  refine ⟨A2.wt, _, _, s1.events.length, s1.time, rfl, L2.waits, hl3, fun H3 B3 P3 => ?_⟩
  have V3 := L2.wait P3
  have W3 := W2.trans V3
  have L3 := W3.l
  have pe3 : A2.p = A.p := pe
  obtain ⟨xs, g1, g2⟩ := L3.lg
  have hx : xs.length = s1.log.length := Pd.len g2
  refine ⟨_, rfl, A.p, _, A2.dx, _, _, rfl, by rw [← pe3]; exact L3.p, T.cl_Loom, T.n_Loom_log, lf_log _ _, .inl ⟨rfl, _, SqL.of g1⟩, _, rfl, (by show 2 ≤ sizeLine; decide), fun t ht => ?_⟩
  have W4 := W3.new (o := .tup [.str "send", nV s1.events.length]) ht
  have tk4 := (Kp.refl [] H3).new (o := .tup [.str "send", nV s1.events.length]) ht
  refine ⟨A2.lg, xs, _, rfl, rfl, tk4.keep0 g1, Nat.lt_of_le_of_lt (by omega : xs.length ≤ 100000) (by decide), ?_⟩
  have W5 := logged W4 (tk4.keep0 g1) (Pd.mono (fun _ _ z => rowStb _ _ _ _ tk4.tk z) g2) (v := .ref t) (r := .send s1.events.length) ⟨t, 0, rfl, upd_same, trivial⟩
  exact ⟨_, rfl, k _ _ W5⟩
def Deed.isMake : Deed → Bool
  | .now _ => true | .soon _ => true | .wait _ _ => true | _ => false
def sp_LoomMake (C : Cs) : Sp := fun vs H Q _ => ∃ (A : LoomA) (s : LoomS) (m : Nat) (v : V) (d : Deed), vs = [.ref A.p, nV m, v] ∧ LoomAt C H A s ∧ DeedAt H v d ∧ d.isMake = true ∧ s.events.length ≤ 100000 ∧ s.log.length ≤ 100000 ∧ s.soon.length ≤ 100000 ∧ s.rows.length ≤ 100000 ∧
  ∀ H' A', Went C H A H' A' (s.doM m d) → Q .non H'
theorem ok_LoomMake (T : Tx K mg) : FnOk P w K mg base CX0 2 T.f_LoomMake T.d_LoomMake ["self", "maker", "deed"] (sp_LoomMake T.cs) := by
  refine T.F_LoomMake.ok sc_LoomMake (by walk_at "len") (fun cdv A outer s H vs Q E hr h => ?_)
  obtain ⟨A, s1, m, v, d, rfl, L, hv, hd, hl1, hl2, hl3, hl4, k⟩ := h
  refine ⟨_, (pss_cons (ps_set (i := 3) sc_LoomMake.nd rfl (Or.inl rfl) (kFld K (pv 0)))
    (pss_cons (ps_if (pt_cmpR op_eq (pe_ix (kIxT K) (pv 2) pe_int (fun _ _ => rfl)) pe_str (nomark _))
        (pss_one (ps_set (i := 3) sc_LoomMake.nd rfl (Or.inl rfl) (pe_op op_add (pv 3) (pe_ix (kIxT K) (pv 2) pe_int (fun _ _ => rfl)))))
        pss_nil)
    (pss_cons (ps_set (i := 4) sc_LoomMake.nd rfl (Or.inl rfl) (pe_meth (pv 0) T.cl_Loom T.m_LoomMade (ok_LoomMade T) (hr.mono (by decide)) T.b_LoomMade .nil pass0 (pa_cons (pe_ix (kIxT K) (pv 2) (pe_un un_neg pe_int) (fun _ _ => rfl)) (pa_cons (pv 1) (pa_cons (pe_ix (kIxT K) (pv 2) pe_int (fun _ _ => rfl)) (pa_cons (pv 3) pa_nil))))))
    (pss_cons (ps_if (pt_cmpR op_eq (pe_ix (kIxT K) (pv 2) pe_int (fun _ _ => rfl)) pe_str (nomark _))
        (pss_one (ps_fld (pv 0) (pv 4) rfl))
        (pss_one (ps_if (pt_cmpR op_eq (pe_ix (kIxT K) (pv 2) pe_int (fun _ _ => rfl)) pe_str (nomark _))
            (pss_one (ps_expr (pe_meth (kFld K (pv 0)) T.cl_Waits T.m_WaitsSooner (ok_WaitsSooner T) (hr.mono (by decide)) T.b_WaitsSooner .nil pass0 (pa_cons (pv 4) pa_nil))))
            (pss_one (ps_expr (pe_meth (kFld K (pv 0)) T.cl_Waits T.m_WaitsLater (ok_WaitsLater T) (hr.mono (by decide)) T.b_WaitsLater .nil pass0 (pa_cons (pv 4) (pa_cons (pv 3) pa_nil))))))))
    (pss_one (ps_expr (pe_bm PySem.F.plainAttrs_list PySem.F.slot_list_append PySem.F.type_list_append mt_append (kFld K (pv 0)) (pa_cons (pe_tup (pa_cons pe_str (pa_cons (pv 1) (pa_cons (pv 4) pa_nil)))) pa_nil)))))))), ?_⟩
  cases d with
  | now z =>
    obtain ⟨p, rfl, hp⟩ := hv
    refine ⟨_, rfl, A.p, _, A.dx, _, _, rfl, L.p, T.cl_Loom, T.n_Loom_time, lf_time _ _, ?_⟩
    refine ⟨_, rfl, p, _, _, _, rfl, rfl, SqT.of hp, at0, rfl, _, rfl, ?_⟩
    refine iteF' (by decide +kernel) ?_
    refine ⟨_, rfl, A.p, A.dx, _, rfl, L.p, lf_no (by decide +kernel), _, rfl, _, rfl, p, _, _, _, rfl, rfl, SqT.of hp, atLast rfl, _, rfl, _, rfl, p, _, _, _, rfl, rfl, SqT.of hp, at0, _, rfl, ?_⟩
    refine ⟨A, s1, ⟨z, some m, .now, s1.time⟩, rfl, L, hl1, fun H2 A2 V2 => ?_⟩
    have L2 := V2.l
    have pe := V2.p
    have hp2 : H2 A.p = some (.ins T.cs.L A2.dx (loomFs A2 { s1 with events := s1.events ++ [⟨z, some m, .now, s1.time⟩] })) := by rw [← pe]; exact L2.p
    have hp' := V2.kp.tk _ _ hp
    refine ⟨_, rfl, p, _, _, _, rfl, rfl, SqT.of hp', at0, rfl, _, rfl, ?_⟩
    refine iteT' (by decide +kernel) ⟨_, rfl, _, rfl, A.p, _, A2.dx, _, rfl, hp2, T.cl_Loom, T.n_Loom_fresh, (by show 9 < 1000; decide), ?_⟩
    have ef : putF "fresh" (nV s1.events.length) (loomFs A2 { s1 with events := s1.events ++ [⟨z, some m, .now, s1.time⟩] }) = loomFs A2 { s1 with events := s1.events ++ [⟨z, some m, .now, s1.time⟩], fresh := some s1.events.length } := lp_fresh A2 _ (some s1.events.length)
    rw [ef]
    have V3 := L2.setP { s1 with events := s1.events ++ [⟨z, some m, .now, s1.time⟩], fresh := some s1.events.length } rfl rfl rfl rfl rfl rfl rfl
    rw [pe] at V3
    have W3 := V2.trans V3
    have L3 := W3.l
    have hp3 := L3.p
    rw [pe] at hp3
    obtain ⟨xs, g1, g2⟩ := L3.lg
    have hx : xs.length = s1.log.length := Pd.len g2
    refine ⟨_, rfl, A.p, _, A2.dx, _, _, rfl, hp3, T.cl_Loom, T.n_Loom_log, lf_log _ _, .inl ⟨rfl, _, SqL.of g1⟩, ?_⟩
    refine ⟨_, rfl, _, rfl, (by show 3 ≤ sizeLine; decide), fun t ht => ?_⟩
    have W4 := W3.new (o := .tup [.str "make", nV m, nV s1.events.length]) ht
    have tk4 := (Kp.refl [] _).new (o := .tup [.str "make", nV m, nV s1.events.length]) ht
    refine ⟨A2.lg, xs, _, rfl, rfl, tk4.keep0 g1, Nat.lt_of_le_of_lt (by omega : xs.length ≤ 100000) (by decide), ?_⟩
    have W5 := logged W4 (tk4.keep0 g1) (Pd.mono (fun _ _ z => rowStb _ _ _ _ tk4.tk z) g2) (v := .ref t) (r := .make m s1.events.length) ⟨t, 0, rfl, upd_same, trivial⟩
    exact k _ _ (W5.to (by simp [LoomS.doM, LoomS.mk1, LoomS.logd]))
  | soon z =>
    obtain ⟨p, rfl, hp⟩ := hv
    refine ⟨_, rfl, A.p, _, A.dx, _, _, rfl, L.p, T.cl_Loom, T.n_Loom_time, lf_time _ _, ?_⟩
    refine ⟨_, rfl, p, _, _, _, rfl, rfl, SqT.of hp, at0, rfl, _, rfl, ?_⟩
    refine iteF' (by decide +kernel) ?_
    refine ⟨_, rfl, A.p, A.dx, _, rfl, L.p, lf_no (by decide +kernel), _, rfl, _, rfl, p, _, _, _, rfl, rfl, SqT.of hp, atLast rfl, _, rfl, _, rfl, p, _, _, _, rfl, rfl, SqT.of hp, at0, _, rfl, ?_⟩
    refine ⟨A, s1, ⟨z, some m, .soon, s1.time⟩, rfl, L, hl1, fun H2 A2 V2 => ?_⟩
    have L2 := V2.l
    have pe := V2.p
    have hp2 : H2 A.p = some (.ins T.cs.L A2.dx (loomFs A2 { s1 with events := s1.events ++ [⟨z, some m, .soon, s1.time⟩] })) := by rw [← pe]; exact L2.p
    have hp' := V2.kp.tk _ _ hp
    refine ⟨_, rfl, p, _, _, _, rfl, rfl, SqT.of hp', at0, rfl, _, rfl, ?_⟩
    refine iteF' (by decide +kernel) ⟨_, rfl, p, _, _, _, rfl, rfl, SqT.of hp', at0, rfl, _, rfl, ?_⟩
    refine iteT' (by decide +kernel) ⟨_, rfl, A.p, _, A2.dx, _, _, rfl, hp2, T.cl_Loom, T.n_Loom_line, lf_line _ _, A2.wa, A2.wdx, _, rfl, L2.wa, wf_no (by decide +kernel), _, rfl, ?_⟩
    refine ⟨A2.wt, _, _, s1.events.length, rfl, L2.waits, hl3, fun H3 B3 P3 => ?_⟩
    have W3 := V2.trans (L2.wait P3)
    have L3 := W3.l
    have hp3 := L3.p
    rw [show ({ A2 with fo := B3.fo, rw := B3.rw } : LoomA).p = A.p from pe] at hp3
    obtain ⟨xs, g1, g2⟩ := L3.lg
    have hx : xs.length = s1.log.length := Pd.len g2
    refine ⟨_, rfl, A.p, _, A2.dx, _, _, rfl, hp3, T.cl_Loom, T.n_Loom_log, lf_log _ _, .inl ⟨rfl, _, SqL.of g1⟩, ?_⟩
    refine ⟨_, rfl, _, rfl, (by show 3 ≤ sizeLine; decide), fun t ht => ?_⟩
    have W4 := W3.new (o := .tup [.str "make", nV m, nV s1.events.length]) ht
    have tk4 := (Kp.refl [] _).new (o := .tup [.str "make", nV m, nV s1.events.length]) ht
    refine ⟨A2.lg, xs, _, rfl, rfl, tk4.keep0 g1, Nat.lt_of_le_of_lt (by omega : xs.length ≤ 100000) (by decide), ?_⟩
    have W5 := logged W4 (tk4.keep0 g1) (Pd.mono (fun _ _ z => rowStb _ _ _ _ tk4.tk z) g2) (v := .ref t) (r := .make m s1.events.length) ⟨t, 0, rfl, upd_same, trivial⟩
    exact k _ _ (W5.to (by simp [LoomS.doM, LoomS.mk1, LoomS.logd]))
  | wait tt z =>
    obtain ⟨p, rfl, hp⟩ := hv
    refine ⟨_, rfl, A.p, _, A.dx, _, _, rfl, L.p, T.cl_Loom, T.n_Loom_time, lf_time _ _, ?_⟩
    refine ⟨_, rfl, p, _, _, _, rfl, rfl, SqT.of hp, at0, rfl, _, rfl, ?_⟩
    refine iteT' (by decide +kernel) ⟨_, rfl, _, rfl, p, _, _, _, rfl, rfl, SqT.of hp, at1, _, _, rfl, rfl, ?_⟩
    refine ⟨_, rfl, A.p, A.dx, _, rfl, L.p, lf_no (by decide +kernel), _, rfl, _, rfl, p, _, _, _, rfl, rfl, SqT.of hp, atLast rfl, _, rfl, _, rfl, p, _, _, _, rfl, rfl, SqT.of hp, at0, _, rfl, ?_⟩
    refine ⟨A, s1, ⟨z, some m, .wait, s1.time + tt⟩, rfl, L, hl1, fun H2 A2 V2 => ?_⟩
    have L2 := V2.l
    have pe := V2.p
    have hp2 : H2 A.p = some (.ins T.cs.L A2.dx (loomFs A2 { s1 with events := s1.events ++ [⟨z, some m, .wait, s1.time + tt⟩] })) := by rw [← pe]; exact L2.p
    have hp' := V2.kp.tk _ _ hp
    refine ⟨_, rfl, p, _, _, _, rfl, rfl, SqT.of hp', at0, rfl, _, rfl, ?_⟩
    refine iteF' (by decide +kernel) ⟨_, rfl, p, _, _, _, rfl, rfl, SqT.of hp', at0, rfl, _, rfl, ?_⟩
    refine iteF' (by decide +kernel) ⟨_, rfl, A.p, _, A2.dx, _, _, rfl, hp2, T.cl_Loom, T.n_Loom_line, lf_line _ _, A2.wa, A2.wdx, _, rfl, L2.wa, wf_no (by decide +kernel), _, rfl, _, rfl, ?_⟩
    refine ⟨A2.wt, _, _, s1.events.length, s1.time + tt, rfl, L2.waits, hl4, fun H3 B3 P3 => ?_⟩
    have W3 := V2.trans (L2.wait P3)
    have L3 := W3.l
    have hp3 := L3.p
    rw [show ({ A2 with fo := B3.fo, rw := B3.rw } : LoomA).p = A.p from pe] at hp3
    obtain ⟨xs, g1, g2⟩ := L3.lg
    have hx : xs.length = s1.log.length := Pd.len g2
    refine ⟨_, rfl, A.p, _, A2.dx, _, _, rfl, hp3, T.cl_Loom, T.n_Loom_log, lf_log _ _, .inl ⟨rfl, _, SqL.of g1⟩, ?_⟩
    refine ⟨_, rfl, _, rfl, (by show 3 ≤ sizeLine; decide), fun t ht => ?_⟩
    have W4 := W3.new (o := .tup [.str "make", nV m, nV s1.events.length]) ht
    have tk4 := (Kp.refl [] _).new (o := .tup [.str "make", nV m, nV s1.events.length]) ht
    refine ⟨A2.lg, xs, _, rfl, rfl, tk4.keep0 g1, Nat.lt_of_le_of_lt (by omega : xs.length ≤ 100000) (by decide), ?_⟩
    have W5 := logged W4 (tk4.keep0 g1) (Pd.mono (fun _ _ z => rowStb _ _ _ _ tk4.tk z) g2) (v := .ref t) (r := .make m s1.events.length) ⟨t, 0, rfl, upd_same, trivial⟩
    exact k _ _ (W5.to (by simp [LoomS.doM, LoomS.mk1, LoomS.logd]))
  | cancel _ => cases hd
  | join _ => cases hd
  | leave _ => cases hd
  | hush => cases hd
end
end Ev
namespace Ev
open PySem L2
section
variable {P : Program} {w : World} {K : PySem.W.Frag} {mg : Str → Option Value} {base : Heap}
def sp_LoomCall (C : Cs) : Sp := fun vs H Q _ => ∃ (A : LoomA) (s : LoomS) (Bs : List FrA) (B : FrA) (fs : List Frm) (f : Frm) (x : Str) (h : Hnd), vs = [.ref A.p, .ref B.fa, .str x] ∧ LoomAt C H A s ∧ A.frs = Bs ++ [B] ∧ s.frames = fs ++ [f] ∧ handlerOf s.hs x = some h ∧
  s.log.length ≤ 100000 ∧ s.stands.length ≤ 100000 ∧ (s.stands.map Prod.fst).Nodup ∧ ∀ H' A', Went C H A H' A' (s.callM f x h) → Q .non H'
theorem ok_LoomCall (T : Tx K mg) : FnOk P w K mg base CX0 2 T.f_LoomCall T.d_LoomCall ["self", "frame", "name"] (sp_LoomCall T.cs) := by
  refine T.F_LoomCall.ok sc_LoomCall (by walk_at "len") (fun cdv A outer s H vs Q E hr h => ?_)
  obtain ⟨A, s1, Bs, B, fs, f, x, h, rfl, L, eA, es, hh, hl1, hl2, nd, k⟩ := h
  refine ⟨_, (pss_cons (ps_set (i := 3) sc_LoomCall.nd rfl (Or.inl rfl) (pe_call (ok_handlerOf T) (hr.mono (by decide)) rfl T.g_handlerOf T.F_handlerOf.kp T.b_handlerOf .nil pass0 (pa_cons (kFld K (pv 0)) (pa_cons (pv 2) pa_nil))))
    (pss_cons (ps_fld (pv 1) (pe_ix (kIxT K) (pv 3) pe_int (fun _ _ => rfl)) rfl)
    (pss_cons (ps_fld (pv 1) pe_int rfl)
    (pss_cons (ps_expr (pe_bm PySem.F.plainAttrs_list PySem.F.slot_list_append PySem.F.type_list_append mt_append (kFld K (pv 0)) (pa_cons (pe_tup (pa_cons pe_str (pa_cons (kFld K (pv 1)) (pa_cons (pv 2) pa_nil)))) pa_nil)))
    (pss_one (ps_if (pt_val (pe_ix (kIxT K) (pv 3) pe_int (fun _ _ => rfl)))
        (pss_one (ps_expr (pe_meth (pv 0) T.cl_Loom T.m_LoomGo (ok_LoomGo T) (hr.mono (by decide)) T.b_LoomGo .nil pass0 (pa_cons (pv 2) pa_nil))))
        pss_nil)))))), ?_⟩
  refine ⟨_, rfl, A.p, _, A.dx, _, _, rfl, L.p, T.cl_Loom, T.n_Loom_handlers, lf_handlers _ _, _, rfl, A.hl, x, s1.hs, h, rfl, L.hl, hh, fun v hv => ?_⟩
  obtain ⟨p, q, ds, rfl, hp, hq, hds⟩ := id hv
  obtain ⟨dq, b1, b2, b3⟩ := L.frm eA es
  refine ⟨_, rfl, p, _, _, _, rfl, rfl, SqT.of hp, at4, _, rfl, B.fa, _, B.dx, _, rfl, b1, T.cl_Frame, T.n_Frame_deeds, (by show 4 < 1000; decide), ?_⟩
  rw [fp_deeds f B.lc dq q h.deeds]
  have W1 := L.setFrm eA es { f with deeds := h.deeds } (dq := q) rfl ⟨ds, hq, hds⟩
  have L1 := W1.l
  obtain ⟨dq1, c1, c2, c3⟩ := L1.frm eA rfl
  have eq1 : dq1 = q := by
    rw [upd_same] at c1
    injection c1 with c1
    injection c1 with _ _ c1
    have := congrArg (fun l : List (Str × V) => l[2]?) c1
    injection this with this
    injection this with _ this
    injection this with this
    exact this.symm
  subst eq1
  refine ⟨_, rfl, B.fa, _, B.dx, _, rfl, c1, T.cl_Frame, T.n_Frame_place, (by show 4 < 1000; decide), ?_⟩
  have ep : putF "place" (V.int 0) (frmFs { f with deeds := h.deeds } B.lc dq1) = frmFs { f with deeds := h.deeds, place := 0 } B.lc dq1 := fp_place _ _ _ 0
  rw [ep]
  have W2 := W1.trans (L1.setFrm eA rfl { f with deeds := h.deeds, place := 0 } (dq := dq1) rfl c3)
  have L2 := W2.l
  obtain ⟨dq2, d1, d2, d3⟩ := L2.frm eA rfl
  obtain ⟨xs, g1, g2⟩ := L2.lg
  have hx : xs.length = s1.log.length := Pd.len g2
  refine ⟨_, rfl, A.p, _, A.dx, _, _, rfl, L2.p, T.cl_Loom, T.n_Loom_log, lf_log _ _, .inl ⟨rfl, _, SqL.of g1⟩, _, rfl, B.fa, _, B.dx, _, _, rfl, d1, T.cl_Frame, T.n_Frame_number, ff_number _ _ _, _, rfl, (by show 3 ≤ sizeLine; decide), fun t ht => ?_⟩
  have W3 := W2.new (o := .tup [.str "call", nV f.number, .str x]) ht
  have tk4 := (Kp.refl [] _).new (o := .tup [.str "call", nV f.number, .str x]) ht
  refine ⟨A.lg, xs, _, rfl, rfl, tk4.keep0 g1, Nat.lt_of_le_of_lt (by omega : xs.length ≤ 100000) (by decide), ?_⟩
  have W4 := logged W3 (tk4.keep0 g1) (Pd.mono (fun _ _ z => rowStb _ _ _ _ tk4.tk z) g2) (v := .ref t) (r := .call f.number x) ⟨t, 0, rfl, upd_same, trivial⟩
  have L4 := W4.l
  refine ⟨_, rfl, p, _, _, _, rfl, rfl, SqT.of (W4.kp.tk _ _ hp), at3, _, rfl, ?_⟩
  have ec : s1.callM f x h = (if h.once then (({ s1 with frames := fs ++ [{ f with deeds := h.deeds, place := 0 }] } : LoomS).logd (.call f.number x)).go x else ({ s1 with frames := fs ++ [{ f with deeds := h.deeds, place := 0 }] } : LoomS).logd (.call f.number x)) := by
    unfold LoomS.callM
    rw [last_eq es]
  cases ho : h.once with
  | true =>
    rw [ho] at ec
    refine iteT ⟨_, rfl, A.p, A.dx, _, rfl, L4.p, lf_no (by decide +kernel), _, rfl, A, _, x, rfl, L4, hl2, nd, fun H5 A5 V5 _ => ?_⟩
    exact k _ _ ((W4.trans V5).to ec.symm)
  | false =>
    rw [ho] at ec
    exact iteF (k _ _ (W4.to ec.symm))
theorem map_nV (l : List Nat) : (l.map fun n => ((n : Nat) : Int)).map V.int = l.map nV := by simp [nV]
theorem sorted_nats {l : List Nat} {ns : List Int} (perm : ns.Perm (l.map fun n => ((n : Nat) : Int))) (pw : ns.Pairwise (· ≤ ·)) : ns = (l.mergeSort fun a b => decide (a ≤ b)).map fun n => ((n : Nat) : Int) := by
  refine List.Perm.eq_of_pairwise (le := (· ≤ ·)) (fun a b _ _ h1 h2 => by omega) pw ?_ (perm.trans ((List.mergeSort_perm l _).symm.map _))
  rw [List.pairwise_map]
  have h := List.pairwise_mergeSort (le := fun a b : Nat => decide (a ≤ b)) (fun a b c h1 h2 => by simp at h1 h2 ⊢; omega) (fun a b => by simp; omega) l
  exact h.imp fun h => by simp at h; omega
/-- the innermost frame's record behind a deed that leaves the frames as they were -/
theorem V3frm {C : Cs} {H H' : Hp} {A A' : LoomA} {s s' : LoomS} (V : Went C H A H' A' s') (L : LoomAt C H A s) {Bs : List FrA} {B : FrA} {fs : List Frm} {f : Frm} (eA : A.frs = Bs ++ [B]) (es : s.frames = fs ++ [f]) (ef : s'.frames = s.frames) (ea : A'.frs = A.frs) :
    ∃ dq, H' B.fa = some (.ins C.F B.dx (frmFs f B.lc dq)) := by
  obtain ⟨dq, h, _⟩ := V.l.frm (Bs := Bs) (B := B) (fs := fs) (f := f) (ea.trans eA) (ef.trans es)
  exact ⟨dq, h⟩
def sp_LoomDo (C : Cs) : Sp := fun vs H Q _ => ∃ (A : LoomA) (s : LoomS) (Bs : List FrA) (B : FrA) (fs : List Frm) (f : Frm) (v : V) (d : Deed), vs = [.ref A.p, .ref B.fa, v] ∧ LoomAt C H A s ∧ A.frs = Bs ++ [B] ∧ s.frames = fs ++ [f] ∧ DeedAt H v d ∧
  s.events.length ≤ 100000 ∧ s.log.length ≤ 100000 ∧ s.soon.length ≤ 100000 ∧ s.rows.length ≤ 100000 ∧ s.stands.length ≤ 100000 ∧ s.soon.length + s.rows.length ≤ 100000 ∧ (s.stands.map Prod.fst).Nodup ∧ (∀ n ∈ s.soon ++ s.rows.map Prod.snd, n < s.events.length) ∧
  ∀ H' A', Went C H A H' A' (s.doM f.number d) → Q .non H'
theorem ok_LoomDo (T : Tx K mg) : FnOk P w K mg base CX0 3 T.f_LoomDo T.d_LoomDo ["self", "frame", "deed"] (sp_LoomDo T.cs) := by
  refine T.F_LoomDo.ok sc_LoomDo (by walk_at "len") (fun cdv A outer s H vs Q E hr h => ?_)
  obtain ⟨A, s1, Bs, B, fs, f, v, d, rfl, L, eA, es, hv, hl1, hl2, hl3, hl4, hl5, hl6, nd, hnum, k⟩ := h
  refine ⟨_, (pss_one (ps_if (pt_cmpR (kIn K) (pe_ix (kIxT K) (pv 2) pe_int (fun _ _ => rfl)) (pe_tup (pa_cons pe_str (pa_cons pe_str (pa_cons pe_str pa_nil)))) rfl)
        (pss_one (ps_expr (pe_meth (pv 0) T.cl_Loom T.m_LoomMake (ok_LoomMake T) (hr.mono (by decide)) T.b_LoomMake .nil pass0 (pa_cons (kFld K (pv 1)) (pa_cons (pv 2) pa_nil)))))
        (pss_one (ps_if (pt_cmpR op_eq (pe_ix (kIxT K) (pv 2) pe_int (fun _ _ => rfl)) pe_str (nomark _))
            (pss_cons (ps_setLc (i := 3) (own := [("one", 4)]) (g := gName 4) rfl sc_LoomDo.nd rfl rfl (sw_true rfl rfl rfl (by decide +kernel)) (pi_list (pe_meth0 (kFld K (pv 0)) T.cl_Waits T.m_WaitsLineup (ok_WaitsLineup T) (hr.mono (by decide)) T.b_WaitsLineup .nil pass0)) (blkOk_by (own := [("one", 4)]) (N := nm_LoomDo) (sc := defScope s_LoomDo) (by decide +kernel)) (fun _ _ _ _ _ => (pg_name (i := 4) sc_LoomDo.nd rfl (Or.inl rfl))) (fun _ _ _ _ _ => pts_one (pt_cmpR op_eq (pe_ix (kIxT K) (pe_ix (kIxL K) (kFld K (pv 0)) (pv 4) (fun _ _ => rfl)) pe_int (fun _ _ => rfl)) (pe_ix (kIxT K) (pv 2) pe_int (fun _ _ => rfl)) (nomark _))) (fun _ _ _ _ _ => (pv 4)))
            (pss_cons (ps_expr (pe_meth (kFld K (pv 0)) T.cl_Waits T.m_WaitsDrop (ok_WaitsDrop T) (hr.mono (by decide)) T.b_WaitsDrop .nil pass0 (pa_cons (pv 3) pa_nil)))
            (pss_one (ps_expr (pe_bm PySem.F.plainAttrs_list PySem.F.slot_list_append PySem.F.type_list_append mt_append (kFld K (pv 0)) (pa_cons (pe_tup (pa_cons pe_str (pa_cons (kFld K (pv 1)) (pa_cons (pe_callTy (kTuple K) (by rfl) T.z_tuple (by decide +kernel) (pa_cons (pe_callB (kSortI K) (by rfl) T.z_sorted (by decide +kernel) (pa_cons (pv 3) pa_nil)) pa_nil)) pa_nil)))) pa_nil))))))
            (pss_one (ps_if (pt_cmpR op_eq (pe_ix (kIxT K) (pv 2) pe_int (fun _ _ => rfl)) pe_str (nomark _))
                (pss_cons (ps_expr (pe_meth (pv 0) T.cl_Loom T.m_LoomCome (ok_LoomCome T) (hr.mono (by decide)) T.b_LoomCome .nil pass0 (pa_cons (pe_ix (kIxT K) (pv 2) pe_int (fun _ _ => rfl)) pa_nil)))
                (pss_one (ps_expr (pe_bm PySem.F.plainAttrs_list PySem.F.slot_list_append PySem.F.type_list_append mt_append (kFld K (pv 0)) (pa_cons (pe_tup (pa_cons pe_str (pa_cons (kFld K (pv 1)) (pa_cons (pe_ix (kIxT K) (pv 2) pe_int (fun _ _ => rfl)) pa_nil)))) pa_nil)))))
                (pss_one (ps_if (pt_cmpR op_eq (pe_ix (kIxT K) (pv 2) pe_int (fun _ _ => rfl)) pe_str (nomark _))
                    (pss_cons (ps_expr (pe_meth (pv 0) T.cl_Loom T.m_LoomGo (ok_LoomGo T) (hr.mono (by decide)) T.b_LoomGo .nil pass0 (pa_cons (pe_ix (kIxT K) (pv 2) pe_int (fun _ _ => rfl)) pa_nil)))
                    (pss_one (ps_expr (pe_bm PySem.F.plainAttrs_list PySem.F.slot_list_append PySem.F.type_list_append mt_append (kFld K (pv 0)) (pa_cons (pe_tup (pa_cons pe_str (pa_cons (kFld K (pv 1)) (pa_cons (pe_ix (kIxT K) (pv 2) pe_int (fun _ _ => rfl)) pa_nil)))) pa_nil)))))
                    (pss_cons (ps_fld (pv 1) (pe_lst pa_nil) rfl)
                    (pss_one (ps_expr (pe_bm PySem.F.plainAttrs_list PySem.F.slot_list_append PySem.F.type_list_append mt_append (kFld K (pv 0)) (pa_cons (pe_tup (pa_cons pe_str (pa_cons (kFld K (pv 1)) pa_nil))) pa_nil))))))))))))), ?_⟩
  cases d with
  | now z =>
    obtain ⟨p, rfl, hp⟩ := hv
    refine ⟨_, rfl, p, _, _, _, rfl, rfl, SqT.of hp, at0, (by show 3 ≤ sizeLine; decide), fun t ht => ⟨t, _, rfl, .inr (SqT.of upd_same), rfl, rfl, _, rfl, ?_⟩⟩
    have W1 := (Went.refl L).new (o := .tup [.str "now", .str "soon", .str "wait"]) ht
    have L1 := W1.l
    have hp1 := W1.kp.tk _ _ hp
    obtain ⟨dq, b1, b2, b3⟩ := L1.frm eA es
    refine iteT' (by decide +kernel) ⟨_, rfl, A.p, A.dx, _, rfl, L1.p, lf_no (by decide +kernel), _, rfl, B.fa, _, B.dx, _, _, rfl, b1, T.cl_Frame, T.n_Frame_number, ff_number _ _ _, _, rfl, ?_⟩
    exact ⟨A, s1, f.number, _, _, rfl, L1, ⟨p, rfl, hp1⟩, rfl, hl1, hl2, hl3, hl4, fun H' A' V => k _ _ (W1.trans V)⟩
  | soon z =>
    obtain ⟨p, rfl, hp⟩ := hv
    refine ⟨_, rfl, p, _, _, _, rfl, rfl, SqT.of hp, at0, (by show 3 ≤ sizeLine; decide), fun t ht => ⟨t, _, rfl, .inr (SqT.of upd_same), rfl, rfl, _, rfl, ?_⟩⟩
    have W1 := (Went.refl L).new (o := .tup [.str "now", .str "soon", .str "wait"]) ht
    have L1 := W1.l
    have hp1 := W1.kp.tk _ _ hp
    obtain ⟨dq, b1, b2, b3⟩ := L1.frm eA es
    refine iteT' (by decide +kernel) ⟨_, rfl, A.p, A.dx, _, rfl, L1.p, lf_no (by decide +kernel), _, rfl, B.fa, _, B.dx, _, _, rfl, b1, T.cl_Frame, T.n_Frame_number, ff_number _ _ _, _, rfl, ?_⟩
    exact ⟨A, s1, f.number, _, _, rfl, L1, ⟨p, rfl, hp1⟩, rfl, hl1, hl2, hl3, hl4, fun H' A' V => k _ _ (W1.trans V)⟩
  | wait tt z =>
    obtain ⟨p, rfl, hp⟩ := hv
    refine ⟨_, rfl, p, _, _, _, rfl, rfl, SqT.of hp, at0, (by show 3 ≤ sizeLine; decide), fun t ht => ⟨t, _, rfl, .inr (SqT.of upd_same), rfl, rfl, _, rfl, ?_⟩⟩
    have W1 := (Went.refl L).new (o := .tup [.str "now", .str "soon", .str "wait"]) ht
    have L1 := W1.l
    have hp1 := W1.kp.tk _ _ hp
    obtain ⟨dq, b1, b2, b3⟩ := L1.frm eA es
    refine iteT' (by decide +kernel) ⟨_, rfl, A.p, A.dx, _, rfl, L1.p, lf_no (by decide +kernel), _, rfl, B.fa, _, B.dx, _, _, rfl, b1, T.cl_Frame, T.n_Frame_number, ff_number _ _ _, _, rfl, ?_⟩
    exact ⟨A, s1, f.number, _, _, rfl, L1, ⟨p, rfl, hp1⟩, rfl, hl1, hl2, hl3, hl4, fun H' A' V => k _ _ (W1.trans V)⟩
  | cancel z =>
    obtain ⟨p, rfl, hp⟩ := hv
    refine ⟨_, rfl, p, _, _, _, rfl, rfl, SqT.of hp, at0, (by show 3 ≤ sizeLine; decide), fun t ht => ⟨t, _, rfl, .inr (SqT.of upd_same), rfl, rfl, _, rfl, ?_⟩⟩
    have W1 := (Went.refl L).new (o := .tup [.str "now", .str "soon", .str "wait"]) ht
    have L1 := W1.l
    have hp1 := W1.kp.tk _ _ hp
    obtain ⟨dq, b1, b2, b3⟩ := L1.frm eA es
    refine iteF' (by decide +kernel) ⟨_, rfl, p, _, _, _, rfl, rfl, SqT.of hp1, at0, rfl, _, rfl, ?_⟩
    refine iteT' (by decide +kernel) ?_
    walk_at "nf"
    refine lc_go ?_
    refine ⟨_, rfl, A.p, _, A.dx, _, _, rfl, L1.p, T.cl_Loom, T.n_Loom_line, lf_line _ _, A.wa, A.wdx, _, rfl, L1.wa, wf_no (by decide +kernel), ?_⟩
    refine ⟨A.wt, _, _, rfl, L1.waits, hl6, fun p2 H2 hp2 k2 hl2' => ⟨p2, rfl, ⟨_, SqL.of hl2'⟩, ?_⟩⟩
    have L2 := L1.kp k2 (by simp)
    obtain ⟨es1, e1, e2⟩ := L2.ev
    refine lc_fm (Pd.map (f := nV) (R := fun v n => v = nV n) fun _ _ => rfl) ?_ (SqL.of hl2') nV (fun n => decide ((s1.events[n]?.map Evt.word) = some z)) (fun x => rfl) ?_ ?_ ?_
    · rw [List.length_append, List.length_map]
      exact Nat.lt_of_le_of_lt hl6 (by decide)
    · rintro x n H' Q' hn rfl kp q
      have L' := L2.kp kp (by simp)
      obtain ⟨e, he⟩ : ∃ e, s1.events[n]? = some e := ⟨s1.events[n]'(hnum n hn), by simp [hnum n hn]⟩
      obtain ⟨y, hy, pe, rfl, hpe⟩ := Pd.at' e2 he
      refine ⟨_, rfl, A.p, _, A.dx, _, _, rfl, L'.p, T.cl_Loom, T.n_Loom_events, lf_events _ _, _, rfl, A.ev, _, _, _, rfl, rfl, SqL.of (kp.keep0 e1), atI_nat hy, ?_⟩
      refine ⟨pe, _, _, _, rfl, rfl, SqT.of (kp.tk _ _ hpe), at0, ?_⟩
      refine ⟨_, rfl, p, _, _, _, rfl, rfl, SqT.of (kp.tk _ _ (k2.tk _ _ hp1)), at1, rfl, _, rfl, ?_⟩
      have eq : decide (V.str e.word = V.str z) = decide ((s1.events[n]?.map Evt.word) = some z) := by
        rw [he]
        show _ = decide (some e.word = some z)
        by_cases h : e.word = z
        · rw [decide_eq_true (by rw [h]), decide_eq_true (by rw [h])]
        · rw [decide_eq_false fun q => h (V.str.inj q), decide_eq_false fun q => h (Option.some.inj q)]
      rw [eq]
      exact q _ (Kp.refl _ _)
    · rintro x n H' Q' hn rfl hp kp q
      exact ⟨_, rfl, q _ (Kp.refl _ _)⟩
    · intro D H3 hD k3 hD3
      have W3 := (W1.kp0 k2).kp0 k3
      have L3 := W3.l
      have hDw : D ∉ A.cells := L2.fresh hD
      have lns : ((s1.soon ++ s1.rows.map Prod.snd).filter fun n => decide ((s1.events[n]?.map Evt.word) = some z)).length ≤ 100000 := by
        refine Nat.le_trans (List.length_filter_le _ _) ?_
        rw [List.length_append, List.length_map]
        exact hl6
      refine ⟨_, rfl, A.p, _, A.dx, _, _, rfl, L3.p, T.cl_Loom, T.n_Loom_line, lf_line _ _, A.wa, A.wdx, _, rfl, L3.wa, wf_no (by decide +kernel), _, rfl, ?_⟩
      refine ⟨A.wt, _, _, D, _, rfl, L3.waits, hl3, hl4, hD3, fun H4 B4 P4 => ?_⟩
      have W4 := W3.trans (L3.wait P4)
      have L4 := W4.l
      have hD4 := P4.kp.keep D _ (fun q => hDw (by
        simp [WtA.cells, LoomA.wt] at q
        rcases q with rfl | rfl | rfl <;> simp [LoomA.cells])) hD3
      obtain ⟨dq4, c1, c2, c3⟩ := L4.frm eA es
      obtain ⟨xs, g1, g2⟩ := L4.lg
      have hx : xs.length = s1.log.length := Pd.len g2
      refine ⟨_, rfl, A.p, _, A.dx, _, _, rfl, L4.p, T.cl_Loom, T.n_Loom_log, lf_log _ _, .inl ⟨rfl, _, SqL.of g1⟩, _, rfl, B.fa, _, B.dx, _, _, rfl, c1, T.cl_Frame, T.n_Frame_number, ff_number _ _ _, ?_⟩
      refine ⟨_, rfl, D, _, rfl, SqL.of (hD4.trans (by rw [← map_nV])), fun ns' p5 perm pw hp5 => ?_⟩
      have W5 := W4.new (o := .lst (ns'.map V.int)) hp5
      refine ⟨p5, _, rfl, .inl ⟨SqL.of upd_same, fun l hl => ?_⟩⟩
      have W6 := W5.new (o := .tup (ns'.map V.int)) hl
      have e6 := sorted_nats perm pw
      rw [e6] at W6 hl W5 ⊢
      rw [map_nV] at W6 hl W5 ⊢
      refine ⟨(by show 3 ≤ sizeLine; decide), fun t ht => ?_⟩
      have k45 := (Kp.refl [] H4).new (o := .lst ((((s1.soon ++ s1.rows.map Prod.snd).filter fun n => decide ((s1.events[n]?.map Evt.word) = some z)).mergeSort fun a b => decide (a ≤ b)).map nV)) hp5
      have k46 := k45.new (o := .tup ((((s1.soon ++ s1.rows.map Prod.snd).filter fun n => decide ((s1.events[n]?.map Evt.word) = some z)).mergeSort fun a b => decide (a ≤ b)).map nV)) hl
      have k47 := k46.new (o := .tup [.str "cancel", nV f.number, .ref l]) ht
      have W7 := W6.new (o := .tup [.str "cancel", nV f.number, .ref l]) ht
      have nlt : l ≠ t := fun e => by rw [← e, upd_same] at ht; cases ht
      refine ⟨A.lg, xs, _, rfl, rfl, k47.keep0 g1, Nat.lt_of_le_of_lt (by omega : xs.length ≤ 100000) (by decide), ?_⟩
      have W8 := logged W7 (k47.keep0 g1) (Pd.mono (fun _ _ z => rowStb _ _ _ _ k47.tk z) g2) (v := .ref t) (r := .cancel f.number (((s1.soon ++ s1.rows.map Prod.snd).filter fun n => decide ((s1.events[n]?.map Evt.word) = some z)).mergeSort fun a b => decide (a ≤ b))) ⟨t, l, rfl, upd_same, (upd_ne nlt).trans upd_same⟩
      exact k _ _ W8
  | join x =>
    obtain ⟨p, rfl, hp⟩ := hv
    refine ⟨_, rfl, p, _, _, _, rfl, rfl, SqT.of hp, at0, (by show 3 ≤ sizeLine; decide), fun t ht => ⟨t, _, rfl, .inr (SqT.of upd_same), rfl, rfl, _, rfl, ?_⟩⟩
    have W1 := (Went.refl L).new (o := .tup [.str "now", .str "soon", .str "wait"]) ht
    have L1 := W1.l
    have hp1 := W1.kp.tk _ _ hp
    obtain ⟨dq, b1, b2, b3⟩ := L1.frm eA es
    refine iteF' (by decide +kernel) ⟨_, rfl, p, _, _, _, rfl, rfl, SqT.of hp1, at0, rfl, _, rfl, ?_⟩
    refine iteF' (by decide +kernel) ⟨_, rfl, p, _, _, _, rfl, rfl, SqT.of hp1, at0, rfl, _, rfl, ?_⟩
    refine iteT' (by decide +kernel) ⟨_, rfl, A.p, A.dx, _, rfl, L1.p, lf_no (by decide +kernel), _, rfl, p, _, _, _, rfl, rfl, SqT.of hp1, at1, ?_⟩
    refine ⟨A, s1, x, rfl, L1, hl5, fun H3 A3 V3 q3 => ?_⟩
    have W3 := W1.trans V3
    have L3 := W3.l
    have hp3 := L3.p
    rw [show A3.p = A.p from V3.p] at hp3
    have el : (s1.come x).log = s1.log := (by unfold LoomS.come; split <;> rfl)
    have ef : (s1.come x).frames = s1.frames := (by unfold LoomS.come; split <;> rfl)
    have fr3 := L3.frs
    rw [ef, es] at fr3
    obtain ⟨Bs3, B3, eB3, t31, t32⟩ := fr3.unsnoc
    have en : ∃ dq3, H3 B.fa = some (.ins T.cs.F B.dx (frmFs f B.lc dq3)) := V3frm V3 L1 eA es ef q3
    obtain ⟨dq3, b3'⟩ := en
    obtain ⟨xs, g1, g2⟩ := L3.lg
    have hx : xs.length = s1.log.length := by rw [Pd.len g2, el]
    refine ⟨_, rfl, A.p, _, A3.dx, _, _, rfl, hp3, T.cl_Loom, T.n_Loom_log, lf_log _ _, .inl ⟨rfl, _, SqL.of g1⟩, _, rfl, B.fa, _, B.dx, _, _, rfl, b3', T.cl_Frame, T.n_Frame_number, ff_number _ _ _, _, rfl, p, _, _, _, rfl, rfl, SqT.of (W3.kp.tk _ _ hp), at1, (by show 3 ≤ sizeLine; decide), fun t ht => ?_⟩
    have W4 := W3.new (o := .tup [.str "join", nV f.number, .str x]) ht
    have tk4 := (Kp.refl [] _).new (o := .tup [.str "join", nV f.number, .str x]) ht
    refine ⟨A3.lg, xs, _, rfl, rfl, tk4.keep0 g1, Nat.lt_of_le_of_lt (by omega : xs.length ≤ 100000) (by decide), ?_⟩
    have W5 := logged W4 (tk4.keep0 g1) (Pd.mono (fun _ _ z => rowStb _ _ _ _ tk4.tk z) g2) (v := .ref t) (r := .join f.number x) ⟨t, 0, rfl, upd_same, trivial⟩
    exact k _ _ W5
  | leave x =>
    obtain ⟨p, rfl, hp⟩ := hv
    refine ⟨_, rfl, p, _, _, _, rfl, rfl, SqT.of hp, at0, (by show 3 ≤ sizeLine; decide), fun t ht => ⟨t, _, rfl, .inr (SqT.of upd_same), rfl, rfl, _, rfl, ?_⟩⟩
    have W1 := (Went.refl L).new (o := .tup [.str "now", .str "soon", .str "wait"]) ht
    have L1 := W1.l
    have hp1 := W1.kp.tk _ _ hp
    obtain ⟨dq, b1, b2, b3⟩ := L1.frm eA es
    refine iteF' (by decide +kernel) ⟨_, rfl, p, _, _, _, rfl, rfl, SqT.of hp1, at0, rfl, _, rfl, ?_⟩
    refine iteF' (by decide +kernel) ⟨_, rfl, p, _, _, _, rfl, rfl, SqT.of hp1, at0, rfl, _, rfl, ?_⟩
    refine iteF' (by decide +kernel) ⟨_, rfl, p, _, _, _, rfl, rfl, SqT.of hp1, at0, rfl, _, rfl, ?_⟩
    refine iteT' (by decide +kernel) ⟨_, rfl, A.p, A.dx, _, rfl, L1.p, lf_no (by decide +kernel), _, rfl, p, _, _, _, rfl, rfl, SqT.of hp1, at1, ?_⟩
    refine ⟨A, s1, x, rfl, L1, hl5, nd, fun H3 A3 V3 q3 => ?_⟩
    have W3 := W1.trans V3
    have L3 := W3.l
    have hp3 := L3.p
    rw [show A3.p = A.p from V3.p] at hp3
    have el : (s1.go x).log = s1.log := rfl
    have ef : (s1.go x).frames = s1.frames := rfl
    have fr3 := L3.frs
    rw [ef, es] at fr3
    obtain ⟨Bs3, B3, eB3, t31, t32⟩ := fr3.unsnoc
    have en : ∃ dq3, H3 B.fa = some (.ins T.cs.F B.dx (frmFs f B.lc dq3)) := V3frm V3 L1 eA es ef q3
    obtain ⟨dq3, b3'⟩ := en
    obtain ⟨xs, g1, g2⟩ := L3.lg
    have hx : xs.length = s1.log.length := by rw [Pd.len g2, el]
    refine ⟨_, rfl, A.p, _, A3.dx, _, _, rfl, hp3, T.cl_Loom, T.n_Loom_log, lf_log _ _, .inl ⟨rfl, _, SqL.of g1⟩, _, rfl, B.fa, _, B.dx, _, _, rfl, b3', T.cl_Frame, T.n_Frame_number, ff_number _ _ _, _, rfl, p, _, _, _, rfl, rfl, SqT.of (W3.kp.tk _ _ hp), at1, (by show 3 ≤ sizeLine; decide), fun t ht => ?_⟩
    have W4 := W3.new (o := .tup [.str "leave", nV f.number, .str x]) ht
    have tk4 := (Kp.refl [] _).new (o := .tup [.str "leave", nV f.number, .str x]) ht
    refine ⟨A3.lg, xs, _, rfl, rfl, tk4.keep0 g1, Nat.lt_of_le_of_lt (by omega : xs.length ≤ 100000) (by decide), ?_⟩
    have W5 := logged W4 (tk4.keep0 g1) (Pd.mono (fun _ _ z => rowStb _ _ _ _ tk4.tk z) g2) (v := .ref t) (r := .leave f.number x) ⟨t, 0, rfl, upd_same, trivial⟩
    exact k _ _ W5
  | hush =>
    obtain ⟨p, rfl, hp⟩ := hv
    refine ⟨_, rfl, p, _, _, _, rfl, rfl, SqT.of hp, at0, (by show 3 ≤ sizeLine; decide), fun t ht => ⟨t, _, rfl, .inr (SqT.of upd_same), rfl, rfl, _, rfl, ?_⟩⟩
    have W1 := (Went.refl L).new (o := .tup [.str "now", .str "soon", .str "wait"]) ht
    have L1 := W1.l
    have hp1 := W1.kp.tk _ _ hp
    obtain ⟨dq, b1, b2, b3⟩ := L1.frm eA es
    refine iteF' (by decide +kernel) ⟨_, rfl, p, _, _, _, rfl, rfl, SqT.of hp1, at0, rfl, _, rfl, ?_⟩
    refine iteF' (by decide +kernel) ⟨_, rfl, p, _, _, _, rfl, rfl, SqT.of hp1, at0, rfl, _, rfl, ?_⟩
    refine iteF' (by decide +kernel) ⟨_, rfl, p, _, _, _, rfl, rfl, SqT.of hp1, at0, rfl, _, rfl, ?_⟩
    refine iteF' (by decide +kernel) ⟨Nat.zero_le _, fun d hd => ?_⟩
    have W2 := W1.new (o := .lst []) hd
    have kd := (Kp.refl [] _).new (o := .lst []) hd
    refine ⟨_, rfl, B.fa, _, B.dx, _, rfl, kd.keep0 b1, T.cl_Frame, T.n_Frame_called, (by show 4 < 1000; decide), ?_⟩
    rw [fp_called f B.lc dq d []]
    have W3 := W2.hush eA es (W1.kp.dom _ hd) (L1.fresh hd) upd_same (b3.tk kd.tk)
    have L3 := W3.l
    obtain ⟨dq3, c1, c2, c3⟩ := L3.frm (Bs := Bs) (B := { B with lc := d }) rfl rfl
    obtain ⟨xs, g1, g2⟩ := L3.lg
    have hx : xs.length = s1.log.length := Pd.len g2
    refine ⟨_, rfl, A.p, _, A.dx, _, _, rfl, L3.p, T.cl_Loom, T.n_Loom_log, lf_log _ _, .inl ⟨rfl, _, SqL.of g1⟩, _, rfl, B.fa, _, B.dx, _, _, rfl, c1, T.cl_Frame, T.n_Frame_number, ff_number _ _ _, (by show 2 ≤ sizeLine; decide), fun t ht => ?_⟩
    have W4 := W3.new (o := .tup [.str "hush", nV f.number]) ht
    have tk4 := (Kp.refl [] _).new (o := .tup [.str "hush", nV f.number]) ht
    refine ⟨A.lg, xs, _, rfl, rfl, tk4.keep0 g1, Nat.lt_of_le_of_lt (by omega : xs.length ≤ 100000) (by decide), ?_⟩
    have W5 := logged W4 (tk4.keep0 g1) (Pd.mono (fun _ _ z => rowStb _ _ _ _ tk4.tk z) g2) (v := .ref t) (r := .hush f.number) ⟨t, 0, rfl, upd_same, trivial⟩
    refine k _ _ (W5.to ?_)
    unfold LoomS.doM
    rw [es, List.dropLast_concat, List.getLast?_concat]
    rfl
end
end Ev
namespace Ev
open PySem L2
section
variable {P : Program} {w : World} {K : PySem.W.Frag} {mg : Str → Option Value} {base : Heap}
def sp_FrameInit (C : Cs) : Sp := fun vs H Q _ => ∃ (p dx : Addr) (n : Nat) (lc : Addr), vs = [.ref p, nV n, .ref lc] ∧ H p = some (.ins C.F dx []) ∧
  ∀ H' dq, Kp [p] H H' → H' p = some (.ins C.F dx (frmFs ⟨n, [], [], 0⟩ lc dq)) → H' dq = some (.tup []) → Q .non H'
theorem ok_FrameInit (T : Tx K mg) : FnOk P w K mg base CX0 1 T.f_FrameInit T.d_FrameInit ["self", "number", "called"] (sp_FrameInit T.cs) := by
  refine T.F_FrameInit.ok sc_FrameInit (by walk_at "len") (fun cdv A outer s H vs Q E hr h => ?_)
  obtain ⟨p, dx, n, lc, rfl, hp, k⟩ := h
  refine ⟨_, (pss_cons (ps_fld (pv 0) (pv 1) rfl)
    (pss_cons (ps_fld (pv 0) (pv 2) rfl)
    (pss_cons (ps_fld (pv 0) (pe_tup pa_nil) rfl)
    (pss_one (ps_fld (pv 0) pe_int rfl))))), ?_⟩
  have st : ∀ {H1 : Hp} {fs : List (Str × V)} {o : HO}, Kp [p] H H1 → H1 p = some (.ins T.c_Frame dx fs) → Kp [p] H (upd H1 p o) := fun k1 h1 => k1.ins (.inl (by simp)) h1
  refine ⟨_, rfl, _, rfl, p, _, dx, [], rfl, hp, T.cl_Frame, T.n_Frame_number, by decide, ?_⟩
  have k1 := st (o := .ins T.c_Frame dx (putF "number" (nV n) [])) (Kp.refl _ _) hp
  refine ⟨_, rfl, _, rfl, p, _, dx, _, rfl, upd_same, T.cl_Frame, T.n_Frame_called, (by show 1 < 1000; decide), ?_⟩
  have e1 : putF "called" (V.ref lc) (putF "number" (nV n) []) = ([("number", nV n), ("called", V.ref lc)] : List (Str × V)) := put_new (l := ([("number", nV n)] : List (Str × V))) (by show ("called" : Str) ∉ (["number"] : List Str); decide +kernel)
  rw [e1, upd_upd]
  have k2 := st (o := .ins T.c_Frame dx [("number", nV n), ("called", V.ref lc)]) (Kp.refl _ _) hp
  refine ⟨Nat.zero_le _, fun t ht => ?_⟩
  have k3 := k2.new (o := .tup []) ht
  have npt : p ≠ t := ne_of_none upd_same ht
  have hp3 : upd (upd H p (.ins T.c_Frame dx [("number", nV n), ("called", V.ref lc)])) t (.tup []) p = some (.ins T.c_Frame dx [("number", nV n), ("called", V.ref lc)]) := by rw [upd_ne npt]; exact upd_same
  refine ⟨_, rfl, p, _, dx, _, rfl, hp3, T.cl_Frame, T.n_Frame_deeds, (by show 2 < 1000; decide), ?_⟩
  have e2 : putF "deeds" (V.ref t) [("number", nV n), ("called", V.ref lc)] = ([("number", nV n), ("called", V.ref lc), ("deeds", V.ref t)] : List (Str × V)) := put_new (l := ([("number", nV n), ("called", V.ref lc)] : List (Str × V))) (by show ("deeds" : Str) ∉ (["number", "called"] : List Str); decide +kernel)
  rw [e2]
  have k4 := st (o := .ins T.c_Frame dx [("number", nV n), ("called", V.ref lc), ("deeds", V.ref t)]) k3 hp3
  refine ⟨_, rfl, p, _, dx, _, rfl, upd_same, T.cl_Frame, T.n_Frame_place, (by show 3 < 1000; decide), ?_⟩
  have e3 : putF "place" (V.int 0) [("number", nV n), ("called", V.ref lc), ("deeds", V.ref t)] = frmFs ⟨n, [], [], 0⟩ lc t := put_new (l := ([("number", nV n), ("called", V.ref lc), ("deeds", V.ref t)] : List (Str × V))) (by show ("place" : Str) ∉ (["number", "called", "deeds"] : List Str); decide +kernel)
  rw [e3, upd_upd]
  refine k _ t (st k3 hp3) upd_same ?_
  rw [upd_ne (Ne.symm npt)]
  exact upd_same
def sp_LoomStanding (C : Cs) : Sp := fun vs H Q _ => ∃ (A : LoomA) (s : LoomS), vs = [.ref A.p] ∧ LoomAt C H A s ∧ ∀ p H', H p = none → Kp [] H H' → H' p = some (.lst ((s.stands.map Prod.fst).map V.str)) → Q (.ref p) H'
theorem ok_LoomStanding (T : Tx K mg) : FnOk P w K mg base CX0 1 T.f_LoomStanding T.d_LoomStanding ["self"] (sp_LoomStanding T.cs) := by
  refine T.F_LoomStanding.ok sc_LoomStanding (by walk_at "len") (fun cdv A outer s H vs Q E hr h => ?_)
  obtain ⟨A, s1, rfl, L, k⟩ := h
  refine ⟨_, (pss_one (ps_ret (pe_callTy (call_list_dK rfl) (by rfl) T.z_list (by decide +kernel) (pa_cons (kFld K (pv 0)) pa_nil)))), ?_⟩
  refine ⟨_, rfl, A.p, _, A.dx, _, _, rfl, L.p, T.cl_Loom, T.n_Loom_standings, lf_standings _ _, A.sd, _, rfl, L.sd, fun q hq => k _ _ hq ((Kp.refl _ _).new hq) ?_⟩
  rw [upd_same]
  simp [sdK, kV]
theorem Wf.names {s : LoomS} (w : Wf s) : ∀ x ∈ s.stands.map Prod.fst, ∃ h, handlerOf s.hs x = some h := fun x hx => by
  obtain ⟨c, hc, rfl⟩ := List.mem_map.mp hx
  exact handlerOf_some (w.sin c hc)
theorem lk_some {l : List (Str × Nat)} {x : Str} (h : x ∈ l.map Prod.fst) : ∃ n, lk l x = some n := by
  cases e : lk l x with
  | some n => exact ⟨n, rfl⟩
  | none => exact absurd h (lk_none.mp e)
def sp_LoomBegin (C : Cs) : Sp := fun vs H Q _ => ∃ (A : LoomA) (s : LoomS) (n : Nat), vs = [.ref A.p, nV n] ∧ LoomAt C H A s ∧ Wf s ∧ n < s.events.length ∧ s.log.length ≤ 100000 ∧ s.frames.length ≤ 100000 ∧ ∀ H' A', Went C H A H' A' (s.beginM n) → Q .non H'
theorem ok_LoomBegin (T : Tx K mg) : FnOk P w K mg base CX0 3 T.f_LoomBegin T.d_LoomBegin ["self", "number"] (sp_LoomBegin T.cs) := by
  refine T.F_LoomBegin.ok sc_LoomBegin (by walk_at "len") (fun cdv A outer s H vs Q E hr h => ?_)
  obtain ⟨A, s1, n, rfl, L, wf, hn, hl1, hl2, k⟩ := h
  obtain ⟨e, he⟩ : ∃ e, s1.events[n]? = some e := ⟨s1.events[n], by simp [hn]⟩
  refine ⟨_, (pss_cons (ps_set (i := 2) sc_LoomBegin.nd rfl (Or.inl rfl) (pe_call (ok_hearers T) (hr.mono (by decide)) rfl T.g_hearers T.F_hearers.kp T.b_hearers .nil pass0 (pa_cons (kFld K (pv 0)) (pa_cons (pe_meth0 (pv 0) T.cl_Loom T.m_LoomStanding (ok_LoomStanding T) (hr.mono (by decide)) T.b_LoomStanding .nil pass0) (pa_cons (pe_ix (kIxT K) (pe_ix (kIxL K) (kFld K (pv 0)) (pv 1) (fun _ _ => rfl)) pe_int (fun _ _ => rfl)) pa_nil)))))
    (pss_cons (ps_expr (pe_bm PySem.F.plainAttrs_list PySem.F.slot_list_append PySem.F.type_list_append mt_append (kFld K (pv 0)) (pa_cons (pe_make T.mk_Frame (ok_FrameInit T) (hr.mono (by decide)) rfl T.g_Frame T.b_FrameInit .nil pass0 (pa_cons (pv 1) (pa_cons (pe_lc (own := [("name", 3)]) (g := gName 3) (tt := tYes) rfl sc_LoomBegin.nd (pi_list (pv 2)) (blkOk_by (own := [("name", 3)]) (N := nm_LoomBegin) (sc := defScope s_LoomBegin) (by decide +kernel)) (fun _ _ _ _ _ => (pg_name (i := 3) sc_LoomBegin.nd rfl (Or.inl rfl))) (fun _ _ _ _ _ => pts_nil) (fun _ _ _ _ _ => (pe_tup (pa_cons (pv 3) (pa_cons (pe_dget (hu_of hr) (kFld K (pv 0)) (pv 3) (fun _ _ => rfl)) pa_nil))))) pa_nil))) pa_nil)))
    (pss_one (ps_expr (pe_bm PySem.F.plainAttrs_list PySem.F.slot_list_append PySem.F.type_list_append mt_append (kFld K (pv 0)) (pa_cons (pe_tup (pa_cons pe_str (pa_cons (pv 1) (pa_cons (kFld K (pv 0)) pa_nil)))) pa_nil)))))), ?_⟩
  refine ⟨_, rfl, A.p, _, A.dx, _, _, rfl, L.p, T.cl_Loom, T.n_Loom_handlers, lf_handlers _ _, ?_⟩
  refine ⟨_, rfl, A.p, A.dx, _, rfl, L.p, lf_no (by decide +kernel), A, s1, rfl, L, fun b H1 hb k1 hb1 => ?_⟩
  have L1 := L.kp k1 (by simp)
  obtain ⟨es, e1, e2⟩ := L1.ev
  obtain ⟨y, hy, pe, rfl, hpe⟩ := Pd.at' e2 he
  refine ⟨_, rfl, A.p, _, A.dx, _, _, rfl, L1.p, T.cl_Loom, T.n_Loom_events, lf_events _ _, _, rfl, A.ev, _, _, _, rfl, rfl, SqL.of e1, atI_nat hy, pe, _, _, _, rfl, rfl, SqT.of hpe, at0, ?_⟩
  refine ⟨A.hl, b, e.word, s1.hs, s1.stands.map Prod.fst, rfl, L1.hl, hb1, ?_, wf.names, fun N H2 hN k2 hN2 => ?_⟩
  · rw [List.length_map]
    exact Nat.le_trans wf.stl (by decide)
  have W2 := ((Went.refl L).kp0 k1).kp0 k2
  have L2 := W2.l
  refine ⟨_, rfl, A.p, _, A.dx, _, _, rfl, L2.p, T.cl_Loom, T.n_Loom_frames, lf_frames _ _, .inl ⟨rfl, _, SqL.of L2.fr⟩, _, rfl, ?_⟩
  walk_at "nf"
  refine lc_go ?_
  refine ⟨_, rfl, N, rfl, ⟨_, SqL.of hN2⟩, ?_⟩
  have ln : (hearersM s1.hs (s1.stands.map Prod.fst) e.word).length ≤ 40 := by
    refine Nat.le_trans (hearersM_len _ _ _) ?_
    rw [List.length_map]
    exact wf.stl
  refine lc_pd (Pd.map (f := V.str) (R := fun v x => v = V.str x) fun _ _ => rfl) (Nat.lt_of_le_of_lt ln (by decide)) (fun D pre acc H' => Kp [] H2 H' ∧ Paired (CallAt H') acc (pre.map fun x => (x, (lk s1.stands x).getD 0)))
    (fun D hD => ⟨(Kp.refl _ _).new hD, .nil⟩) (fun D pre acc H' hD e q => SqL.of (q.1.keep0 hN2)) ?_ ?_
  · rintro D pre acc v x post H' Yes No hD ed rfl ee ⟨kp, hac⟩ yes no
    have L' := L2.kp kp (by simp)
    have hx : x ∈ s1.stands.map Prod.fst := hearersM_names (by rw [ed]; simp)
    obtain ⟨m, hm⟩ := lk_some hx
    have dg : DGet H' A.sd (.str x) (some (nV m)) := by
      have := DGet.k (k := Sum.inr x) L'.sd
      rw [sd_val, hm] at this
      exact this
    refine ⟨rfl, tYes_go (iteT ?_)⟩
    refine ⟨_, rfl, _, rfl, A.p, _, A.dx, _, _, rfl, L'.p, T.cl_Loom, T.n_Loom_standings, lf_standings _ _, ?_⟩
    refine ⟨_, rfl, A.sd, nV m, rfl, dg, (by show 2 ≤ sizeLine; decide), fun t ht => ?_⟩
    have kt := (Kp.refl [] H').new (o := .tup [.str x, nV m]) ht
    have eD := kt.keep0 ee
    have kt2 := (Kp.refl [D] _).lst (o := .lst (acc ++ [V.ref t])) (.inl (by simp)) eD
    have ntD : t ≠ D := fun z => by rw [z, ee] at ht; cases ht
    refine yes _ _ eD ⟨(kp.trans kt).lst (.inr hD) eD, ?_⟩
    rw [List.map_append]
    refine Pd.append (Pd.mono (fun _ _ z => callStb _ _ _ _ kt2.tk (callStb _ _ _ _ kt.tk z)) hac) (.cons ⟨t, rfl, ?_⟩ .nil)
    show upd _ D _ t = some (.tup [V.str x, nV ((lk s1.stands x).getD 0)])
    rw [upd_ne ntD, hm]
    exact upd_same
  · intro D acc H3 hD hD3 ⟨k3, hac⟩
    have W3 := W2.kp0 k3
    have L3 := W3.l
    intro f fdx hf hfdx hne
    have W4 := (W3.new (o := .own f) hfdx).new (p := f) (o := .ins T.c_Frame fdx []) (by rw [upd_ne (Ne.symm hne)]; exact hf)
    have k4 : Kp [] H3 (upd (upd H3 fdx (.own f)) f (.ins T.c_Frame fdx [])) := ((Kp.refl [] H3).new hfdx).new (by rw [upd_ne (Ne.symm hne)]; exact hf)
    refine ⟨f, fdx, n, D, rfl, upd_same, fun H5 dq k5 hf5 hdq => ⟨rfl, ?_⟩⟩
    have hfc : f ∉ A.cells := L3.fresh hf
    have L5 : LoomAt T.cs H5 A s1 := W4.l.kp k5 fun a ha z => hfc (by rw [List.mem_singleton] at z; rw [← z]; exact ha)
    have k35 : Kp [] H3 H5 := (k4.transM k5 fun p hp => .inr (by rw [List.mem_singleton] at hp; rw [hp]; exact hf)).mono (by simp)
    have W5 := W3.kp0 k35
    have hD5 := k35.keep0 hD3
    have nfD : f ≠ D := fun z => by rw [z, hD3] at hf; cases hf
    have hDc : D ∉ A.cells := L2.fresh hD
    have hD0 : H D = none := k1.dom _ (k2.dom _ hD)
    have hf0 : H f = none := k1.dom _ (k2.dom _ (k3.dom _ hf))
    have ec : s1.beginM n = ({ s1 with frames := s1.frames ++ [⟨n, calledM s1 e.word, [], 0⟩] } : LoomS).logd (.begin n s1.time) := by
      unfold LoomS.beginM
      rw [he]
    have lfr : A.frs.length = s1.frames.length := L5.frs.len
    refine ⟨A.fr, _, _, rfl, rfl, L5.fr, ?_, ?_⟩
    · rw [List.length_map, lfr]
      exact Nat.lt_of_le_of_lt hl2 (by decide)
    have W6 := W5.pushFr (B := ⟨f, fdx, D⟩) (f := ⟨n, calledM s1 e.word, [], 0⟩) ⟨dq, hf5, ⟨acc, hD5, Pd.mono (fun _ _ z => callStb _ _ _ _ k35.tk z) hac⟩, ⟨[], hdq, .nil⟩⟩ hfc hDc nfD hf0 hD0
    rw [List.map_append] at W6
    have L6 := W6.l
    obtain ⟨xs, g1, g2⟩ := L6.lg
    have hx : xs.length = s1.log.length := Pd.len g2
    refine ⟨_, rfl, A.p, _, A.dx, _, _, rfl, L6.p, T.cl_Loom, T.n_Loom_log, lf_log _ _, .inl ⟨rfl, _, SqL.of g1⟩, _, rfl, _, rfl, A.p, _, A.dx, _, _, rfl, L6.p, T.cl_Loom, T.n_Loom_time, lf_time _ _, (by show 3 ≤ sizeLine; decide), fun t ht => ?_⟩
    have W7 := W6.new (o := .tup [.str "begin", nV n, .int s1.time]) ht
    have tk7 := (Kp.refl [] _).new (o := .tup [.str "begin", nV n, .int s1.time]) ht
    refine ⟨A.lg, xs, _, rfl, rfl, tk7.keep0 g1, Nat.lt_of_le_of_lt (by omega : xs.length ≤ 100000) (by decide), ?_⟩
    have W8 := logged W7 (tk7.keep0 g1) (Pd.mono (fun _ _ z => rowStb _ _ _ _ tk7.tk z) g2) (v := .ref t) (r := .begin n s1.time) ⟨t, 0, rfl, upd_same, trivial⟩
    exact k _ _ (W8.to ec.symm)
end
end Ev
namespace Ev
open PySem L2
section
variable {P : Program} {w : World} {K : PySem.W.Frag} {mg : Str → Option Value} {base : Heap}
def sp_LoomGoOn (C : Cs) : Sp := fun vs H Q _ => ∃ (A : LoomA) (s : LoomS) (Bs : List FrA) (B : FrA) (fs : List Frm) (f : Frm), vs = [.ref A.p, .ref B.fa] ∧ LoomAt C H A s ∧ Wf s ∧ A.frs = Bs ++ [B] ∧ s.frames = fs ++ [f] ∧
  s.log.length ≤ 100000 ∧ s.frames.length ≤ 100000 ∧ ∀ H' A', Went C H A H' A' (s.goOnM f) → Q .non H'
theorem ok_LoomGoOn (T : Tx K mg) : FnOk P w K mg base CX0 4 T.f_LoomGoOn T.d_LoomGoOn ["self", "frame"] (sp_LoomGoOn T.cs) := by
  refine T.F_LoomGoOn.ok sc_LoomGoOn (by walk_at "len") (fun cdv A outer s H vs Q E hr h => ?_)
  obtain ⟨A, s1, Bs, B, fs, f, rfl, L, wf, eA, es, hl1, hl2, k⟩ := h
  have hev : s1.events.length ≤ 100000 := Nat.le_trans wf.evlg hl1
  have hw : s1.soon.length + s1.rows.length ≤ 100000 := Nat.le_trans wf.wait hev
  obtain ⟨f1, f2, f3, f4⟩ := wf.frs f (by rw [es]; simp)
  refine ⟨_, (pss_cons (ps_if (pt_cmpR op_lt (kFld K (pv 1)) (pe_callB (kLen K) (by rfl) T.z_len PySem.boot_len (pa_cons (kFld K (pv 1)) pa_nil)) (nomark _))
        (pss_cons (ps_fld (pv 1) (pe_op op_add (kFld K (pv 1)) pe_int) rfl)
        (pss_cons (ps_expr (pe_meth (pv 0) T.cl_Loom T.m_LoomDo (ok_LoomDo T) (hr.mono (by decide)) T.b_LoomDo .nil pass0 (pa_cons (pv 1) (pa_cons (pe_ix (kIxT K) (kFld K (pv 1)) (pe_op op_sub (kFld K (pv 1)) pe_int) (fun _ _ => rfl)) pa_nil))))
        (pss_one ps_retN)))
        pss_nil)
    (pss_cons (ps_while PassesOwn.never (kTruth K (kFld K (pv 1)))
        (pss_cons (ps_asg (pe_bm PySem.F.plainAttrs_list PySem.F.slot_list_pop PySem.F.type_list_pop mt_popAt (kFld K (pv 1)) (pa_cons pe_int pa_nil)) (kTup K (pgs_cons (pg_name (i := 2) sc_LoomGoOn.nd rfl (Or.inl rfl)) (pgs_cons (pg_name (i := 3) sc_LoomGoOn.nd rfl (Or.inl rfl)) pgs_nil))))
        (pss_one (ps_if (pt_cmpR op_eq (pe_dget1 (hu_of hr) (kFld K (pv 0)) (pv 2) ⟨by rfl, by rfl, by rfl, by rfl⟩) (pv 3) (nomark _))
            (pss_cons (ps_expr (pe_meth (pv 0) T.cl_Loom T.m_LoomCall (ok_LoomCall T) (hr.mono (by decide)) T.b_LoomCall .nil pass0 (pa_cons (pv 1) (pa_cons (pv 2) pa_nil))))
            (pss_one ps_retN))
            pss_nil))))
    (pss_cons (ps_expr (pe_bm0 PySem.F.plainAttrs_list PySem.F.slot_list_pop PySem.F.type_list_pop mt_pop (kFld K (pv 0))))
    (pss_one (ps_expr (pe_bm PySem.F.plainAttrs_list PySem.F.slot_list_append PySem.F.type_list_append mt_append (kFld K (pv 0)) (pa_cons (pe_tup (pa_cons pe_str (pa_cons (kFld K (pv 1)) pa_nil))) pa_nil))))))), ?_⟩
  obtain ⟨dq, b1, b2, ⟨ds, d1, d2⟩⟩ := L.frm eA es
  have ld : ds.length = f.deeds.length := Pd.len d2
  refine ⟨_, rfl, B.fa, _, B.dx, _, _, rfl, b1, T.cl_Frame, T.n_Frame_place, ff_place _ _ _, _, rfl, B.fa, _, B.dx, _, _, rfl, b1, T.cl_Frame, T.n_Frame_deeds, ff_deeds _ _ _, dq, _, rfl, .inr (SqT.of d1), _, _, rfl, rfl, _, rfl, ?_⟩
  by_cases hp : f.place < f.deeds.length
  · rw [decide_eq_true (show ((f.place : Nat) : Int) < ((ds.length : Nat) : Int) by omega)]
    obtain ⟨d, hd⟩ : ∃ d, f.deeds[f.place]? = some d := ⟨f.deeds[f.place], by simp [hp]⟩
    have eg : s1.goOnM f = (s1.last { f with place := f.place + 1 }).doM f.number d := by
      unfold LoomS.goOnM
      rw [hd]
    refine iteT ⟨_, rfl, B.fa, _, B.dx, _, _, rfl, b1, T.cl_Frame, T.n_Frame_place, ff_place _ _ _, _, _, rfl, rfl, _, rfl, B.fa, _, B.dx, _, rfl, b1, T.cl_Frame, T.n_Frame_place, (by show 4 < 1000; decide), ?_⟩
    have ep : putF "place" (V.int ((f.place : Int) + 1)) (frmFs f B.lc dq) = frmFs { f with place := f.place + 1 } B.lc dq := fp_place _ _ _ (f.place + 1)
    rw [ep]
    have W1 := L.setFrm eA es { f with place := f.place + 1 } (dq := dq) rfl ⟨ds, d1, d2⟩
    have L1 := W1.l
    have hb := upd_same (H := H) (a := B.fa) (o := .ins T.cs.F B.dx (frmFs { f with place := f.place + 1 } B.lc dq))
    obtain ⟨y, hy, p, rfl, hpy⟩ := Pd.at' d2 hd
    have em : (((f.place + 1 : Nat) : Int) - 1) = (f.place : Int) := by omega
    refine ⟨_, rfl, A.p, A.dx, _, rfl, L1.p, lf_no (by decide +kernel), _, rfl, ?_⟩
    refine ⟨_, rfl, B.fa, _, B.dx, _, _, rfl, hb, T.cl_Frame, T.n_Frame_deeds, ff_deeds _ _ _, _, rfl, B.fa, _, B.dx, _, _, rfl, hb, T.cl_Frame, T.n_Frame_place, ff_place _ _ _, _, _, rfl, rfl, dq, ds, _, _, rfl, rfl, SqT.of (W1.kp.tk _ _ d1), at_of em hy, ?_⟩
    refine ⟨A, _, Bs, B, fs, { f with place := f.place + 1 }, _, d, rfl, L1, eA, rfl, ⟨p, rfl, W1.kp.tk _ _ hpy⟩, hev, hl1, ?_, ?_, ?_, hw, wf.snd, wf.line, fun H' A' V => ?_⟩
    · show s1.soon.length ≤ 100000
      omega
    · show s1.rows.length ≤ 100000
      omega
    · exact Nat.le_trans wf.stl (by decide)
    · refine k _ _ ((W1.trans V).to ?_)
      rw [eg, last_eq es]
  · rw [decide_eq_false (show ¬ ((f.place : Nat) : Int) < ((ds.length : Nat) : Int) by omega)]
    have hd : f.deeds[f.place]? = none := List.getElem?_eq_none_iff.mpr (by omega)
    refine iteF ?_
    refine ⟨fun m σ H' => ∃ l, m = l.length ∧ l.length ≤ 40 ∧ (∀ c ∈ l, c.1 ∈ s1.hs.map Hnd.name) ∧ l.dropWhile (stale s1) = f.called.dropWhile (stale s1) ∧ Went T.cs H A H' A { s1 with frames := fs ++ [{ f with called := l }] } ∧ ∃ o o', σ = [some (.ref A.p), some (.ref B.fa), o, o'],
      ⟨_, f.called, rfl, f4, f3, rfl, (Went.refl L).to (by rw [← es]), _, _, rfl⟩, ?_⟩
    rintro m σ H1 ⟨l, rfl, hl40, hln, hdw, W1, o, o', rfl⟩
    have L1 := W1.l
    obtain ⟨dq1, c1, ⟨cs, c2, c3⟩, c4⟩ := L1.frm eA rfl
    refine ⟨_, rfl, B.fa, _, B.dx, _, _, rfl, c1, T.cl_Frame, T.n_Frame_called, ff_called _ _ _, _, .inl ⟨_, SqL.of c2, rfl⟩, ?_⟩
    cases l with
    | nil =>
      cases c3
      refine iteF ?_
      have eg : s1.goOnM f = ({ s1 with frames := s1.frames.dropLast } : LoomS).logd (.fin f.number) := by
        unfold LoomS.goOnM
        rw [hd, ← hdw]
        rfl
      refine ⟨_, rfl, A.p, _, A.dx, _, _, rfl, L1.p, T.cl_Loom, T.n_Loom_frames, lf_frames _ _, .inl ⟨rfl, _, SqL.of L1.fr⟩, A.fr, _, .ref B.fa, rfl, rfl, L1.fr, ?_, ?_⟩
      · rw [eA]
        simp
      have W2 := W1.trans (L1.popFr eA rfl)
      have ed : (A.frs.map fun f => V.ref f.fa).dropLast = Bs.map fun f => V.ref f.fa := by
        rw [eA, List.map_append]
        exact List.dropLast_concat
      rw [ed]
      have L2 := W2.l
      obtain ⟨_, B', eB', _, _, _, _, _, nf, _⟩ := L1.last rfl
      rw [eA] at eB'
      obtain ⟨rfl, hh⟩ := List.append_inj' eB' rfl
      have hh : B = B' := by simpa using hh
      subst hh
      have c1' : upd H1 A.fr (.lst (Bs.map fun f => V.ref f.fa)) B.fa = some (.ins T.cs.F B.dx (frmFs { f with called := [] } B.lc dq1)) := by
        rw [upd_ne (Ne.symm (nf A.fr (by simp [LoomA.fix])).1)]
        exact c1
      obtain ⟨xs, g1, g2⟩ := L2.lg
      have hx : xs.length = s1.log.length := Pd.len g2
      refine ⟨_, rfl, A.p, _, A.dx, _, _, rfl, L2.p, T.cl_Loom, T.n_Loom_log, lf_log _ _, .inl ⟨rfl, _, SqL.of g1⟩, _, rfl, B.fa, _, B.dx, _, _, rfl, c1', T.cl_Frame, T.n_Frame_number, ff_number _ _ _, (by show 2 ≤ sizeLine; decide), fun t ht => ?_⟩
      have W3 := W2.new (o := .tup [.str "end", nV f.number]) ht
      have tk3 := (Kp.refl [] _).new (o := .tup [.str "end", nV f.number]) ht
      refine ⟨A.lg, xs, _, rfl, rfl, tk3.keep0 g1, Nat.lt_of_le_of_lt (by omega : xs.length ≤ 100000) (by decide), ?_⟩
      have W4 := logged W3 (tk3.keep0 g1) (Pd.mono (fun _ _ z => rowStb _ _ _ _ tk3.tk z) g2) (v := .ref t) (r := .fin f.number) ⟨t, 0, rfl, upd_same, trivial⟩
      refine k _ _ (W4.to ?_)
      rw [eg, es, List.dropLast_concat]
    | cons c rest =>
      cases c3 with
      | cons q1 q2 =>
        rename_i v cs'
        obtain ⟨p, rfl, hpc⟩ := q1
        refine iteT ?_
        refine ⟨fun σ' H' => ∃ l, l.length < (c :: rest).length ∧ l.length ≤ 40 ∧ (∀ c ∈ l, c.1 ∈ s1.hs.map Hnd.name) ∧ l.dropWhile (stale s1) = f.called.dropWhile (stale s1) ∧ Went T.cs H A H' A { s1 with frames := fs ++ [{ f with called := l }] } ∧ ∃ o o', σ' = [some (.ref A.p), some (.ref B.fa), o, o'],
          fun σ' H' ⟨l, z1, z2⟩ => ⟨_, z1, l, rfl, z2⟩, ?_⟩
        refine ⟨_, rfl, B.fa, _, B.dx, _, _, rfl, c1, T.cl_Frame, T.n_Frame_called, ff_called _ _ _, .inl ⟨rfl, _, SqL.of c2⟩, B.lc, _, 0, 0, .ref p, rfl, rfl, c2, by decide, by decide, sq0 (by simp), rfl, ?_⟩
        have ee : (V.ref p :: cs').eraseIdx 0 = cs' := rfl
        rw [ee]
        have W2 := W1.trans (L1.setLc eA rfl (cs := cs') (l := rest) q2)
        have L2 := W2.l
        have hpc2 : upd H1 B.lc (.lst cs') p = some (.tup [.str c.1, nV c.2]) := (L1.setLc eA rfl (cs := cs') (l := rest) q2).kp.tk _ _ hpc
        refine ⟨p, _, rfl, SqT.of hpc2, rfl, _, _, rfl, _, _, rfl, rfl, ?_⟩
        refine ⟨_, rfl, A.p, _, A.dx, _, _, rfl, L2.p, T.cl_Loom, T.n_Loom_standings, lf_standings _ _, A.sd, rfl, .inl ⟨_, .inl L2.sd⟩, _, rfl, _, DGet.k (k := Sum.inr c.1) L2.sd, ?_⟩
        rw [sd_val]
        refine ⟨_, rfl, ?_⟩
        have es2 : stale s1 c = !decide (((lk s1.stands c.1).map nV).getD .non = nV c.2) := by
          unfold stale
          cases e : lk s1.stands c.1 with
          | none => rfl
          | some m =>
            show decide (some m ≠ some c.2) = !decide (nV m = nV c.2)
            by_cases h : m = c.2
            · subst h; simp
            · have h2 : ¬ nV m = nV c.2 := fun q => h (by have := V.int.inj q; omega)
              simp [h, h2]
        refine ⟨?_, _, rfl, ?_⟩
        · show scal (((lk s1.stands c.1).map nV).getD .non) (nV c.2) = true
          cases lk s1.stands c.1 <;> rfl
        show (if decide (((lk s1.stands c.1).map nV).getD .non = nV c.2) = true then _ else _)
        cases e : stale s1 c with
        | true =>
          rw [e] at es2
          have : decide (((lk s1.stands c.1).map nV).getD .non = nV c.2) = false := by
            cases q : decide (((lk s1.stands c.1).map nV).getD .non = nV c.2) with
            | true => rw [q] at es2; cases es2
            | false => rfl
          rw [this]
          refine iteF ⟨rest, Nat.lt_succ_self _, by simp at hl40; omega, fun a ha => hln a (List.mem_cons_of_mem _ ha), ?_, W2, _, _, rfl⟩
          rw [← hdw, List.dropWhile_cons, e, if_pos rfl]
        | false =>
          rw [e] at es2
          have : decide (((lk s1.stands c.1).map nV).getD .non = nV c.2) = true := by
            cases q : decide (((lk s1.stands c.1).map nV).getD .non = nV c.2) with
            | false => rw [q] at es2; cases es2
            | true => rfl
          rw [this]
          obtain ⟨hh, hhe⟩ := handlerOf_some (hln c List.mem_cons_self)
          have eg : s1.goOnM f = (s1.last { f with called := rest }).callM { f with called := rest } c.1 hh := by
            unfold LoomS.goOnM
            rw [hd, ← hdw, List.dropWhile_cons, e, if_neg (by decide)]
            show (match handlerOf s1.hs c.1 with | some h => _ | none => _) = _
            rw [hhe]
          refine iteT ⟨_, rfl, A.p, A.dx, _, rfl, L2.p, lf_no (by decide +kernel), _, rfl, _, rfl, A, _, Bs, B, fs, { f with called := rest }, c.1, hh, rfl, L2, eA, rfl, hhe, hl1, Nat.le_trans wf.stl (by decide), wf.snd, fun H' A' V => ?_⟩
          refine k _ _ ((W2.trans V).to ?_)
          rw [eg, last_eq es]
end
end Ev
namespace Ev
open PySem L2
section
variable {P : Program} {w : World} {K : PySem.W.Frag} {mg : Str → Option Value} {base : Heap}
theorem Wf.noFresh {s : LoomS} (w : Wf s) : Wf { s with fresh := none } := ⟨w.hl, w.hok, w.hnd, w.hin, w.snd, w.sin, w.evlg, w.wait, w.line, (fun _ h => nomatch h), w.frs⟩
theorem Wf.popSoon {s : LoomS} (w : Wf s) {n : Nat} {r : List Nat} (e : s.soon = n :: r) : Wf { s with soon := r } := by
  refine ⟨w.hl, w.hok, w.hnd, w.hin, w.snd, w.sin, w.evlg, ?_, fun k hk => w.line k ?_, w.fresh, w.frs⟩
  · have := w.wait
    rw [e] at this
    simp at this
    show r.length + s.rows.length ≤ s.events.length
    omega
  · rw [e]
    rcases List.mem_append.mp hk with q | q
    · exact List.mem_append.mpr (.inl (List.mem_cons_of_mem _ q))
    · exact List.mem_append.mpr (.inr q)
theorem Wf.popRow {s : LoomS} (w : Wf s) {d t : Int} {n : Nat} {r : List (Int × Nat)} (e2 : s.rows = (d, n) :: r) : Wf { s with rows := r, time := t } := by
  refine ⟨w.hl, w.hok, w.hnd, w.hin, w.snd, w.sin, w.evlg, ?_, fun k hk => w.line k ?_, w.fresh, w.frs⟩
  · have := w.wait
    rw [e2] at this
    simp at this
    show s.soon.length + r.length ≤ s.events.length
    omega
  · rw [e2]
    rcases List.mem_append.mp hk with q | q
    · exact List.mem_append.mpr (.inl q)
    · exact List.mem_append.mpr (.inr (List.mem_cons_of_mem _ q))
def sp_LoomStep (C : Cs) : Sp := fun vs H Q _ => ∃ (A : LoomA) (s : LoomS), vs = [.ref A.p] ∧ LoomAt C H A s ∧ Wf s ∧ s.log.length ≤ 100000 ∧ s.frames.length ≤ 100000 ∧
  (∀ s', s.stepM = some s' → ∀ H' A', Went C H A H' A' s' → Q (.bl true) H') ∧ (s.stepM = none → Q (.bl false) H)
theorem ok_LoomStep (T : Tx K mg) : FnOk P w K mg base CX0 5 T.f_LoomStep T.d_LoomStep ["self"] (sp_LoomStep T.cs) := by
  refine T.F_LoomStep.ok sc_LoomStep (by walk_at "len") (fun cdv A outer s H vs Q E hr h => ?_)
  obtain ⟨A, s1, rfl, L, wf, hl1, hl2, k1, k2⟩ := h
  refine ⟨_, (pss_cons (ps_if (pt_cmpR op_notN (kFld K (pv 0)) pe_non (nomark _))
        (pss_cons (ps_set (i := 1) sc_LoomStep.nd rfl (Or.inl rfl) (kFld K (pv 0)))
        (pss_cons (ps_fld (pv 0) pe_non rfl)
        (pss_cons (ps_expr (pe_meth (pv 0) T.cl_Loom T.m_LoomBegin (ok_LoomBegin T) (hr.mono (by decide)) T.b_LoomBegin .nil pass0 (pa_cons (pv 1) pa_nil)))
        (pss_one (ps_ret pe_bl)))))
        pss_nil)
    (pss_cons (ps_if (kTruth K (kFld K (pv 0)))
        (pss_cons (ps_expr (pe_meth (pv 0) T.cl_Loom T.m_LoomGoOn (ok_LoomGoOn T) (hr.mono (by decide)) T.b_LoomGoOn .nil pass0 (pa_cons (pe_ix (kIxL K) (kFld K (pv 0)) (pe_un un_neg pe_int) (fun _ _ => rfl)) pa_nil)))
        (pss_one (ps_ret pe_bl)))
        pss_nil)
    (pss_cons (ps_set (i := 2) sc_LoomStep.nd rfl (Or.inl rfl) (pe_meth0 (kFld K (pv 0)) T.cl_Waits T.m_WaitsLead (ok_WaitsLead T) (hr.mono (by decide)) T.b_WaitsLead .nil pass0))
    (pss_cons (ps_if (pt_cmpR op_isN (pv 2) pe_non (nomark _))
        (pss_one (ps_ret pe_bl))
        pss_nil)
    (pss_cons (ps_if (PW.pt (pw_and (pt_cmpR op_notN (pe_ix (kIxT K) (pv 2) pe_int (fun _ _ => rfl)) pe_non (nomark _)) (pw_and1 (pt_cmpR op_gt (pe_ix (kIxT K) (pv 2) pe_int (fun _ _ => rfl)) (kFld K (pv 0)) (nomark _)))))
        (pss_one (ps_fld (pv 0) (pe_ix (kIxT K) (pv 2) pe_int (fun _ _ => rfl)) rfl))
        pss_nil)
    (pss_cons (ps_expr (pe_meth (pv 0) T.cl_Loom T.m_LoomBegin (ok_LoomBegin T) (hr.mono (by decide)) T.b_LoomBegin .nil pass0 (pa_cons (pe_ix (kIxT K) (pv 2) pe_int (fun _ _ => rfl)) pa_nil)))
    (pss_one (ps_ret pe_bl)))))))), ?_⟩
  refine ⟨_, rfl, A.p, _, A.dx, _, _, rfl, L.p, T.cl_Loom, T.n_Loom_fresh, lf_fresh _ _, rfl, _, rfl, ?_⟩
  cases ef : s1.fresh with
  | some n =>
    have es : s1.stepM = some (({ s1 with fresh := none } : LoomS).beginM n) := by
      unfold LoomS.stepM
      rw [ef]
    refine iteT' rfl ⟨_, rfl, A.p, _, A.dx, _, _, rfl, L.p, T.cl_Loom, T.n_Loom_fresh, lf_fresh _ _, ?_⟩
    rw [ef]
    refine ⟨_, rfl, A.p, _, A.dx, _, rfl, L.p, T.cl_Loom, T.n_Loom_fresh, (by show 9 < 1000; decide), ?_⟩
    rw [show putF "fresh" V.non (loomFs A s1) = loomFs A { s1 with fresh := none } from lp_fresh A s1 none]
    have W1 := L.setP { s1 with fresh := none } rfl rfl rfl rfl rfl rfl rfl
    exact ⟨_, rfl, A.p, A.dx, _, rfl, W1.l.p, lf_no (by decide +kernel), _, rfl, A, _, n, rfl, W1.l, wf.noFresh, wf.fresh n ef, hl1, hl2, fun H' A' V => k1 _ es _ _ (W1.trans V)⟩
  | none =>
    refine iteF' rfl ⟨_, rfl, A.p, _, A.dx, _, _, rfl, L.p, T.cl_Loom, T.n_Loom_frames, lf_frames _ _, _, .inl ⟨_, SqL.of L.fr, rfl⟩, ?_⟩
    cases efr : s1.frames.getLast? with
    | some f =>
      obtain ⟨fs, es⟩ := List.getLast?_eq_some_iff.mp efr
      have est : s1.stepM = some (s1.goOnM f) := by
        unfold LoomS.stepM
        rw [ef, efr]
      obtain ⟨Bs, B, eA, _⟩ := L.last es
      refine iteT' ?_ ⟨_, rfl, A.p, A.dx, _, rfl, L.p, lf_no (by decide +kernel), _, rfl, A.p, _, A.dx, _, _, rfl, L.p, T.cl_Loom, T.n_Loom_frames, lf_frames _ _, _, rfl, A.fr, _, _, .ref B.fa, rfl, rfl, SqL.of L.fr, atLast ?_, ?_⟩
      · rw [eA]
        simp
      · rw [eA]
        simp
      · exact ⟨A, s1, Bs, B, fs, f, rfl, L, wf, eA, es, hl1, hl2, fun H' A' V => k1 _ est _ _ V⟩
    | none =>
      have e0 : s1.frames = [] := List.getLast?_eq_none_iff.mp efr
      have ea : A.frs = [] := by
        have := L.frs.len
        rw [e0] at this
        exact List.eq_nil_of_length_eq_zero this
      refine iteF' (by rw [ea]; rfl) ?_
      refine ⟨_, rfl, A.p, _, A.dx, _, _, rfl, L.p, T.cl_Loom, T.n_Loom_line, lf_line _ _, A.wa, A.wdx, _, rfl, L.wa, wf_no (by decide +kernel), ?_⟩
      refine ⟨A.wt, _, _, rfl, L.waits, ?_, ?_, ?_⟩
      · intro n soon' es p H1 B1 P1 hp
        have W1 := L.wait P1
        have L1 := W1.l
        have est : s1.stepM = some (({ s1 with soon := soon' } : LoomS).beginM n) := by
          unfold LoomS.stepM
          rw [ef, efr, es]
        have hp0 : ({ A with fo := B1.fo, rw := B1.rw } : LoomA).p = A.p := rfl
        refine ⟨_, rfl, rfl, _, rfl, iteF' rfl ?_⟩
        refine ⟨_, rfl, p, _, _, _, rfl, rfl, SqT.of hp, at1, rfl, _, rfl, iteF' rfl (iteF ?_)⟩
        refine ⟨_, rfl, A.p, A.dx, _, rfl, L1.p, lf_no (by decide +kernel), _, rfl, p, _, _, _, rfl, rfl, SqT.of hp, at0, ?_⟩
        exact ⟨{ A with fo := B1.fo, rw := B1.rw }, _, n, rfl, L1, wf.popSoon es, wf.line n (by rw [es]; simp), hl1, hl2, fun H' A' V => k1 _ est _ _ (W1.trans V)⟩
      · intro d n rows' es er p H1 B1 P1 hp
        have W1 := L.wait P1
        have L1 := W1.l
        have est : s1.stepM = some (({ s1 with rows := rows', time := if d > s1.time then d else s1.time } : LoomS).beginM n) := by
          unfold LoomS.stepM
          rw [ef, efr, es, er]
        refine ⟨_, rfl, rfl, _, rfl, iteF' rfl ?_⟩
        refine ⟨_, rfl, p, _, _, _, rfl, rfl, SqT.of hp, at1, rfl, _, rfl, iteT' rfl ?_⟩
        refine ⟨_, rfl, p, _, _, _, rfl, rfl, SqT.of hp, at1, _, rfl, A.p, _, A.dx, _, _, rfl, L1.p, T.cl_Loom, T.n_Loom_time, lf_time _ _, _, _, rfl, rfl, _, rfl, ?_⟩
        by_cases hd : s1.time < d
        · rw [decide_eq_true hd]
          refine iteT ⟨_, rfl, p, _, _, _, rfl, rfl, SqT.of hp, at1, _, rfl, A.p, _, A.dx, _, rfl, L1.p, T.cl_Loom, T.n_Loom_time, (by show 9 < 1000; decide), ?_⟩
          rw [lp_time]
          rw [if_pos hd] at est
          have W2 := W1.trans (L1.setP { s1 with soon := [], rows := rows', time := d } rfl rfl rfl rfl rfl rfl rfl)
          have L2 := W2.l
          refine ⟨_, rfl, A.p, A.dx, _, rfl, L2.p, lf_no (by decide +kernel), _, rfl, p, _, _, _, rfl, rfl, SqT.of (L1.setP { s1 with soon := [], rows := rows', time := d } rfl rfl rfl rfl rfl rfl rfl |>.kp.tk _ _ hp), at0, ?_⟩
          have e3 : ({ s1 with soon := [], rows := rows', time := d } : LoomS) = { s1 with rows := rows', time := d } := by rw [← es]
          have wf2 : Wf { s1 with soon := [], rows := rows', time := d } := by rw [e3]; exact wf.popRow er
          exact ⟨{ A with fo := B1.fo, rw := B1.rw }, { s1 with soon := [], rows := rows', time := d }, n, rfl, L2, wf2, wf.line n (by rw [er]; simp), hl1, hl2, fun H' A' V => k1 _ est _ _ ((W2.trans V).to (by rw [e3]))⟩
        · rw [decide_eq_false hd]
          refine iteF ?_
          rw [if_neg hd] at est
          refine ⟨_, rfl, A.p, A.dx, _, rfl, L1.p, lf_no (by decide +kernel), _, rfl, p, _, _, _, rfl, rfl, SqT.of hp, at0, ?_⟩
          have e3 : ({ s1 with soon := [], rows := rows' } : LoomS) = { s1 with rows := rows', time := s1.time } := by rw [← es]
          have wf2 : Wf { s1 with soon := [], rows := rows' } := by rw [e3]; exact wf.popRow er
          exact ⟨{ A with fo := B1.fo, rw := B1.rw }, { s1 with soon := [], rows := rows' }, n, rfl, L1, wf2, wf.line n (by rw [er]; simp), hl1, hl2, fun H' A' V => k1 _ est _ _ ((W1.trans V).to (by rw [e3]))⟩
      · intro es er
        have est : s1.stepM = none := by
          unfold LoomS.stepM
          rw [ef, efr, es, er]
        exact ⟨_, rfl, rfl, _, rfl, iteT' rfl (k2 est)⟩
end
end Ev
namespace Ev
open PySem L2
section
variable {P : Program} {w : World} {K : PySem.W.Frag} {mg : Str → Option Value} {base : Heap}
def sp_LoomRun (C : Cs) : Sp := fun vs H Q _ => ∃ (A : LoomA) (s : LoomS) (k : Nat), vs = [.ref A.p, nV k] ∧ LoomAt C H A s ∧ Wf s ∧ s.log.length + (s.runM k).2 ≤ 100000 ∧ s.frames.length + (s.runM k).2 ≤ 100000 ∧
  ∀ H' A', Went C H A H' A' (s.runM k).1 → Q (nV (s.runM k).2) H'
theorem ok_LoomRun (T : Tx K mg) : FnOk P w K mg base CX0 6 T.f_LoomRun T.d_LoomRun ["self", "most"] (sp_LoomRun T.cs) := by
  refine T.F_LoomRun.ok sc_LoomRun (by walk_at "len") (fun cdv A outer s H vs Q E hr h => ?_)
  obtain ⟨A, s1, k, rfl, L, wf, hl1, hl2, kk⟩ := h
  refine ⟨_, (pss_cons (ps_if (PW.pt (pw_or (pt_not (pt_val (pe_call (ok_isWhole T) (hr.mono (by decide)) rfl T.g_isWhole T.F_isWhole.kp T.b_isWhole .nil pass0 (pa_cons (pv 1) pa_nil)))) (pw_or1 (pt_cmpR op_lt (pv 1) pe_int (nomark _)))))
        (pss_one ps_never)
        pss_nil)
    (pss_cons (ps_set (i := 2) sc_LoomRun.nd rfl (Or.inl rfl) pe_int)
    (pss_cons (ps_while PassesOwn.never (PW.pt (pw_and (pt_cmpR op_lt (pv 2) (pv 1) (nomark _)) (pw_and1 (pt_val (pe_meth0 (pv 0) T.cl_Loom T.m_LoomStep (ok_LoomStep T) (hr.mono (by decide)) T.b_LoomStep .nil pass0)))))
        (pss_one (ps_set (i := 2) sc_LoomRun.nd rfl (Or.inl rfl) (pe_op op_add (pv 2) pe_int))))
    (pss_one (ps_ret (pv 2)))))), ?_⟩
  refine ⟨_, rfl, _, _, _, _, rfl, isI, (by decide +kernel : kitB "int" "int" = some true), (by decide +kernel : kitB "int" "bool" = some false), _, rfl, iteF ?_⟩
  refine ⟨_, rfl, _, _, rfl, rfl, _, rfl, ?_⟩
  rw [decide_eq_false (show ¬ ((k : Nat) : Int) < 0 by omega)]
  refine iteF ?_
  refine ⟨fun m σ H' => ∃ j A' s', j ≤ k ∧ m = k - j ∧ s1.runM k = ((s'.runM (k - j)).1, (s'.runM (k - j)).2 + j) ∧ Wf s' ∧ s'.log.length = s1.log.length + j ∧ s'.frames.length ≤ s1.frames.length + j ∧ Went T.cs H A H' A' s' ∧ σ = [some (.ref A.p), some (nV k), some (nV j)],
    ⟨k, 0, A, s1, Nat.zero_le _, rfl, rfl, wf, rfl, Nat.le_refl _, Went.refl L, rfl⟩, ?_⟩
  rintro m σ H1 ⟨j, A1, s2, hj, rfl, hr2, wf2, hlg, hfr, W1, rfl⟩
  have L1 := W1.l
  have hp1 := L1.p
  rw [W1.p] at hp1
  have hle : j + (s2.runM (k - j)).2 = (s1.runM k).2 := by rw [hr2]; exact Nat.add_comm _ _
  refine ⟨_, rfl, _, rfl, _, _, rfl, rfl, _, rfl, ?_⟩
  by_cases hjk : j < k
  · rw [decide_eq_true (show ((j : Nat) : Int) < ((k : Nat) : Int) by omega)]
    obtain ⟨i, hi⟩ : ∃ i, k - j = i + 1 := ⟨k - j - 1, by omega⟩
    refine iteT ⟨_, rfl, A.p, A1.dx, _, rfl, hp1, lf_no (by decide +kernel), A1, s2, by rw [W1.p]; rfl, L1, wf2, by omega, by omega, fun s3 e3 H3 A3 V3 => ⟨_, rfl, iteT ?_⟩, fun e3 => ⟨_, rfl, iteF ?_⟩⟩
    · have hs := stepM_log wf2 e3
      have er : s2.runM (k - j) = ((s3.runM i).1, (s3.runM i).2 + 1) := by
        rw [hi, LoomS.runM, e3]
      refine ⟨fun σ' H' => ∃ A' s', k - (j + 1) < k - j ∧ s1.runM k = ((s'.runM (k - (j + 1))).1, (s'.runM (k - (j + 1))).2 + (j + 1)) ∧ Wf s' ∧ s'.log.length = s1.log.length + (j + 1) ∧ s'.frames.length ≤ s1.frames.length + (j + 1) ∧ Went T.cs H A H' A' s' ∧ σ' = [some (.ref A.p), some (nV k), some (nV (j + 1))],
        fun σ' H' ⟨A', s', z0, z⟩ => ⟨k - (j + 1), z0, j + 1, A', s', by omega, rfl, z⟩, ?_⟩
      refine ⟨_, rfl, _, _, rfl, rfl, A3, s3, by omega, ?_, wf2.stepM e3, by omega, by omega, W1.trans V3, rfl⟩
      have ei : k - (j + 1) = i := by omega
      rw [hr2, er, ei]
      show (_, _ + 1 + j) = (_, _ + (j + 1))
      rw [Nat.add_assoc, Nat.add_comm 1 j]
    · have er : s2.runM (k - j) = (s2, 0) := by rw [hi, LoomS.runM, e3]
      refine ⟨_, rfl, ?_⟩
      have := kk H1 A1
      rw [hr2, er] at this
      have q := this W1
      rw [Nat.zero_add] at q
      exact q
  · rw [decide_eq_false (show ¬ ((j : Nat) : Int) < ((k : Nat) : Int) by omega)]
    have ej : j = k := by omega
    subst ej
    refine iteF (iteF ⟨_, rfl, ?_⟩)
    have := kk H1 A1
    rw [hr2, Nat.sub_self] at this
    have q := this W1
    rw [show (s2.runM 0).2 = 0 from rfl, Nat.zero_add] at q
    exact q
end
end Ev
namespace Ev
open PySem L2
section
variable {P : Program} {w : World} {K : PySem.W.Frag} {mg : Str → Option Value} {base : Heap}
def sp_LoomWaiting (C : Cs) : Sp := fun vs H Q _ => ∃ (A : LoomA) (s : LoomS), vs = [.ref A.p] ∧ LoomAt C H A s ∧ s.soon.length + s.rows.length ≤ 100000 ∧ ∀ p H', H p = none → Kp [] H H' → H' p = some (.lst (s.waitM.map nV)) → Q (.ref p) H'
theorem ok_LoomWaiting (T : Tx K mg) : FnOk P w K mg base CX0 2 T.f_LoomWaiting T.d_LoomWaiting ["self"] (sp_LoomWaiting T.cs) := by
  refine T.F_LoomWaiting.ok sc_LoomWaiting (by walk_at "len") (fun cdv A outer s H vs Q E hr h => ?_)
  obtain ⟨A, s1, rfl, L, hl, k⟩ := h
  refine ⟨_, (pss_cons (ps_if (pt_cmpR op_isN (kFld K (pv 0)) pe_non (nomark _))
        (pss_one (ps_ret (pe_meth0 (kFld K (pv 0)) T.cl_Waits T.m_WaitsLineup (ok_WaitsLineup T) (hr.mono (by decide)) T.b_WaitsLineup .nil pass0)))
        pss_nil)
    (pss_one (ps_ret (pe_op op_cat (pe_lst (pa_cons (kFld K (pv 0)) pa_nil)) (pe_meth0 (kFld K (pv 0)) T.cl_Waits T.m_WaitsLineup (ok_WaitsLineup T) (hr.mono (by decide)) T.b_WaitsLineup .nil pass0))))), ?_⟩
  refine ⟨_, rfl, A.p, _, A.dx, _, _, rfl, L.p, T.cl_Loom, T.n_Loom_fresh, lf_fresh _ _, rfl, _, rfl, ?_⟩
  cases ef : s1.fresh with
  | none =>
    refine iteT' rfl ⟨_, rfl, A.p, _, A.dx, _, _, rfl, L.p, T.cl_Loom, T.n_Loom_line, lf_line _ _, A.wa, A.wdx, _, rfl, L.wa, wf_no (by decide +kernel), ?_⟩
    refine ⟨A.wt, _, _, rfl, L.waits, hl, fun p H1 hp k1 e => k _ _ hp k1 ?_⟩
    rw [e]
    unfold LoomS.waitM
    rw [ef]
    rfl
  | some n =>
    refine iteF' rfl ⟨_, rfl, A.p, _, A.dx, _, _, rfl, L.p, T.cl_Loom, T.n_Loom_fresh, lf_fresh _ _, (by show 1 ≤ sizeLine; decide), fun p hp => ?_⟩
    rw [ef]
    have k1 := (Kp.refl [] H).new (o := .lst [onV (some n)]) hp
    have L1 := L.new (o := .lst [onV (some n)]) hp
    refine ⟨_, rfl, A.p, _, A.dx, _, _, rfl, L1.p, T.cl_Loom, T.n_Loom_line, lf_line _ _, A.wa, A.wdx, _, rfl, L1.wa, wf_no (by decide +kernel), ?_⟩
    refine ⟨A.wt, _, _, rfl, L1.waits, hl, fun q H1 hq k2 e => ?_⟩
    refine ⟨p, q, _, _, rfl, rfl, k2.keep0 upd_same, e, ?_, fun r hr => ?_⟩
    · simp
      exact Nat.le_trans (m := 100001) (by omega) (by decide)
    · refine k _ _ (k1.dom _ (k2.dom _ hr)) ((k1.trans k2).new hr) ?_
      rw [upd_same]
      unfold LoomS.waitM
      rw [ef]
      rfl
end
end Ev
namespace Ev
open PySem L2
section
variable {P : Program} {w : World} {K : PySem.W.Frag} {mg : Str → Option Value} {base : Heap}
def sp_LoomIdle (C : Cs) : Sp := fun vs H Q _ => ∃ (A : LoomA) (s : LoomS), vs = [.ref A.p] ∧ LoomAt C H A s ∧ s.soon.length + s.rows.length ≤ 100000 ∧ ∀ H', Kp [] H H' → Q (.bl s.idleM) H'
theorem ok_LoomIdle (T : Tx K mg) : FnOk P w K mg base CX0 3 T.f_LoomIdle T.d_LoomIdle ["self"] (sp_LoomIdle T.cs) := by
  refine T.F_LoomIdle.ok sc_LoomIdle (by walk_at "len") (fun cdv A outer s H vs Q E hr h => ?_)
  obtain ⟨A, s1, rfl, L, hl, k⟩ := h
  refine ⟨_, (pss_one (ps_ret (pe_and (pe_notT (kFld K (pv 0))) (pe_one (pe_notT (pe_meth0 (pv 0) T.cl_Loom T.m_LoomWaiting (ok_LoomWaiting T) (hr.mono (by decide)) T.b_LoomWaiting .nil pass0)))))), ?_⟩
  have lfr : A.frs.length = s1.frames.length := L.frs.len
  refine ⟨_, rfl, A.p, _, A.dx, _, _, rfl, L.p, T.cl_Loom, T.n_Loom_frames, lf_frames _ _, _, .inl ⟨_, SqL.of L.fr, rfl⟩, _, rfl, ?_⟩
  cases ef : s1.frames with
  | cons f fs =>
    have : A.frs ≠ [] := fun q => by rw [q, ef] at lfr; cases lfr
    refine iteF' (by cases e : A.frs with | nil => exact absurd e this | cons _ _ => rfl) ?_
    have := k H (Kp.refl _ _)
    unfold LoomS.idleM at this
    rw [ef] at this
    exact this
  | nil =>
    have : A.frs = [] := by rw [ef] at lfr; exact List.eq_nil_of_length_eq_zero lfr
    refine iteT' (by rw [this]; rfl) ⟨_, rfl, A.p, A.dx, _, rfl, L.p, lf_no (by decide +kernel), A, s1, rfl, L, hl, fun p H1 hp k1 e => ⟨_, .inl ⟨_, SqL.of e, rfl⟩, ?_⟩⟩
    have := k H1 k1
    unfold LoomS.idleM at this
    rw [ef] at this
    have e2 : (!(!(s1.waitM.map nV).isEmpty)) = (([] : List Frm).isEmpty && s1.waitM.isEmpty) := by
      cases s1.waitM <;> rfl
    rw [e2]
    exact this
end
end Ev
namespace Ev
open PySem L2
section
variable {P : Program} {w : World} {K : PySem.W.Frag} {mg : Str → Option Value} {base : Heap}
/-! ### a loom is made -/
/-- the addresses cs are taken, each once -/
structure Al (cs : List Addr) (H : Hp) : Prop where
  nd : cs.Nodup
  has : ∀ a ∈ cs, H a ≠ none
theorem Al.kp {cs : List Addr} {M : List Addr} {H H' : Hp} (a : Al cs H) (k : Kp M H H') : Al cs H' := ⟨a.nd, fun x hx e => a.has x hx (k.dom x e)⟩
theorem Al.add {cs : List Addr} {H H' : Hp} {d : Addr} (a : Al cs H') (hd : H d = none) (h0 : ∀ x ∈ cs, H x ≠ none) (hd' : H' d ≠ none) : Al (d :: cs) H' :=
  ⟨List.nodup_cons.mpr ⟨fun q => h0 d q hd, a.nd⟩, fun x hx => (List.mem_cons.mp hx).elim (fun e => e ▸ hd') (a.has x)⟩
theorem Al.new {cs : List Addr} {H : Hp} {d : Addr} {o : HO} (a : Al cs H) (hd : H d = none) : Al (d :: cs) (upd H d o) :=
  (a.kp ((Kp.refl [] H).new hd)).add hd a.has (by rw [upd_same]; simp)
/-- a field of the instance at p is stored; before it, perhaps, a new list or dict -/
structure St1 (p : Addr) (L dx : Addr) (fs : List (Str × V)) (cs : List Addr) (H H' : Hp) : Prop where
  kp : Kp [p] H H'
  hp : H' p = some (.ins L dx fs)
  al : Al cs H'
theorem st_f {p L dx : Addr} {fs fs' : List (Str × V)} {cs : List Addr} {H : Hp} (h : H p = some (.ins L dx fs)) (al : Al cs H) : St1 p L dx fs' cs H (upd H p (.ins L dx fs')) := by
  have k : Kp [p] H (upd H p (.ins L dx fs')) := (Kp.refl _ _).ins (.inl (by simp)) h
  exact ⟨k, upd_same, al.kp k⟩
theorem st_l {p L dx d : Addr} {fs fs' : List (Str × V)} {cs : List Addr} {H : Hp} {o : HO} (h : H p = some (.ins L dx fs)) (al : Al cs H) (hd : H d = none) :
    St1 p L dx fs' (d :: cs) H (upd (upd H d o) p (.ins L dx fs')) ∧ upd (upd H d o) p (.ins L dx fs') d = some o := by
  have n : p ≠ d := ne_of_none h hd
  have h2 : upd H d o p = some (.ins L dx fs) := by rw [upd_ne n]; exact h
  have k1 : Kp [p] H (upd H d o) := (Kp.refl _ _).new hd
  have k2 : Kp [p] H (upd (upd H d o) p (.ins L dx fs')) := k1.ins (.inl (by simp)) h2
  exact ⟨⟨k2, upd_same, (al.new hd).kp ((Kp.refl [p] _).ins (.inl (by simp)) h2)⟩, by rw [upd_ne (Ne.symm n)]; exact upd_same⟩
def sp_LoomInit (C : Cs) : Sp := fun vs H Q _ => ∃ (p dx a b : Addr) (xs : List V) (hs : List Hnd) (ns : List Str), vs = [.ref p, .ref a, .ref b] ∧ H p = some (.ins C.L dx []) ∧ H a = some (.lst xs) ∧ Paired (HndIn H) xs hs ∧ H b = some (.lst (ns.map V.str)) ∧
  hs.length ≤ 40 ∧ (∀ h ∈ hs, h.ok = true) ∧ (hs.map Hnd.name).Nodup ∧ (∀ h ∈ hs, ∀ d ∈ h.deeds, ∀ x ∈ d.names, x ∈ hs.map Hnd.name) ∧ ns.Nodup ∧ (∀ x ∈ ns, x ∈ hs.map Hnd.name) ∧
  ∀ H' A, LoomAt C H' A (LoomS.init hs ns) → Kp [p] H H' → A.p = p → (∀ x ∈ A.cells, x = p ∨ H x = none) → Q .non H'
theorem ok_LoomInit (T : Tx K mg) : FnOk P w K mg base CX0 5 T.f_LoomInit T.d_LoomInit ["self", "handlers", "names"] (sp_LoomInit T.cs) := by
  refine T.F_LoomInit.ok sc_LoomInit (by walk_at "len") (fun cdv A outer s H vs Q E hr h => ?_)
  obtain ⟨p, dx, a, b, xs, hs, ns, rfl, hp, ha, hx, hb, h40, hok, hnd, hin, nnd, nin, k⟩ := h
  refine ⟨_, (pss_cons (ps_fld (pv 0) (pe_call (ok_needHandlers T) (hr.mono (by decide)) rfl T.g_needHandlers T.F_needHandlers.kp T.b_needHandlers .nil pass0 (pa_cons (pv 1) pa_nil)) rfl)
    (pss_cons (ps_fld (pv 0) pe_int rfl)
    (pss_cons (ps_fld (pv 0) (pe_lst pa_nil) rfl)
    (pss_cons (ps_fld (pv 0) (pe_lst pa_nil) rfl)
    (pss_cons (ps_fld (pv 0) (pe_lst pa_nil) rfl)
    (pss_cons (ps_fld (pv 0) pe_non rfl)
    (pss_cons (ps_fld (pv 0) (pe_make0 T.mk_Waits (ok_WaitsInit T) (hr.mono (by decide)) rfl T.g_Waits T.b_WaitsInit .nil pass0) rfl)
    (pss_cons (ps_fld (pv 0) pe_int rfl)
    (pss_cons (ps_fld (pv 0) pe_dnewK rfl)
    (pss_one (ps_for PassesOwn.never rfl (pi_list (pe_call (ok_needNames T) (hr.mono (by decide)) rfl T.g_needNames T.F_needNames.kp T.b_needNames .nil pass0 (pa_cons (kFld K (pv 0)) (pa_cons (pv 2) pa_nil)))) (pg_name (i := 3) sc_LoomInit.nd rfl (Or.inl rfl))
        (pss_one (ps_expr (pe_meth (pv 0) T.cl_Loom T.m_LoomCome (ok_LoomCome T) (hr.mono (by decide)) T.b_LoomCome .nil pass0 (pa_cons (pv 3) pa_nil))))))))))))))), ?_⟩
  -- self.handlers
  refine ⟨_, rfl, a, xs, hs, rfl, ha, hx, h40, hok, hnd, hin, fun hl H1 hhl k1 hhl1 => ?_⟩
  have k1p : Kp [p] H H1 := k1.mono (by simp)
  have hp1 : H1 p = some (.ins T.c_Loom dx []) := k1.keep0 hp
  have al1 : Al [hl] H1 := ⟨by simp, fun x hx => by
    rw [List.mem_singleton] at hx
    obtain ⟨ys, e, _⟩ := hhl1
    rw [hx, e]; simp⟩
  refine ⟨_, rfl, p, _, dx, [], rfl, hp1, T.cl_Loom, T.n_Loom_handlers, by decide, ?_⟩
  have e1 : putF "handlers" (V.ref hl) [] = ([("handlers", V.ref hl)] : List (Str × V)) := rfl
  rw [e1]
  have S1 := st_f (fs' := [("handlers", V.ref hl)]) hp1 al1
  generalize upd H1 p (.ins T.c_Loom dx [("handlers", V.ref hl)]) = H2 at S1 ⊢
  have e2 : putF "time" (V.int 0) ([("handlers", V.ref hl)] : List (Str × V)) = ([("handlers", V.ref hl), ("time", V.int 0)] : List (Str × V)) := put_new (l := ([("handlers", V.ref hl)] : List (Str × V))) (by show ("time" : Str) ∉ (["handlers"] : List Str); decide +kernel)
  refine ⟨_, rfl, p, _, dx, _, rfl, S1.hp, T.cl_Loom, T.n_Loom_time, (by show 1 < 1000; decide), ?_⟩
  rw [e2]
  have S2 := st_f (fs' := [("handlers", V.ref hl), ("time", V.int 0)]) S1.hp S1.al
  generalize upd H2 p (.ins T.c_Loom dx [("handlers", V.ref hl), ("time", V.int 0)]) = H3 at S2 ⊢
  refine ⟨Nat.zero_le _, fun ev hev => ?_⟩
  have hpev : upd H3 ev (.lst []) p = some (.ins T.c_Loom dx [("handlers", V.ref hl), ("time", V.int 0)]) := by rw [upd_ne (ne_of_none S2.hp hev)]; exact S2.hp
  have e3 : putF "events" (V.ref ev) ([("handlers", V.ref hl), ("time", V.int 0)] : List (Str × V)) = ([("handlers", V.ref hl), ("time", V.int 0), ("events", V.ref ev)] : List (Str × V)) := put_new (l := ([("handlers", V.ref hl), ("time", V.int 0)] : List (Str × V))) (by show ("events" : Str) ∉ (["handlers", "time"] : List Str); decide +kernel)
  refine ⟨_, rfl, p, _, dx, _, rfl, hpev, T.cl_Loom, T.n_Loom_events, (by show 2 < 1000; decide), ?_⟩
  rw [e3]
  obtain ⟨S3, cev⟩ := st_l (fs' := [("handlers", V.ref hl), ("time", V.int 0), ("events", V.ref ev)]) (o := .lst []) S2.hp S2.al hev
  generalize upd (upd H3 ev (.lst [])) p (.ins T.c_Loom dx [("handlers", V.ref hl), ("time", V.int 0), ("events", V.ref ev)]) = H4 at S3 cev ⊢
  refine ⟨Nat.zero_le _, fun lg hlg => ?_⟩
  have hplg : upd H4 lg (.lst []) p = some (.ins T.c_Loom dx [("handlers", V.ref hl), ("time", V.int 0), ("events", V.ref ev)]) := by rw [upd_ne (ne_of_none S3.hp hlg)]; exact S3.hp
  have e4 : putF "log" (V.ref lg) ([("handlers", V.ref hl), ("time", V.int 0), ("events", V.ref ev)] : List (Str × V)) = ([("handlers", V.ref hl), ("time", V.int 0), ("events", V.ref ev), ("log", V.ref lg)] : List (Str × V)) := put_new (l := ([("handlers", V.ref hl), ("time", V.int 0), ("events", V.ref ev)] : List (Str × V))) (by show ("log" : Str) ∉ (["handlers", "time", "events"] : List Str); decide +kernel)
  refine ⟨_, rfl, p, _, dx, _, rfl, hplg, T.cl_Loom, T.n_Loom_log, (by show 3 < 1000; decide), ?_⟩
  rw [e4]
  obtain ⟨S4, clg⟩ := st_l (fs' := [("handlers", V.ref hl), ("time", V.int 0), ("events", V.ref ev), ("log", V.ref lg)]) (o := .lst []) S3.hp S3.al hlg
  generalize upd (upd H4 lg (.lst [])) p (.ins T.c_Loom dx [("handlers", V.ref hl), ("time", V.int 0), ("events", V.ref ev), ("log", V.ref lg)]) = H5 at S4 clg ⊢
  refine ⟨Nat.zero_le _, fun fr hfr => ?_⟩
  have hpfr : upd H5 fr (.lst []) p = some (.ins T.c_Loom dx [("handlers", V.ref hl), ("time", V.int 0), ("events", V.ref ev), ("log", V.ref lg)]) := by rw [upd_ne (ne_of_none S4.hp hfr)]; exact S4.hp
  have e5 : putF "frames" (V.ref fr) ([("handlers", V.ref hl), ("time", V.int 0), ("events", V.ref ev), ("log", V.ref lg)] : List (Str × V)) = ([("handlers", V.ref hl), ("time", V.int 0), ("events", V.ref ev), ("log", V.ref lg), ("frames", V.ref fr)] : List (Str × V)) := put_new (l := ([("handlers", V.ref hl), ("time", V.int 0), ("events", V.ref ev), ("log", V.ref lg)] : List (Str × V))) (by show ("frames" : Str) ∉ (["handlers", "time", "events", "log"] : List Str); decide +kernel)
  refine ⟨_, rfl, p, _, dx, _, rfl, hpfr, T.cl_Loom, T.n_Loom_frames, (by show 4 < 1000; decide), ?_⟩
  rw [e5]
  obtain ⟨S5, cfr⟩ := st_l (fs' := [("handlers", V.ref hl), ("time", V.int 0), ("events", V.ref ev), ("log", V.ref lg), ("frames", V.ref fr)]) (o := .lst []) S4.hp S4.al hfr
  generalize upd (upd H5 fr (.lst [])) p (.ins T.c_Loom dx [("handlers", V.ref hl), ("time", V.int 0), ("events", V.ref ev), ("log", V.ref lg), ("frames", V.ref fr)]) = H6 at S5 cfr ⊢
  have e6 : putF "fresh" (V.non) ([("handlers", V.ref hl), ("time", V.int 0), ("events", V.ref ev), ("log", V.ref lg), ("frames", V.ref fr)] : List (Str × V)) = ([("handlers", V.ref hl), ("time", V.int 0), ("events", V.ref ev), ("log", V.ref lg), ("frames", V.ref fr), ("fresh", V.non)] : List (Str × V)) := put_new (l := ([("handlers", V.ref hl), ("time", V.int 0), ("events", V.ref ev), ("log", V.ref lg), ("frames", V.ref fr)] : List (Str × V))) (by show ("fresh" : Str) ∉ (["handlers", "time", "events", "log", "frames"] : List Str); decide +kernel)
  refine ⟨_, rfl, p, _, dx, _, rfl, S5.hp, T.cl_Loom, T.n_Loom_fresh, (by show 5 < 1000; decide), ?_⟩
  rw [e6]
  have S6 := st_f (fs' := [("handlers", V.ref hl), ("time", V.int 0), ("events", V.ref ev), ("log", V.ref lg), ("frames", V.ref fr), ("fresh", V.non)]) S5.hp S5.al
  generalize upd H6 p (.ins T.c_Loom dx [("handlers", V.ref hl), ("time", V.int 0), ("events", V.ref ev), ("log", V.ref lg), ("frames", V.ref fr), ("fresh", V.non)]) = H7 at S6 ⊢
  intro wa wdx hwa hwdx hne
  have hwa' : upd H7 wdx (.own wa) wa = none := by rw [upd_ne (Ne.symm hne)]; exact hwa
  have kw : Kp [] H7 (upd (upd H7 wdx (.own wa)) wa (.ins T.c_Waits wdx [])) := ((Kp.refl [] H7).new hwdx).new hwa'
  refine ⟨wa, wdx, rfl, upd_same, fun H7a AW w kW ew ewd hfo hrw => ⟨rfl, ?_⟩⟩
  have kW2 : Kp [] H7 H7a := (kw.transM kW fun x hx => .inr (by rw [List.mem_singleton] at hx; rw [hx]; exact hwa)).mono (by simp)
  have npw : p ≠ wa := ne_of_none S6.hp hwa
  have hpw : H7a p = some (.ins T.c_Loom dx [("handlers", V.ref hl), ("time", V.int 0), ("events", V.ref ev), ("log", V.ref lg), ("frames", V.ref fr), ("fresh", V.non)]) := kW2.keep0 S6.hp
  obtain ⟨aw, awdx, fo, rw_⟩ := AW
  have ew2 : wa = aw := ew.symm
  subst ew2
  have ewd2 : wdx = awdx := ewd.symm
  subst ewd2
  have alw : Al (rw_ :: fo :: wa :: [fr, lg, ev, hl]) H7a := by
    have a0 : Al [fr, lg, ev, hl] H7a := S6.al.kp kW2
    have d0 : Al (wa :: [fr, lg, ev, hl]) H7a := a0.add hwa S6.al.has (by rw [w.wa]; simp)
    have has1 : ∀ x ∈ wa :: [fr, lg, ev, hl], upd (upd H7 wdx (.own wa)) wa (.ins T.c_Waits wdx []) x ≠ none := fun x hx q => by
      rcases List.mem_cons.mp hx with rfl | hx
      · rw [upd_same] at q; cases q
      · exact S6.al.has x hx (kw.dom x q)
    have d1 : Al (fo :: wa :: [fr, lg, ev, hl]) H7a := d0.add hfo has1 (by rw [w.fo]; simp)
    obtain ⟨zs, wr, _⟩ := w.rw
    refine ⟨List.nodup_cons.mpr ⟨fun q => ?_, d1.nd⟩, fun x hx => (List.mem_cons.mp hx).elim (fun e => by rw [e, wr]; simp) (d1.has x)⟩
    rcases List.mem_cons.mp q with q | q
    · exact w.n3 q.symm
    · exact has1 _ q hrw
  have e7 : putF "line" (V.ref wa) ([("handlers", V.ref hl), ("time", V.int 0), ("events", V.ref ev), ("log", V.ref lg), ("frames", V.ref fr), ("fresh", V.non)] : List (Str × V)) = ([("handlers", V.ref hl), ("time", V.int 0), ("events", V.ref ev), ("log", V.ref lg), ("frames", V.ref fr), ("fresh", V.non), ("line", V.ref wa)] : List (Str × V)) := put_new (l := ([("handlers", V.ref hl), ("time", V.int 0), ("events", V.ref ev), ("log", V.ref lg), ("frames", V.ref fr), ("fresh", V.non)] : List (Str × V))) (by show ("line" : Str) ∉ (["handlers", "time", "events", "log", "frames", "fresh"] : List Str); decide +kernel)
  refine ⟨_, rfl, p, _, dx, _, rfl, hpw, T.cl_Loom, T.n_Loom_line, (by show 6 < 1000; decide), ?_⟩
  rw [e7]
  have S7 := st_f (fs' := [("handlers", V.ref hl), ("time", V.int 0), ("events", V.ref ev), ("log", V.ref lg), ("frames", V.ref fr), ("fresh", V.non), ("line", V.ref wa)]) hpw alw
  have w7 : WaitsAt T.c_Waits (upd H7a p (.ins T.c_Loom dx [("handlers", V.ref hl), ("time", V.int 0), ("events", V.ref ev), ("log", V.ref lg), ("frames", V.ref fr), ("fresh", V.non), ("line", V.ref wa)])) ⟨wa, wdx, fo, rw_⟩ [] [] := w.kp S7.kp (fun x hx z => by
    rw [List.mem_singleton] at z
    subst z
    simp [WtA.cells] at hx
    rcases hx with h | h | h
    · exact npw h
    · rw [h, w.fo] at hpw; cases hpw
    · obtain ⟨zs, wr, _⟩ := w.rw
      rw [h, wr] at hpw; cases hpw)
  generalize upd H7a p (.ins T.c_Loom dx [("handlers", V.ref hl), ("time", V.int 0), ("events", V.ref ev), ("log", V.ref lg), ("frames", V.ref fr), ("fresh", V.non), ("line", V.ref wa)]) = H8 at S7 w7 ⊢
  have e8 : putF "stood" (V.int 0) ([("handlers", V.ref hl), ("time", V.int 0), ("events", V.ref ev), ("log", V.ref lg), ("frames", V.ref fr), ("fresh", V.non), ("line", V.ref wa)] : List (Str × V)) = ([("handlers", V.ref hl), ("time", V.int 0), ("events", V.ref ev), ("log", V.ref lg), ("frames", V.ref fr), ("fresh", V.non), ("line", V.ref wa), ("stood", V.int 0)] : List (Str × V)) := put_new (l := ([("handlers", V.ref hl), ("time", V.int 0), ("events", V.ref ev), ("log", V.ref lg), ("frames", V.ref fr), ("fresh", V.non), ("line", V.ref wa)] : List (Str × V))) (by show ("stood" : Str) ∉ (["handlers", "time", "events", "log", "frames", "fresh", "line"] : List Str); decide +kernel)
  refine ⟨_, rfl, p, _, dx, _, rfl, S7.hp, T.cl_Loom, T.n_Loom_stood, (by show 7 < 1000; decide), ?_⟩
  rw [e8]
  have S8 := st_f (fs' := [("handlers", V.ref hl), ("time", V.int 0), ("events", V.ref ev), ("log", V.ref lg), ("frames", V.ref fr), ("fresh", V.non), ("line", V.ref wa), ("stood", V.int 0)]) S7.hp S7.al
  generalize upd H8 p (.ins T.c_Loom dx [("handlers", V.ref hl), ("time", V.int 0), ("events", V.ref ev), ("log", V.ref lg), ("frames", V.ref fr), ("fresh", V.non), ("line", V.ref wa), ("stood", V.int 0)]) = H9 at S8 ⊢
  intro sd hsd
  have hpsd : upd H9 sd (.dK []) p = some (.ins T.c_Loom dx [("handlers", V.ref hl), ("time", V.int 0), ("events", V.ref ev), ("log", V.ref lg), ("frames", V.ref fr), ("fresh", V.non), ("line", V.ref wa), ("stood", V.int 0)]) := by rw [upd_ne (ne_of_none S8.hp hsd)]; exact S8.hp
  have e9 : putF "standings" (V.ref sd) ([("handlers", V.ref hl), ("time", V.int 0), ("events", V.ref ev), ("log", V.ref lg), ("frames", V.ref fr), ("fresh", V.non), ("line", V.ref wa), ("stood", V.int 0)] : List (Str × V)) = ([("handlers", V.ref hl), ("time", V.int 0), ("events", V.ref ev), ("log", V.ref lg), ("frames", V.ref fr), ("fresh", V.non), ("line", V.ref wa), ("stood", V.int 0), ("standings", V.ref sd)] : List (Str × V)) := put_new (l := ([("handlers", V.ref hl), ("time", V.int 0), ("events", V.ref ev), ("log", V.ref lg), ("frames", V.ref fr), ("fresh", V.non), ("line", V.ref wa), ("stood", V.int 0)] : List (Str × V))) (by show ("standings" : Str) ∉ (["handlers", "time", "events", "log", "frames", "fresh", "line", "stood"] : List Str); decide +kernel)
  refine ⟨_, rfl, p, _, dx, _, rfl, hpsd, T.cl_Loom, T.n_Loom_standings, (by show 8 < 1000; decide), ?_⟩
  rw [e9]
  obtain ⟨S9, csd⟩ := st_l (fs' := [("handlers", V.ref hl), ("time", V.int 0), ("events", V.ref ev), ("log", V.ref lg), ("frames", V.ref fr), ("fresh", V.non), ("line", V.ref wa), ("stood", V.int 0), ("standings", V.ref sd)]) (o := .dK []) S8.hp S8.al hsd
  generalize upd (upd H9 sd (.dK [])) p (.ins T.c_Loom dx [("handlers", V.ref hl), ("time", V.int 0), ("events", V.ref ev), ("log", V.ref lg), ("frames", V.ref fr), ("fresh", V.non), ("line", V.ref wa), ("stood", V.int 0), ("standings", V.ref sd)]) = H10 at S9 csd ⊢
  have ne_p : ∀ {H' : Hp} {a : Addr} {o : HO} {fs : List (Str × V)}, H' p = some (.ins T.c_Loom dx fs) → H' a = some o → (∀ fs', o ≠ .ins T.c_Loom dx fs') → a ≠ p := fun h1 h2 h3 e => by
    rw [e, h1] at h2
    exact h3 _ (Option.some.inj h2).symm
  have pw : ∀ {H1 H2 : Hp} {a : Addr} {o : HO}, Kp [p] H1 H2 → a ≠ p → H1 a = some o → H2 a = some o := fun k n h => k.keep _ _ (by simpa using n) h
  have nev : ev ≠ p := ne_p S3.hp cev (fun _ q => by cases q)
  have nlg : lg ≠ p := ne_p S4.hp clg (fun _ q => by cases q)
  have nfr : fr ≠ p := ne_p S5.hp cfr (fun _ q => by cases q)
  have nsd : sd ≠ p := ne_p S9.hp csd (fun _ q => by cases q)
  have nfo : fo ≠ p := ne_p S7.hp w7.fo (fun _ q => by cases q)
  have nrw : rw_ ≠ p := by
    obtain ⟨zs, wr, _⟩ := w7.rw
    exact ne_p S7.hp wr (fun _ q => by cases q)
  have nhl : hl ≠ p := by
    obtain ⟨ys, e, _⟩ := hhl1
    exact ne_p hp1 e (fun _ q => by cases q)
  have k78 : Kp [p] H7 H8 := (kW2.mono (by simp)).trans S7.kp
  have k8 : Kp [p] H8 H10 := S8.kp.trans S9.kp
  have k7 : Kp [p] H7 H10 := k78.trans k8
  have k6 : Kp [p] H6 H10 := S6.kp.trans k7
  have k5 : Kp [p] H5 H10 := S5.kp.trans k6
  have k4 : Kp [p] H4 H10 := S4.kp.trans k5
  have k3 : Kp [p] H3 H10 := S3.kp.trans k4
  have k1' : Kp [p] H1 H10 := S1.kp.trans (S2.kp.trans k3)
  have kall : Kp [p] H H10 := k1p.trans k1'
  have w10 : WaitsAt T.c_Waits H10 ⟨wa, wdx, fo, rw_⟩ [] [] := w7.kp k8 (fun x hx z => by
    rw [List.mem_singleton] at z
    subst z
    simp [WtA.cells] at hx
    rcases hx with h | h | h
    · exact npw h
    · exact nfo h.symm
    · exact nrw h.symm)
  let A0 : LoomA := ⟨p, dx, hl, ev, lg, fr, sd, wa, wdx, fo, rw_, []⟩
  have nd9 := S9.al.nd
  have L10 : LoomAt T.cs H10 A0 (LoomS.zero hs) := by
    refine ⟨?_, S9.hp, ?_, ⟨[], pw k4 nev cev, .nil⟩, ⟨[], pw k5 nlg clg, .nil⟩, pw k6 nfr cfr, .nil, csd, w10.wa, w10.fo, w10.rw⟩
    · show [p, hl, ev, lg, fr, sd, wa, fo, rw_].Nodup
      have q : [sd, rw_, fo, wa, fr, lg, ev, hl].Nodup := nd9
      simp only [List.nodup_cons, List.mem_cons, List.not_mem_nil, not_or, or_false, not_false_eq_true, List.nodup_nil, and_true] at q ⊢
      obtain ⟨⟨a1, a2, a3, a4, a5, a6, a7⟩, ⟨b1, b2, b3, b4, b5, b6⟩, ⟨c1, c2, c3, c4, c5⟩, ⟨d1, d2, d3, d4⟩, ⟨e1, e2, e3⟩, ⟨f1, f2⟩, g1⟩ := q
      exact ⟨⟨nhl.symm, nev.symm, nlg.symm, nfr.symm, nsd.symm, npw, nfo.symm, nrw.symm⟩, ⟨Ne.symm g1, Ne.symm f2, Ne.symm e3, Ne.symm a7, Ne.symm d4, Ne.symm c5, Ne.symm b6⟩, ⟨Ne.symm f1, Ne.symm e2, Ne.symm a6, Ne.symm d3, Ne.symm c4, Ne.symm b5⟩, ⟨Ne.symm e1, Ne.symm a5, Ne.symm d2, Ne.symm c3, Ne.symm b4⟩, ⟨Ne.symm a4, Ne.symm d1, Ne.symm c2, Ne.symm b3⟩, ⟨a3, a2, a1⟩, ⟨Ne.symm c1, Ne.symm b2⟩, Ne.symm b1⟩
    · obtain ⟨ys, e, pd⟩ := hhl1
      exact ⟨ys, pw k1' nhl e, Pd.mono (fun _ _ => hndStb _ _ _ _ k1'.tk) pd⟩
  have d1 : ∀ {H' : Hp} {x : Addr}, Kp [p] H H' → H' x = none → H x = none := fun k h => k.dom _ h
  have z2 : Kp [p] H H2 := k1p.trans S1.kp
  have z3 : Kp [p] H H3 := z2.trans S2.kp
  have z4 : Kp [p] H H4 := z3.trans S3.kp
  have z5 : Kp [p] H H5 := z4.trans S4.kp
  have z6 : Kp [p] H H6 := z5.trans S5.kp
  have z7 : Kp [p] H H7 := z6.trans S6.kp
  have z9 : Kp [p] H H9 := (z7.trans k78).trans S8.kp
  have fr9 : ∀ x ∈ A0.cells, x = p ∨ H x = none := fun x hx => by
    have hx : x ∈ [p, hl, ev, lg, fr, sd, wa, fo, rw_] := hx
    simp only [List.mem_cons, List.not_mem_nil, or_false] at hx
    rcases hx with rfl | rfl | rfl | rfl | rfl | rfl | rfl | rfl | rfl
    · exact .inl rfl
    · exact .inr hhl
    · exact .inr (d1 z3 hev)
    · exact .inr (d1 z4 hlg)
    · exact .inr (d1 z5 hfr)
    · exact .inr (d1 z9 hsd)
    · exact .inr (d1 z7 hwa)
    · exact .inr (d1 z7 (kw.dom _ hfo))
    · exact .inr (d1 z7 (kw.dom _ hrw))
  have nbp : b ≠ p := ne_p hp hb (fun _ q => by cases q)
  have hb10 : H10 b = some (.lst (ns.map V.str)) := pw kall nbp hb
  have eA : A0.p = p ∧ A0.dx = dx ∧ A0.hl = hl := ⟨rfl, rfl, rfl⟩
  clear_value A0
  obtain ⟨eAp, eAd, eAh⟩ := eA
  dsimp only
  refine for_go ?_
  refine ⟨_, rfl, p, _, dx, _, _, rfl, S9.hp, T.cl_Loom, T.n_Loom_handlers, rfl, _, rfl, hl, b, hs, ns, rfl, (by rw [← eAh]; exact L10.hl), hb10, h40, nnd, nin, fun nl H11 hnl k11 hnl1 => ⟨nl, rfl, ⟨_, SqL.of hnl1⟩, ?_⟩⟩
  have L11 : LoomAt T.cs H11 A0 (LoomS.zero hs) := L10.kp k11 (by simp)
  have nlc : nl ∉ A0.cells := L10.fresh hnl
  refine for_pd (Pd.map (f := V.str) (R := fun v x => v = V.str x) fun _ _ => rfl) (fun pre σ H' => ∃ A' o, σ = [some (.ref p), some (.ref a), some (.ref b), o] ∧ Went T.cs H11 A0 H' A' (pre.foldl LoomS.come (LoomS.zero hs)) ∧ A'.p = p ∧ (pre.foldl LoomS.come (LoomS.zero hs)).stands.length ≤ pre.length)
    ⟨A0, _, rfl, Went.refl L11, eAp, Nat.le_refl _⟩ (fun pre σ H' ⟨A', o, _, W, _, _⟩ => SqL.of (W.kp.keep _ _ nlc hnl1)) ?_ ?_
  · rintro pre v x post σ H' ed rfl ⟨A', o, rfl, W, ep, hsl⟩
    have l100 : pre.length ≤ 100000 := by
      have q1 : ns.length ≤ (hs.map Hnd.name).length := nodup_len nnd nin
      rw [List.length_map] at q1
      have q2 : pre.length ≤ ns.length := by rw [ed, List.length_append]; exact Nat.le_add_right _ _
      omega
    refine ⟨_, rfl, p, A'.dx, _, rfl, (ep ▸ W.l.p), lf_no (by decide +kernel), _, rfl, A', _, x, (by rw [ep]; rfl), W.l, Nat.le_trans hsl l100, fun H2 A2 W2 _ => ?_⟩
    refine ⟨A2, _, rfl, ?_, W2.p.trans ep, ?_⟩
    · rw [List.foldl_append]
      exact W.trans W2
    · rw [List.foldl_append]
      show (LoomS.come _ x).stands.length ≤ _
      rw [List.length_append]
      show _ ≤ pre.length + 1
      unfold LoomS.come
      split
      · exact Nat.le_succ_of_le hsl
      · show (_ ++ [_]).length ≤ _
        rw [List.length_append]
        exact Nat.succ_le_succ hsl
  · rintro σ H' ⟨A', o, rfl, W, ep, _⟩
    have kk : Kp [p] H H' := by
      refine (kall.transM (k11.mono (M := [p]) (by simp)) (fun q hq => .inl hq)).transM W.kp fun q hq => ?_
      rcases fr9 q hq with e | e
      · exact .inl (by rw [e]; simp)
      · exact .inr e
    refine k H' A' W.l kk ep fun x hx => ?_
    rcases W.sub x hx with e | e
    · exact fr9 x e
    · exact .inr (kall.dom _ (k11.dom _ e))
end
end Ev
namespace Ev
open PySem L2
/-! ### the order of triples -/
theorem triLt (a b : Tri) : PySem.W.dataLt (triD a) (triD b) = if a.1 = b.1 then (if a.2.1 = b.2.1 then PyProof.Rows.lexLt PyProof.Rows.itemOrd (PySem.W.keyToksAll [.str a.2.2]) (PySem.W.keyToksAll [.str b.2.2]) else decide (a.2.1 < b.2.1)) else decide (a.1 < b.1) := by
  unfold triD
  rw [PySem.W.dataLt_tuple, PySem.W.dataLt_cons (by simp [PySem.W.alike]), PySem.W.dataLt_cons (by simp [PySem.W.alike]), PySem.W.dataLt_int, PySem.W.dataLt_int]
  simp only [PyData.eqv, beq_iff_eq]
theorem tri_lt {a b : Tri} (h : a.1 < b.1 ∨ (a.1 = b.1 ∧ a.2.1 < b.2.1)) : triLe a b = true ∧ triLe b a = false := by
  constructor
  · show (!PySem.W.dataLt (triD b) (triD a)) = true
    rw [triLt]
    by_cases h1 : b.1 = a.1
    · rw [if_pos h1, if_neg (show ¬ b.2.1 = a.2.1 by omega), decide_eq_false (by omega)]; rfl
    · rw [if_neg h1, decide_eq_false (by omega)]; rfl
  · show (!PySem.W.dataLt (triD a) (triD b)) = false
    rw [triLt]
    by_cases h1 : a.1 = b.1
    · rw [if_pos h1, if_neg (show ¬ a.2.1 = b.2.1 by omega), decide_eq_true (by omega)]; rfl
    · rw [if_neg h1, decide_eq_true (by omega)]; rfl
theorem tri_rfl (a : Tri) : triLe a a = true := by
  show (!PySem.W.dataLt (triD a) (triD a)) = true
  rw [triLt, if_pos rfl, if_pos rfl, PyProof.Rows.lex_irrefl]
  rfl
end Ev
namespace Ev
open PySem L2
/-! ### those that wait, and the law's own book: the plain law -/
abbrev Late := List (Nat × Int)
def lateK (l : Late) : List (Key × V) := l.map fun c => (Sum.inl (c.1 : Int), .int c.2)
def lkN (l : Late) (n : Nat) : Option Int := (l.find? fun c => decide (c.1 = n)).map Prod.snd
theorem lkN_pos {c : Nat × Int} {l : Late} {n : Nat} (h : c.1 = n) : lkN (c :: l) n = some c.2 := by
  unfold lkN
  rw [List.find?_cons, decide_eq_true h]
  rfl
theorem lkN_neg {c : Nat × Int} {l : Late} {n : Nat} (h : ¬ c.1 = n) : lkN (c :: l) n = lkN l n := by
  unfold lkN
  rw [List.find?_cons, decide_eq_false h]
theorem keyN {a b : Nat} : (Sum.inl (a : Int) : Key) = Sum.inl (b : Int) ↔ a = b := by
  constructor
  · intro h
    have := Sum.inl.inj h
    omega
  · intro h
    rw [h]
theorem late_val : ∀ (l : Late) (n : Nat), valV (lateK l) (Sum.inl (n : Int)) = (lkN l n).map V.int
  | [], _ => rfl
  | c :: l, n => by
    have ih := late_val l n
    show valV ((Sum.inl (c.1 : Int), V.int c.2) :: lateK l) (Sum.inl (n : Int)) = _
    by_cases h : c.1 = n
    · rw [lkN_pos h, valV_pos (show (Sum.inl (c.1 : Int) : Key) = Sum.inl (n : Int) by rw [h])]
      rfl
    · rw [lkN_neg h, valV_neg (show ¬ (Sum.inl (c.1 : Int) : Key) = Sum.inl (n : Int) from fun e => h (keyN.mp e)), ih]
theorem late_put {l : Late} {n : Nat} {d : Int} (h : lkN l n = none) : putK (lateK l) (Sum.inl (n : Int)) (.int d) = lateK (l ++ [(n, d)]) := by
  rw [putK_new _ (by rw [late_val, h]; rfl)]
  simp [lateK]
theorem late_drop (l : Late) (n : Nat) : dropK (lateK l) (Sum.inl (n : Int)) = lateK (l.filter fun c => !decide (c.1 = n)) := by
  unfold dropK lateK
  rw [List.filter_map]
  congr 1
  refine List.filter_congr fun c _ => ?_
  show decide (¬ (Sum.inl (c.1 : Int) : Key) = Sum.inl (n : Int)) = _
  by_cases h : c.1 = n
  · rw [decide_eq_true h]
    simp [h]
  · rw [decide_eq_false h]
    exact decide_eq_true fun e => h (keyN.mp e)
theorem lkN_mem {l : Late} {n : Nat} {d : Int} (h : lkN l n = some d) : (n, d) ∈ l := by
  unfold lkN at h
  obtain ⟨c, hc, rfl⟩ := Option.map_eq_some_iff.mp h
  have e := of_decide_eq_true (List.find?_some (p := fun c : Nat × Int => decide (c.1 = n)) hc)
  rw [← e]
  exact List.mem_of_find?_eq_some hc
theorem lkN_of : ∀ {l : Late} {n : Nat} {d : Int}, (l.map Prod.fst).Nodup → (n, d) ∈ l → lkN l n = some d
  | c :: l, n, d, nd, h => by
    rw [List.map_cons, List.nodup_cons] at nd
    rcases List.mem_cons.mp h with rfl | h
    · exact lkN_pos rfl
    · rw [lkN_neg fun e => nd.1 (e ▸ List.mem_map.mpr ⟨_, h, rfl⟩)]
      exact lkN_of nd.2 h
theorem lkN_none {l : Late} {n : Nat} (h : n ∉ l.map Prod.fst) : lkN l n = none := by
  cases e : lkN l n with
  | none => rfl
  | some d => exact absurd (List.mem_map.mpr ⟨_, lkN_mem e, rfl⟩) h
/-! the order of the rows -/
theorem rowGt_trans {a b c : Int × Nat} (h1 : rowGt b a = true) (h2 : rowGt c b = true) : rowGt c a = true := by
  unfold rowGt at *
  have := of_decide_eq_true h1
  have := of_decide_eq_true h2
  exact decide_eq_true (by omega)
theorem rowGt_tot {a b : Int × Nat} (h : rowGt a b = false) (n : a.2 ≠ b.2) : rowGt b a = true := by
  unfold rowGt at *
  have := of_decide_eq_false h
  exact decide_eq_true (by omega)
theorem placeOf_gt (rows : List (Int × Nat)) (q : Int × Nat) : ∀ k, k ≤ rows.length → ∀ i r, placeOf rows q k ≤ i → i < k → rows[i]? = some r → rowGt r q = true
  | 0, _, i, _, _, h, _ => absurd h (Nat.not_lt_zero _)
  | k + 1, hk, i, r, h1, h2, h3 => by
    have e : rows[k]? = some (rows[k]'hk) := List.getElem?_eq_getElem hk
    unfold placeOf at h1
    rw [e] at h1
    simp only at h1
    by_cases g : rowGt rows[k] q = true
    · rw [if_pos g] at h1
      by_cases ei : i = k
      · subst ei
        rw [e] at h3
        cases h3
        exact g
      · exact placeOf_gt rows q k (by omega) i r h1 (by omega) h3
    · rw [if_neg g] at h1
      omega
theorem placeOf_ng (rows : List (Int × Nat)) (q : Int × Nat) : ∀ k, k ≤ rows.length → ∀ j, placeOf rows q k = j + 1 → ∃ r, rows[j]? = some r ∧ rowGt r q = false
  | 0, _, j, h => by
    unfold placeOf at h
    omega
  | k + 1, hk, j, h => by
    have e : rows[k]? = some (rows[k]'hk) := List.getElem?_eq_getElem hk
    unfold placeOf at h
    rw [e] at h
    simp only at h
    by_cases g : rowGt rows[k] q = true
    · rw [if_pos g] at h
      exact placeOf_ng rows q k (by omega) j h
    · rw [if_neg g] at h
      obtain rfl : k = j := by omega
      exact ⟨_, e, by simpa using g⟩
abbrev Up (l : List (Int × Nat)) : Prop := l.Pairwise fun a b => rowGt b a = true
theorem later_up {rows : List (Int × Nat)} {q : Int × Nat} (u : Up rows) (hq : q.2 ∉ rows.map Prod.snd) : Up (laterM rows q) := by
  unfold laterM
  have hp := placeOf_le rows q rows.length
  have b : ∀ r ∈ rows.drop (placeOf rows q rows.length), rowGt r q = true := fun r hr => by
    obtain ⟨i, hi⟩ := List.getElem?_of_mem hr
    rw [List.getElem?_drop] at hi
    exact placeOf_gt rows q _ (Nat.le_refl _) _ r (Nat.le_add_right _ _) (List.getElem?_eq_some_iff.mp hi).1 hi
  have a : ∀ r ∈ rows.take (placeOf rows q rows.length), rowGt q r = true := fun r hr => by
    obtain ⟨i, hi⟩ := List.getElem?_of_mem hr
    have hil : i < placeOf rows q rows.length := by
      have := (List.getElem?_eq_some_iff.mp hi).1
      rw [List.length_take] at this
      omega
    rw [List.getElem?_take_of_lt hil] at hi
    obtain ⟨r2, h2, g2⟩ := placeOf_ng rows q _ (Nat.le_refl _) (placeOf rows q rows.length - 1) (by omega)
    have n2 : r2.2 ≠ q.2 := fun e => hq (e ▸ List.mem_map.mpr ⟨_, List.mem_of_getElem? h2, rfl⟩)
    have g3 := rowGt_tot g2 n2
    by_cases e : i = placeOf rows q rows.length - 1
    · rw [e, h2] at hi
      cases hi
      exact g3
    · have hlt : i < placeOf rows q rows.length - 1 := by omega
      obtain ⟨l1, e1⟩ := List.getElem?_eq_some_iff.mp hi
      obtain ⟨l2, e2⟩ := List.getElem?_eq_some_iff.mp h2
      have := (List.pairwise_iff_getElem.mp u) i _ l1 l2 hlt
      rw [e1, e2] at this
      exact rowGt_trans this g3
  rw [List.append_assoc]
  refine List.pairwise_append.mpr ⟨u.sublist (List.take_sublist _ _), List.pairwise_cons.mpr ⟨b, u.sublist (List.drop_sublist _ _)⟩, fun x hx y hy => ?_⟩
  rcases List.mem_cons.mp hy with rfl | hy
  · exact a x hx
  · exact rowGt_trans (a x hx) (b y hy)
theorem later_perm (rows : List (Int × Nat)) (q : Int × Nat) : (laterM rows q).Perm (q :: rows) := by
  unfold laterM
  have h : (rows.take (placeOf rows q rows.length) ++ [q] ++ rows.drop (placeOf rows q rows.length)).Perm (q :: (rows.take (placeOf rows q rows.length) ++ rows.drop (placeOf rows q rows.length))) := by
    rw [List.append_assoc]
    exact List.perm_middle
  rw [List.take_append_drop] at h
  exact h
/-! what holds between two cells -/
structure I3 (count : Nat) (soon : List Nat) (rows : List (Int × Nat)) (late : Late) : Prop where
  nd : (soon ++ rows.map Prod.snd).Nodup
  lt : ∀ n ∈ soon ++ rows.map Prod.snd, ∃ i, i < count ∧ n = 7 * i
  pm : late.Perm (rows.map fun r => (r.2, r.1))
  up : Up rows
namespace I3
variable {count : Nat} {soon : List Nat} {rows : List (Int × Nat)} {late : Late}
theorem len (i : I3 count soon rows late) : late.length = rows.length := by simpa using i.pm.length_eq
theorem keys (i : I3 count soon rows late) : (late.map Prod.fst).Perm (rows.map Prod.snd) := by
  have h := i.pm.map Prod.fst
  rw [List.map_map] at h
  exact h
theorem kd (i : I3 count soon rows late) : (late.map Prod.fst).Nodup := i.keys.nodup_iff.mpr (List.nodup_append.mp i.nd).2.1
theorem look (i : I3 count soon rows late) {d : Int} {n : Nat} (h : (d, n) ∈ rows) : lkN late n = some d :=
  lkN_of i.kd (i.pm.mem_iff.mpr (List.mem_map.mpr ⟨_, h, rfl⟩))
theorem look_none (i : I3 count soon rows late) {n : Nat} (h : n ∉ rows.map Prod.snd) : lkN late n = none := lkN_none fun q => h (i.keys.mem_iff.mp q)
theorem fresh (i : I3 count soon rows late) : 7 * count ∉ soon ++ rows.map Prod.snd := fun h => by
  obtain ⟨j, h1, h2⟩ := i.lt _ h
  omega
theorem total (i : I3 count soon rows late) : soon.length + rows.length ≤ count := by
  have h : (soon ++ rows.map Prod.snd).length ≤ ((List.range count).map fun j => 7 * j).length := by
    refine nodup_len i.nd fun x hx => ?_
    obtain ⟨j, h1, h2⟩ := i.lt x hx
    exact List.mem_map.mpr ⟨j, List.mem_range.mpr h1, h2.symm⟩
  simpa using h
theorem sooner (i : I3 count soon rows late) : I3 (count + 1) (soon ++ [7 * count]) rows late := by
  have f := i.fresh
  have p : (soon ++ [7 * count] ++ rows.map Prod.snd).Perm (7 * count :: (soon ++ rows.map Prod.snd)) := by
    rw [List.append_assoc]
    exact List.perm_middle
  refine ⟨p.nodup_iff.mpr (List.nodup_cons.mpr ⟨f, i.nd⟩), fun n hn => ?_, i.pm, i.up⟩
  rcases List.mem_cons.mp (p.mem_iff.mp hn) with rfl | h
  · exact ⟨count, Nat.lt_succ_self _, rfl⟩
  · obtain ⟨j, h1, h2⟩ := i.lt n h
    exact ⟨j, by omega, h2⟩
theorem later (i : I3 count soon rows late) (d : Int) : I3 (count + 1) soon (laterM rows (d, 7 * count)) (late ++ [(7 * count, d)]) := by
  have f := i.fresh
  have q := later_perm rows (d, 7 * count)
  have p : (soon ++ (laterM rows (d, 7 * count)).map Prod.snd).Perm (7 * count :: (soon ++ rows.map Prod.snd)) := by
    have h := (q.map Prod.snd).append_left soon
    exact h.trans List.perm_middle
  refine ⟨p.nodup_iff.mpr (List.nodup_cons.mpr ⟨f, i.nd⟩), fun n hn => ?_, ?_, later_up i.up fun h => f (List.mem_append.mpr (.inr h))⟩
  · rcases List.mem_cons.mp (p.mem_iff.mp hn) with rfl | h
    · exact ⟨count, Nat.lt_succ_self _, rfl⟩
    · obtain ⟨j, h1, h2⟩ := i.lt n h
      exact ⟨j, by omega, h2⟩
  · have h1 : (late ++ [(7 * count, d)]).Perm ((7 * count, d) :: late) := List.perm_append_comm
    have h2 := q.map fun r : Int × Nat => (r.2, r.1)
    exact h1.trans ((i.pm.cons _).trans h2.symm)
theorem drop (i : I3 count soon rows late) (ns : List Nat) : I3 count (soon.filter fun n => !decide (n ∈ ns)) (rows.filter fun r => !decide (r.2 ∈ ns)) (late.filter fun c => !decide (c.1 ∈ ns)) := by
  have e : (rows.filter fun r => !decide (r.2 ∈ ns)).map Prod.snd = (rows.map Prod.snd).filter fun n => !decide (n ∈ ns) := by
    rw [List.filter_map]
    rfl
  have e2 : soon.filter (fun n => !decide (n ∈ ns)) ++ (rows.filter fun r => !decide (r.2 ∈ ns)).map Prod.snd = (soon ++ rows.map Prod.snd).filter fun n => !decide (n ∈ ns) := by
    rw [e, List.filter_append]
  refine ⟨?_, ?_, ?_, i.up.sublist List.filter_sublist⟩
  · rw [e2]
    exact i.nd.sublist List.filter_sublist
  · rw [e2]
    intro n hn
    exact i.lt n ((List.mem_filter.mp hn).1)
  · have h := i.pm.filter fun c => !decide (c.1 ∈ ns)
    rw [List.filter_map] at h
    exact h
theorem lead1 {n : Nat} (i : I3 count (n :: soon) rows late) : I3 count soon rows late :=
  ⟨(List.nodup_cons.mp i.nd).2, fun x hx => i.lt x (List.mem_cons_of_mem _ hx), i.pm, i.up⟩
theorem lead2 {n : Nat} {d : Int} (i : I3 count [] ((d, n) :: rows) late) : I3 count [] rows (late.filter fun c => !decide (c.1 = n)) := by
  have nd := i.nd
  simp only [List.nil_append, List.map_cons, List.nodup_cons] at nd
  refine ⟨by simpa using nd.2, fun x hx => i.lt x (List.mem_cons_of_mem _ hx), ?_, (List.pairwise_cons.mp i.up).2⟩
  have h := i.pm.filter fun c => !decide (c.1 = n)
  rw [List.map_cons, List.filter_cons, if_neg (by simp)] at h
  have e : (rows.map fun r => (r.2, r.1)).filter (fun c => !decide (c.1 = n)) = rows.map fun r => (r.2, r.1) := by
    rw [List.filter_eq_self]
    intro c hc
    obtain ⟨r, hr, rfl⟩ := List.mem_map.mp hc
    have : r.2 ≠ n := fun q => nd.1 (q ▸ List.mem_map.mpr ⟨r, hr, rfl⟩)
    simp [this]
  rw [e] at h
  exact h
theorem zero : I3 0 [] [] [] := ⟨List.nodup_nil, (fun _ h => nomatch h), List.Perm.nil, List.Pairwise.nil⟩
end I3
theorem filt_snoc {α : Type} [DecidableEq α] {β : Type} (f : β → α) (l : List β) (ns : List α) (x : α) : (l.filter fun c => !decide (f c ∈ ns)).filter (fun c => !decide (f c = x)) = l.filter fun c => !decide (f c ∈ ns ++ [x]) := by
  rw [List.filter_filter]
  refine List.filter_congr fun c _ => ?_
  by_cases h1 : f c ∈ ns <;> by_cases h2 : f c = x <;> simp [h1, h2]
end Ev
namespace Ev
open PySem
/-! ### what a loom's rows are: one change at a time -/
structure AtDeed (s : LoomS) (fs : List Frm) (f : Frm) (d : Deed) : Prop where
  h0 : s.fresh = none
  h1 : s.frames = fs ++ [f]
  h2 : f.deeds[f.place]? = some d
def Frm.on (f : Frm) : Frm := { f with place := f.place + 1 }
def cancelled (s : LoomS) (z : Str) : List Nat := (s.soon ++ s.rows.map Prod.snd).filter fun k => decide ((s.events[k]?.map Evt.word) = some z)
def sortN (ns : List Nat) : List Nat := ns.mergeSort fun a b => decide (a ≤ b)
inductive Tr (s : LoomS) : Row → LoomS → Prop
  | send (z : Str) (hz : isWord z = true) : Tr s (.send s.events.length) { s with events := s.events ++ [⟨z, none, .wait, s.time⟩], rows := laterM s.rows (s.time, s.events.length), log := s.log ++ [.send s.events.length] }
  | fresh (n : Nat) (e : Evt) (h : s.fresh = some n) (he : s.events[n]? = some e) :
    Tr s (.begin n s.time) { s with fresh := none, frames := s.frames ++ [⟨n, calledM s e.word, [], 0⟩], log := s.log ++ [.begin n s.time] }
  | soon (n : Nat) (r : List Nat) (e : Evt) (h0 : s.fresh = none) (h1 : s.frames = []) (h : s.soon = n :: r) (he : s.events[n]? = some e) :
    Tr s (.begin n s.time) { s with soon := r, frames := [⟨n, calledM s e.word, [], 0⟩], log := s.log ++ [.begin n s.time] }
  | late (d : Int) (n : Nat) (r : List (Int × Nat)) (e : Evt) (t : Int) (ht : t = if d > s.time then d else s.time) (h0 : s.fresh = none) (h1 : s.frames = []) (h2 : s.soon = []) (h : s.rows = (d, n) :: r) (he : s.events[n]? = some e) :
    Tr s (.begin n t) { s with rows := r, time := t, frames := [⟨n, calledM s e.word, [], 0⟩], log := s.log ++ [.begin n t] }
  | now (fs : List Frm) (f : Frm) (z : Str) (D : AtDeed s fs f (.now z)) :
    Tr s (.make f.number s.events.length) { s with frames := fs ++ [f.on], events := s.events ++ [⟨z, some f.number, .now, s.time⟩], fresh := some s.events.length, log := s.log ++ [.make f.number s.events.length] }
  | dsoon (fs : List Frm) (f : Frm) (z : Str) (D : AtDeed s fs f (.soon z)) :
    Tr s (.make f.number s.events.length) { s with frames := fs ++ [f.on], events := s.events ++ [⟨z, some f.number, .soon, s.time⟩], soon := s.soon ++ [s.events.length], log := s.log ++ [.make f.number s.events.length] }
  | wait (fs : List Frm) (f : Frm) (t : Int) (z : Str) (D : AtDeed s fs f (.wait t z)) :
    Tr s (.make f.number s.events.length) { s with frames := fs ++ [f.on], events := s.events ++ [⟨z, some f.number, .wait, s.time + t⟩], rows := laterM s.rows (s.time + t, s.events.length), log := s.log ++ [.make f.number s.events.length] }
  | cancel (fs : List Frm) (f : Frm) (z : Str) (D : AtDeed s fs f (.cancel z)) :
    Tr s (.cancel f.number (sortN (cancelled s z)))
      { s with frames := fs ++ [f.on], soon := s.soon.filter (fun k => !decide (k ∈ cancelled s z)), rows := s.rows.filter (fun r => !decide (r.2 ∈ cancelled s z)), log := s.log ++ [.cancel f.number (sortN (cancelled s z))] }
  | join (fs : List Frm) (f : Frm) (x : Str) (D : AtDeed s fs f (.join x)) :
    Tr s (.join f.number x) { s with frames := fs ++ [f.on], stood := (s.come x).stood, stands := (s.come x).stands, log := s.log ++ [.join f.number x] }
  | leave (fs : List Frm) (f : Frm) (x : Str) (D : AtDeed s fs f (.leave x)) :
    Tr s (.leave f.number x) { s with frames := fs ++ [f.on], stands := (s.go x).stands, log := s.log ++ [.leave f.number x] }
  | hush (fs : List Frm) (f : Frm) (D : AtDeed s fs f .hush) :
    Tr s (.hush f.number) { s with frames := fs ++ [{ f.on with called := [] }], log := s.log ++ [.hush f.number] }
  | call (fs : List Frm) (f : Frm) (c : Str × Nat) (rest : List (Str × Nat)) (h : Hnd) (h0 : s.fresh = none) (h1 : s.frames = fs ++ [f]) (h2 : f.deeds[f.place]? = none) (h3 : f.called.dropWhile (stale s) = c :: rest) (h4 : handlerOf s.hs c.1 = some h) :
    Tr s (.call f.number c.1) { s with frames := fs ++ [{ f with called := rest, deeds := h.deeds, place := 0 }], stands := (if h.once then (s.go c.1).stands else s.stands), log := s.log ++ [.call f.number c.1] }
  | fin (fs : List Frm) (f : Frm) (h0 : s.fresh = none) (h1 : s.frames = fs ++ [f]) (h2 : f.deeds[f.place]? = none) (h3 : f.called.dropWhile (stale s) = []) :
    Tr s (.fin f.number) { s with frames := fs, log := s.log ++ [.fin f.number] }
theorem Tr.log {s s' : LoomS} {r : Row} (t : Tr s r s') : s'.log = s.log ++ [r] := by cases t <;> rfl
theorem Tr.hs {s s' : LoomS} {r : Row} (t : Tr s r s') : s'.hs = s.hs := by cases t <;> rfl
theorem Tr.evs {s s' : LoomS} {r : Row} (t : Tr s r s') : ∃ es, s'.events = s.events ++ es := by
  cases t <;> first | exact ⟨_, rfl⟩ | exact ⟨[], (List.append_nil _).symm⟩
theorem last_at {s : LoomS} {f : Frm} (hf : s.frames.getLast? = some f) : ∃ fs, s.frames = fs ++ [f] := List.getLast?_eq_some_iff.mp hf
theorem last_to {s : LoomS} {fs : List Frm} {f : Frm} (h : s.frames = fs ++ [f]) (g : Frm) : s.last g = { s with frames := fs ++ [g] } := by
  unfold LoomS.last
  rw [h, List.dropLast_concat]
theorem ev_at {s : LoomS} {n : Nat} (h : n < s.events.length) : ∃ e, s.events[n]? = some e := ⟨s.events[n], by simp [h]⟩
theorem come_eq (s : LoomS) (x : Str) : s.come x = { s with stood := (s.come x).stood, stands := (s.come x).stands } := by
  unfold LoomS.come
  split <;> rfl
theorem step_tr {s s' : LoomS} (w : Wf s) (h : s.stepM = some s') : ∃ r, Tr s r s' := by
  unfold LoomS.stepM at h
  split at h
  · rename_i n hn
    cases h
    obtain ⟨e, he⟩ := ev_at (w.fresh n hn)
    refine ⟨.begin n s.time, ?_⟩
    have := Tr.fresh n e hn he
    unfold LoomS.beginM
    show Tr s _ (match s.events[n]? with | some e => _ | none => _)
    rw [he]
    exact this
  · rename_i h0
    split at h
    · rename_i f hf
      cases h
      obtain ⟨fs, h1⟩ := last_at hf
      unfold LoomS.goOnM
      cases h2 : f.deeds[f.place]? with
      | some d =>
        have D : AtDeed s fs f d := ⟨h0, h1, h2⟩
        show ∃ r, Tr s r ((s.last f.on).doM f.number d)
        rw [last_to h1]
        cases d with
        | now z =>
          have := Tr.now fs f z D
          refine ⟨.make f.number s.events.length, ?_⟩
          show Tr s _ { s with frames := fs ++ [f.on], events := s.events ++ [⟨z, some f.number, .now, s.time + 0⟩], fresh := some s.events.length, log := s.log ++ [.make f.number s.events.length] }
          rw [Int.add_zero]
          exact this
        | soon z =>
          have := Tr.dsoon fs f z D
          refine ⟨.make f.number s.events.length, ?_⟩
          show Tr s _ { s with frames := fs ++ [f.on], events := s.events ++ [⟨z, some f.number, .soon, s.time + 0⟩], soon := s.soon ++ [s.events.length], log := s.log ++ [.make f.number s.events.length] }
          rw [Int.add_zero]
          exact this
        | wait t z => exact ⟨_, Tr.wait fs f t z D⟩
        | cancel z => exact ⟨_, Tr.cancel fs f z D⟩
        | join x =>
          have := Tr.join fs f x D
          refine ⟨.join f.number x, ?_⟩
          show Tr s _ (LoomS.logd (LoomS.come { s with frames := fs ++ [f.on] } x) _)
          have e : LoomS.come { s with frames := fs ++ [f.on] } x = { s with frames := fs ++ [f.on], stood := (s.come x).stood, stands := (s.come x).stands } := by
            unfold LoomS.come
            by_cases q : (lk s.stands x).isSome = true
            · rw [if_pos (show (lk ({ s with frames := fs ++ [f.on] } : LoomS).stands x).isSome = true from q), if_pos q]
            · rw [if_neg (show ¬ (lk ({ s with frames := fs ++ [f.on] } : LoomS).stands x).isSome = true from q), if_neg q]
          rw [e]
          exact this
        | leave x => exact ⟨_, Tr.leave fs f x D⟩
        | hush =>
          have := Tr.hush fs f D
          refine ⟨.hush f.number, ?_⟩
          show Tr s _ { s with frames := (fs ++ [f.on]).dropLast ++ (((fs ++ [f.on]).getLast?.map fun f => { f with called := [] }).toList), log := s.log ++ [.hush f.number] }
          rw [List.dropLast_concat, List.getLast?_concat]
          exact this
      | none =>
        show ∃ r, Tr s r (match f.called.dropWhile (stale s) with | c :: rest => _ | [] => _)
        cases h3 : f.called.dropWhile (stale s) with
        | nil =>
          refine ⟨.fin f.number, ?_⟩
          have := Tr.fin fs f h0 h1 h2 h3
          show Tr s _ { s with frames := s.frames.dropLast, log := s.log ++ [.fin f.number] }
          rw [h1, List.dropLast_concat]
          exact this
        | cons c rest =>
          have hm : f ∈ s.frames := by rw [h1]; simp
          obtain ⟨f1, f2, f3, f4⟩ := w.frs f hm
          have hc : c ∈ f.called := (List.dropWhile_sublist (stale s)).subset (by rw [h3]; exact List.mem_cons_self)
          obtain ⟨hh, h4⟩ := handlerOf_some (f3 c hc)
          refine ⟨.call f.number c.1, ?_⟩
          have := Tr.call fs f c rest hh h0 h1 h2 h3 h4
          show Tr s _ (match handlerOf s.hs c.1 with | some h => _ | none => _)
          rw [h4]
          show Tr s _ ((s.last { f with called := rest }).callM { f with called := rest } c.1 hh)
          rw [last_to h1]
          unfold LoomS.callM
          have e := last_to (s := { s with frames := fs ++ [{ f with called := rest }] }) (fs := fs) (f := { f with called := rest }) rfl { f with called := rest, deeds := hh.deeds, place := 0 }
          show Tr s _ (if hh.once then LoomS.go (LoomS.logd (LoomS.last _ _) _) _ else (LoomS.logd (LoomS.last _ _) _))
          rw [e]
          cases ho : hh.once with
          | true => rw [ho] at this; exact this
          | false => rw [ho] at this; exact this
    · rename_i hf
      have h1 : s.frames = [] := List.getLast?_eq_none_iff.mp hf
      split at h
      · rename_i n r h2
        cases h
        obtain ⟨e, he⟩ := ev_at (w.line n (by rw [h2]; simp))
        refine ⟨.begin n s.time, ?_⟩
        have := Tr.soon n r e h0 h1 h2 he
        unfold LoomS.beginM
        show Tr s _ (match s.events[n]? with | some e => _ | none => _)
        rw [he]
        show Tr s _ { s with soon := r, frames := s.frames ++ [_], log := _ }
        rw [h1]
        exact this
      · rename_i h2
        split at h
        · rename_i d n r h3
          cases h
          obtain ⟨e, he⟩ := ev_at (w.line n (by rw [h3]; simp))
          refine ⟨.begin n (if d > s.time then d else s.time), ?_⟩
          have := Tr.late d n r e _ rfl h0 h1 h2 h3 he
          unfold LoomS.beginM
          show Tr s _ (match s.events[n]? with | some e => _ | none => _)
          rw [he]
          show Tr s _ { s with rows := r, time := _, frames := s.frames ++ [_], log := _ }
          rw [h1]
          exact this
        · cases h
theorem send_tr (s : LoomS) {z : Str} (hz : isWord z = true) : Tr s (.send s.events.length) (s.sendM z) := Tr.send z hz
/-- what a loom can come to -/
inductive Reach (s0 : LoomS) : LoomS → Prop
  | zero : Reach s0 s0
  | next {s s' : LoomS} {r : Row} : Reach s0 s → Tr s r s' → Wf s' → Reach s0 s'
theorem Reach.wf {s0 s : LoomS} (w : Wf s0) (h : Reach s0 s) : Wf s := by
  cases h
  · exact w
  · assumption
theorem Reach.send {s0 s : LoomS} (w : Wf s0) (h : Reach s0 s) {z : Str} (hz : isWord z = true) : Reach s0 (s.sendM z) := .next h (send_tr s hz) ((h.wf w).sendM z)
theorem Reach.run {s0 : LoomS} (w : Wf s0) : ∀ (k : Nat) {s : LoomS}, Reach s0 s → Reach s0 (s.runM k).1
  | 0, _, h => h
  | k + 1, s, h => by
    unfold LoomS.runM
    cases e : s.stepM with
    | none => exact h
    | some s' =>
      obtain ⟨r, t⟩ := step_tr (h.wf w) e
      exact Reach.run w k (.next h t ((h.wf w).stepM e))
/-- a book kept along the rows: what it asks holds at each row -/
def Tra {σ : Type} (ok : σ → Row → Prop) (step : σ → Row → σ) (o : σ) (rows : List Row) : Prop := ∀ pre r post, rows = pre ++ r :: post → ok (pre.foldl step o) r
theorem Tra.nil {σ : Type} {ok : σ → Row → Prop} {step : σ → Row → σ} {o : σ} : Tra ok step o [] := fun pre r post h => by simp at h
theorem Tra.snoc {σ : Type} {ok : σ → Row → Prop} {step : σ → Row → σ} {o : σ} {rows : List Row} {r : Row} (t : Tra ok step o rows) (h : ok (rows.foldl step o) r) : Tra ok step o (rows ++ [r]) := fun pre q post e => by
  rcases List.eq_nil_or_concat post with rfl | ⟨post', x, rfl⟩
  · obtain ⟨rfl, e2⟩ := List.append_inj' e rfl
    cases e2
    exact h
  · rw [List.concat_eq_append, ← List.cons_append, ← List.append_assoc] at e
    obtain ⟨rfl, e2⟩ := List.append_inj' e rfl
    exact t pre q post' rfl
theorem book {σ : Type} {s0 : LoomS} (w0 : Wf s0) (l0 : s0.log = []) (step : List Evt → σ → Row → σ) (ok : List Evt → σ → Row → Prop) (Inv : List Evt → LoomS → σ → Prop) (o : σ) (h0 : ∀ E, s0.events <+: E → Inv E s0 o)
    (hs : ∀ E s s' r o, Wf s → Reach s0 s → Tr s r s' → s'.events <+: E → Inv E s o → ok E o r ∧ Inv E s' (step E o r)) :
    ∀ s, Reach s0 s → ∀ E, s.events <+: E → Tra (ok E) (step E) o s.log ∧ Inv E s (s.log.foldl (step E) o) := by
  intro s h
  induction h with
  | zero =>
    intro E p
    rw [l0]
    exact ⟨Tra.nil, h0 E p⟩
  | next h t w ih =>
    rename_i s s' r
    intro E p
    obtain ⟨es, e⟩ := t.evs
    have p0 : s.events <+: E := List.IsPrefix.trans (by rw [e]; exact List.prefix_append _ _) p
    obtain ⟨i1, i2⟩ := ih E p0
    obtain ⟨j1, j2⟩ := hs E s s' r _ (h.wf w0) h t p i2
    rw [t.log]
    refine ⟨i1.snoc j1, ?_⟩
    rw [List.foldl_append]
    exact j2
theorem init_log (hs : List Hnd) (ns : List Str) : (LoomS.init hs ns).log = [] ∧ (LoomS.init hs ns).events = [] ∧ (LoomS.init hs ns).frames = [] ∧ (LoomS.init hs ns).fresh = none ∧ (LoomS.init hs ns).soon = [] ∧ (LoomS.init hs ns).rows = [] ∧ (LoomS.init hs ns).time = 0 ∧ (LoomS.init hs ns).hs = hs := by
  unfold LoomS.init
  have key : ∀ (ns : List Str) (s : LoomS), (ns.foldl LoomS.come s).log = s.log ∧ (ns.foldl LoomS.come s).events = s.events ∧ (ns.foldl LoomS.come s).frames = s.frames ∧ (ns.foldl LoomS.come s).fresh = s.fresh ∧ (ns.foldl LoomS.come s).soon = s.soon ∧ (ns.foldl LoomS.come s).rows = s.rows ∧ (ns.foldl LoomS.come s).time = s.time ∧ (ns.foldl LoomS.come s).hs = s.hs := by
    intro ns
    induction ns with
    | nil => intro s; exact ⟨rfl, rfl, rfl, rfl, rfl, rfl, rfl, rfl⟩
    | cons x ns ih =>
      intro s
      have := ih (s.come x)
      rw [come_eq] at this
      rw [List.foldl_cons, come_eq]
      exact this
  exact key ns _
theorem Tr.len {s s' : LoomS} {r : Row} (t : Tr s r s') : s'.log.length = s.log.length + 1 := by rw [t.log]; simp
/-- at the prefix's place -/
theorem pre_at {E : List Evt} {e : Evt} {l : List Evt} (h : l ++ [e] <+: E) : E[l.length]? = some e ∧ l <+: E := by
  obtain ⟨t, rfl⟩ := h
  refine ⟨by simp, by rw [List.append_assoc]; exact List.prefix_append _ _⟩
theorem pre_get {l E : List Evt} (h : l <+: E) {n : Nat} {e : Evt} (he : l[n]? = some e) : E[n]? = some e := by
  obtain ⟨t, rfl⟩ := h
  rw [List.getElem?_append_left (List.getElem?_eq_some_iff.mp he).1]
  exact he
end Ev
namespace Ev
open PySem
/-! ### the words of all events are words -/
def Row.wd : Row → Prop
  | .call _ x => isWord x = true | .join _ x => isWord x = true | .leave _ x => isWord x = true | _ => True
structure Dk (s : LoomS) : Prop where
  hn : ∀ h ∈ s.hs, isWord h.name = true
  lg : ∀ r ∈ s.log, r.wd
  hs : ∀ h ∈ s.hs, ∀ d ∈ h.deeds, d.ok = true
  fr : ∀ f ∈ s.frames, ∀ d ∈ f.deeds, d.ok = true
  ev : ∀ e ∈ s.events, isWord e.word = true
theorem Dk.tr {s s' : LoomS} {r : Row} (k : Dk s) (t : Tr s r s') : Dk s' := by
  have up : ∀ {fs : List Frm} {f g : Frm}, s.frames = fs ++ [f] → g.deeds = f.deeds → ∀ x ∈ fs ++ [g], ∀ d ∈ x.deeds, d.ok = true := fun {fs f g} h e x hx => by
    rcases List.mem_append.mp hx with q | q
    · exact k.fr x (by rw [h]; exact List.mem_append.mpr (.inl q))
    · rw [List.mem_singleton.mp q, e]
      exact k.fr f (by rw [h]; simp)
  have en : ∀ {e : Evt}, isWord e.word = true → ∀ x ∈ s.events ++ [e], isWord x.word = true := fun {e} h x hx => by
    rcases List.mem_append.mp hx with q | q
    · exact k.ev x q
    · rw [List.mem_singleton.mp q]; exact h
  have dok : ∀ {fs : List Frm} {f : Frm} {d : Deed}, AtDeed s fs f d → d.ok = true := fun D => k.fr _ (by rw [D.h1]; simp) _ (List.mem_of_getElem? D.h2)
  have nil : ∀ (n : Nat) (c : List (Str × Nat)) (l : List Frm), (∀ f ∈ l, ∀ d ∈ f.deeds, d.ok = true) → ∀ f ∈ l ++ [(⟨n, c, [], 0⟩ : Frm)], ∀ d ∈ f.deeds, d.ok = true := fun n c l h f hf => by
    rcases List.mem_append.mp hf with q | q
    · exact h f q
    · rw [List.mem_singleton.mp q]
      intro d hd
      cases hd
  have lg : ∀ x ∈ s.log ++ [r], x.wd := by
    intro x hx
    rcases List.mem_append.mp hx with q | q
    · exact k.lg x q
    · rw [List.mem_singleton.mp q]
      cases t with
      | call fs f c rest h h0 h1 h2 h3 h4 =>
        have := handlerOf_mem h4
        show isWord c.1 = true
        rw [← this.2]
        exact k.hn h this.1
      | join fs f x D => exact dok D
      | leave fs f x D => exact dok D
      | _ => trivial
  cases t with
  | send z hz => exact ⟨k.hn, lg, k.hs, k.fr, en hz⟩
  | fresh n e h he => exact ⟨k.hn, lg, k.hs, nil _ _ _ k.fr, k.ev⟩
  | soon n r e h0 h1 h he => exact ⟨k.hn, lg, k.hs, nil _ _ [] (fun _ h => nomatch h), k.ev⟩
  | late d n r e t ht h0 h1 h2 h he => exact ⟨k.hn, lg, k.hs, nil _ _ [] (fun _ h => nomatch h), k.ev⟩
  | now fs f z D => exact ⟨k.hn, lg, k.hs, up D.h1 rfl, en (show isWord z = true from dok D)⟩
  | dsoon fs f z D => exact ⟨k.hn, lg, k.hs, up D.h1 rfl, en (show isWord z = true from dok D)⟩
  | wait fs f t z D =>
    have q := dok D
    simp only [Deed.ok, Bool.and_eq_true] at q
    exact ⟨k.hn, lg, k.hs, up D.h1 rfl, en q.2⟩
  | cancel fs f z D => exact ⟨k.hn, lg, k.hs, up D.h1 rfl, k.ev⟩
  | join fs f x D => exact ⟨k.hn, lg, k.hs, up D.h1 rfl, k.ev⟩
  | leave fs f x D => exact ⟨k.hn, lg, k.hs, up D.h1 rfl, k.ev⟩
  | hush fs f D => exact ⟨k.hn, lg, k.hs, up D.h1 rfl, k.ev⟩
  | call fs f c rest h h0 h1 h2 h3 h4 =>
    refine ⟨k.hn, lg, k.hs, fun x hx => ?_, k.ev⟩
    rcases List.mem_append.mp hx with q | q
    · exact k.fr x (by rw [h1]; exact List.mem_append.mpr (.inl q))
    · rw [List.mem_singleton.mp q]
      exact k.hs h (handlerOf_mem h4).1
  | fin fs f h0 h1 h2 h3 => exact ⟨k.hn, lg, k.hs, fun x hx => k.fr x (by rw [h1]; exact List.mem_append.mpr (.inl hx)), k.ev⟩
theorem Reach.dk {s0 s : LoomS} (k : Dk s0) (h : Reach s0 s) : Dk s := by
  induction h with
  | zero => exact k
  | next _ t _ ih => exact ih.tr t
theorem Dk.init {hs : List Hnd} {ns : List Str} (h : ∀ h ∈ hs, h.ok = true) : Dk (LoomS.init hs ns) := by
  obtain ⟨e1, e2, e3, _, _, _, _, e8⟩ := init_log hs ns
  refine ⟨?_, (by rw [e1]; exact fun _ h => nomatch h), ?_, (by rw [e3]; exact fun _ h => nomatch h), (by rw [e2]; exact fun _ h => nomatch h)⟩
  · rw [e8]
    intro x hx
    have q := h x hx
    unfold Hnd.ok at q
    simp only [Bool.and_eq_true] at q
    exact q.1.1.1
  · rw [e8]
    intro x hx d hd
    have q := h x hx
    unfold Hnd.ok at q
    simp only [Bool.and_eq_true, List.all_eq_true] at q
    exact q.2 d hd
end Ev
namespace Ev
open PySem
/-! ### who is called: the book -/
abbrev Std := List (Str × Int)
def lkI (l : Std) (x : Str) : Option Int := (l.find? fun c => decide (c.1 = x)).map Prod.snd
structure B11 where
  place : Nat
  stands : Std
  frames : List Std
def leftM (st fr : Std) : Std := fr.dropWhile fun c => decide (lkI st c.1 ≠ some c.2)
def settledM (hs : List Hnd) (st : Std) (z : Str) : Std := (((hearRows hs z 0 (st.map Prod.fst)).mergeSort triLe).map fun t => (t.2.2, (lkI st t.2.2).getD 0))
def wordAt (E : List Evt) (n : Nat) : Str := (E[n]?.map Evt.word).getD ""
def lastF (o : B11) : Std := o.frames.getLast?.getD []
def B11.step (hs : List Hnd) (E : List Evt) (o : B11) : Row → B11
  | .begin n _ => { o with place := o.place + 1, frames := o.frames ++ [settledM hs o.stands (wordAt E n)] }
  | .fin _ => { o with place := o.place + 1, frames := o.frames.dropLast }
  | .hush _ => { o with place := o.place + 1, frames := o.frames.dropLast ++ [[]] }
  | .call _ x => { place := o.place + 1, frames := o.frames.dropLast ++ [(leftM o.stands (lastF o)).tail], stands := if ((handlerOf hs x).map Hnd.once).getD false = true then o.stands.filter (fun c => decide (c.1 ≠ x)) else o.stands }
  | .join _ x => { o with place := o.place + 1, stands := if (lkI o.stands x).isSome then o.stands else o.stands ++ [(x, (o.place : Int))] }
  | .leave _ x => { o with place := o.place + 1, stands := o.stands.filter (fun c => decide (c.1 ≠ x)) }
  | _ => { o with place := o.place + 1 }
def B11.ok (hs : List Hnd) (E : List Evt) (o : B11) : Row → Prop
  | .begin n _ => (∃ e, E[n]? = some e) ∧ (∀ x ∈ o.stands.map Prod.fst, ∃ h, handlerOf hs x = some h)
  | .fin _ => o.frames ≠ [] ∧ leftM o.stands (lastF o) = []
  | .send _ => True
  | .call _ x => o.frames ≠ [] ∧ (∃ v rest, leftM o.stands (lastF o) = (x, v) :: rest) ∧ (∃ h, handlerOf hs x = some h) ∧ (lkI o.stands x).isSome = true
  | .join _ x => o.frames ≠ [] ∧ ∃ h, handlerOf hs x = some h
  | .leave _ x => o.frames ≠ [] ∧ ∃ h, handlerOf hs x = some h
  | _ => o.frames ≠ []
def trC (φ : Nat → Int) (c : Str × Nat) : Str × Int := (c.1, φ c.2)
structure I11 (hs : List Hnd) (E : List Evt) (s : LoomS) (o : B11) (φ : Nat → Int) : Prop where
  hs : s.hs = hs
  pre : s.events <+: E
  pl : o.place = s.log.length
  st : o.stands = s.stands.map (trC φ)
  fr : o.frames = s.frames.map fun f => f.called.map (trC φ)
  inj : ∀ i j, 1 ≤ i → 1 ≤ j → i ≤ s.stood → j ≤ s.stood → φ i = φ j → i = j
  lo : ∀ i, 1 ≤ i → i ≤ s.stood → φ i < o.place
  sb : ∀ c ∈ s.stands, 1 ≤ c.2 ∧ c.2 ≤ s.stood
  cb : ∀ f ∈ s.frames, ∀ c ∈ f.called, 1 ≤ c.2 ∧ c.2 ≤ s.stood
theorem lkI_map (φ : Nat → Int) (l : List (Str × Nat)) (x : Str) : lkI (l.map (trC φ)) x = (lk l x).map φ := by
  unfold lkI lk
  rw [List.find?_map, Option.map_map, Option.map_map]
  rfl
theorem lk_mem {l : List (Str × Nat)} {x : Str} {n : Nat} (h : lk l x = some n) : (x, n) ∈ l := by
  unfold lk at h
  obtain ⟨c, hc, rfl⟩ := Option.map_eq_some_iff.mp h
  have e := of_decide_eq_true (List.find?_some (p := fun c : Str × Nat => decide (c.1 = x)) hc)
  rw [← e]
  exact List.mem_of_find?_eq_some hc
theorem map_fst_tr (φ : Nat → Int) (l : List (Str × Nat)) : (l.map (trC φ)).map Prod.fst = l.map Prod.fst := by
  rw [List.map_map]
  rfl
section
variable {hs : List Hnd} {E : List Evt} {s s' : LoomS} {o : B11} {φ : Nat → Int}
theorem I11.stal (i : I11 hs E s o φ) {c : Str × Nat} (h1 : 1 ≤ c.2) (h2 : c.2 ≤ s.stood) : decide (lkI o.stands (trC φ c).1 ≠ some (trC φ c).2) = stale s c := by
  unfold stale
  rw [i.st, lkI_map]
  show decide ((lk s.stands c.1).map φ ≠ some (φ c.2)) = _
  cases e : lk s.stands c.1 with
  | none => simp
  | some n =>
    have hn := i.sb _ (lk_mem e)
    have : (φ n = φ c.2) ↔ n = c.2 := ⟨fun q => i.inj n c.2 hn.1 h1 hn.2 h2 q, fun q => by rw [q]⟩
    simp [this]
theorem dropWhile_map' {α β : Type} (f : α → β) (p : β → Bool) (q : α → Bool) : ∀ (l : List α), (∀ a ∈ l, p (f a) = q a) → (l.map f).dropWhile p = (l.dropWhile q).map f
  | [], _ => rfl
  | a :: l, h => by
    rw [List.map_cons, List.dropWhile_cons, List.dropWhile_cons, h a (List.mem_cons_self ..)]
    cases q a with
    | true => exact dropWhile_map' f p q l fun b hb => h b (List.mem_cons_of_mem _ hb)
    | false => rfl
theorem I11.left (i : I11 hs E s o φ) {fs : List Frm} {f : Frm} (h : s.frames = fs ++ [f]) : lastF o = f.called.map (trC φ) ∧ leftM o.stands (lastF o) = (f.called.dropWhile (stale s)).map (trC φ) ∧ o.frames ≠ [] ∧ o.frames.dropLast = fs.map fun f => f.called.map (trC φ) := by
  have e : lastF o = f.called.map (trC φ) := by
    unfold lastF
    rw [i.fr, h]
    simp
  refine ⟨e, ?_, by rw [i.fr, h]; simp, by rw [i.fr, h]; simp⟩
  rw [e]
  unfold leftM
  refine dropWhile_map' _ _ _ _ fun c hc => ?_
  have := i.cb f (by rw [h]; simp) c hc
  exact i.stal this.1 this.2
theorem I11.keep (i : I11 hs E s o φ) (w : Wf s) : ∀ x ∈ o.stands.map Prod.fst, ∃ h, handlerOf hs x = some h := fun x hx => by
  rw [i.st, map_fst_tr] at hx
  obtain ⟨c, hc, rfl⟩ := List.mem_map.mp hx
  rw [← i.hs]
  exact handlerOf_some (w.sin c hc)
theorem filter_tr (φ : Nat → Int) (l : List (Str × Nat)) (x : Str) : (l.map (trC φ)).filter (fun c => decide (c.1 ≠ x)) = (l.filter fun c => decide (c.1 ≠ x)).map (trC φ) := by
  rw [List.filter_map]
  rfl
theorem I11.settled (i : I11 hs E s o φ) (w : Wf s) (z : Str) : settledM hs o.stands z = (calledM s z).map (trC φ) ∧ ∀ c ∈ calledM s z, 1 ≤ c.2 ∧ c.2 ≤ s.stood := by
  have key : ∀ x ∈ hearersM s.hs (s.stands.map Prod.fst) z, ∃ n, lk s.stands x = some n ∧ 1 ≤ n ∧ n ≤ s.stood := fun x hx => by
    have hm := hearersM_names hx
    cases e : lk s.stands x with
    | none => exact absurd hm (lk_none.mp e)
    | some n => exact ⟨n, rfl, i.sb _ (lk_mem e)⟩
  constructor
  · unfold settledM calledM
    rw [i.st, map_fst_tr, List.map_map]
    unfold hearersM
    rw [List.map_map, ← i.hs]
    refine List.map_congr_left fun t ht => ?_
    obtain ⟨n, hn, _⟩ := key t.2.2 (List.mem_map.mpr ⟨t, ht, rfl⟩)
    show (t.2.2, (lkI (s.stands.map (trC φ)) t.2.2).getD 0) = (t.2.2, φ ((lk s.stands t.2.2).getD 0))
    rw [lkI_map, hn]
    rfl
  · intro c hc
    unfold calledM at hc
    obtain ⟨x, hx, rfl⟩ := List.mem_map.mp hc
    obtain ⟨n, hn, h⟩ := key x hx
    show 1 ≤ (lk s.stands x).getD 0 ∧ _
    rw [hn]
    exact h
theorem I11.same (i : I11 hs E s o φ) (e0 : s'.hs = s.hs) (e1 : s'.events <+: E) (e2 : s'.log.length = s.log.length + 1) (e3 : s'.stands = s.stands) (e4 : s'.frames.map Frm.called = s.frames.map Frm.called) (e5 : s'.stood = s.stood) : I11 hs E s' { o with place := o.place + 1 } φ := by
  have ef : ∀ {l : List Frm}, (l.map fun f => f.called.map (trC φ)) = (l.map Frm.called).map fun c => c.map (trC φ) := by intro l; rw [List.map_map]; rfl
  refine ⟨e0.trans i.hs, e1, by rw [e2, ← i.pl], by rw [e3]; exact i.st, ?_, by rw [e5]; exact i.inj, fun j h1 h2 => ?_, by rw [e3, e5]; exact i.sb, fun f hf c hc => ?_⟩
  · show o.frames = _
    rw [i.fr, ef, ef, e4]
  · have := i.lo j h1 (by rw [← e5]; exact h2)
    show φ j < ((o.place + 1 : Nat) : Int)
    omega
  · have hm : f.called ∈ s'.frames.map Frm.called := List.mem_map.mpr ⟨f, hf, rfl⟩
    rw [e4] at hm
    obtain ⟨g, hg, eg⟩ := List.mem_map.mp hm
    rw [e5]
    exact i.cb g hg c (by rw [eg]; exact hc)
theorem I11.tr (i : I11 hs E s o φ) {r : Row} (w : Wf s) (t : Tr s r s') (p : s'.events <+: E) (nm : ∀ h ∈ hs, True) (jn : ∀ f ∈ s.frames, ∀ d ∈ f.deeds, ∀ x ∈ d.names, x ∈ s.hs.map Hnd.name) :
    B11.ok hs E o r ∧ ∃ φ', I11 hs E s' (o.step hs E r) φ' := by
  have fe : ∀ {fs : List Frm} {f : Frm}, s.frames = fs ++ [f] → (fs ++ [f.on]).map Frm.called = s.frames.map Frm.called := fun h => by rw [h]; simp [Frm.on]
  have lo : ∀ j, 1 ≤ j → j ≤ s.stood → φ j < ((o.place + 1 : Nat) : Int) := fun j h1 h2 => by have := i.lo j h1 h2; omega
  have pl : ∀ r : Row, o.place + 1 = (s.log ++ [r]).length := fun r => by rw [i.pl, List.length_append]; rfl
  have hd : ∀ {fs : List Frm} {f : Frm} {d : Deed} {x : Str}, AtDeed s fs f d → x ∈ d.names → ∃ h, handlerOf hs x = some h := fun D hx => by
    rw [← i.hs]
    exact handlerOf_some (jn _ (by rw [D.h1]; simp) _ (List.mem_of_getElem? D.h2) _ hx)
  have frs : ∀ {fs : List Frm} {f g : Frm}, s.frames = fs ++ [f] → (∀ c ∈ g.called, c ∈ f.called) → ∀ h ∈ fs ++ [g], ∀ c ∈ h.called, 1 ≤ c.2 ∧ c.2 ≤ s.stood := fun {fs f g} h sub x hx c hc => by
    rcases List.mem_append.mp hx with q | q
    · exact i.cb x (by rw [h]; exact List.mem_append.mpr (.inl q)) c hc
    · rw [List.mem_singleton.mp q] at hc
      exact i.cb f (by rw [h]; simp) c (sub c hc)
  cases t with
  | send z hz => exact ⟨trivial, φ, i.same rfl p (by simp) rfl rfl rfl⟩
  | fresh n e h he =>
    obtain ⟨s1, s2⟩ := i.settled w e.word
    have ew : wordAt E n = e.word := by unfold wordAt; rw [pre_get i.pre he]; rfl
    refine ⟨⟨⟨e, pre_get i.pre he⟩, i.keep w⟩, φ, i.hs, p, pl _, i.st, ?_, i.inj, lo, i.sb, fun f hf c hc => ?_⟩
    · show o.frames ++ [_] = (s.frames ++ [_]).map _
      rw [ew, s1, i.fr, List.map_append]; rfl
    · rcases List.mem_append.mp hf with q | q
      · exact i.cb f q c hc
      · rw [List.mem_singleton.mp q] at hc; exact s2 c hc
  | soon n r e h0 h1 h he =>
    obtain ⟨s1, s2⟩ := i.settled w e.word
    have ew : wordAt E n = e.word := by unfold wordAt; rw [pre_get i.pre he]; rfl
    refine ⟨⟨⟨e, pre_get i.pre he⟩, i.keep w⟩, φ, i.hs, p, pl _, i.st, ?_, i.inj, lo, i.sb, fun f hf c hc => ?_⟩
    · show o.frames ++ [_] = _
      rw [ew, s1, i.fr, h1]; rfl
    · rw [List.mem_singleton.mp hf] at hc; exact s2 c hc
  | late d n r e t ht h0 h1 h2 h he =>
    obtain ⟨s1, s2⟩ := i.settled w e.word
    have ew : wordAt E n = e.word := by unfold wordAt; rw [pre_get i.pre he]; rfl
    refine ⟨⟨⟨e, pre_get i.pre he⟩, i.keep w⟩, φ, i.hs, p, pl _, i.st, ?_, i.inj, lo, i.sb, fun f hf c hc => ?_⟩
    · show o.frames ++ [_] = _
      rw [ew, s1, i.fr, h1]; rfl
    · rw [List.mem_singleton.mp hf] at hc; exact s2 c hc
  | now fs f z D => exact ⟨(i.left D.h1).2.2.1, φ, i.same rfl p (by simp) rfl (fe D.h1) rfl⟩
  | dsoon fs f z D => exact ⟨(i.left D.h1).2.2.1, φ, i.same rfl p (by simp) rfl (fe D.h1) rfl⟩
  | wait fs f t z D => exact ⟨(i.left D.h1).2.2.1, φ, i.same rfl p (by simp) rfl (fe D.h1) rfl⟩
  | cancel fs f z D => exact ⟨(i.left D.h1).2.2.1, φ, i.same rfl p (by simp) rfl (fe D.h1) rfl⟩
  | join fs f x D =>
    obtain ⟨l1, l2, l3, l4⟩ := i.left D.h1
    refine ⟨⟨l3, hd D (by simp [Deed.names])⟩, ?_⟩
    have elk : lkI o.stands x = (lk s.stands x).map φ := by rw [i.st, lkI_map]
    cases e : lk s.stands x with
    | some n =>
      have ec : s.come x = s := by unfold LoomS.come; rw [e]; rfl
      have eo : o.step hs E (.join f.number x) = { o with place := o.place + 1 } := by
        show ({ o with place := o.place + 1, stands := if (lkI o.stands x).isSome then o.stands else _ } : B11) = _
        rw [elk, e]; rfl
      rw [eo]
      exact ⟨φ, i.same rfl p (by simp) (by show (s.come x).stands = _; rw [ec]) (fe D.h1) (by show (s.come x).stood = _; rw [ec])⟩
    | none =>
      have ec : s.come x = { s with stood := s.stood + 1, stands := s.stands ++ [(x, s.stood + 1)] } := by unfold LoomS.come; rw [e]; rfl
      have eo : o.step hs E (.join f.number x) = { o with place := o.place + 1, stands := o.stands ++ [(x, (o.place : Int))] } := by
        show ({ o with place := o.place + 1, stands := if (lkI o.stands x).isSome then o.stands else _ } : B11) = _
        rw [elk, e]; rfl
      rw [eo]
      have es : (s.come x).stands = s.stands ++ [(x, s.stood + 1)] := by rw [ec]
      have ed : (s.come x).stood = s.stood + 1 := by rw [ec]
      let ψ : Nat → Int := fun j => if j = s.stood + 1 then (o.place : Int) else φ j
      have eq : ∀ j, j ≤ s.stood → ψ j = φ j := fun j hj => if_neg (by omega)
      have eq1 : ψ (s.stood + 1) = (o.place : Int) := if_pos rfl
      have emap : ∀ l : List (Str × Nat), (∀ c ∈ l, c.2 ≤ s.stood) → l.map (trC φ) = l.map (trC ψ) := fun l hl => List.map_congr_left fun c hc => by
        show (c.1, φ c.2) = (c.1, ψ c.2)
        rw [eq c.2 (hl c hc)]
      refine ⟨ψ, i.hs, p, pl _, ?_, ?_, fun a b h1 h2 h3 h4 q => ?_, fun j h1 h2 => ?_, fun c hc => ?_, fun g hg c hc => ?_⟩
      · show o.stands ++ [_] = (s.come x).stands.map _
        rw [es, List.map_append, i.st, emap _ fun c hc => (i.sb c hc).2]
        show _ ++ [(x, (o.place : Int))] = _ ++ [(x, ψ (s.stood + 1))]
        rw [eq1]
      · show o.frames = (fs ++ [f.on]).map _
        have e1 : o.frames = (s.frames.map Frm.called).map fun c => c.map (trC φ) := by rw [i.fr, List.map_map]; rfl
        have e2 : (fs ++ [f.on]).map (fun f => f.called.map (trC ψ)) = ((fs ++ [f.on]).map Frm.called).map fun c => c.map (trC ψ) := by rw [List.map_map]; rfl
        rw [e1, e2, fe D.h1]
        refine List.map_congr_left fun l hl => ?_
        obtain ⟨g, hg, rfl⟩ := List.mem_map.mp hl
        exact emap _ fun c hc => (i.cb g hg c hc).2
      · have h3 : a ≤ s.stood + 1 := by rw [← ed]; exact h3
        have h4 : b ≤ s.stood + 1 := by rw [← ed]; exact h4
        by_cases ea : a = s.stood + 1
        · by_cases eb : b = s.stood + 1
          · omega
          · rw [ea, eq1, eq b (by omega)] at q
            have := i.lo b h2 (by omega)
            omega
        · by_cases eb : b = s.stood + 1
          · rw [eb, eq1, eq a (by omega)] at q
            have := i.lo a h1 (by omega)
            omega
          · rw [eq a (by omega), eq b (by omega)] at q
            exact i.inj a b h1 h2 (by omega) (by omega) q
      · have h2 : j ≤ s.stood + 1 := by rw [← ed]; exact h2
        by_cases ej : j = s.stood + 1
        · rw [ej, eq1]; show (o.place : Int) < ((o.place + 1 : Nat) : Int); omega
        · rw [eq j (by omega)]
          have := i.lo j h1 (by omega)
          show φ j < ((o.place + 1 : Nat) : Int)
          omega
      · have hc : c ∈ (s.come x).stands := hc
        rw [es] at hc
        show 1 ≤ c.2 ∧ c.2 ≤ (s.come x).stood
        rw [ed]
        rcases List.mem_append.mp hc with q | q
        · have := i.sb c q; exact ⟨this.1, by omega⟩
        · rw [List.mem_singleton.mp q]; exact ⟨by show 1 ≤ s.stood + 1; omega, Nat.le_refl _⟩
      · show 1 ≤ c.2 ∧ c.2 ≤ (s.come x).stood
        rw [ed]
        have := frs D.h1 (g := f.on) (fun c hc => hc) g hg c hc
        exact ⟨this.1, by omega⟩
  | leave fs f x D =>
    obtain ⟨l1, l2, l3, l4⟩ := i.left D.h1
    refine ⟨⟨l3, hd D (by simp [Deed.names])⟩, φ, i.hs, p, pl _, ?_, ?_, i.inj, lo, fun c hc => i.sb c (List.mem_filter.mp hc).1, frs D.h1 fun c hc => hc⟩
    · show o.stands.filter _ = (s.stands.filter _).map _
      rw [i.st, filter_tr]
    · show o.frames = (fs ++ [f.on]).map _
      rw [i.fr, D.h1]; simp [Frm.on]
  | hush fs f D =>
    obtain ⟨l1, l2, l3, l4⟩ := i.left D.h1
    refine ⟨l3, φ, i.hs, p, pl _, i.st, ?_, i.inj, lo, i.sb, frs D.h1 (g := { f.on with called := [] }) fun c hc => nomatch hc⟩
    show o.frames.dropLast ++ [[]] = (fs ++ [_]).map _
    rw [l4, List.map_append]
    rfl
  | call fs f c rest h h0 h1 h2 h3 h4 =>
    obtain ⟨l1, l2, l3, l4⟩ := i.left h1
    have l2' := l2
    rw [h3, List.map_cons] at l2'
    have sub : ∀ a, a ∈ c :: rest → a ∈ f.called := fun a ha => (List.dropWhile_sublist (stale s)).subset (by rw [h3]; exact ha)
    have nst : stale s c = false := by
      have := List.head?_dropWhile_not (stale s) f.called
      rw [h3] at this
      simpa using this
    have elk : lk s.stands c.1 = some c.2 := by
      unfold stale at nst
      simpa using nst
    refine ⟨⟨l3, ⟨_, _, l2'⟩, ⟨h, by rw [← i.hs]; exact h4⟩, ?_⟩, φ, i.hs, p, pl _, ?_, ?_, i.inj, lo, fun a ha => ?_, frs h1 (g := { f with called := rest, deeds := h.deeds, place := 0 }) fun a ha => sub a (List.mem_cons_of_mem _ ha)⟩
    · rw [i.st, lkI_map, elk]; rfl
    · show (if ((handlerOf hs c.1).map Hnd.once).getD false = true then _ else _) = (if h.once then (s.go c.1).stands else s.stands).map _
      rw [← i.hs, h4]
      show (if h.once = true then _ else _) = _
      cases h.once with
      | true => show o.stands.filter _ = (s.stands.filter _).map _; rw [i.st, filter_tr]
      | false => exact i.st
    · show o.frames.dropLast ++ [(leftM o.stands (lastF o)).tail] = (fs ++ [_]).map _
      rw [l4, l2', List.map_append]
      rfl
    · have ha : a ∈ (if h.once then (s.go c.1).stands else s.stands) := ha
      cases ho : h.once with
      | true => rw [ho] at ha; exact i.sb a (List.mem_filter.mp ha).1
      | false => rw [ho] at ha; exact i.sb a ha
  | fin fs f h0 h1 h2 h3 =>
    obtain ⟨l1, l2, l3, l4⟩ := i.left h1
    refine ⟨⟨l3, by rw [l2, h3]; rfl⟩, φ, i.hs, p, pl _, i.st, l4, i.inj, lo, i.sb, fun g hg => i.cb g (by rw [h1]; exact List.mem_append.mpr (.inl hg))⟩
end
theorem comes_at : ∀ (ns : List Str) (s : LoomS), ns.Nodup → (∀ x ∈ ns, x ∉ s.stands.map Prod.fst) → (ns.foldl LoomS.come s).stands = s.stands ++ ns.mapIdx (fun i x => (x, s.stood + 1 + i)) ∧ (ns.foldl LoomS.come s).stood = s.stood + ns.length
  | [], s, _, _ => ⟨by simp, rfl⟩
  | x :: ns, s, nd, h => by
    have nd' := List.nodup_cons.mp nd
    have e : lk s.stands x = none := lk_none.mpr (h x (List.mem_cons_self ..))
    have ec : s.come x = { s with stood := s.stood + 1, stands := s.stands ++ [(x, s.stood + 1)] } := by unfold LoomS.come; rw [e]; rfl
    have ih := comes_at ns (s.come x) nd'.2 fun y hy q => by
      rw [ec] at q
      have q : y ∈ (s.stands ++ [(x, s.stood + 1)]).map Prod.fst := q
      rw [List.map_append] at q
      rcases List.mem_append.mp q with q | q
      · exact h y (List.mem_cons_of_mem _ hy) q
      · have : y = x := by simpa using q
        exact nd'.1 (this ▸ hy)
    rw [List.foldl_cons, ih.1, ih.2, ec]
    refine ⟨?_, by show s.stood + 1 + ns.length = _; rw [List.length_cons]; omega⟩
    show (s.stands ++ [(x, s.stood + 1)]) ++ _ = _
    rw [List.append_assoc, List.mapIdx_cons]
    congr 1
    rw [List.singleton_append]
    congr 1
    refine List.ext_getElem? fun j => ?_
    rw [List.getElem?_mapIdx, List.getElem?_mapIdx]
    cases ns[j]? with
    | none => rfl
    | some y => show some (y, s.stood + 1 + 1 + j) = some (y, s.stood + 1 + (j + 1)); congr 2; omega
def B11.zero (ns : List Str) : B11 := ⟨0, ns.mapIdx fun i x => (x, -1 - (i : Int)), []⟩
theorem law11 {hs : List Hnd} {ns : List Str} (w0 : Wf (LoomS.init hs ns)) (nd : ns.Nodup) {s : LoomS} (h : Reach (LoomS.init hs ns) s) :
    Tra (B11.ok hs s.events) (B11.step hs s.events) (B11.zero ns) s.log ∧ (s.log.foldl (B11.step hs s.events) (B11.zero ns)).stands.map Prod.fst = s.stands.map Prod.fst := by
  obtain ⟨e1, e2, e3, e4, e5, e6, e7, e8⟩ := init_log hs ns
  obtain ⟨c1, c2⟩ := comes_at ns (LoomS.zero hs) nd (fun x _ q => nomatch q)
  have c1 : (LoomS.init hs ns).stands = ns.mapIdx (fun i x => (x, 0 + 1 + i)) := c1
  have c2 : (LoomS.init hs ns).stood = 0 + ns.length := c2
  have hz : ∀ E, (LoomS.init hs ns).events <+: E → I11 hs E (LoomS.init hs ns) (B11.zero ns) fun i => -(i : Int) := fun E hE => by
    refine ⟨e8, hE, by rw [e1]; rfl, ?_, by rw [e3]; rfl, fun i j _ _ _ _ q => by omega, fun i h1 h2 => by show -(i : Int) < ((0 : Nat) : Int); omega, fun c hc => ?_, (by rw [e3]; exact fun _ h => nomatch h)⟩
    · show ns.mapIdx _ = _
      rw [c1]
      refine List.ext_getElem? fun j => ?_
      rw [List.getElem?_mapIdx, List.getElem?_map, List.getElem?_mapIdx]
      cases ns[j]? with
      | none => rfl
      | some y => show some (y, -1 - (j : Int)) = some (y, -((0 + 1 + j : Nat) : Int)); congr 2; omega
    · rw [c1] at hc
      rw [c2]
      obtain ⟨j, hj, e⟩ := List.mem_mapIdx.mp hc
      subst e
      show 1 ≤ 0 + 1 + j ∧ 0 + 1 + j ≤ _
      omega
  obtain ⟨h1, φ, h2⟩ := book w0 e1 (B11.step hs) (B11.ok hs) (fun E s o => ∃ φ, I11 hs E s o φ) (B11.zero ns) (fun E hE => ⟨_, hz E hE⟩) (fun E s s' r o w h t p ⟨φ, i⟩ => i.tr w t p (fun _ _ => trivial) fun f hf => (w.frs f hf).2.1) s h s.events (List.prefix_rfl)
  exact ⟨h1, by rw [h2.st, map_fst_tr]⟩
end Ev
namespace Ev
open PySem
/-! ### handlers without deeds: the law's own way -/
def hears1 (z : Str) (h : Hnd) : Bool := decide (h.hears ∈ (["", z] : List Str))
def notIn (gone : List Str) (h : Hnd) : Bool := !decide (h.name ∈ gone)
/-- those that hear and are not gone, with their places -/
def someH (hs : List Hnd) (z : Str) (gone : List Str) : List (Hnd × Nat) := hs.zipIdx.filter fun p => hears1 z p.1 && notIn gone p.1
def keyH (p : Hnd × Nat) : Int × Nat := (p.1.rank, p.2)
def leP (a b : Int × Nat) : Bool := decide (a.1 < b.1 ∨ (a.1 = b.1 ∧ a.2 ≤ b.2))
def sortH (hs : List Hnd) (z : Str) (gone : List Str) : List (Int × Nat) := ((someH hs z gone).map keyH).mergeSort leP
def nameAt (hs : List Hnd) (k : Nat) : Str := (hs[k]?.map Hnd.name).getD Str.empty
def onceAt (hs : List Hnd) (k : Nat) : Bool := (hs[k]?.map Hnd.once).getD false
/-- the names that are called -/
def namesH (hs : List Hnd) (z : Str) (gone : List Str) : List Str := (sortH hs z gone).map fun p => nameAt hs p.2
def goneH (hs : List Hnd) (l : List (Int × Nat)) (gone : List Str) : List Str := l.foldl (fun g p => if onceAt hs p.2 then g ++ [nameAt hs p.2] else g) gone
structure B06 where
  rows : List Row
  line : List (Nat × Str)
  log : List Row
  gone : List Str
def B06.fill (hs : List Hnd) (o : B06) : B06 := match o.rows with
  | [] => match o.line with
    | c :: l => { o with line := l, rows := .begin c.1 0 :: ((namesH hs c.2 o.gone).map (.call c.1) ++ [.fin c.1]), gone := goneH hs (sortH hs c.2 o.gone) o.gone }
    | [] => o
  | _ :: _ => o
def B06.step (hs : List Hnd) (o : B06) : Option B06 := match (o.fill hs).rows with
  | r :: rest => some { o.fill hs with rows := rest, log := o.log ++ [r] }
  | [] => none
def B06.runM (hs : List Hnd) (o : B06) : Nat → B06 × Nat
  | 0 => (o, 0)
  | k + 1 => match o.step hs with
    | some o' => ((o'.runM hs k).1, (o'.runM hs k).2 + 1)
    | none => (o, 0)
theorem cmp_all {α : Type} {f g : α → Nat} : ∀ {l : List α}, l.Pairwise (fun a b => f a < f b ∧ g a < g b) → ∀ a ∈ l, ∀ b ∈ l, (f a ≤ f b ↔ g a ≤ g b)
  | [], _, _, h, _, _ => nomatch h
  | x :: l, p, a, ha, b, hb => by
    obtain ⟨p1, p2⟩ := List.pairwise_cons.mp p
    rcases List.mem_cons.mp ha with rfl | ha
    · rcases List.mem_cons.mp hb with rfl | hb
      · omega
      · have := p1 b hb; omega
    · rcases List.mem_cons.mp hb with rfl | hb
      · have := p1 a (by assumption); omega
      · exact cmp_all p2 a ha b hb
theorem cmp_eq {α : Type} {f g : α → Nat} : ∀ {l : List α}, l.Pairwise (fun a b => f a < f b ∧ g a < g b) → ∀ a ∈ l, ∀ b ∈ l, g a = g b → a = b
  | [], _, _, h, _, _, _ => nomatch h
  | x :: l, p, a, ha, b, hb, e => by
    obtain ⟨p1, p2⟩ := List.pairwise_cons.mp p
    rcases List.mem_cons.mp ha with ea | ha
    · rcases List.mem_cons.mp hb with eb | hb
      · rw [ea, eb]
      · have := p1 b hb; rw [ea] at e; omega
    · rcases List.mem_cons.mp hb with eb | hb
      · have := p1 a ha; rw [eb] at e; omega
      · exact cmp_eq p2 a ha b hb e
theorem zip_lt {α : Type} (l : List α) (n : Nat) : (l.zipIdx n).Pairwise fun a b => a.2 < b.2 := by
  have : ((l.zipIdx n).map Prod.snd).Pairwise (· < ·) := by
    rw [List.zipIdx_map_snd]
    exact List.pairwise_lt_range'
  exact List.pairwise_map.mp this
theorem handlerOf_of {hs : List Hnd} (nd : (hs.map Hnd.name).Nodup) {h : Hnd} (hm : h ∈ hs) : handlerOf hs h.name = some h := by
  obtain ⟨g, hg⟩ := handlerOf_some (List.mem_map.mpr ⟨h, hm, rfl⟩)
  obtain ⟨h1, h2⟩ := handlerOf_mem hg
  obtain ⟨i, hi⟩ := List.getElem?_of_mem hm
  obtain ⟨j, hj⟩ := List.getElem?_of_mem h1
  have e : i = j := (List.getElem?_inj (by rw [List.length_map]; exact (List.getElem?_eq_some_iff.mp hi).1) nd).mp (by rw [List.getElem?_map, List.getElem?_map, hi, hj]; show some h.name = some g.name; rw [h2])
  subst e
  rw [hi] at hj
  cases hj
  exact hg
theorem hearRows_of {hs : List Hnd} (nd : (hs.map Hnd.name).Nodup) (z : Str) : ∀ (l : List Hnd) (i : Nat), (∀ h ∈ l, h ∈ hs) → hearRows hs z i (l.map Hnd.name) = ((l.zipIdx i).filter fun p => hears1 z p.1).map fun p => (p.1.rank, (p.2 : Int), p.1.name)
  | [], _, _ => rfl
  | h :: l, i, hm => by
    rw [List.map_cons, hearRows, List.zipIdx_cons, List.filter_cons, hearRows_of nd z l (i + 1) fun g hg => hm g (List.mem_cons_of_mem _ hg)]
    unfold hearRow
    rw [handlerOf_of nd (hm h (List.mem_cons_self ..))]
    show (if h.hears = "" ∨ h.hears = z then _ else _ : Option Tri).toList ++ _ = _
    by_cases e : h.hears = "" ∨ h.hears = z
    · have e2 : hears1 z h = true := decide_eq_true (by simpa using e)
      rw [if_pos e, if_pos e2]
      rfl
    · have e2 : hears1 z h = false := decide_eq_false (by simpa using e)
      rw [if_neg e, if_neg (by rw [e2]; exact Bool.false_ne_true)]
      rfl
/-- what the loom calls is what the law calls -/
theorem names_same {hs : List Hnd} (nd : (hs.map Hnd.name).Nodup) (z : Str) (gone : List Str) : hearersM hs ((hs.filter (notIn gone)).map Hnd.name) z = namesH hs z gone := by
  unfold hearersM namesH sortH
  rw [hearRows_of nd z _ _ fun h hh => (List.mem_filter.mp hh).1]
  let C : List ((Hnd × Nat) × Nat) := ((hs.zipIdx.filter fun p => notIn gone p.1).zipIdx).filter fun c => hears1 z c.1.1
  have eA : (someH hs z gone).map keyH = C.map fun c => keyH c.1 := by
    have : someH hs z gone = C.map Prod.fst := by
      show hs.zipIdx.filter _ = ((List.zipIdx _).filter ((fun p : Hnd × Nat => hears1 z p.1) ∘ Prod.fst)).map Prod.fst
      rw [← List.filter_map, List.zipIdx_map_fst, List.filter_filter]
    rw [this, List.map_map]
    rfl
  have eL : (((hs.filter (notIn gone)).zipIdx).filter fun p => hears1 z p.1).map (fun p => ((p.1.rank, (p.2 : Int), p.1.name) : Tri)) = C.map fun c => (c.1.1.rank, (c.2 : Int), c.1.1.name) := by
    have e1 : hs.filter (notIn gone) = (hs.zipIdx.filter fun p => notIn gone p.1).map Prod.fst := by
      show _ = (hs.zipIdx.filter (notIn gone ∘ Prod.fst)).map Prod.fst
      rw [← List.filter_map, List.zipIdx_map_fst]
    rw [e1, List.zipIdx_map, List.filter_map, List.map_map]
    rfl
  rw [eA, eL]
  have pw : C.Pairwise fun a b => a.1.2 < b.1.2 ∧ a.2 < b.2 := by
    refine List.Pairwise.filter _ ?_
    have h1 : ((hs.zipIdx.filter fun p => notIn gone p.1).zipIdx).Pairwise fun a b => a.2 < b.2 := zip_lt _ _
    have h2 : ((hs.zipIdx.filter fun p => notIn gone p.1).zipIdx).Pairwise fun a b => a.1.2 < b.1.2 := by
      have : (((hs.zipIdx.filter fun p => notIn gone p.1).zipIdx).map Prod.fst).Pairwise fun a b : Hnd × Nat => a.2 < b.2 := by
        rw [List.zipIdx_map_fst]
        exact (zip_lt hs 0).filter _
      rw [List.pairwise_map] at this
      exact this
    exact List.Pairwise.and h2 h1
  have cmp := cmp_all pw
  have m1 := List.map_mergeSort (r := fun c d : (Hnd × Nat) × Nat => leP (keyH c.1) (keyH d.1)) (s := leP) (f := fun c => keyH c.1) (l := C) fun a _ b _ => rfl
  have m2 := List.map_mergeSort (r := fun c d : (Hnd × Nat) × Nat => leP (keyH c.1) (keyH d.1)) (s := triLe) (f := fun c => ((c.1.1.rank, (c.2 : Int), c.1.1.name) : Tri)) (l := C) fun a ha b hb => by
    have q := cmp a ha b hb
    have q2 := cmp b hb a ha
    show decide (a.1.1.rank < b.1.1.rank ∨ (a.1.1.rank = b.1.1.rank ∧ a.1.2 ≤ b.1.2)) = triLe (a.1.1.rank, (a.2 : Int), a.1.1.name) (b.1.1.rank, (b.2 : Int), b.1.1.name)
    by_cases h1 : a.1.1.rank < b.1.1.rank ∨ (a.1.1.rank = b.1.1.rank ∧ a.2 < b.2)
    · rw [(tri_lt (a := (a.1.1.rank, (a.2 : Int), a.1.1.name)) (b := (b.1.1.rank, (b.2 : Int), b.1.1.name)) (by show _ < _ ∨ _ = _ ∧ (a.2 : Int) < (b.2 : Int); omega)).1]
      exact decide_eq_true (by omega)
    · by_cases h2 : b.1.1.rank < a.1.1.rank ∨ (b.1.1.rank = a.1.1.rank ∧ b.2 < a.2)
      · rw [(tri_lt (a := (b.1.1.rank, (b.2 : Int), b.1.1.name)) (b := (a.1.1.rank, (a.2 : Int), a.1.1.name)) (by show _ < _ ∨ _ = _ ∧ (b.2 : Int) < (a.2 : Int); omega)).2]
        exact decide_eq_false (by omega)
      · have e : a = b := cmp_eq pw a ha b hb (by omega)
        subst e
        rw [tri_rfl]
        exact decide_eq_true (by omega)
  rw [← m1, ← m2, List.map_map, List.map_map]
  refine List.map_congr_left fun c hc => ?_
  have hc : c ∈ C := (List.mergeSort_perm _ _).mem_iff.mp hc
  have h1 : c.1 ∈ hs.zipIdx.filter fun p => notIn gone p.1 := by
    have := (List.mem_filter.mp hc).1
    have := List.mem_map_of_mem (f := Prod.fst) this
    rwa [List.zipIdx_map_fst] at this
  have h2 := (List.mem_filter.mp h1).1
  have h3 : hs[c.1.2]? = some c.1.1 := by
    have := List.mem_zipIdx_iff_getElem?.mp h2
    exact this
  show c.1.1.name = nameAt hs c.1.2
  unfold nameAt
  rw [h3]
  rfl
def callN (r : Row) : Option Str := match r with | .call _ x => some x | _ => none
def onceN (hs : List Hnd) (x : Str) : Bool := ((handlerOf hs x).map Hnd.once).getD false
def onces (hs : List Hnd) (l : List Str) : List Str := l.filter (onceN hs)
theorem nameAt_of {hs : List Hnd} {z : Str} {gone : List Str} (nd : (hs.map Hnd.name).Nodup) {p : Int × Nat} (h : p ∈ sortH hs z gone) : ∃ g, hs[p.2]? = some g ∧ nameAt hs p.2 = g.name ∧ onceAt hs p.2 = g.once ∧ onceN hs g.name = g.once := by
  have h := (List.mergeSort_perm _ _).mem_iff.mp h
  obtain ⟨q, hq, rfl⟩ := List.mem_map.mp h
  have h2 := (List.mem_filter.mp hq).1
  have h3 : hs[q.2]? = some q.1 := List.mem_zipIdx_iff_getElem?.mp h2
  refine ⟨q.1, h3, ?_, ?_, ?_⟩
  · show (hs[q.2]?.map _).getD _ = _
    rw [h3]; rfl
  · show (hs[q.2]?.map _).getD _ = _
    rw [h3]; rfl
  · unfold onceN
    rw [handlerOf_of nd (List.mem_of_getElem? h3)]
    rfl
theorem goneH_eq {hs : List Hnd} (nd : (hs.map Hnd.name).Nodup) (z : Str) (gone : List Str) : goneH hs (sortH hs z gone) gone = gone ++ onces hs (namesH hs z gone) := by
  unfold goneH namesH onces
  have key : ∀ (l : List (Int × Nat)) (g : List Str), (∀ p ∈ l, onceN hs (nameAt hs p.2) = onceAt hs p.2) → l.foldl (fun g p => if onceAt hs p.2 then g ++ [nameAt hs p.2] else g) g = g ++ (l.map fun p => nameAt hs p.2).filter (onceN hs) := by
    intro l
    induction l with
    | nil => intro g _; simp
    | cons p l ih =>
      intro g h
      rw [List.foldl_cons, List.map_cons, List.filter_cons, h p (List.mem_cons_self ..), ih _ fun q hq => h q (List.mem_cons_of_mem _ hq)]
      cases onceAt hs p.2 with
      | true => simp
      | false => simp
  refine key _ _ fun p hp => ?_
  obtain ⟨g, _, h2, h3, h4⟩ := nameAt_of nd hp
  rw [h2, h3, h4]
theorem namesH_nd {hs : List Hnd} (nd : (hs.map Hnd.name).Nodup) (z : Str) (gone : List Str) : (namesH hs z gone).Nodup := by
  unfold namesH sortH
  refine (((List.mergeSort_perm _ _).map _).nodup_iff).mpr ?_
  rw [List.map_map]
  have e : (someH hs z gone).map ((fun p : Int × Nat => nameAt hs p.2) ∘ keyH) = (someH hs z gone).map fun p => p.1.name := by
    refine List.map_congr_left fun p hp => ?_
    have h2 := (List.mem_filter.mp hp).1
    have h3 : hs[p.2]? = some p.1 := List.mem_zipIdx_iff_getElem?.mp h2
    show nameAt hs p.2 = _
    unfold nameAt
    rw [h3]; rfl
  rw [e]
  have e2 : (hs.zipIdx.map fun p => p.1.name) = hs.map Hnd.name := by
    have : (fun p : Hnd × Nat => p.1.name) = Hnd.name ∘ Prod.fst := rfl
    rw [this, ← List.map_map, List.zipIdx_map_fst]
  have : ((hs.zipIdx.map fun p => p.1.name)).Nodup := by rw [e2]; exact nd
  exact this.sublist (List.Sublist.map _ (List.filter_sublist))
theorem notIn_snoc (hs : List Hnd) (g : List Str) (x : Str) : (hs.filter (notIn (g ++ [x]))).map Hnd.name = ((hs.filter (notIn g)).map Hnd.name).filter fun y => decide (y ≠ x) := by
  rw [List.filter_map, List.filter_filter]
  congr 1
  refine List.filter_congr fun h _ => ?_
  show (!decide (h.name ∈ g ++ [x])) = (decide (h.name ≠ x) && !decide (h.name ∈ g))
  by_cases h1 : h.name ∈ g <;> by_cases h2 : h.name = x <;> simp [h1, h2]
inductive Fr06 (hs : List Hnd) (s : LoomS) (o : B06) : Prop
  | none (h1 : s.frames = []) (h2 : o.rows = []) (h3 : o.gone = onces hs (o.log.filterMap callN))
  | one (n : Nat) (cs : List (Str × Nat)) (h1 : s.frames = [⟨n, cs, [], 0⟩]) (h2 : o.rows = (cs.map fun c => .call n c.1) ++ [.fin n]) (h3 : o.gone = onces hs (o.log.filterMap callN ++ cs.map Prod.fst))
    (h4 : ∀ c ∈ cs, lk s.stands c.1 = some c.2) (h5 : (cs.map Prod.fst).Nodup)
structure I06 (hs : List Hnd) (s : LoomS) (o : B06) : Prop where
  eh : s.hs = hs
  nd : (hs.map Hnd.name).Nodup
  dd : ∀ h ∈ hs, h.deeds = []
  fresh : s.fresh = none
  soon : s.soon = []
  time : s.time = 0
  log : s.log = o.log
  rows : s.rows = o.line.map fun c => ((0 : Int), c.1)
  lt : ∀ c ∈ o.line, s.events[c.1]? = some ⟨c.2, none, .wait, 0⟩
  st : s.stands.map Prod.fst = (hs.filter (notIn (onces hs (o.log.filterMap callN)))).map Hnd.name
  fr : Fr06 hs s o
theorem callN_snoc (l : List Row) (r : Row) (h : callN r = none) : (l ++ [r]).filterMap callN = l.filterMap callN := by
  rw [List.filterMap_append]
  simp [h]
theorem laterM_end {rows : List (Int × Nat)} {n : Nat} (h : ∀ r ∈ rows, r.1 = 0 ∧ r.2 < n) : laterM rows (0, n) = rows ++ [(0, n)] := by
  unfold laterM
  have e : placeOf rows (0, n) rows.length = rows.length := by
    rcases List.eq_nil_or_concat rows with rfl | ⟨rs, r, rfl⟩
    · rfl
    · rw [List.concat_eq_append, List.length_append, List.length_singleton]
      unfold placeOf
      rw [List.getElem?_concat_length]
      have := h r (by simp)
      have e : rowGt r (0, n) = false := by
        unfold rowGt
        refine decide_eq_false ?_
        obtain ⟨h1, h2⟩ := this
        simp only
        omega
      simp only [e]
      rfl
  rw [e, List.take_length, List.drop_length, List.append_nil]
theorem I06.send {hs : List Hnd} {s : LoomS} {o : B06} (i : I06 hs s o) (z : Str) : I06 hs (s.sendM z) { o with line := o.line ++ [(s.events.length, z)], log := o.log ++ [.send s.events.length] } := by
  have hl : ∀ c ∈ o.line, c.1 < s.events.length := fun c hc => (List.getElem?_eq_some_iff.mp (i.lt c hc)).1
  have ec := callN_snoc o.log (.send s.events.length) rfl
  refine ⟨i.eh, i.nd, i.dd, i.fresh, i.soon, i.time, by show s.log ++ [_] = _; rw [i.log], ?_, fun c hc => ?_, by show s.stands.map _ = (hs.filter (notIn (onces hs ((o.log ++ [_]).filterMap callN)))).map _; rw [ec]; exact i.st, ?_⟩
  · show laterM s.rows (s.time, s.events.length) = _
    rw [i.time, laterM_end, i.rows, List.map_append]
    · rfl
    · intro r hr
      rw [i.rows] at hr
      obtain ⟨c, hc, rfl⟩ := List.mem_map.mp hr
      exact ⟨rfl, hl c hc⟩
  · show (s.events ++ [⟨z, none, .wait, s.time⟩])[c.1]? = _
    rcases List.mem_append.mp hc with q | q
    · rw [List.getElem?_append_left (hl c q)]; exact i.lt c q
    · rw [List.mem_singleton.mp q, i.time]; simp
  · rcases i.fr with ⟨h1, h2, h3⟩ | ⟨n, cs, h1, h2, h3, h4, h5⟩
    · exact .none h1 h2 (by show o.gone = onces hs ((o.log ++ [_]).filterMap callN); rw [ec]; exact h3)
    · exact .one n cs h1 h2 (by show o.gone = onces hs ((o.log ++ [_]).filterMap callN ++ _); rw [ec]; exact h3) h4 h5
theorem lk_in {l : List (Str × Nat)} {x : Str} (h : x ∈ l.map Prod.fst) : ∃ n, lk l x = some n := by
  cases e : lk l x with
  | some n => exact ⟨n, rfl⟩
  | none => exact absurd h (lk_none.mp e)
theorem lk_filter {l : List (Str × Nat)} {x y : Str} (h : y ≠ x) : lk (l.filter fun c => decide (c.1 ≠ x)) y = lk l y := by
  unfold lk
  rw [List.find?_filter]
  congr 2
  funext c
  by_cases e : c.1 = y
  · have : c.1 ≠ x := fun q => h (e.symm.trans q)
    simp [e, this, h]
  · simp [e]
theorem B06.fill_cons {hs : List Hnd} {o : B06} {r : Row} {rest : List Row} (h : o.rows = r :: rest) : o.fill hs = o := by
  unfold B06.fill
  rw [h]
theorem B06.step_cons {hs : List Hnd} {o : B06} {r : Row} {rest : List Row} (h : o.rows = r :: rest) : o.step hs = some { o with rows := rest, log := o.log ++ [r] } := by
  unfold B06.step
  rw [B06.fill_cons h, h]
theorem I06.step {hs : List Hnd} {s : LoomS} {o : B06} (w : Wf s) (i : I06 hs s o) : (o.step hs = none ∧ s.stepM = none) ∨ ∃ s' o', o.step hs = some o' ∧ s.stepM = some s' ∧ s'.events = s.events ∧ I06 hs s' o' := by
  rcases i.fr with ⟨h1, h2, h3⟩ | ⟨n, cs, h1, h2, h3, h4, h5⟩
  · cases hl : o.line with
    | nil =>
      refine .inl ⟨?_, ?_⟩
      · unfold B06.step B06.fill
        rw [h2, hl]
        simp only
        rw [h2]
      · unfold LoomS.stepM
        rw [i.fresh, h1, i.soon, i.rows, hl]
        rfl
    | cons c l =>
      refine .inr ?_
      have he := i.lt c (by rw [hl]; simp)
      have e1 : o.step hs = some { rows := (namesH hs c.2 o.gone).map (.call c.1) ++ [.fin c.1], line := l, log := o.log ++ [.begin c.1 0], gone := goneH hs (sortH hs c.2 o.gone) o.gone } := by
        unfold B06.step B06.fill
        rw [h2, hl]
      have e2 : s.stepM = some { s with fresh := none, soon := [], rows := l.map fun c => ((0 : Int), c.1), time := 0, frames := [⟨c.1, calledM s c.2, [], 0⟩], log := s.log ++ [.begin c.1 0] } := by
        unfold LoomS.stepM
        rw [i.fresh, h1, i.soon, i.rows, hl]
        show some (LoomS.beginM { s with frames := [], fresh := none, soon := [], rows := l.map fun c => ((0 : Int), c.1), time := if (0 : Int) > s.time then 0 else s.time } c.1) = _
        unfold LoomS.beginM
        show some (match s.events[c.1]? with | some e => _ | none => _) = _
        rw [he, i.time]
        rfl
      refine ⟨_, _, e1, e2, rfl, ?_⟩
      have ec := callN_snoc o.log (.begin c.1 0) rfl
      have en : hearersM s.hs (s.stands.map Prod.fst) c.2 = namesH hs c.2 o.gone := by
        rw [i.eh, i.st, ← h3]
        exact names_same i.nd _ _
      have ecs : (calledM s c.2).map Prod.fst = namesH hs c.2 o.gone := by
        unfold calledM
        rw [List.map_map, en]
        exact List.map_id _
      refine ⟨i.eh, i.nd, i.dd, rfl, rfl, rfl, by show s.log ++ [_] = o.log ++ [_]; rw [i.log], rfl, fun d hd => i.lt d (by rw [hl]; exact List.mem_cons_of_mem _ hd), by show s.stands.map _ = (hs.filter (notIn (onces hs ((o.log ++ [_]).filterMap callN)))).map _; rw [ec]; exact i.st, .one c.1 (calledM s c.2) rfl ?_ ?_ (fun d hd => ?_) ?_⟩
      · show _ = (calledM s c.2).map ((fun x => Row.call c.1 x) ∘ Prod.fst) ++ _
        rw [← List.map_map, ecs]
      · show goneH hs _ _ = onces hs ((o.log ++ [_]).filterMap callN ++ _)
        rw [ec, ecs, goneH_eq i.nd]
        unfold onces
        rw [List.filter_append]
        congr 1
      · unfold calledM at hd
        obtain ⟨x, hx, rfl⟩ := List.mem_map.mp hd
        obtain ⟨n, hn⟩ := lk_in (hearersM_names hx)
        show lk s.stands x = some ((lk s.stands x).getD 0)
        rw [hn]
        rfl
      · rw [ecs]
        exact namesH_nd i.nd _ _
  · refine .inr ?_
    have hm : (⟨n, cs, [], 0⟩ : Frm) ∈ s.frames := by rw [h1]; simp
    cases cs with
    | nil =>
      have e1 : o.step hs = some { o with rows := [], log := o.log ++ [.fin n] } := B06.step_cons h2
      have e2 : s.stepM = some { s with frames := [], log := s.log ++ [.fin n] } := by
        unfold LoomS.stepM
        rw [i.fresh, h1]
        show some ({ s with frames := s.frames.dropLast, log := _ } : LoomS) = _
        rw [h1, i.fresh]
        rfl
      have ec := callN_snoc o.log (.fin n) rfl
      refine ⟨_, _, e1, e2, rfl, i.eh, i.nd, i.dd, i.fresh, i.soon, i.time, by show s.log ++ [_] = o.log ++ [_]; rw [i.log], i.rows, i.lt, by show s.stands.map _ = (hs.filter (notIn (onces hs ((o.log ++ [_]).filterMap callN)))).map _; rw [ec]; exact i.st, .none rfl rfl ?_⟩
      show o.gone = onces hs ((o.log ++ [_]).filterMap callN)
      rw [ec, h3]
      simp
    | cons c rest =>
      have e1 : o.step hs = some { o with rows := (rest.map fun c => .call n c.1) ++ [.fin n], log := o.log ++ [.call n c.1] } := B06.step_cons h2
      have hlk := h4 c (List.mem_cons_self ..)
      obtain ⟨h, hh⟩ := handlerOf_some ((w.frs _ hm).2.2.1 c (List.mem_cons_self ..))
      have hdd : h.deeds = [] := i.dd h (by rw [← i.eh]; exact (handlerOf_mem hh).1)
      have e2 : s.stepM = some { s with frames := [⟨n, rest, [], 0⟩], stands := (if h.once then (s.go c.1).stands else s.stands), log := s.log ++ [.call n c.1] } := by
        unfold LoomS.stepM
        rw [i.fresh, h1]
        show some (s.goOnM ⟨n, c :: rest, [], 0⟩) = _
        unfold LoomS.goOnM
        show some (match (c :: rest).dropWhile (stale s) with | c :: rest => _ | [] => _) = _
        have est : stale s c = false := by
          unfold stale
          rw [hlk]
          simp
        rw [List.dropWhile_cons, est, if_neg Bool.false_ne_true]
        show some (match handlerOf s.hs c.1 with | some h => _ | none => _) = _
        rw [hh]
        show some ((s.last ⟨n, rest, [], 0⟩).callM ⟨n, rest, [], 0⟩ c.1 h) = _
        rw [last_to (fs := []) (by rw [h1]; rfl)]
        unfold LoomS.callM
        have e := last_to (s := { s with frames := [] ++ [⟨n, rest, [], 0⟩] }) (fs := []) (f := ⟨n, rest, [], 0⟩) rfl ⟨n, rest, h.deeds, 0⟩
        show some (if h.once then LoomS.go (LoomS.logd (LoomS.last _ _) _) _ else (LoomS.logd (LoomS.last _ _) _)) = _
        rw [e, hdd, i.fresh]
        cases h.once <;> rfl
      have ec : (o.log ++ [Row.call n c.1]).filterMap callN = o.log.filterMap callN ++ [c.1] := by
        rw [List.filterMap_append]
        rfl
      have eo : onceN hs c.1 = h.once := by
        unfold onceN
        rw [← i.eh, hh]
        rfl
      have hnd := List.nodup_cons.mp h5
      refine ⟨_, _, e1, e2, rfl, i.eh, i.nd, i.dd, i.fresh, i.soon, i.time, by show s.log ++ [_] = o.log ++ [_]; rw [i.log], i.rows, i.lt, ?_, .one n rest rfl rfl ?_ (fun d hd => ?_) hnd.2⟩
      · show (if h.once then (s.go c.1).stands else s.stands).map Prod.fst = (hs.filter (notIn (onces hs ((o.log ++ [_]).filterMap callN)))).map Hnd.name
        rw [ec, onces, List.filter_append]
        cases ho : h.once with
        | false =>
          rw [ho] at eo
          have : [c.1].filter (onceN hs) = [] := by simp [eo]
          rw [this, List.append_nil]
          exact i.st
        | true =>
          rw [ho] at eo
          have : [c.1].filter (onceN hs) = [c.1] := by simp [eo]
          rw [this, notIn_snoc]
          have := i.st
          unfold onces at this
          rw [← this]
          show (s.stands.filter fun d => decide (d.1 ≠ c.1)).map Prod.fst = _
          rw [List.filter_map]
          rfl
      · show o.gone = onces hs ((o.log ++ [_]).filterMap callN ++ _)
        rw [ec, h3]
        congr 1
        simp
      · have hne : d.1 ≠ c.1 := fun e => hnd.1 (e ▸ List.mem_map_of_mem hd)
        have := h4 d (List.mem_cons_of_mem _ hd)
        show lk (if h.once then (s.go c.1).stands else s.stands) d.1 = _
        cases h.once with
        | false => exact this
        | true =>
          show lk (s.stands.filter fun e => decide (e.1 ≠ c.1)) d.1 = _
          rw [lk_filter hne]
          exact this
theorem I06.run {hs : List Hnd} : ∀ (k : Nat) {s : LoomS} {o : B06}, Wf s → I06 hs s o → I06 hs (s.runM k).1 (o.runM hs k).1 ∧ (o.runM hs k).2 = (s.runM k).2 ∧ (s.runM k).1.events = s.events
  | 0, _, _, _, i => ⟨i, rfl, rfl⟩
  | k + 1, s, o, w, i => by
    unfold LoomS.runM B06.runM
    rcases i.step w with ⟨h1, h2⟩ | ⟨s', o', h1, h2, h3, i'⟩
    · rw [h1, h2]
      exact ⟨i, rfl, rfl⟩
    · rw [h1, h2]
      obtain ⟨j1, j2, j3⟩ := I06.run k (w.stepM h2) i'
      refine ⟨j1, by show _ + 1 = _ + 1; rw [j2], ?_⟩
      show (s'.runM k).1.events = _
      rw [j3, h3]
theorem sort_up (hs : List Hnd) (z : Str) (gone : List Str) : Up (sortH hs z gone) := by
  have h1 : (sortH hs z gone).Pairwise fun a b => leP a b = true := List.pairwise_mergeSort (fun a b c h1 h2 => by
    unfold leP at *
    have h1 := of_decide_eq_true h1
    have h2 := of_decide_eq_true h2
    exact decide_eq_true (by omega)) (fun a b => by
    unfold leP
    by_cases q : a.1 < b.1 ∨ (a.1 = b.1 ∧ a.2 ≤ b.2)
    · rw [decide_eq_true q]; rfl
    · rw [decide_eq_true (show b.1 < a.1 ∨ (b.1 = a.1 ∧ b.2 ≤ a.2) by omega)]; simp) _
  have h2 : ((sortH hs z gone).map Prod.snd).Nodup := by
    refine (((List.mergeSort_perm _ _).map _).nodup_iff).mpr ?_
    rw [List.map_map]
    have : ((someH hs z gone).map Prod.snd).Pairwise (· < ·) := by
      rw [List.pairwise_map]
      exact (zip_lt hs 0).filter _
    exact this.imp fun h => Nat.ne_of_lt h
  have h2 : (sortH hs z gone).Pairwise fun a b => a.2 ≠ b.2 := List.pairwise_map.mp h2
  refine (List.Pairwise.and h1 h2).imp fun {a b} h => ?_
  obtain ⟨q1, q2⟩ := h
  unfold leP at q1
  have q1 := of_decide_eq_true q1
  unfold rowGt
  exact decide_eq_true (by omega)
theorem someH_snoc (hs : List Hnd) (z : Str) (gone : List Str) (h : Hnd) : (someH (hs ++ [h]) z gone).map keyH = (someH hs z gone).map keyH ++ (if hears1 z h && notIn gone h then [(h.rank, hs.length)] else []) := by
  unfold someH
  rw [List.zipIdx_append, List.filter_append, List.map_append]
  congr 1
  show (List.filter _ [(h, 0 + hs.length)]).map keyH = _
  rw [Nat.zero_add]
  cases e : hears1 z h && notIn gone h with
  | true => rw [List.filter_cons_of_pos (by exact e)]; rfl
  | false => rw [List.filter_cons_of_neg (by simp only [e]; decide)]; rfl
theorem goneH_snoc (hs : List Hnd) (l : List (Int × Nat)) (p : Int × Nat) (gone : List Str) : goneH hs (l ++ [p]) gone = if onceAt hs p.2 then goneH hs l gone ++ [nameAt hs p.2] else goneH hs l gone := by
  unfold goneH
  rw [List.foldl_append]
  rfl
theorem goneH_len (hs : List Hnd) (l : List (Int × Nat)) : ∀ gone : List Str, (goneH hs l gone).length ≤ gone.length + l.length := by
  induction l with
  | nil => intro gone; exact Nat.le_refl _
  | cons p l ih =>
    intro gone
    show (goneH hs l _).length ≤ _
    refine Nat.le_trans (ih _) ?_
    show (if onceAt hs p.2 then gone ++ [nameAt hs p.2] else gone).length + l.length ≤ _
    split
    · rw [List.length_append, List.length_singleton, List.length_cons]; omega
    · rw [List.length_cons]; omega
theorem sortH_len (hs : List Hnd) (z : Str) (gone : List Str) : (sortH hs z gone).length ≤ hs.length := by
  unfold sortH someH
  rw [List.length_mergeSort, List.length_map]
  refine Nat.le_trans (List.length_filter_le _ _) ?_
  rw [List.length_zipIdx]
  exact Nat.le_refl _
theorem left_eq {hs : List Hnd} (nd : (hs.map Hnd.name).Nodup) (called : List Str) : hs.filter (notIn (onces hs called)) = hs.filter fun h => !(h.once && decide (h.name ∈ called)) := by
  refine List.filter_congr fun h hh => ?_
  unfold notIn onces
  have e : onceN hs h.name = h.once := by
    unfold onceN
    rw [handlerOf_of nd hh]
    rfl
  have : (h.name ∈ called.filter (onceN hs)) ↔ (h.once = true ∧ h.name ∈ called) := by
    rw [List.mem_filter, e]
    exact And.comm
  by_cases q : h.once = true <;> by_cases q2 : h.name ∈ called <;> simp [q, q2, e]
theorem I06.init {hs : List Hnd} (nd : (hs.map Hnd.name).Nodup) (dd : ∀ h ∈ hs, h.deeds = []) : I06 hs (LoomS.init hs (hs.map Hnd.name)) ⟨[], [], [], []⟩ := by
  obtain ⟨e1, e2, e3, e4, e5, e6, e7, e8⟩ := init_log hs (hs.map Hnd.name)
  obtain ⟨c1, c2⟩ := comes_at (hs.map Hnd.name) (LoomS.zero hs) nd (fun x _ q => nomatch q)
  have c1 : (LoomS.init hs (hs.map Hnd.name)).stands = (hs.map Hnd.name).mapIdx (fun i x => (x, 0 + 1 + i)) := c1
  refine ⟨e8, nd, dd, e4, e5, e7, e1, e6, (fun _ h => nomatch h), ?_, .none e3 rfl rfl⟩
  rw [c1]
  have ef : hs.filter (notIn (onces hs (([] : List Row).filterMap callN))) = hs := List.filter_eq_self.mpr fun h _ => rfl
  show _ = (hs.filter (notIn (onces hs (([] : List Row).filterMap callN)))).map _
  rw [ef]
  refine List.ext_getElem? fun j => ?_
  rw [List.getElem?_map, List.getElem?_mapIdx]
  cases (hs.map Hnd.name)[j]? <;> rfl
theorem run_some {hs : List Hnd} {o o' : B06} (h : o.step hs = some o') (n : Nat) : o.runM hs (n + 1) = ((o'.runM hs n).1, (o'.runM hs n).2 + 1) := by
  show (match o.step hs with | some o' => _ | none => _) = _
  rw [h]
theorem run_none {hs : List Hnd} {o : B06} (h : o.step hs = none) : ∀ n, o.runM hs n = (o, 0)
  | 0 => rfl
  | n + 1 => by
    show (match o.step hs with | some o' => _ | none => _) = _
    rw [h]
theorem step_none {hs : List Hnd} {o : B06} (h1 : o.rows = []) (h2 : o.line = []) : o.step hs = none := by
  unfold B06.step B06.fill
  rw [h1, h2]
  simp only
  rw [h1]
/-- how the run stands behind j of k steps -/
def Ran (hs : List Hnd) (o : B06) (k : Nat) (o' : B06) (j m : Nat) : Prop := j + m = k ∧ o.runM hs k = ((o'.runM hs m).1, j + (o'.runM hs m).2)
theorem Ran.zero (hs : List Hnd) (o : B06) (k : Nat) : Ran hs o k o 0 k := ⟨by omega, by rw [Nat.zero_add]⟩
theorem Ran.next {hs : List Hnd} {o o' o2 : B06} {k j m : Nat} (r : Ran hs o k o' j (m + 1)) (h : o'.step hs = some o2) : Ran hs o k o2 (j + 1) m := by
  obtain ⟨h1, h2⟩ := r
  refine ⟨by omega, ?_⟩
  rw [h2, run_some h]
  exact Prod.ext rfl (by show j + (_ + 1) = j + 1 + _; omega)
theorem Ran.done {hs : List Hnd} {o o' : B06} {k j : Nat} (r : Ran hs o k o' j 0) : o.runM hs k = (o', j) := r.2
theorem Ran.stop {hs : List Hnd} {o o' : B06} {k j m : Nat} (r : Ran hs o k o' j m) (h : o'.step hs = none) : o.runM hs k = (o', j) := by
  rw [r.2, run_none h]
  rfl
theorem runM_gone {hs : List Hnd} (h40 : hs.length ≤ 40) : ∀ (k : Nat) (o : B06), ((o.runM hs k).1).gone.length ≤ o.gone.length + 40 * k
  | 0, o => by show o.gone.length ≤ _; omega
  | k + 1, o => by
    cases h : o.step hs with
    | none => rw [run_none h]; show o.gone.length ≤ _; omega
    | some o' =>
      rw [run_some h]
      have ih := runM_gone h40 k o'
      have : o'.gone.length ≤ o.gone.length + 40 := by
        unfold B06.step at h
        split at h
        · cases h
          unfold B06.fill
          split
          · split
            · rename_i c l _
              show (goneH hs (sortH hs c.2 o.gone) o.gone).length ≤ _
              have h1 := goneH_len hs (sortH hs c.2 o.gone) o.gone
              have h2 := sortH_len hs c.2 o.gone
              omega
            · show o.gone.length ≤ _; omega
          · show o.gone.length ≤ _; omega
        · cases h
      show ((o'.runM hs k).1).gone.length ≤ _
      omega
end Ev
namespace Ev
open PySem L2
/-! ### steps in pieces -/
theorem runM_none {s : LoomS} (h : s.stepM = none) : ∀ k, s.runM k = (s, 0)
  | 0 => rfl
  | k + 1 => by rw [LoomS.runM, h]
theorem runM_add (s : LoomS) (b : Nat) : ∀ a, s.runM (a + b) = (((s.runM a).1.runM b).1, (s.runM a).2 + ((s.runM a).1.runM b).2) := by
  intro a
  induction a generalizing s with
  | zero => simp [LoomS.runM]
  | succ a ih =>
    have e : a + 1 + b = (a + b) + 1 := by omega
    rw [e, LoomS.runM, LoomS.runM]
    cases h : s.stepM with
    | none => rw [runM_none h b]; rfl
    | some s' =>
      dsimp only
      rw [ih s']
      dsimp only
      rw [Nat.add_right_comm]
theorem runM_short {s : LoomS} : ∀ {k : Nat}, (s.runM k).2 < k → (s.runM k).1.stepM = none
  | 0, h => absurd h (Nat.not_lt_zero _)
  | k + 1, h => by
    rw [LoomS.runM] at h ⊢
    cases e : s.stepM with
    | none => rw [e] at h; exact e
    | some s' =>
      rw [e] at h
      exact runM_short (s := s') (k := k) (by dsimp only at h; omega)
theorem step_idle (s : LoomS) : s.idleM = s.stepM.isNone := by
  unfold LoomS.idleM LoomS.waitM LoomS.stepM
  cases h1 : s.fresh with
  | some n => simp
  | none =>
    cases h2 : s.frames.getLast? with
    | some f =>
      have : s.frames ≠ [] := fun e => by rw [e] at h2; cases h2
      simp [this]
    | none =>
      have e : s.frames = [] := List.getLast?_eq_none_iff.mp h2
      rw [e]
      cases h3 : s.soon with
      | cons n r => simp
      | nil =>
        cases h4 : s.rows with
        | cons q r => obtain ⟨d, n⟩ := q; simp
        | nil => simp
theorem runM_one (s : LoomS) : s.runM 1 = match s.stepM with | some s' => (s', 1) | none => (s, 0) := by
  rw [LoomS.runM]
  cases s.stepM <;> rfl
end Ev
namespace Ev
open PySem
/-! ### all by now: what an open event still has to do -/
inductive Wt where
  | call (x : Str) | make (z : Str) | fin
def Deed.w7 : Deed → Str
  | .now z => z | _ => Str.empty
def hdef : Hnd := ⟨Str.empty, 0, Str.empty, false, []⟩
def hAt (hs : List Hnd) (k : Nat) : Hnd := (hs[k]?).getD hdef
/-- those that hear a word, in order -/
def calls7 (hs : List Hnd) (z : Str) : List Hnd := (sortH hs z []).map fun p => hAt hs p.2
def itemsOf (h : Hnd) : List Wt := .call h.name :: h.deeds.map fun d => .make d.w7
def wanted7 (hs : List Hnd) (z : Str) : List Wt := (calls7 hs z).flatMap itemsOf ++ [.fin]
def hOf (hs : List Hnd) (x : Str) : Hnd := (handlerOf hs x).getD hdef
def pend (hs : List Hnd) (f : Frm) : List Wt := (f.deeds.drop f.place).map (fun d => .make d.w7) ++ (f.called.flatMap fun c => itemsOf (hOf hs c.1)) ++ [.fin]
def wOf (E : List Evt) (n : Nat) : Str := (E[n]?.map Evt.word).getD Str.empty
theorem wOf_at {E : List Evt} {n : Nat} {e : Evt} (h : E[n]? = some e) : wOf E n = e.word := by unfold wOf; rw [h]; rfl
theorem wOf_old {E : List Evt} {n : Nat} (h : n < E.length) (e : Evt) : wOf (E ++ [e]) n = wOf E n := by
  unfold wOf
  rw [List.getElem?_append_left h]
theorem wOf_new (E : List Evt) (e : Evt) : wOf (E ++ [e]) E.length = e.word := by unfold wOf; simp
theorem notIn_nil (hs : List Hnd) : hs.filter (notIn []) = hs := by
  refine List.filter_eq_self.mpr fun h _ => ?_
  unfold notIn
  simp
theorem sort_at {hs : List Hnd} {z : Str} {p : Int × Nat} (h : p ∈ sortH hs z []) : ∃ g, hs[p.2]? = some g ∧ hears1 z g = true ∧ g.rank = p.1 := by
  have h := (List.mergeSort_perm _ _).mem_iff.mp h
  obtain ⟨q, hq, rfl⟩ := List.mem_map.mp h
  obtain ⟨h2, h3⟩ := List.mem_filter.mp hq
  simp only [Bool.and_eq_true] at h3
  exact ⟨q.1, List.mem_zipIdx_iff_getElem?.mp h2, h3.1, rfl⟩
theorem calls7_mem {hs : List Hnd} {z : Str} {h : Hnd} (m : h ∈ calls7 hs z) : h ∈ hs ∧ hears1 z h = true := by
  obtain ⟨p, hp, rfl⟩ := List.mem_map.mp m
  obtain ⟨g, hg, h1, _⟩ := sort_at hp
  unfold hAt
  rw [hg]
  exact ⟨List.mem_of_getElem? hg, h1⟩
theorem calls7_names (hs : List Hnd) (z : Str) : (calls7 hs z).map Hnd.name = namesH hs z [] := by
  unfold calls7 namesH
  rw [List.map_map]
  refine List.map_congr_left fun p hp => ?_
  obtain ⟨g, hg, _⟩ := sort_at hp
  show (hAt hs p.2).name = nameAt hs p.2
  unfold hAt nameAt
  rw [hg]
  rfl
theorem calls7_perm (hs : List Hnd) (z : Str) : (calls7 hs z).Perm (hs.filter (hears1 z)) := by
  unfold calls7 sortH
  refine ((List.mergeSort_perm _ _).map _).trans (List.Perm.of_eq ?_)
  rw [List.map_map]
  have e1 : someH hs z [] = hs.zipIdx.filter fun p => hears1 z p.1 := by
    unfold someH
    refine List.filter_congr fun p _ => ?_
    unfold notIn
    simp
  have e2 : hs.filter (hears1 z) = (hs.zipIdx.filter fun p => hears1 z p.1).map Prod.fst := by
    show _ = (hs.zipIdx.filter (hears1 z ∘ Prod.fst)).map Prod.fst
    rw [← List.filter_map, List.zipIdx_map_fst]
  rw [e1, e2]
  refine List.map_congr_left fun q hq => ?_
  have h3 : hs[q.2]? = some q.1 := List.mem_zipIdx_iff_getElem?.mp (List.mem_filter.mp hq).1
  show hAt hs q.2 = q.1
  unfold hAt
  rw [h3]
  rfl
theorem hOf_of {hs : List Hnd} (nd : (hs.map Hnd.name).Nodup) {h : Hnd} (hm : h ∈ hs) : hOf hs h.name = h := by
  unfold hOf
  rw [handlerOf_of nd hm]
  rfl
/-- what begins has all before it -/
theorem pend_new {s : LoomS} {hs : List Hnd} (eh : s.hs = hs) (nd : (hs.map Hnd.name).Nodup) (est : s.stands.map Prod.fst = hs.map Hnd.name) (n : Nat) (z : Str) : pend hs ⟨n, calledM s z, [], 0⟩ = wanted7 hs z := by
  unfold pend wanted7
  congr 1
  show [] ++ (calledM s z).flatMap _ = _
  rw [List.nil_append]
  unfold calledM
  have e0 := names_same nd z []
  rw [notIn_nil] at e0
  rw [eh, est, e0, ← calls7_names, List.map_map, List.flatMap_map]
  have key : ∀ l : List Hnd, (∀ h ∈ l, h ∈ hs) → l.flatMap (fun h => itemsOf (hOf hs h.name)) = l.flatMap itemsOf := fun l hl => by
    induction l with
    | nil => rfl
    | cons h l ih =>
      rw [List.flatMap_cons, List.flatMap_cons, ih fun g hg => hl g (List.mem_cons_of_mem _ hg), hOf_of nd (hl h List.mem_cons_self)]
  exact key _ fun h hh => (calls7_mem hh).1
theorem pend_now {hs : List Hnd} {f : Frm} {z : Str} (h : f.deeds[f.place]? = some (.now z)) : pend hs f = .make z :: pend hs f.on := by
  obtain ⟨hl, e⟩ := List.getElem?_eq_some_iff.mp h
  unfold pend
  rw [List.drop_eq_getElem_cons hl, e]
  rfl
theorem pend_call {hs : List Hnd} {f : Frm} {c : Str × Nat} {rest : List (Str × Nat)} {h : Hnd} (h2 : f.deeds[f.place]? = none) (h3 : f.called = c :: rest) (h4 : handlerOf hs c.1 = some h) :
    pend hs f = .call c.1 :: pend hs { f with called := rest, deeds := h.deeds, place := 0 } := by
  have hl := List.getElem?_eq_none_iff.mp h2
  unfold pend
  rw [List.drop_of_length_le hl, h3, List.flatMap_cons]
  have e : hOf hs c.1 = h := by unfold hOf; rw [h4]; rfl
  rw [e]
  unfold itemsOf
  rw [(handlerOf_mem h4).2]
  show _ = Wt.call c.1 :: (((h.deeds.drop 0).map _ ++ _) ++ [Wt.fin])
  rw [List.drop_zero]
  rfl
theorem pend_fin {hs : List Hnd} {f : Frm} (h2 : f.deeds[f.place]? = none) (h3 : f.called = []) : pend hs f = [.fin] := by
  have hl := List.getElem?_eq_none_iff.mp h2
  unfold pend
  rw [List.drop_of_length_le hl, h3]
  rfl
/-- a loom all of whose deeds are now -/
structure Ok7 (hs : List Hnd) (s : LoomS) : Prop where
  eh : s.hs = hs
  time : s.time = 0
  soon : s.soon = []
  st : s.stands.map Prod.fst = hs.map Hnd.name
  dues : ∀ r ∈ s.rows, r.1 = 0
  frs : ∀ f ∈ s.frames, (∀ d ∈ f.deeds, ∃ z, d = .now z) ∧ ∀ c ∈ f.called, lk s.stands c.1 = some c.2
structure Now7 (hs : List Hnd) : Prop where
  nd : (hs.map Hnd.name).Nodup
  once : ∀ h ∈ hs, h.once = false
  now : ∀ h ∈ hs, ∀ d ∈ h.deeds, ∃ z, d = .now z
inductive Tr7 (hs : List Hnd) (s : LoomS) : Row → LoomS → Prop
  | send (z : Str) : Tr7 hs s (.send s.events.length) { s with events := s.events ++ [⟨z, none, .wait, s.time⟩], rows := laterM s.rows (s.time, s.events.length), log := s.log ++ [.send s.events.length] }
  | fresh (n : Nat) (e : Evt) (h : s.fresh = some n) (he : s.events[n]? = some e) :
    Tr7 hs s (.begin n s.time) { s with fresh := none, frames := s.frames ++ [⟨n, calledM s e.word, [], 0⟩], log := s.log ++ [.begin n s.time] }
  | late (n : Nat) (r : List (Int × Nat)) (e : Evt) (h0 : s.fresh = none) (h1 : s.frames = []) (h : s.rows = (0, n) :: r) (he : s.events[n]? = some e) :
    Tr7 hs s (.begin n 0) { s with rows := r, time := 0, frames := [⟨n, calledM s e.word, [], 0⟩], log := s.log ++ [.begin n 0] }
  | now (fs : List Frm) (f : Frm) (z : Str) (D : AtDeed s fs f (.now z)) :
    Tr7 hs s (.make f.number s.events.length) { s with frames := fs ++ [f.on], events := s.events ++ [⟨z, some f.number, .now, s.time⟩], fresh := some s.events.length, log := s.log ++ [.make f.number s.events.length] }
  | call (fs : List Frm) (f : Frm) (c : Str × Nat) (rest : List (Str × Nat)) (h : Hnd) (h0 : s.fresh = none) (h1 : s.frames = fs ++ [f]) (h2 : f.deeds[f.place]? = none) (h3 : f.called = c :: rest) (h4 : handlerOf hs c.1 = some h) :
    Tr7 hs s (.call f.number c.1) { s with frames := fs ++ [{ f with called := rest, deeds := h.deeds, place := 0 }], log := s.log ++ [.call f.number c.1] }
  | fin (fs : List Frm) (f : Frm) (h0 : s.fresh = none) (h1 : s.frames = fs ++ [f]) (h2 : f.deeds[f.place]? = none) (h3 : f.called = []) :
    Tr7 hs s (.fin f.number) { s with frames := fs, log := s.log ++ [.fin f.number] }
theorem Ok7.tr {hs : List Hnd} {s s' : LoomS} {r : Row} (g : Now7 hs) (o : Ok7 hs s) (t : Tr s r s') : Tr7 hs s r s' := by
  have noD : ∀ {fs f d}, AtDeed s fs f d → ∃ z, d = .now z := fun {fs f d} D =>
    (o.frs f (by rw [D.h1]; simp)).1 d (List.mem_of_getElem? D.h2)
  have dw : ∀ {fs f}, s.frames = fs ++ [f] → f.called.dropWhile (stale s) = f.called := fun {fs f} h => by
    have hc := (o.frs f (by rw [h]; simp)).2
    cases e : f.called with
    | nil => rfl
    | cons c r =>
      have := hc c (by rw [e]; simp)
      rw [List.dropWhile_cons]
      have q : stale s c = false := by
        unfold stale
        rw [this]
        simp
      rw [q]
      rfl
  cases t with
  | send z hz => exact .send z
  | fresh n e h he => exact .fresh n e h he
  | soon n r e h0 h1 h he => rw [o.soon] at h; cases h
  | late d n r e t ht h0 h1 h2 h he =>
    have hd : d = 0 := o.dues (d, n) (by rw [h]; simp)
    subst hd
    have e0 : t = 0 := by rw [ht, o.time]; rfl
    subst e0
    exact .late n r e h0 h1 h he
  | now fs f z D => exact .now fs f z D
  | dsoon fs f z D => obtain ⟨z, e⟩ := noD D; cases e
  | wait fs f t z D => obtain ⟨z, e⟩ := noD D; cases e
  | cancel fs f z D => obtain ⟨z, e⟩ := noD D; cases e
  | join fs f z D => obtain ⟨z, e⟩ := noD D; cases e
  | leave fs f z D => obtain ⟨z, e⟩ := noD D; cases e
  | hush fs f D => obtain ⟨z, e⟩ := noD D; cases e
  | call fs f c rest h h0 h1 h2 h3 h4 =>
    rw [dw h1] at h3
    rw [o.eh] at h4
    have ho := g.once h (handlerOf_mem h4).1
    rw [ho]
    exact .call fs f c rest h h0 h1 h2 h3 h4
  | fin fs f h0 h1 h2 h3 =>
    rw [dw h1] at h3
    exact .fin fs f h0 h1 h2 h3
theorem called_at {hs : List Hnd} {s : LoomS} (g : Now7 hs) (o : Ok7 hs s) (z : Str) : ∀ c ∈ calledM s z, lk s.stands c.1 = some c.2 := fun c hc => by
  unfold calledM at hc
  obtain ⟨x, hx, rfl⟩ := List.mem_map.mp hc
  show lk s.stands x = some ((lk s.stands x).getD 0)
  cases e : lk s.stands x with
  | some n => rfl
  | none =>
    refine absurd ?_ (lk_none.mp e)
    rw [o.eh, o.st] at hx
    have e0 := names_same g.nd z []
    rw [notIn_nil] at e0
    rw [e0, ← calls7_names] at hx
    obtain ⟨h, hh, rfl⟩ := List.mem_map.mp hx
    rw [o.st]
    exact List.mem_map.mpr ⟨h, (calls7_mem hh).1, rfl⟩
theorem Ok7.next {hs : List Hnd} {s s' : LoomS} {r : Row} (g : Now7 hs) (o : Ok7 hs s) (t : Tr7 hs s r s') : Ok7 hs s' := by
  cases t with
  | send z =>
    refine ⟨o.eh, o.time, o.soon, o.st, fun r hr => ?_, o.frs⟩
    have hr := (laterM_perm _ _).mem_iff.mp hr
    rcases List.mem_cons.mp hr with e | q
    · rw [e]; exact o.time
    · exact o.dues r q
  | fresh n e h he =>
    refine ⟨o.eh, o.time, o.soon, o.st, o.dues, fun f hf => ?_⟩
    rcases List.mem_append.mp hf with q | q
    · exact o.frs f q
    · rw [List.mem_singleton.mp q]
      exact ⟨fun d hd => absurd hd List.not_mem_nil, called_at g o _⟩
  | late n r e h0 h1 h he =>
    refine ⟨o.eh, rfl, o.soon, o.st, fun r hr => o.dues r (by rw [h]; exact List.mem_cons_of_mem _ hr), fun f hf => ?_⟩
    rw [List.mem_singleton.mp hf]
    exact ⟨fun d hd => absurd hd List.not_mem_nil, called_at g o _⟩
  | now fs f z D =>
    refine ⟨o.eh, o.time, o.soon, o.st, o.dues, fun f' hf => ?_⟩
    rcases List.mem_append.mp hf with q | q
    · exact o.frs f' (by rw [D.h1]; exact List.mem_append_left _ q)
    · rw [List.mem_singleton.mp q]
      exact o.frs f (by rw [D.h1]; simp)
  | call fs f c rest h h0 h1 h2 h3 h4 =>
    refine ⟨o.eh, o.time, o.soon, o.st, o.dues, fun f' hf => ?_⟩
    rcases List.mem_append.mp hf with q | q
    · exact o.frs f' (by rw [h1]; exact List.mem_append_left _ q)
    · rw [List.mem_singleton.mp q]
      exact ⟨g.now h (handlerOf_mem h4).1, fun c' hc' => (o.frs f (by rw [h1]; simp)).2 c' (by rw [h3]; exact List.mem_cons_of_mem _ hc')⟩
  | fin fs f h0 h1 h2 h3 => exact ⟨o.eh, o.time, o.soon, o.st, o.dues, fun f' hf => o.frs f' (by rw [h1]; exact List.mem_append_left _ hf)⟩
/-! ### how much is still to come -/
def wtI (F : Str → Nat) : Wt → Nat
  | .call _ => 1 | .make z => 1 + F z | .fin => 1
def wtL (F : Str → Nat) (l : List Wt) : Nat := (l.map (wtI F)).sum
theorem wtL_cons (F : Str → Nat) (x : Wt) (l : List Wt) : wtL F (x :: l) = wtI F x + wtL F l := rfl
theorem wtL_app (F : Str → Nat) (a b : List Wt) : wtL F (a ++ b) = wtL F a + wtL F b := by unfold wtL; rw [List.map_append, List.sum_append]
def frW (F : Str → Nat) (E : List Evt) : Option Nat → Nat
  | some n => F (wOf E n) | none => 0
def rwW (F : Str → Nat) (E : List Evt) (l : List (Int × Nat)) : Nat := (l.map fun r => F (wOf E r.2)).sum
def fmW (F : Str → Nat) (hs : List Hnd) (l : List Frm) : Nat := (l.map fun f => wtL F (pend hs f)).sum
def toCome (F : Str → Nat) (hs : List Hnd) (s : LoomS) : Nat := frW F s.events s.fresh + fmW F hs s.frames + rwW F s.events s.rows
theorem fmW_snoc (F : Str → Nat) (hs : List Hnd) (l : List Frm) (f : Frm) : fmW F hs (l ++ [f]) = fmW F hs l + wtL F (pend hs f) := by
  unfold fmW
  rw [List.map_append, List.sum_append]
  simp
theorem rwW_old {F : Str → Nat} {E : List Evt} {l : List (Int × Nat)} (h : ∀ r ∈ l, r.2 < E.length) (e : Evt) : rwW F (E ++ [e]) l = rwW F E l := by
  unfold rwW
  congr 1
  exact List.map_congr_left fun r hr => by rw [wOf_old (h r hr)]
theorem rwW_perm {F : Str → Nat} {E : List Evt} {a b : List (Int × Nat)} (p : a.Perm b) : rwW F E a = rwW F E b := (p.map _).sum_nat
structure Fix7 (F : Str → Nat) (ws : List Str) (hs : List Hnd) : Prop where
  fx : ∀ z ∈ ws, F z = 1 + wtL F (wanted7 hs z)
  dd : ∀ h ∈ hs, ∀ d ∈ h.deeds, d.w7 ∈ ws
structure Wd7 (ws : List Str) (s : LoomS) : Prop where
  ev : ∀ e ∈ s.events, e.word ∈ ws
  fr : ∀ f ∈ s.frames, ∀ d ∈ f.deeds, d.w7 ∈ ws
theorem Tr7.wd {ws : List Str} {F : Str → Nat} {hs : List Hnd} {s s' : LoomS} {r : Row} (x : Fix7 F ws hs) (v : Wd7 ws s) (t : Tr7 hs s r s') (ns : r.isSend = false) : Wd7 ws s' := by
  cases t with
  | send z => cases ns
  | fresh n e h he =>
    refine ⟨v.ev, fun f hf => ?_⟩
    rcases List.mem_append.mp hf with q | q
    · exact v.fr f q
    · rw [List.mem_singleton.mp q]; exact fun d hd => absurd hd List.not_mem_nil
  | late n r e h0 h1 h he =>
    refine ⟨v.ev, fun f hf => ?_⟩
    rw [List.mem_singleton.mp hf]; exact fun d hd => absurd hd List.not_mem_nil
  | now fs f z D =>
    have hf0 : f ∈ s.frames := by rw [D.h1]; simp
    refine ⟨fun e he => ?_, fun f' hf => ?_⟩
    · rcases List.mem_append.mp he with q | q
      · exact v.ev e q
      · rw [List.mem_singleton.mp q]
        exact v.fr f hf0 _ (List.mem_of_getElem? D.h2)
    · rcases List.mem_append.mp hf with q | q
      · exact v.fr f' (by rw [D.h1]; exact List.mem_append_left _ q)
      · rw [List.mem_singleton.mp q]; exact v.fr f hf0
  | call fs f c rest h h0 h1 h2 h3 h4 =>
    refine ⟨v.ev, fun f' hf => ?_⟩
    rcases List.mem_append.mp hf with q | q
    · exact v.fr f' (by rw [h1]; exact List.mem_append_left _ q)
    · rw [List.mem_singleton.mp q]; exact x.dd h (handlerOf_mem h4).1
  | fin fs f h0 h1 h2 h3 => exact ⟨v.ev, fun f' hf => v.fr f' (by rw [h1]; exact List.mem_append_left _ hf)⟩
/-- each step does one of what is to come -/
theorem Tr7.one {ws : List Str} {F : Str → Nat} {hs : List Hnd} {s s' : LoomS} {r : Row} (g : Now7 hs) (o : Ok7 hs s) (w : Wf s) (x : Fix7 F ws hs) (v : Wd7 ws s) (t : Tr7 hs s r s') (ns : r.isSend = false) : toCome F hs s = toCome F hs s' + 1 := by
  have hr : ∀ r ∈ s.rows, r.2 < s.events.length := fun r hr => w.line r.2 (List.mem_append.mpr (.inr (List.mem_map_of_mem hr)))
  cases t with
  | send z => cases ns
  | fresh n e h he =>
    have e1 := x.fx e.word (v.ev e (List.mem_of_getElem? he))
    unfold toCome
    show _ = 0 + fmW F hs (s.frames ++ [_]) + rwW F s.events s.rows + 1
    rw [fmW_snoc, pend_new o.eh g.nd o.st, h]
    show F (wOf s.events n) + _ + _ = _
    rw [wOf_at he, e1]
    omega
  | late n r e h0 h1 h he =>
    have e1 := x.fx e.word (v.ev e (List.mem_of_getElem? he))
    unfold toCome
    show _ = frW F s.events s.fresh + fmW F hs ([] ++ [_]) + rwW F s.events r + 1
    rw [fmW_snoc, pend_new o.eh g.nd o.st, h1, h]
    have : rwW F s.events ((0, n) :: r) = F (wOf s.events n) + rwW F s.events r := rfl
    rw [this, wOf_at he, e1]
    omega
  | now fs f z D =>
    unfold toCome
    show _ = F (wOf (s.events ++ [_]) s.events.length) + fmW F hs (fs ++ [_]) + rwW F (s.events ++ [_]) s.rows + 1
    rw [wOf_new, rwW_old hr, fmW_snoc, D.h1, fmW_snoc, pend_now D.h2, wtL_cons, D.h0]
    show 0 + (fmW F hs fs + (1 + F z + _)) + _ = F z + _ + _ + 1
    omega
  | call fs f c rest h h0 h1 h2 h3 h4 =>
    unfold toCome
    show _ = frW F s.events s.fresh + fmW F hs (fs ++ [_]) + rwW F s.events s.rows + 1
    rw [fmW_snoc, h1, fmW_snoc, pend_call h2 h3 h4, wtL_cons]
    show _ + (_ + (1 + _)) + _ = _
    omega
  | fin fs f h0 h1 h2 h3 =>
    unfold toCome
    show _ = frW F s.events s.fresh + fmW F hs fs + rwW F s.events s.rows + 1
    rw [h1, fmW_snoc, pend_fin h2 h3]
    show _ + (_ + 1) + _ = _
    omega
def NoSend (s s' : LoomS) : Prop := s'.log = s.log ∨ ∃ r, s'.log = s.log ++ [r] ∧ r.isSend = false
theorem begin_ns (s0 s : LoomS) (e : s.log = s0.log) (n : Nat) : NoSend s0 (s.beginM n) := by
  unfold LoomS.beginM
  split
  · exact .inr ⟨.begin n s.time, by show s.log ++ [_] = _; rw [e], rfl⟩
  · exact .inl e
theorem do_ns (s0 s : LoomS) (e : s.log = s0.log) (n : Nat) (d : Deed) : NoSend s0 (s.doM n d) := by
  cases d with
  | now z => exact .inr ⟨.make n s.events.length, by show s.log ++ [_] = _; rw [e], rfl⟩
  | soon z => exact .inr ⟨.make n s.events.length, by show s.log ++ [_] = _; rw [e], rfl⟩
  | wait t z => exact .inr ⟨.make n s.events.length, by show s.log ++ [_] = _; rw [e], rfl⟩
  | cancel z => exact .inr ⟨_, by show s.log ++ [_] = _; rw [e], rfl⟩
  | join x => exact .inr ⟨.join n x, by show (s.come x).log ++ [_] = _; rw [come_eq]; show s.log ++ [_] = _; rw [e], rfl⟩
  | leave x => exact .inr ⟨.leave n x, by show s.log ++ [_] = _; rw [e], rfl⟩
  | hush => exact .inr ⟨.hush n, by show s.log ++ [_] = _; rw [e], rfl⟩
theorem step_ns {s s' : LoomS} (h : s.stepM = some s') : NoSend s s' := by
  unfold LoomS.stepM at h
  split at h
  · cases h; exact begin_ns _ _ rfl _
  · split at h
    · rename_i f hf
      cases h
      unfold LoomS.goOnM
      split
      · exact do_ns _ _ rfl _ _
      · split
        · rename_i c rest _
          split
          · rename_i hh _
            unfold LoomS.callM
            dsimp only
            split
            · exact .inr ⟨.call f.number c.1, rfl, rfl⟩
            · exact .inr ⟨.call f.number c.1, rfl, rfl⟩
          · exact .inl rfl
        · exact .inr ⟨.fin f.number, rfl, rfl⟩
    · split at h
      · cases h; exact begin_ns _ _ rfl _
      · split at h
        · cases h; exact begin_ns _ _ rfl _
        · cases h
theorem step_notsend {s s' : LoomS} {r : Row} (h : s.stepM = some s') (t : Tr s r s') : r.isSend = false := by
  rcases step_ns h with e | ⟨r', e, q⟩
  · rw [t.log] at e
    have := congrArg List.length e
    simp at this
  · rw [t.log] at e
    have := List.append_cancel_left e
    cases this
    exact q
/-- so many steps, and it is idle -/
theorem run7 {ws : List Str} {F : Str → Nat} {hs : List Hnd} (g : Now7 hs) (x : Fix7 F ws hs) : ∀ (k : Nat) {s : LoomS}, Ok7 hs s → Wf s → Wd7 ws s → toCome F hs s ≤ k → (s.runM k).1.stepM = none ∧ (s.runM k).2 ≤ toCome F hs s ∧ Wd7 ws (s.runM k).1
  | 0, s, o, w, v, hk => by
    show s.stepM = none ∧ 0 ≤ _ ∧ Wd7 ws s
    refine ⟨?_, Nat.zero_le _, v⟩
    cases e : s.stepM with
    | none => rfl
    | some s' =>
      obtain ⟨r, t⟩ := step_tr w e
      have := (o.tr g t).one g o w x v (step_notsend e t)
      omega
  | k + 1, s, o, w, v, hk => by
    rw [LoomS.runM]
    cases e : s.stepM with
    | none => exact ⟨e, Nat.zero_le _, v⟩
    | some s' =>
      obtain ⟨r, t⟩ := step_tr w e
      have ns := step_notsend e t
      have t7 := o.tr g t
      have h1 := t7.one g o w x v ns
      obtain ⟨a, b, c⟩ := run7 g x k (o.next g t7) (w.stepM e) (t7.wd x v ns) (by omega)
      dsimp only
      exact ⟨a, by omega, c⟩
/-! ### the count -/
def FF (hs : List Hnd) : Nat → Str → Nat
  | 0, _ => 0
  | i + 1, z => 1 + wtL (FF hs i) (wanted7 hs z)
structure G7 (ws : List Str) (hs : List Hnd) : Prop where
  len : hs.length ≤ 6
  nd : (hs.map Hnd.name).Nodup
  once : ∀ h ∈ hs, h.once = false
  w4 : ws.length = 4
  wnd : ws.Nodup
  ne : ∀ z ∈ ws, z ≠ Str.empty
  dd : ∀ h ∈ hs, h.deeds = [] ∨ (∃ i : Nat, ws[i]? = some h.hears ∧ h.deeds.length ≤ 3 ∧ ∀ d ∈ h.deeds, ∃ (j : Nat) (z : Str), i < j ∧ ws[j]? = some z ∧ d = .now z)
def wtH (F : Str → Nat) (h : Hnd) : Nat := 1 + (h.deeds.map fun d => 1 + F d.w7).sum
theorem wt_items (F : Str → Nat) (h : Hnd) : wtL F (itemsOf h) = wtH F h := by
  unfold itemsOf wtH
  rw [wtL_cons]
  show 1 + ((h.deeds.map fun d => Wt.make d.w7).map (wtI F)).sum = _
  rw [List.map_map]
  rfl
theorem wt_flat (F : Str → Nat) : ∀ l : List Hnd, wtL F (l.flatMap itemsOf) = (l.map (wtH F)).sum
  | [] => rfl
  | h :: l => by rw [List.flatMap_cons, wtL_app, wt_items, wt_flat F l]; rfl
theorem wt_wanted (F : Str → Nat) (hs : List Hnd) (z : Str) : wtL F (wanted7 hs z) = ((calls7 hs z).map (wtH F)).sum + 1 := by
  unfold wanted7
  rw [wtL_app, wt_flat]
  rfl
theorem G7.at {ws : List Str} {hs : List Hnd} (g : G7 ws hs) {k : Nat} {z : Str} (hz : ws[k]? = some z) {h : Hnd} (m : h ∈ calls7 hs z) : h.deeds.length ≤ 3 ∧ (∀ d ∈ h.deeds, ∃ (j : Nat) (z : Str), k < j ∧ ws[j]? = some z ∧ d = .now z) ∧ (h.deeds ≠ [] → h.hears = z) := by
  obtain ⟨m1, m2⟩ := calls7_mem m
  rcases g.dd h m1 with e | ⟨i, hi, h3, hd⟩
  · rw [e]
    exact ⟨by simp, fun d hd => by simp at hd, fun n => absurd rfl n⟩
  · have hm : h.hears ∈ (["", z] : List Str) := of_decide_eq_true m2
    have e : h.hears = z := by
      rcases List.mem_cons.mp hm with e | e
      · exact absurd e (g.ne _ (List.mem_of_getElem? hi))
      · exact List.mem_singleton.mp e
    rw [e, ← hz] at hi
    have hk : k < ws.length := (List.getElem?_eq_some_iff.mp hz).1
    have : i = k := ((List.getElem?_inj hk g.wnd).mp hi.symm).symm
    subst this
    exact ⟨h3, hd, fun _ => e⟩
theorem wtH_congr {F F' : Str → Nat} {h : Hnd} (e : ∀ d ∈ h.deeds, F d.w7 = F' d.w7) : wtH F h = wtH F' h := by
  unfold wtH
  congr 2
  exact List.map_congr_left fun d hd => by rw [e d hd]
theorem FF_stable {ws : List Str} {hs : List Hnd} (g : G7 ws hs) : ∀ (i k : Nat) (z : Str), ws[k]? = some z → 4 ≤ i + k → FF hs (i + 1) z = FF hs i z
  | 0, k, z, hz, h => by
    have := (List.getElem?_eq_some_iff.mp hz).1
    rw [g.w4] at this
    omega
  | i + 1, k, z, hz, h => by
    show 1 + wtL (FF hs (i + 1)) (wanted7 hs z) = 1 + wtL (FF hs i) (wanted7 hs z)
    rw [wt_wanted, wt_wanted]
    congr 3
    refine List.map_congr_left fun hh hm => wtH_congr fun d hd => ?_
    obtain ⟨j, y, hj, hy, rfl⟩ := (g.at hz hm).2.1 d hd
    exact FF_stable g i j y hy (by omega)
def cnt7 (ws : List Str) (hs : List Hnd) (k : Nat) : Nat := (hs.filter fun h => decide (ws[k]? = some h.hears)).length
def Bd (ws : List Str) (hs : List Hnd) : Nat → Nat
  | 0 => 9
  | n + 1 => Bd ws hs n * (1 + 3 * cnt7 ws hs (2 - n))
theorem Bd_mono (ws : List Str) (hs : List Hnd) {a b : Nat} (h : a ≤ b) : Bd ws hs a ≤ Bd ws hs b := by
  induction h with
  | refl => exact Nat.le_refl _
  | step _ ih => exact Nat.le_trans ih (Nat.le_mul_of_pos_right _ (by omega))
theorem sum_le7 {M : Nat} {p : Hnd → Bool} {f : Hnd → Nat} : ∀ {l : List Hnd}, (∀ h ∈ l, f h ≤ 1 + if p h then M else 0) → (l.map f).sum ≤ l.length + (l.filter p).length * M
  | [], _ => by simp
  | h :: l, q => by
    have ih := sum_le7 (l := l) fun g hg => q g (List.mem_cons_of_mem _ hg)
    have h1 := q h List.mem_cons_self
    rw [List.map_cons, List.sum_cons, List.filter_cons, List.length_cons]
    cases e : p h with
    | true =>
      rw [e, if_pos rfl] at h1
      rw [if_pos rfl, List.length_cons, Nat.add_mul]
      omega
    | false =>
      rw [e, if_neg Bool.false_ne_true] at h1
      rw [if_neg Bool.false_ne_true]
      omega
theorem sum_deeds {F : Str → Nat} {M : Nat} : ∀ {l : List Deed}, (∀ d ∈ l, 1 + F d.w7 ≤ M) → (l.map fun d => 1 + F d.w7).sum ≤ l.length * M
  | [], _ => by simp
  | d :: l, q => by
    have ih := sum_deeds (l := l) fun g hg => q g (List.mem_cons_of_mem _ hg)
    have h1 := q d List.mem_cons_self
    rw [List.map_cons, List.sum_cons, List.length_cons, Nat.add_mul]
    omega
theorem FF_le {ws : List Str} {hs : List Hnd} (g : G7 ws hs) : ∀ (i k : Nat) (z : Str), ws[k]? = some z → 1 + FF hs i z ≤ Bd ws hs (3 - k)
  | 0, k, z, hz => by
    show 1 + 0 ≤ _
    exact Nat.le_trans (show 1 ≤ 9 by omega) (Bd_mono ws hs (Nat.zero_le _))
  | i + 1, k, z, hz => by
    have hk : k < 4 := by
      have := (List.getElem?_eq_some_iff.mp hz).1
      rw [g.w4] at this
      omega
    show 1 + (1 + wtL (FF hs i) (wanted7 hs z)) ≤ _
    rw [wt_wanted]
    have pm := calls7_perm hs z
    have l6 : (calls7 hs z).length ≤ 6 := by
      rw [pm.length_eq]
      exact Nat.le_trans (List.length_filter_le _ _) g.len
    by_cases h3 : k = 3
    · have h0 := sum_le7 (M := 0) (p := fun _ => false) (f := wtH (FF hs i)) (l := calls7 hs z) fun h hm => by
        have e : h.deeds = [] := by
          cases ed : h.deeds with
          | nil => rfl
          | cons d r =>
            obtain ⟨j, y, hj, hy, _⟩ := (g.at hz hm).2.1 d (by rw [ed]; exact List.mem_cons_self)
            have := (List.getElem?_eq_some_iff.mp hy).1
            rw [g.w4] at this
            omega
        unfold wtH
        rw [e]
        exact Nat.le_refl _
      subst h3
      show _ ≤ 9
      simp at h0
      omega
    · obtain ⟨n, hn⟩ : ∃ n, 3 - k = n + 1 := ⟨2 - k, by omega⟩
      have hkn : k = 2 - n := by omega
      rw [hn]
      show _ ≤ Bd ws hs n * (1 + 3 * cnt7 ws hs (2 - n))
      rw [← hkn]
      have h0 := sum_le7 (M := 3 * Bd ws hs n) (p := fun h => decide (ws[k]? = some h.hears)) (f := wtH (FF hs i)) (l := calls7 hs z) fun h hm => by
        obtain ⟨a1, a2, a3⟩ := g.at hz hm
        unfold wtH
        by_cases ed : h.deeds = []
        · rw [ed]
          show 1 + 0 ≤ _
          omega
        · rw [if_pos (by rw [hz, a3 ed]; simp)]
          have := sum_deeds (F := FF hs i) (M := Bd ws hs n) (l := h.deeds) fun d hd => by
            obtain ⟨j, y, hj, hy, rfl⟩ := a2 d hd
            exact Nat.le_trans (FF_le g i j y hy) (Bd_mono ws hs (by omega))
          have m3 : h.deeds.length * Bd ws hs n ≤ 3 * Bd ws hs n := Nat.mul_le_mul_right _ a1
          omega
      have cc : ((calls7 hs z).filter fun h => decide (ws[k]? = some h.hears)).length ≤ cnt7 ws hs k := by
        rw [(pm.filter _).length_eq]
        exact (List.Sublist.filter _ List.filter_sublist).length_le
      have B9 : 9 ≤ Bd ws hs n := Bd_mono ws hs (Nat.zero_le n)
      have m := Nat.mul_le_mul_right (3 * Bd ws hs n) cc
      have e : Bd ws hs n * (1 + 3 * cnt7 ws hs k) = Bd ws hs n + cnt7 ws hs k * (3 * Bd ws hs n) := by
        rw [Nat.mul_add, Nat.mul_one, ← Nat.mul_assoc, Nat.mul_comm (cnt7 ws hs k), Nat.mul_comm 3]
      omega
theorem cnt7_sum {ws : List Str} (hs : List Hnd) (w4 : ws.length = 4) (nd : ws.Nodup) : cnt7 ws hs 0 + cnt7 ws hs 1 + cnt7 ws hs 2 ≤ hs.length := by
  have df : ∀ i j : Nat, i < 4 → i ≠ j → ∀ h : Hnd, ws[i]? = some h.hears → ws[j]? ≠ some h.hears := fun i j hi n h e e2 => n ((List.getElem?_inj (by omega) nd).mp (e.trans e2.symm))
  induction hs with
  | nil => exact Nat.le_refl _
  | cons h l ih =>
    unfold cnt7 at *
    rw [List.filter_cons, List.filter_cons, List.filter_cons, List.length_cons]
    by_cases h0 : ws[0]? = some h.hears
    · have h1 := df 0 1 (by omega) (by omega) h h0
      have h2 := df 0 2 (by omega) (by omega) h h0
      rw [if_pos (decide_eq_true h0), if_neg (by simpa using h1), if_neg (by simpa using h2), List.length_cons]
      omega
    · rw [if_neg (by simpa using h0)]
      by_cases h1 : ws[1]? = some h.hears
      · have h2 := df 1 2 (by omega) (by omega) h h1
        rw [if_pos (decide_eq_true h1), if_neg (by simpa using h2), List.length_cons]
        omega
      · rw [if_neg (by simpa using h1)]
        split
        · rw [List.length_cons]; omega
        · omega
theorem FF_few {ws : List Str} {hs : List Hnd} (g : G7 ws hs) {z : Str} (hz : z ∈ ws) (i : Nat) : FF hs i z ≤ 4000 := by
  obtain ⟨k, hk⟩ := List.getElem?_of_mem hz
  have h1 := FF_le g i k z hk
  have h2 := Bd_mono ws hs (show 3 - k ≤ 3 by omega)
  have h3 : Bd ws hs 3 ≤ 4000 := by
    show 9 * (1 + 3 * cnt7 ws hs 2) * (1 + 3 * cnt7 ws hs 1) * (1 + 3 * cnt7 ws hs 0) ≤ 4000
    have hc := cnt7_sum hs g.w4 g.wnd
    have hl := g.len
    generalize cnt7 ws hs 0 = a at *
    generalize cnt7 ws hs 1 = b at *
    generalize cnt7 ws hs 2 = c at *
    have key : ∀ a < 7, ∀ b < 7, ∀ c < 7, a + b + c ≤ 6 → 9 * (1 + 3 * c) * (1 + 3 * b) * (1 + 3 * a) ≤ 4000 := by decide +kernel
    exact key a (by omega) b (by omega) c (by omega) (by omega)
  omega
theorem G7.now7 {ws : List Str} {hs : List Hnd} (g : G7 ws hs) : Now7 hs := ⟨g.nd, g.once, fun h hh d hd => by
  rcases g.dd h hh with e | ⟨i, _, _, q⟩
  · rw [e] at hd; simp at hd
  · obtain ⟨_, z, _, _, e⟩ := q d hd
    exact ⟨z, e⟩⟩
theorem G7.fix {ws : List Str} {hs : List Hnd} (g : G7 ws hs) : Fix7 (FF hs 4) ws hs := ⟨fun z hz => by
  obtain ⟨k, hk⟩ := List.getElem?_of_mem hz
  exact (FF_stable g 4 k z hk (by omega)).symm, fun h hh d hd => by
  rcases g.dd h hh with e | ⟨i, _, _, q⟩
  · rw [e] at hd; simp at hd
  · obtain ⟨_, z, _, hz, e⟩ := q d hd
    rw [e]
    exact List.mem_of_getElem? hz⟩
/-! ### the law's own way along the rows -/
structure B7 where
  around : List (Nat × List Wt)
  born : Option Nat
  met : List Nat
def B7.pop (o : B7) (n : Nat) : List (Nat × List Wt) := o.around.dropLast ++ [(n, (o.around.getLast?.map fun p => p.2.tail).getD [])]
def B7.step (hs : List Hnd) (E : List Evt) (o : B7) : Row → B7
  | .begin n _ => ⟨o.around ++ [(n, wanted7 hs (wOf E n))], none, o.met ++ [n]⟩
  | .call n _ => { o with around := o.pop n }
  | .make n b => { o with around := o.pop n, born := some b }
  | .fin _ => { o with around := o.around.dropLast }
  | _ => o
def ok7 (E : List Evt) (o : B7) : Row → Prop
  | .send _ => True
  | .begin n t => n ∉ o.met ∧ (∀ b, o.born = some b → b = n) ∧ t = 0 ∧ (o.born = none → o.around = []) ∧ n < E.length
  | .call n x => o.born = none ∧ ∃ fs w, o.around = fs ++ [(n, .call x :: w)]
  | .make n b => o.born = none ∧ ∃ fs z w, o.around = fs ++ [(n, .make z :: w)] ∧ E[b]? = some ⟨z, some n, .now, 0⟩
  | .fin n => o.born = none ∧ ∃ fs, o.around = fs ++ [(n, [.fin])]
  | _ => False
structure Inv7 (hs : List Hnd) (s : LoomS) (o : B7) : Prop where
  ok : Ok7 hs s
  bn : o.born = s.fresh
  ar : o.around = s.frames.map fun f => (f.number, pend hs f)
  met : (o.met ++ (s.fresh.toList ++ s.rows.map Prod.snd)).Perm (List.range s.events.length)
theorem inv7 {hs : List Hnd} (g : Now7 hs) {E : List Evt} {s s' : LoomS} {r : Row} {o : B7} (v : Inv7 hs s o) (t : Tr s r s') (pe : s'.events <+: E) : ok7 E o r ∧ Inv7 hs s' (o.step hs E r) := by
  have t7 := v.ok.tr g t
  have on := v.ok.next g t7
  have pm := v.met
  have nd : (o.met ++ (s.fresh.toList ++ s.rows.map Prod.snd)).Nodup := pm.nodup_iff.mpr List.nodup_range
  have pop : ∀ {fs : List Frm} {f : Frm} {x : Wt} {w : List Wt}, s.frames = fs ++ [f] → pend hs f = x :: w → o.around = (fs.map fun f => (f.number, pend hs f)) ++ [(f.number, x :: w)] ∧ ∀ n, o.pop n = (fs.map fun f => (f.number, pend hs f)) ++ [(n, w)] := fun {fs f x w} h1 h2 => by
    have e : o.around = (fs.map fun f => (f.number, pend hs f)) ++ [(f.number, x :: w)] := by
      rw [v.ar, h1, List.map_append, ← h2]
      rfl
    refine ⟨e, fun n => ?_⟩
    unfold B7.pop
    rw [e, List.dropLast_concat, List.getLast?_concat]
    rfl
  cases t7 with
  | send z =>
    refine ⟨trivial, on, v.bn, v.ar, ?_⟩
    show (o.met ++ (s.fresh.toList ++ (laterM s.rows (s.time, s.events.length)).map Prod.snd)).Perm (List.range (s.events ++ [_]).length)
    have p1 := (laterM_perm s.rows (s.time, s.events.length)).map Prod.snd
    rw [List.length_append, List.length_singleton, List.range_succ]
    refine ((p1.append_left _).append_left _).trans ?_
    show (o.met ++ (s.fresh.toList ++ s.events.length :: s.rows.map Prod.snd)).Perm _
    rw [← List.append_assoc]
    refine List.perm_middle.trans ?_
    rw [List.append_assoc]
    exact (pm.cons _).trans (List.perm_append_singleton _ _).symm
  | fresh n e h he =>
    have eb : o.born = some n := v.bn.trans h
    have hE := pre_get pe he
    rw [h] at nd
    refine ⟨⟨fun q => ?_, fun b q => ?_, v.ok.time, fun q => ?_, (List.getElem?_eq_some_iff.mp hE).1⟩, on, rfl, ?_, ?_⟩
    · exact (List.nodup_append.mp nd).2.2 n q n (by simp) rfl
    · rw [eb] at q; exact (Option.some.inj q).symm
    · rw [eb] at q; cases q
    · show o.around ++ [_] = (s.frames ++ [_]).map _
      rw [List.map_append, v.ar, wOf_at hE]
      show _ = _ ++ [(n, pend hs ⟨n, calledM s e.word, [], 0⟩)]
      rw [pend_new v.ok.eh g.nd v.ok.st]
    · rw [h] at pm
      show ((o.met ++ [n]) ++ ([] ++ _)).Perm _
      rw [List.append_assoc]
      exact pm
  | late n r e h0 h1 h he =>
    have eb : o.born = none := v.bn.trans h0
    have hE := pre_get pe he
    rw [h0, h] at nd pm
    refine ⟨⟨fun q => ?_, fun b q => ?_, rfl, fun q => ?_, (List.getElem?_eq_some_iff.mp hE).1⟩, on, h0.symm, ?_, ?_⟩
    · exact (List.nodup_append.mp nd).2.2 n q n (by simp) rfl
    · rw [eb] at q; cases q
    · rw [v.ar, h1]; rfl
    · show o.around ++ [_] = [_]
      rw [v.ar, h1, wOf_at hE]
      show [(n, wanted7 hs e.word)] = [(n, pend hs ⟨n, calledM s e.word, [], 0⟩)]
      rw [pend_new v.ok.eh g.nd v.ok.st]
    · show ((o.met ++ [n]) ++ (s.fresh.toList ++ r.map Prod.snd)).Perm _
      rw [h0, List.append_assoc]
      exact pm
  | now fs f z D =>
    obtain ⟨e1, e2⟩ := pop D.h1 (pend_now D.h2)
    obtain ⟨q1, _⟩ := pre_at pe
    rw [v.ok.time] at q1
    refine ⟨⟨v.bn.trans D.h0, _, z, _, e1, q1⟩, on, rfl, ?_, ?_⟩
    · show o.pop f.number = (fs ++ [f.on]).map _
      rw [e2, List.map_append]
      rfl
    · show (o.met ++ ([s.events.length] ++ s.rows.map Prod.snd)).Perm (List.range (s.events ++ [_]).length)
      rw [D.h0] at pm
      rw [List.length_append, List.length_singleton, List.range_succ]
      refine List.perm_middle.trans ?_
      exact (pm.cons _).trans (List.perm_append_singleton _ _).symm
  | call fs f c rest h h0 h1 h2 h3 h4 =>
    obtain ⟨e1, e2⟩ := pop h1 (pend_call h2 h3 h4)
    refine ⟨⟨v.bn.trans h0, _, _, e1⟩, on, v.bn, ?_, pm⟩
    show o.pop f.number = (fs ++ [_]).map _
    rw [e2, List.map_append]
    rfl
  | fin fs f h0 h1 h2 h3 =>
    obtain ⟨e1, _⟩ := pop h1 (pend_fin h2 h3)
    refine ⟨⟨v.bn.trans h0, _, e1⟩, on, v.bn, ?_, pm⟩
    show o.around.dropLast = fs.map _
    rw [e1, List.dropLast_concat]
/-- the whole log is good -/
theorem log7 {hs : List Hnd} {s0 : LoomS} (g : Now7 hs) (w0 : Wf s0) (o0 : Ok7 hs s0) (l0 : s0.log = []) (e0 : s0.events = []) (f0 : s0.fresh = none) (m0 : s0.frames = []) (r0 : s0.rows = []) {s : LoomS} (h : Reach s0 s) :
    Tra (ok7 s.events) (B7.step hs s.events) ⟨[], none, []⟩ s.log ∧ Inv7 hs s (s.log.foldl (B7.step hs s.events) ⟨[], none, []⟩) :=
  book w0 l0 (B7.step hs) ok7 (fun _ s o => Inv7 hs s o) ⟨[], none, []⟩ (fun E _ => ⟨o0, f0.symm, by rw [m0]; rfl, by rw [f0, r0, e0]; exact .refl _⟩) (fun E s s' r o _ _ t p v => inv7 g v t p) s h s.events (List.prefix_refl _)
theorem comes7 : ∀ (ns : List Str) (s : LoomS), ns.Nodup → (∀ x ∈ ns, x ∉ s.stands.map Prod.fst) → (ns.foldl LoomS.come s).stands.map Prod.fst = s.stands.map Prod.fst ++ ns
  | [], s, _, _ => by simp
  | x :: ns, s, nd, h => by
    have nd' := List.nodup_cons.mp nd
    have e : lk s.stands x = none := lk_none.mpr (h x (List.mem_cons_self ..))
    have ec : s.come x = { s with stood := s.stood + 1, stands := s.stands ++ [(x, s.stood + 1)] } := by unfold LoomS.come; rw [e]; rfl
    have e2 : (s.come x).stands.map Prod.fst = s.stands.map Prod.fst ++ [x] := by rw [ec]; simp
    have ih := comes7 ns (s.come x) nd'.2 fun y hy q => by
      rw [e2] at q
      rcases List.mem_append.mp q with q | q
      · exact h y (List.mem_cons_of_mem _ hy) q
      · rw [List.mem_singleton.mp q] at hy
        exact nd'.1 hy
    rw [List.foldl_cons, ih, e2]
    simp
theorem init_st7 (hs : List Hnd) {nn : List Str} (nd : nn.Nodup) : (LoomS.init hs nn).stands.map Prod.fst = nn := by
  have := comes7 nn (LoomS.zero hs) nd (fun x _ q => nomatch q)
  exact this
theorem init_ok7 {hs : List Hnd} (nd : (hs.map Hnd.name).Nodup) : Ok7 hs (LoomS.init hs (hs.map Hnd.name)) := by
  obtain ⟨e1, e2, e3, e4, e5, e6, e7, e8⟩ := init_log hs (hs.map Hnd.name)
  refine ⟨e8, e7, e5, ?_, fun r hr => by rw [e6] at hr; simp at hr, fun f hf => by rw [e3] at hf; simp at hf⟩
  exact init_st7 hs nd
/-- words that are sent wait -/
structure S7 (ws : List Str) (hs : List Hnd) (i : Nat) (s : LoomS) : Prop where
  re : Reach (LoomS.init hs (hs.map Hnd.name)) s
  ok : Ok7 hs s
  wd : Wd7 ws s
  fr : s.fresh = none
  fm : s.frames = []
  lg : s.log.length ≤ i
  tc : toCome (FF hs 4) hs s ≤ 4000 * i
theorem S7.zero {ws : List Str} {hs : List Hnd} (g : G7 ws hs) : S7 ws hs 0 (LoomS.init hs (hs.map Hnd.name)) := by
  obtain ⟨e1, e2, e3, e4, e5, e6, e7, e8⟩ := init_log hs (hs.map Hnd.name)
  refine ⟨.zero, init_ok7 g.nd, ⟨fun e he => by rw [e2] at he; simp at he, fun f hf => by rw [e3] at hf; simp at hf⟩, e4, e3, by rw [e1]; exact Nat.le_refl _, ?_⟩
  unfold toCome
  rw [e4, e3, e6]
  exact Nat.le_refl _
theorem S7.send {ws : List Str} {hs : List Hnd} (g : G7 ws hs) (w0 : Wf (LoomS.init hs (hs.map Hnd.name))) {i : Nat} {s : LoomS} (h : S7 ws hs i s) {z : Str} (hz : isWord z = true) (hm : z ∈ ws) : S7 ws hs (i + 1) (s.sendM z) := by
  have w := h.re.wf w0
  have hr : ∀ r ∈ s.rows, r.2 < s.events.length := fun r hr => w.line r.2 (List.mem_append.mpr (.inr (List.mem_map_of_mem hr)))
  refine ⟨h.re.send w0 hz, h.ok.next g.now7 (.send z), ⟨fun e he => ?_, h.wd.fr⟩, h.fr, h.fm, ?_, ?_⟩
  · rcases List.mem_append.mp he with q | q
    · exact h.wd.ev e q
    · rw [List.mem_singleton.mp q]; exact hm
  · show (s.log ++ [_]).length ≤ i + 1
    rw [List.length_append, List.length_singleton]
    have := h.lg
    omega
  · have h1 := h.tc
    have h2 := FF_few g hm 4
    unfold toCome at h1 ⊢
    show frW _ _ s.fresh + fmW _ hs s.frames + rwW _ (s.events ++ [_]) (laterM s.rows (s.time, s.events.length)) ≤ _
    rw [rwW_perm (laterM_perm _ _), h.fr, h.fm]
    rw [h.fr, h.fm] at h1
    show 0 + 0 + (FF hs 4 (wOf (s.events ++ [_]) s.events.length) + rwW _ (s.events ++ [_]) s.rows) ≤ _
    rw [wOf_new, rwW_old hr]
    have h1 : 0 + 0 + rwW (FF hs 4) s.events s.rows ≤ 4000 * i := h1
    show 0 + 0 + (FF hs 4 z + _) ≤ _
    omega
theorem idle_all {s : LoomS} (h : s.stepM = none) : s.fresh = none ∧ s.frames = [] ∧ s.rows = [] := by
  unfold LoomS.stepM at h
  split at h
  · cases h
  · rename_i h0
    split at h
    · cases h
    · rename_i hf
      have h1 : s.frames = [] := List.getLast?_eq_none_iff.mp hf
      split at h
      · cases h
      · split at h
        · cases h
        · rename_i h3
          exact ⟨h0, h1, h3⟩
/-- the whole run -/
theorem S7.run {ws : List Str} {hs : List Hnd} (g : G7 ws hs) (w0 : Wf (LoomS.init hs (hs.map Hnd.name))) {i : Nat} (hi : i ≤ 2) {s : LoomS} (h : S7 ws hs i s) {k : Nat} (hk : 8000 ≤ k) :
    (s.runM k).2 ≤ 8000 ∧ (s.runM k).1.stepM = none ∧ (∀ e ∈ (s.runM k).1.events, e.word ∈ ws) ∧ Tra (ok7 (s.runM k).1.events) (B7.step hs (s.runM k).1.events) ⟨[], none, []⟩ (s.runM k).1.log ∧
    ((s.runM k).1.log.foldl (B7.step hs (s.runM k).1.events) ⟨[], none, []⟩).around = [] ∧ ((s.runM k).1.log.foldl (B7.step hs (s.runM k).1.events) ⟨[], none, []⟩).born = none ∧
    ((s.runM k).1.log.foldl (B7.step hs (s.runM k).1.events) ⟨[], none, []⟩).met.Perm (List.range (s.runM k).1.events.length) := by
  have w := h.re.wf w0
  have tc := h.tc
  obtain ⟨a, b, c⟩ := run7 g.now7 g.fix k h.ok w h.wd (by omega)
  obtain ⟨e1, e2, e3, e4, e5, e6, e7, e8⟩ := init_log hs (hs.map Hnd.name)
  obtain ⟨t, v⟩ := log7 g.now7 w0 (init_ok7 g.nd) e1 e2 e4 e3 e6 (h.re.run w0 k)
  obtain ⟨i1, i2, i3⟩ := idle_all a
  refine ⟨by omega, a, c.ev, t, ?_, v.bn.trans i1, ?_⟩
  · rw [v.ar, i2]
    rfl
  · have pm := v.met
    rw [i1, i3] at pm
    have e : ∀ l : List Nat, l ++ ((none : Option Nat).toList ++ ([] : List (Int × Nat)).map Prod.snd) = l := fun l => by simp
    rw [e] at pm
    exact pm
end Ev
namespace Ev
open PySem L2
/-! ### sorted pairs -/
def kOf (H : Hp) : V → Int × Int
  | .ref t => match H t with
    | some (.tup [.int a, .int b]) => (a, b)
    | _ => (0, 0)
  | _ => (0, 0)
theorem kOf_at {H : Hp} {v : V} {r : Int × Nat} (h : RwAt H v r) : kOf H v = (r.1, (r.2 : Int)) := by
  obtain ⟨p, rfl, h⟩ := h
  show (match H p with | some (.tup [.int a, .int b]) => (a, b) | _ => (0, 0)) = _
  rw [h]
  rfl
theorem pd_back {H : Hp} : ∀ {ys : List V} {rows : List (Int × Nat)}, (∀ y ∈ ys, ∃ d, RwAt H y d) → ys.map (kOf H) = rows.map (fun r => (r.1, (r.2 : Int))) → Paired (RwAt H) ys rows
  | [], [], _, _ => .nil
  | [], _ :: _, _, e => by simp at e
  | _ :: _, [], _, e => by simp at e
  | y :: ys, r :: rows, h, e => by
    rw [List.map_cons, List.map_cons, List.cons.injEq] at e
    obtain ⟨d, hd⟩ := h y (List.mem_cons_self ..)
    have ed := kOf_at hd
    rw [e.1] at ed
    have : r = d := by
      obtain ⟨a, b⟩ := r
      obtain ⟨a', b'⟩ := d
      have := Prod.mk.inj ed
      have h1 := this.1
      have h2 : (b : Int) = b' := this.2
      rw [show a = a' from h1, show b = b' by omega]
    rw [this]
    exact .cons hd (pd_back (fun z hz => h z (List.mem_cons_of_mem _ hz)) e.2)
theorem srt_rows {H : Hp} {xs ys : List V} {late rows : List (Int × Nat)} (pd : Paired (RwAt H) xs late) (pm : late.Perm rows) (up : Up rows) (s : SrtO.Srtd (ltP (kOf H)) ys) (st : SrtO.Stb (ltP (kOf H)) ys xs) : Paired (RwAt H) ys rows := by
  have hx : ∀ {xs : List V} {late : List (Int × Nat)}, Paired (RwAt H) xs late → xs.map (kOf H) = late.map (fun r => (r.1, (r.2 : Int))) ∧ ∀ x ∈ xs, ∃ d, RwAt H x d := by
    intro xs late p
    induction p with
    | nil => exact ⟨rfl, fun _ h => nomatch h⟩
    | cons r t ih =>
      refine ⟨?_, fun x hx => (List.mem_cons.mp hx).elim (fun e => e ▸ ⟨_, r⟩) (ih.2 x)⟩
      rw [List.map_cons, List.map_cons, kOf_at r, ih.1]
  obtain ⟨e1, e2⟩ := hx pd
  refine pd_back (fun y hy => e2 y (st.perm.mem_iff.mp hy)) ?_
  have p1 : (ys.map (kOf H)).Perm (rows.map (fun r => (r.1, (r.2 : Int)))) := (st.perm.map _).trans (by rw [e1]; exact pm.map _)
  refine List.Perm.eq_of_pairwise (le := fun a b : Int × Int => a.1 < b.1 ∨ (a.1 = b.1 ∧ a.2 ≤ b.2)) (fun a b _ _ h1 h2 => Prod.ext (by omega) (by omega)) ?_ ?_ p1
  · rw [List.pairwise_map]
    refine s.imp fun {x y} h => ?_
    have : ¬ (SrtO.lexB (kOf H y) (kOf H x) = true) := by
      show ¬ (ltP (kOf H) y x = true)
      rw [h]
      decide
    rw [SrtO.lexB_iff] at this
    omega
  · rw [List.pairwise_map]
    refine up.imp fun {a b} h => ?_
    unfold rowGt at h
    have := of_decide_eq_true h
    show a.1 < b.1 ∨ (a.1 = b.1 ∧ (a.2 : Int) ≤ b.2)
    omega
end Ev
namespace Ev
open PySem L2
/-! ### data of any depth: what == reads -/
def okD (n : Nat) (d : PyData) : Prop := d.canLay0 = true ∧ d.depth ≤ n
theorem okD.mono {n m : Nat} {d : PyData} (h : okD n d) (l : n ≤ m) : okD m d := ⟨h.1, Nat.le_trans h.2 l⟩
theorem okD.sh {n : Nat} {d : PyData} (h : okD n d) (l : n ≤ 64 := by decide) : SeqAt.shaped d = true := by
  show (d.canLay0 && decide (d.depth ≤ 64)) = true
  rw [Bool.and_eq_true]
  exact ⟨h.1, decide_eq_true (Nat.le_trans h.2 l)⟩
theorem okD.rfl {n : Nat} {d : PyData} (h : okD n d) : PyData.eqv d d = true := SeqAt.eqv_refl d h.1
def strOkT (x : Str) : Prop := PyData.strOk x = true
theorem ok_int (i : Int) : okD 0 (.int i) := by simp [okD, PyData.canLay0, PyData.depth]
theorem ok_non : okD 0 .none := by simp [okD, PyData.canLay0, PyData.depth]
theorem ok_bl (b : Bool) : okD 0 (.bool b) := by simp [okD, PyData.canLay0, PyData.depth]
theorem ok_str {x : Str} (h : strOkT x) : okD 0 (.str x) := by
  refine ⟨?_, by simp [PyData.depth]⟩
  unfold PyData.canLay0
  exact h
theorem okAll {n : Nat} : ∀ {ds : List PyData}, (∀ d ∈ ds, okD n d) → PyData.canLayAll0 ds = true ∧ PyData.depthAll ds ≤ n
  | [], _ => ⟨by simp [PyData.canLayAll0], by simp [PyData.depthAll]⟩
  | d :: ds, h => by
    obtain ⟨h1, h2⟩ := okAll (ds := ds) fun x hx => h x (List.mem_cons_of_mem _ hx)
    obtain ⟨h3, h4⟩ := h d (List.mem_cons_self ..)
    constructor
    · rw [PyData.canLayAll0, h3, h1]
      all_goals rfl
    · simp only [PyData.depthAll]
      omega
theorem ok_lst {n : Nat} {ds : List PyData} (h : ∀ d ∈ ds, okD n d) : okD (n + 1) (.list ds) := by
  obtain ⟨h1, h2⟩ := okAll h
  refine ⟨by rw [PyData.canLay0]; exact h1, ?_⟩
  simp only [PyData.depth]
  omega
theorem ok_tup {n : Nat} {ds : List PyData} (h : ∀ d ∈ ds, okD n d) : okD (n + 1) (.tuple ds) := by
  obtain ⟨h1, h2⟩ := okAll h
  refine ⟨by rw [PyData.canLay0]; exact h1, ?_⟩
  simp only [PyData.depth]
  omega
theorem ok_cons {n : Nat} {d : PyData} {ds : List PyData} (h : okD n d) (t : ∀ x ∈ ds, okD n x) : ∀ x ∈ d :: ds, okD n x := fun x hx => (List.mem_cons.mp hx).elim (fun e => e ▸ h) (t x)
theorem ok_nil {n : Nat} : ∀ x ∈ ([] : List PyData), okD n x := fun _ h => nomatch h
section
variable {K : PySem.W.Frag} {H : Hp}
theorem dp_all {α : Type} {R : V → α → Prop} {f : α → PyData} (h : ∀ v d, R v d → Dp K H v (f d)) : ∀ {xs : List V} {ds : List α}, Paired R xs ds → DpAll K H xs (ds.map f)
  | _, _, .nil => .nil
  | _, _, .cons r t => .cons (h _ _ r) (dp_all h t)
theorem dp_lst {α : Type} {R : V → α → Prop} {f : α → PyData} (h : ∀ v d, R v d → Dp K H v (f d)) {a : Addr} {xs : List V} {ds : List α} (ha : H a = some (.lst xs)) (p : Paired R xs ds) : Dp K H (.ref a) (.list (ds.map f)) := .lst (SqL.of ha) (dp_all h p)
theorem dp_map {α : Type} {g : α → V} {f : α → PyData} (h : ∀ d, Dp K H (g d) (f d)) : ∀ ds : List α, DpAll K H (ds.map g) (ds.map f)
  | [] => .nil
  | d :: ds => .cons (h d) (dp_map h ds)
theorem dp_lmap {α : Type} {g : α → V} {f : α → PyData} (h : ∀ d, Dp K H (g d) (f d)) {a : Addr} {ds : List α} (ha : H a = some (.lst (ds.map g))) : Dp K H (.ref a) (.list (ds.map f)) := .lst (SqL.of ha) (dp_map h ds)
theorem dp_ints {a : Addr} {ns : List Nat} (ha : H a = some (.lst (ns.map nV))) : Dp K H (.ref a) (.list (ns.map fun (n : Nat) => .int (n : Int))) := dp_lmap (fun n => .int _) ha
theorem dp_strs {a : Addr} {ns : List Str} (ha : H a = some (.lst (ns.map V.str))) : Dp K H (.ref a) (.list (ns.map .str)) := dp_lmap (fun n => .str _) ha
theorem neF {p : Prop} [Decidable p] (h : p) : (!decide p) = false := by simp [h]
theorem Pd.last {α : Type} {R : V → α → Prop} {xs : List V} {ds : List α} {d : α} (p : Paired R xs ds) (h : ds.getLast? = some d) : ∃ v, xs.getLast? = some v ∧ R v d := by
  rw [List.getLast?_eq_getElem?] at h
  have l := Pd.len p
  have hl : ds.length - 1 < ds.length := (List.getElem?_eq_some_iff.mp h).1
  have hx : xs.length - 1 < xs.length := by omega
  obtain ⟨d', e, r⟩ := Pd.at p (List.getElem?_eq_getElem hx)
  rw [l, h] at e
  cases e
  exact ⟨_, by rw [List.getLast?_eq_getElem?]; exact List.getElem?_eq_getElem hx, r⟩
theorem dp_on (o : Option Nat) : Dp K H (onV o) (match o with | none => .none | some n => .int (n : Int)) := by
  cases o
  · exact .non
  · exact .int _
end
theorem ok_ints (ns : List Nat) : okD 1 (.list (ns.map fun (n : Nat) => .int (n : Int))) := ok_lst fun d hd => by
  obtain ⟨n, _, rfl⟩ := List.mem_map.mp hd
  exact ok_int _
theorem ok_intsT (ns : List Nat) : okD 1 (.tuple (ns.map fun (n : Nat) => .int (n : Int))) := ok_tup fun d hd => by
  obtain ⟨n, _, rfl⟩ := List.mem_map.mp hd
  exact ok_int _
theorem ok_strs {ns : List Str} (h : ∀ x ∈ ns, strOkT x) : okD 1 (.list (ns.map .str)) := ok_lst fun d hd => by
  obtain ⟨n, q, rfl⟩ := List.mem_map.mp hd
  exact ok_str (h n q)
/-! ### rows and events -/
def Row.restD : Row → List PyData
  | .send n => [.int n] | .begin n t => [.int n, .int t] | .call n x => [.int n, .str x] | .make m n => [.int m, .int n] | .cancel n ns => [.int n, .tuple (ns.map fun (n : Nat) => .int (n : Int))]
  | .join n x => [.int n, .str x] | .leave n x => [.int n, .str x] | .hush n => [.int n] | .fin n => [.int n]
def Row.dat (r : Row) : PyData := .tuple (.str r.tag :: r.restD)
/-- the texts of a row are texts -/
def Row.txt : Row → Prop
  | .call _ x => strOkT x | .join _ x => strOkT x | .leave _ x => strOkT x | _ => True
theorem row_dp {K : PySem.W.Frag} {H : Hp} {v : V} {r : Row} (h : RowAt H v r) : Dp K H v r.dat := by
  obtain ⟨p, q, rfl, h1, h2⟩ := h
  refine .tup (SqT.of h1) (.cons (.str _) ?_)
  cases r <;> simp only [Row.rest, Row.restD, nV] <;> first | exact .cons (.int _) .nil | exact .cons (.int _) (.cons (.int _) .nil) | exact .cons (.int _) (.cons (.str _) .nil) | skip
  exact .cons (.int _) (.cons (.tup (SqT.of h2) (dp_map (fun n => .int _) _)) .nil)
theorem tag_ok (r : Row) : strOkT r.tag := by cases r <;> simp only [Row.tag] <;> unfold strOkT <;> decide +kernel
theorem row_ok {r : Row} (h : r.txt) : okD 2 r.dat := by
  refine ok_tup (ok_cons ((ok_str (tag_ok r)).mono (by decide)) ?_)
  cases r with
  | send n => exact ok_cons ((ok_int _).mono (by decide)) ok_nil
  | hush n => exact ok_cons ((ok_int _).mono (by decide)) ok_nil
  | fin n => exact ok_cons ((ok_int _).mono (by decide)) ok_nil
  | begin n t => exact ok_cons ((ok_int _).mono (by decide)) (ok_cons ((ok_int _).mono (by decide)) ok_nil)
  | make n t => exact ok_cons ((ok_int _).mono (by decide)) (ok_cons ((ok_int _).mono (by decide)) ok_nil)
  | call n x => exact ok_cons ((ok_int _).mono (by decide)) (ok_cons ((ok_str h).mono (by decide)) ok_nil)
  | join n x => exact ok_cons ((ok_int _).mono (by decide)) (ok_cons ((ok_str h).mono (by decide)) ok_nil)
  | leave n x => exact ok_cons ((ok_int _).mono (by decide)) (ok_cons ((ok_str h).mono (by decide)) ok_nil)
  | cancel n ns => exact ok_cons ((ok_int _).mono (by decide)) (ok_cons (ok_intsT ns) ok_nil)
theorem rows_dp {K : PySem.W.Frag} {H : Hp} {a : Addr} {rs : List Row} (h : LstAt RowAt H a rs) : Dp K H (.ref a) (.list (rs.map Row.dat)) := by
  obtain ⟨xs, ha, hx⟩ := h
  exact dp_lst (fun _ _ q => row_dp q) ha hx
theorem rows_ok {rs : List Row} (h : ∀ r ∈ rs, r.txt) : okD 3 (.list (rs.map Row.dat)) := ok_lst fun d hd => by
  obtain ⟨r, q, rfl⟩ := List.mem_map.mp hd
  exact row_ok (h r q)
def onD : Option Nat → PyData | none => .none | some n => .int (n : Int)
def Evt.dat (e : Evt) : PyData := .tuple [.str e.word, onD e.maker, .str e.road.str, .int e.due]
theorem onD_ok (o : Option Nat) : okD 0 (onD o) := by
  cases o
  · exact ok_non
  · exact ok_int _
theorem onD_dp {K : PySem.W.Frag} {H : Hp} (o : Option Nat) : Dp K H (onV o) (onD o) := by
  cases o
  · exact .non
  · exact .int _
theorem evt_dp {K : PySem.W.Frag} {H : Hp} {v : V} {e : Evt} (h : EvtAt H v e) : Dp K H v e.dat := by
  obtain ⟨p, rfl, h1⟩ := h
  exact .tup (SqT.of h1) (.cons (.str _) (.cons (onD_dp _) (.cons (.str _) (.cons (.int _) .nil))))
theorem road_ok (r : Road) : strOkT r.str := by cases r <;> simp only [Road.str] <;> unfold strOkT <;> decide +kernel
theorem evt_ok {e : Evt} (h : strOkT e.word) : okD 1 e.dat :=
  ok_tup (ok_cons (ok_str h) (ok_cons (onD_ok _) (ok_cons (ok_str (road_ok _)) (ok_cons (ok_int _) ok_nil))))
theorem evts_dp {K : PySem.W.Frag} {H : Hp} {a : Addr} {es : List Evt} (h : LstAt EvtAt H a es) : Dp K H (.ref a) (.list (es.map Evt.dat)) := by
  obtain ⟨xs, ha, hx⟩ := h
  exact dp_lst (fun _ _ q => evt_dp q) ha hx
theorem evts_ok {es : List Evt} (h : ∀ e ∈ es, strOkT e.word) : okD 2 (.list (es.map Evt.dat)) := ok_lst fun d hd => by
  obtain ⟨r, q, rfl⟩ := List.mem_map.mp hd
  exact evt_ok (h r q)
end Ev
namespace Ev
open PySem L2
/-! ### texts of letters -/
def ofL (cs : List Nat) : Str := ⟨cs.toArray⟩
theorem ofL_list (cs : List Nat) : (ofL cs).cps.toList = cs := rfl
theorem ofL_len (cs : List Nat) : (ofL cs).length = cs.length := rfl
theorem str_list (x : Str) : ofL x.cps.toList = x := rfl
theorem str_eq {x y : Str} (h : x.cps.toList = y.cps.toList) : x = y := by
  rw [← str_list x, ← str_list y, h]
theorem app_list (x y : Str) : (x ++ y).cps.toList = x.cps.toList ++ y.cps.toList := by
  show (x.cps ++ y.cps).toList = _
  simp
def abc : Str := "abcdefghijklmnopqrstuvwxyz"
theorem abc_nat : ∀ n < 26, abc.cps.toList[n]? = some (97 + n) := by decide +kernel
theorem abc_len : abc.length = 26 := by decide +kernel
theorem abc_at {i : Int} (h0 : 0 ≤ i) (h : i < 26) : atI abc.cps.toList i = some (97 + i.toNat) := by
  obtain ⟨n, rfl⟩ := Int.eq_ofNat_of_zero_le h0
  exact atI_nat (abc_nat n (by omega))
theorem joinL_nil : ∀ cs : List Nat, TL.joinL [] (cs.map fun c => [c]) = cs
  | [] => rfl
  | [c] => rfl
  | c :: d :: r => by
    have ih := joinL_nil (d :: r)
    show [c] ++ ([] ++ TL.joinL [] ((d :: r).map fun c => [c])) = _
    rw [ih]
    rfl
theorem join_letters (cs : List Nat) : Txt.join "" (cs.map fun c => (⟨#[c]⟩ : Str)) = ofL cs := by
  have e := TL.tl_join ("" : Str) (cs.map fun c => (⟨#[c]⟩ : Str))
  have e0 : TL.tl ("" : Str) = [] := by decide +kernel
  have e1 : (cs.map fun c => (⟨#[c]⟩ : Str)).map TL.tl = cs.map fun c => [c] := by
    rw [List.map_map]
    rfl
  rw [e0, e1, joinL_nil] at e
  have e2 := (congrArg TL.tl (TL.join_eq ("" : Str) (cs.map fun c => (⟨#[c]⟩ : Str)))).trans e
  exact str_eq e2
theorem sum_ones : ∀ cs : List Nat, ((cs.map fun c => (⟨#[c]⟩ : Str)).map fun x => x.length).sum = cs.length
  | [] => rfl
  | c :: cs => by
    rw [List.map_cons, List.map_cons, List.sum_cons, sum_ones cs, List.length_cons]
    show 1 + cs.length = cs.length + 1
    omega
theorem okT_letters {cs : List Nat} (h : ∀ c ∈ cs, 97 ≤ c ∧ c ≤ 122) : strOkT (ofL cs) := by
  unfold strOkT PyData.strOk
  rw [← Array.all_toList, List.all_eq_true]
  intro c hc
  have := h c hc
  simp
  omega
end Ev
namespace Ev
open PySem L2
section
variable {P : Program} {w : World} {K : PySem.W.Frag} {mg : Str → Option Value} {base : Heap}
/-- a handler with a list of deeds -/
def HndL (H : Hp) (v : V) (h : Hnd) : Prop := ∃ p q ds, v = .ref p ∧ H p = some (.tup [.str h.name, .int h.rank, .str h.hears, .bl h.once, .ref q]) ∧ H q = some (.lst ds) ∧ Paired (DeedAt H) ds h.deeds
theorem HndL.kpM {M : List Addr} {H H' : Hp} {v : V} {h : Hnd} (x : HndL H v h) (k : Kp M H H') (fr : ∀ a ∈ M, H a = none) : HndL H' v h := by
  obtain ⟨p, q, ds, e, h1, h2, h3⟩ := x
  exact ⟨p, q, ds, e, k.tk _ _ h1, k.keep _ _ (fun z => by rw [fr q z] at h2; cases h2) h2, Pd.mono (fun _ _ => DeedAt.tk k.tk) h3⟩
theorem HndL.kp {H H' : Hp} {v : V} {h : Hnd} (x : HndL H v h) (k : Kp [] H H') : HndL H' v h := x.kpM k (by simp)
theorem HndL.in_ {H : Hp} {v : V} {h : Hnd} (x : HndL H v h) : HndIn H v h := by
  obtain ⟨p, q, ds, e, h1, h2, h3⟩ := x
  exact ⟨p, q, ds, e, h1, .inl h2, h3⟩
theorem notIn0 (h : Hnd) : notIn [] h = true := rfl
def sp_lcallsDue : Sp := fun vs H Q _ => ∃ (z : Str) (a : Addr) (xs : List V) (hs : List Hnd) (R : V → Hnd → Prop), vs = [.str z, .ref a] ∧ H a = some (.lst xs) ∧ Paired R xs hs ∧ (∀ v h, R v h → HndL H v h) ∧ hs.length ≤ 40 ∧ (hs.map Hnd.name).Nodup ∧
  ∀ p H' ys, H p = none → Kp [] H H' → H' p = some (.lst ys) → Paired R ys (calls7 hs z) → Q (.ref p) H'
theorem ok_lcallsDue (T : Tx K mg) : FnOk P w K mg base CX0 1 T.f_lcallsDue T.d_lcallsDue ["_law_word", "_law_handlers"] (sp_lcallsDue) := by
  refine T.F_lcallsDue.ok sc_lcallsDue (by walk_at "len") (fun cdv A outer s H vs Q E hr h => ?_)
  obtain ⟨z, a, xs, hs, R, rfl, ha, hx, hR, h40, nd, k⟩ := h
  refine ⟨_, (pss_cons (ps_set (i := 2) sc_lcallsDue.nd rfl (Or.inl rfl) (pe_lst pa_nil))
    (pss_cons (ps_for PassesOwn.never rfl (pi_range1 rfl T.z_range (pa_cons (pe_callB (kLen K) (by rfl) T.z_len PySem.boot_len (pa_cons (pv 1) pa_nil)) pa_nil)) (pg_name (i := 3) sc_lcallsDue.nd rfl (Or.inl rfl))
        (pss_one (ps_if (pt_cmpR (kIn K) (pe_ix (kIxT K) (pe_ix (kIxL K) (pv 1) (pv 3) (fun _ _ => rfl)) pe_int (fun _ _ => rfl)) (pe_tup (pa_cons pe_str (pa_cons (pv 0) pa_nil))) rfl)
            (pss_one (ps_expr (pe_bm PySem.F.plainAttrs_list PySem.F.slot_list_append PySem.F.type_list_append mt_append (pv 2) (pa_cons (pe_tup (pa_cons (pe_ix (kIxT K) (pe_ix (kIxL K) (pv 1) (pv 3) (fun _ _ => rfl)) pe_int (fun _ _ => rfl)) (pa_cons (pv 3) pa_nil))) pa_nil))))
            pss_nil)))
    (pss_one (ps_ret (pe_lc (own := [("_law_row", 4)]) (g := gName 4) (tt := tYes) rfl sc_lcallsDue.nd (pi_list (pe_callB (kSortP K) (by rfl) T.z_sorted (by decide +kernel) (pa_cons (pv 2) pa_nil))) (blkOk_by (own := [("_law_row", 4)]) (N := nm_lcallsDue) (sc := defScope s_lcallsDue) (by decide +kernel)) (fun _ _ _ _ _ => (pg_name (i := 4) sc_lcallsDue.nd rfl (Or.inl rfl))) (fun _ _ _ _ _ => pts_nil) (fun _ _ _ _ _ => (pe_ix (kIxL K) (pv 1) (pe_ix (kIxT K) (pv 4) pe_int (fun _ _ => rfl)) (fun _ _ => rfl)))))))), ?_⟩
  have lx : xs.length = hs.length := Pd.len hx
  refine seq_go (asg_go ?_)
  refine ⟨Nat.zero_le _, fun f hf => ?_⟩
  have k3 := (Kp.refl [] H).new (o := .lst []) hf
  have e3 : upd H f (.lst []) f = some (.lst []) := upd_same
  generalize upd H f (.lst []) = H3 at k3 e3 ⊢
  dsimp only [gName]
  refine seq_go (for_go ?_)
  refine ⟨_, rfl, a, xs, rfl, .inl (SqL.of (k3.keep0 ha)), _, rfl, (by omega), (by rw [lx]; show (hs.length : Int) < _; omega), ?_⟩
  refine for_range (fun i σ H' => Kp [] H H' ∧ ∃ acc, H' f = some (.lst acc) ∧ Paired (RwAt H') acc ((someH (hs.take i) z []).map keyH) ∧ ∃ o3 o4, σ = [some (.str z), some (.ref a), some (.ref f), o3, o4]) ⟨k3, [], e3, .nil, _, _, rfl⟩ ?_ ?_
  · rintro i σ H4 hi ⟨k04, acc, hf4, pd, o3, o4, rfl⟩
    have hi : i < hs.length := by omega
    rw [Int.zero_add]
    have eh : hs[i]? = some hs[i] := List.getElem?_eq_getElem hi
    obtain ⟨v, ev, rv⟩ := Pd.at' hx eh
    generalize hs[i] = h at eh rv
    obtain ⟨p, q, ds, rfl, hp, _⟩ := (hR _ _ rv).kp k04
    have eix : atI xs (i : Int) = some (.ref p) := atI_nat ev
    have etk : hs.take (i + 1) = hs.take i ++ [h] := take_snoc eh
    have lt : (hs.take i).length = i := by rw [List.length_take]; omega
    have hlen : acc.length ≤ 40 := by
      rw [Pd.len pd, List.length_map]
      unfold someH
      refine Nat.le_trans (List.length_filter_le _ _) ?_
      rw [List.length_zipIdx, lt]
      omega
    refine ⟨_, rfl, _, rfl, a, _, _, .ref p, rfl, rfl, SqL.of (k04.keep0 ha), eix, p, _, _, _, rfl, rfl, SqT.of hp, at2, _, rfl, (by show 2 ≤ sizeLine; decide), fun t1 ht1 => ?_⟩
    have j1 := (Kp.refl [] H4).new (o := .tup [.str "", .str z]) ht1
    have q1 : upd H4 t1 (.tup [.str "", .str z]) t1 = some (.tup [.str "", .str z]) := upd_same
    generalize upd H4 t1 (.tup [.str "", .str z]) = H5 at j1 q1 ⊢
    refine ⟨t1, _, rfl, .inr (SqT.of q1), rfl, flat_strs ["", z], _, rfl, ?_⟩
    have ei : inV (V.str h.hears) [V.str "", V.str z] = decide (h.hears ∈ (["", z] : List Str)) := inV_strs h.hears ["", z]
    rw [if_neg Bool.false_ne_true, ei]
    have k05 := k04.trans j1
    cases eb : hears1 z h with
    | false =>
      have eb' : decide (h.hears ∈ (["", z] : List Str)) = false := eb
      rw [eb']
      refine iteF' rfl ⟨k05, acc, j1.keep0 hf4, ?_, _, _, rfl⟩
      rw [etk, someH_snoc, eb]
      show Paired _ acc (_ ++ [])
      rw [List.append_nil]
      exact Pd.mono (fun _ _ z => z.tk j1.tk) pd
    | true =>
      have eb' : decide (h.hears ∈ (["", z] : List Str)) = true := eb
      rw [eb']
      refine iteT' rfl ?_
      refine ⟨_, rfl, .inl ⟨rfl, _, SqL.of (j1.keep0 hf4)⟩, _, rfl, _, rfl, a, _, _, .ref p, rfl, rfl, SqL.of (k05.keep0 ha), eix, p, _, _, _, rfl, rfl, SqT.of (j1.tk _ _ hp), at1, _, rfl, (by show 2 ≤ sizeLine; decide), fun t ht => ?_⟩
      have j2 := (Kp.refl [] H5).new (o := .tup [.int h.rank, nV i]) ht
      have q2 : upd H5 t (.tup [.int h.rank, nV i]) t = some (.tup [.int h.rank, nV i]) := upd_same
      change Kp [] H5 (upd H5 t (.tup [.int h.rank, .int (i : Int)])) at j2
      change upd H5 t (.tup [.int h.rank, .int (i : Int)]) t = _ at q2
      generalize upd H5 t (.tup [.int h.rank, .int (i : Int)]) = H6 at j2 q2 ⊢
      have j12 := j1.trans j2
      have hf6 := j12.keep0 hf4
      have kk := (Kp.refl [f] H6).lst (o := .lst (acc ++ [V.ref t])) (.inl (List.mem_singleton.mpr rfl)) hf6
      refine ⟨f, _, _, rfl, rfl, hf6, small1000 (by omega), (k05.trans j2).lst (.inr hf) hf6, _, upd_same, ?_, _, _, rfl⟩
      rw [etk, someH_snoc, eb, notIn0, lt]
      exact Pd.append (Pd.mono (fun _ _ z => (z.tk j12.tk).tk kk.tk) pd) (.cons ⟨t, rfl, kk.tk _ _ q2⟩ .nil)
  · rintro σ H4 ⟨k04, acc, hf4, pd, o3, o4, rfl⟩
    have et : hs.take (((xs.length : Nat) : Int)).toNat = hs := by
      rw [lx]
      exact List.take_of_length_le (by omega)
    rw [et] at pd
    dsimp only
    walk_at "nf"
    refine lc_go ?_
    refine ⟨_, rfl, f, acc, kOf H4, rfl, SqL.of hf4, fun v hv => ?_, fun ys m2 hz1 hz2 hm2 => ?_⟩
    · obtain ⟨i, hi⟩ := List.getElem?_of_mem hv
      obtain ⟨d, _, hd⟩ := Pd.at pd hi
      have ek := kOf_at hd
      obtain ⟨t, rfl, ht⟩ := hd
      exact ⟨t, rfl, by rw [ek]; exact ht⟩
    have pz := srt_rows pd (List.mergeSort_perm _ leP).symm (sort_up hs z []) hz1 hz2
    have j2 := (Kp.refl [] H4).new (o := .lst ys) hm2
    have q2 : upd H4 m2 (.lst ys) m2 = some (.lst ys) := upd_same
    generalize upd H4 m2 (.lst ys) = H5 at j2 q2 ⊢
    have k05 := k04.trans j2
    refine ⟨m2, rfl, ⟨_, SqL.of q2⟩, ?_⟩
    have srl : (sortH hs z []).length ≤ 40 := Nat.le_trans (sortH_len hs z []) h40
    have pz5 : Paired (RwAt H5) ys (sortH hs z []) := Pd.mono (fun _ _ z => z.tk j2.tk) pz
    refine lc_mp pz5 (Nat.lt_of_le_of_lt srl (by decide)) (SqL.of q2) (fun p => (xs[p.2]?).getD .non) (fun x => rfl) ?_ ?_
    · rintro v d H' Q' hd r kp q
      obtain ⟨g, hg, _⟩ := sort_at hd
      obtain ⟨u, eu, ru⟩ := Pd.at' hx hg
      obtain ⟨t, rfl, ht⟩ := r.tk kp.tk
      refine ⟨_, rfl, _, rfl, t, _, _, _, rfl, rfl, SqT.of ht, at1, a, _, _, u, rfl, rfl, SqL.of ((k05.trans kp).keep0 ha), atI_nat eu, ?_⟩
      have := q _ (Kp.refl _ _)
      rw [eu] at this
      exact this
    · intro D H' hD kp e
      refine k D H' _ (k05.dom _ hD) (k05.trans kp) e ?_
      unfold calls7
      have key : ∀ l : List (Int × Nat), (∀ p ∈ l, p ∈ sortH hs z []) → Paired R (l.map fun p => (xs[p.2]?).getD .non) (l.map fun p => hAt hs p.2) := fun l hl => by
        induction l with
        | nil => exact .nil
        | cons p l ih =>
          refine .cons ?_ (ih fun q hq => hl q (List.mem_cons_of_mem _ hq))
          obtain ⟨g, hg, _⟩ := sort_at (hl p List.mem_cons_self)
          obtain ⟨u, eu, ru⟩ := Pd.at' hx hg
          show R ((xs[p.2]?).getD V.non) ((hs[p.2]?).getD hdef)
          rw [eu, hg]
          exact ru
      exact key _ fun _ h => h
/-- what an open event still has to do, as a row -/
def Wt.vals (n : Nat) : Wt → List V
  | .call x => [.str "call", nV n, .str x] | .make z => [.str "make", nV n, .str z] | .fin => [.str "end", nV n, .str ""]
def WtAt (n : Nat) (H : Hp) (v : V) (x : Wt) : Prop := ∃ p, v = .ref p ∧ H p = some (.tup (x.vals n))
theorem WtAt.tk {n : Nat} {H H' : Hp} (k : TK H H') {v : V} {d : Wt} (h : WtAt n H v d) : WtAt n H' v d := by
  obtain ⟨p, e, h1⟩ := h
  exact ⟨p, e, k _ _ h1⟩
theorem merge_nd7 : ∀ (more acc : List (Key × V)), ((acc ++ more).map Prod.fst).Nodup → mergeK acc more = acc ++ more
  | [], acc, _ => by simp [mergeK]
  | c :: more, acc, nd => by
    have h : valV acc c.1 = none := by
      cases e : valV acc c.1 with
      | none => rfl
      | some v =>
        have m := valV_in e
        rw [List.map_append, List.map_cons] at nd
        exact absurd rfl ((List.nodup_append.mp nd).2.2 c.1 m c.1 (List.mem_cons_self ..))
    show mergeK (putK acc c.1 c.2) more = _
    rw [putK_new _ h, merge_nd7 more (acc ++ [(c.1, c.2)]) (by rw [List.append_assoc]; exact nd), List.append_assoc]
    rfl
theorem frD_nd (n : Nat) (q : Addr) : (([(Sum.inr "number", nV n), (Sum.inr "wanted", .ref q)] : List (Key × V)).map Prod.fst).Nodup := by
  show ([Sum.inr "number", Sum.inr "wanted"] : List Key).Nodup
  decide +kernel
def frD (n : Nat) (q : Addr) : List (Key × V) := [(Sum.inr "number", nV n), (Sum.inr "wanted", .ref q)]
def sp_lframe : Sp := fun vs H Q _ => ∃ (n : Nat) (z : Str) (a : Addr) (xs : List V) (hs : List Hnd), vs = [nV n, .str z, .ref a] ∧ H a = some (.lst xs) ∧ Paired (HndL H) xs hs ∧ hs.length ≤ 40 ∧ (hs.map Hnd.name).Nodup ∧ (∀ h ∈ hs, h.deeds.length ≤ 30 ∧ ∀ d ∈ h.deeds, ∃ z, d = .now z) ∧
  ∀ p q H' ys, H p = none → H q = none → p ≠ q → Kp [] H H' → H' p = some (.dK (frD n q)) → H' q = some (.lst ys) → Paired (WtAt n H') ys (wanted7 hs z) → Q (.ref p) H'
theorem ok_lframe (T : Tx K mg) : FnOk P w K mg base CX0 2 T.f_lframe T.d_lframe ["_law_number", "_law_word", "_law_handlers"] (sp_lframe) := by
  refine T.F_lframe.ok sc_lframe (by walk_at "len") (fun cdv A outer s H vs Q E hr h => ?_)
  obtain ⟨n, z, a, xs, hs, rfl, ha, hx, h40, nd, hd, k⟩ := h
  refine ⟨_, (pss_cons (ps_set (i := 3) sc_lframe.nd rfl (Or.inl rfl) (pe_lst pa_nil))
    (pss_cons (ps_for PassesOwn.never rfl (pi_list (pe_call (ok_lcallsDue T) (hr.mono (by decide)) rfl T.g_lcallsDue T.F_lcallsDue.kp T.b_lcallsDue .nil pass0 (pa_cons (pv 1) (pa_cons (pv 2) pa_nil)))) (pg_name (i := 4) sc_lframe.nd rfl (Or.inl rfl))
        (pss_cons (ps_expr (pe_bm PySem.F.plainAttrs_list PySem.F.slot_list_append PySem.F.type_list_append mt_append (pv 3) (pa_cons (pe_tup (pa_cons pe_str (pa_cons (pv 0) (pa_cons (pe_ix (kIxT K) (pv 4) pe_int (fun _ _ => rfl)) pa_nil)))) pa_nil)))
        (pss_one (ps_for PassesOwn.never rfl (pi_list (pe_ix (kIxT K) (pv 4) pe_int (fun _ _ => rfl))) (pg_name (i := 5) sc_lframe.nd rfl (Or.inl rfl))
            (pss_one (ps_expr (pe_bm PySem.F.plainAttrs_list PySem.F.slot_list_append PySem.F.type_list_append mt_append (pv 3) (pa_cons (pe_tup (pa_cons pe_str (pa_cons (pv 0) (pa_cons (pe_ix (kIxT K) (pv 5) pe_int (fun _ _ => rfl)) pa_nil)))) pa_nil))))))))
    (pss_cons (ps_expr (pe_bm PySem.F.plainAttrs_list PySem.F.slot_list_append PySem.F.type_list_append mt_append (pv 3) (pa_cons (pe_tup (pa_cons pe_str (pa_cons (pv 0) (pa_cons pe_str pa_nil)))) pa_nil)))
    (pss_one (ps_ret (pe_disp (pps_cons pe_str (pv 0) (pps_cons pe_str (pv 3) pps_nil)) (by rfl) (by rfl) (fun z => by cases z) (by decide))))))), ?_⟩
  refine seq_go (asg_go ?_)
  refine ⟨Nat.zero_le _, fun f hf => ?_⟩
  have k1 := (Kp.refl [] H).new (o := .lst []) hf
  have e1 : upd H f (.lst []) f = some (.lst []) := upd_same
  generalize upd H f (.lst []) = H1 at k1 e1 ⊢
  dsimp only [gName]
  refine seq_go (for_go ?_)
  refine ⟨_, rfl, _, rfl, z, a, xs, hs, HndL H, rfl, k1.keep0 ha, hx, (fun _ _ z => z.kp k1), h40, nd, fun c H2 ys hc k2 hy py => ⟨c, rfl, ⟨_, SqL.of hy⟩, ?_⟩⟩
  have c40 : (calls7 hs z).length ≤ 40 := by
    rw [(calls7_perm hs z).length_eq]
    exact Nat.le_trans (List.length_filter_le _ _) h40
  have nfc : f ≠ c := fun e => by rw [← e, e1] at hc; cases hc
  have bound : ∀ pre : List Hnd, (∀ h ∈ pre, h ∈ hs) → pre.length ≤ 40 → (pre.flatMap itemsOf).length ≤ pre.length * 31 := fun pre hp _ => by
    clear nfc
    induction pre with
    | nil => exact Nat.le_refl _
    | cons h l ih =>
      have := ih (fun g hg => hp g (List.mem_cons_of_mem _ hg)) (by simp at *; omega)
      have h1 := (hd h (hp h List.mem_cons_self)).1
      have e : (itemsOf h).length = h.deeds.length + 1 := by
        unfold itemsOf
        rw [List.length_cons, List.length_map]
      rw [List.flatMap_cons, List.length_append, List.length_cons, e]
      omega
  refine for_pd py (fun pre σ H' => Kp [] H H' ∧ Kp [f] H2 H' ∧ (∃ rs, H' f = some (.lst rs) ∧ Paired (WtAt n H') rs (pre.flatMap itemsOf)) ∧ ∃ o4 o5, σ = [some (nV n), some (.str z), some (.ref a), some (.ref f), o4, o5])
    ⟨k1.trans k2, Kp.refl _ _, ⟨_, k2.keep0 e1, .nil⟩, _, _, rfl⟩ (fun pre σ H' q => SqL.of (q.2.1.keep _ _ (by simp [Ne.symm nfc]) hy)) ?_ ?_
  · rintro pre v h post σ H3 ed rv ⟨k03, k23, ⟨rs, hrs, prs⟩, o4, o5, rfl⟩
    have hm : ∀ g ∈ pre ++ h :: post, g ∈ hs := fun g hg => (calls7_mem (z := z) (by rw [ed]; exact hg)).1
    have hh : h ∈ hs := hm h (by simp)
    have pl : pre.length ≤ 39 := by
      have : ((pre ++ h :: post).length) ≤ 40 := by rw [← ed]; exact c40
      rw [List.length_append, List.length_cons] at this
      omega
    have rl : rs.length ≤ 39 * 31 := by
      rw [Pd.len prs]
      exact Nat.le_trans (bound pre (fun g hg => hm g (by simp [hg])) (by omega)) (Nat.mul_le_mul_right _ pl)
    obtain ⟨p, q, ds, rfl, hp, hq, pds⟩ := rv
    have nqf : q ≠ f := fun e => by rw [e, hf] at hq; cases hq
    have hp3 := k03.tk _ _ hp
    have hq3 := k03.keep0 hq
    have pds3 : Paired (DeedAt H3) ds h.deeds := Pd.mono (fun _ _ => DeedAt.tk k03.tk) pds
    refine ⟨_, rfl, .inl ⟨rfl, _, SqL.of hrs⟩, _, rfl, _, rfl, p, _, _, _, rfl, rfl, SqT.of hp3, at0, (by show 3 ≤ sizeLine; decide), fun t ht => ?_⟩
    have j1 := (Kp.refl [] H3).new (o := .tup [.str "call", nV n, .str h.name]) ht
    have q1 : upd H3 t (.tup [.str "call", nV n, .str h.name]) t = some (.tup [.str "call", nV n, .str h.name]) := upd_same
    generalize upd H3 t (.tup [.str "call", nV n, .str h.name]) = H4 at j1 q1 ⊢
    have hf4 := j1.keep0 hrs
    refine ⟨f, _, _, rfl, rfl, hf4, Nat.lt_of_le_of_lt rl (by decide), ?_⟩
    have k04 := (k03.trans j1).lst (o := .lst (rs ++ [V.ref t])) (.inr hf) hf4
    have k24 : Kp [f] H2 (upd H4 f (.lst (rs ++ [V.ref t]))) := (k23.trans (j1.mono (by simp))).lst (.inl (by simp)) hf4
    have kk := (Kp.refl [f] H4).lst (o := .lst (rs ++ [V.ref t])) (.inl (by simp)) hf4
    have f5 : upd H4 f (.lst (rs ++ [V.ref t])) f = some (.lst (rs ++ [V.ref t])) := upd_same
    have p5 : Paired (WtAt n (upd H4 f (.lst (rs ++ [V.ref t])))) (rs ++ [V.ref t]) (pre.flatMap itemsOf ++ [.call h.name]) := Pd.append (Pd.mono (fun _ _ z => (z.tk j1.tk).tk kk.tk) prs) (.cons ⟨t, rfl, kk.tk _ _ q1⟩ .nil)
    generalize upd H4 f (.lst (rs ++ [V.ref t])) = H5 at k04 k24 kk f5 p5 ⊢
    generalize rs ++ [V.ref t] = rs5 at f5 p5
    have j35 : Kp [f] H3 H5 := (j1.mono (by simp)).trans kk
    clear kk q1 hf4 hrs prs rl ht
    dsimp only
    refine for_go ?_
    refine ⟨_, rfl, p, _, _, _, rfl, rfl, SqT.of (j35.tk _ _ hp3), at4, q, rfl, ⟨_, SqL.of (j35.keep _ _ (by simpa using nqf) hq3)⟩, ?_⟩
    refine for_pd pds3 (fun pre' σ H' => Kp [] H H' ∧ Kp [f] H2 H' ∧ Kp [f] H3 H' ∧ (∃ rs, H' f = some (.lst rs) ∧ Paired (WtAt n H') rs (pre.flatMap itemsOf ++ (.call h.name :: pre'.map fun d => .make d.w7))) ∧ ∃ o4 o5, σ = [some (nV n), some (.str z), some (.ref a), some (.ref f), o4, o5])
      ⟨k04, k24, j35, ⟨_, f5, p5⟩, _, _, rfl⟩ (fun pre σ H' q => SqL.of (q.2.2.1.keep _ _ (by simpa using nqf) hq3)) ?_ ?_
    · rintro pre' v d post' σ H6 ed' rv ⟨k06, k26, k36, ⟨rs6, hrs6, prs6⟩, o4, o5, rfl⟩
      obtain ⟨y, ey⟩ := (hd h hh).2 d (by rw [ed']; simp)
      subst ey
      obtain ⟨pd, rfl, hpd⟩ := rv.tk k36.tk
      have l6 : rs6.length ≤ 39 * 31 + 31 := by
        rw [Pd.len prs6, List.length_append, List.length_cons, List.length_map]
        have h1 := Nat.le_trans (bound pre (fun g hg => hm g (by simp [hg])) (by omega)) (Nat.mul_le_mul_right 31 pl)
        have h2 := (hd h hh).1
        have : pre'.length < h.deeds.length := by rw [ed']; simp
        omega
      refine ⟨_, rfl, .inl ⟨rfl, _, SqL.of hrs6⟩, _, rfl, _, rfl, pd, _, _, _, rfl, rfl, SqT.of hpd, at1, (by show 3 ≤ sizeLine; decide), fun t ht => ?_⟩
      have j1 := (Kp.refl [] H6).new (o := .tup [.str "make", nV n, .str y]) ht
      have q1 : upd H6 t (.tup [.str "make", nV n, .str y]) t = some (.tup [.str "make", nV n, .str y]) := upd_same
      generalize upd H6 t (.tup [.str "make", nV n, .str y]) = H7 at j1 q1 ⊢
      have hf7 := j1.keep0 hrs6
      refine ⟨f, _, _, rfl, rfl, hf7, Nat.lt_of_le_of_lt l6 (by decide), ?_⟩
      have kk := (Kp.refl [f] H7).lst (o := .lst (rs6 ++ [V.ref t])) (.inl (by simp)) hf7
      have j1f : Kp [f] H6 H7 := j1.mono (by simp)
      refine ⟨(k06.trans j1).lst (.inr hf) hf7, (k26.trans j1f).trans kk, (k36.trans j1f).trans kk, ⟨_, upd_same, ?_⟩, _, _, rfl⟩
      have e : (pre.flatMap itemsOf ++ (Wt.call h.name :: (pre' ++ [Deed.now y]).map fun d => Wt.make d.w7)) = (pre.flatMap itemsOf ++ (Wt.call h.name :: pre'.map fun d => Wt.make d.w7)) ++ [Wt.make y] := by simp; rfl
      rw [e]
      exact Pd.append (Pd.mono (fun _ _ z => (z.tk j1.tk).tk kk.tk) prs6) (.cons ⟨t, rfl, kk.tk _ _ q1⟩ .nil)
    · rintro σ H6 ⟨k06, k26, k36, ⟨rs6, hrs6, prs6⟩, o4, o5, rfl⟩
      refine ⟨k06, k26, ⟨rs6, hrs6, ?_⟩, _, _, rfl⟩
      rw [List.flatMap_append]
      show Paired _ rs6 (_ ++ (itemsOf h ++ []))
      rw [List.append_nil]
      exact prs6
  · rintro σ H3 ⟨k03, k23, ⟨rs, hrs, prs⟩, o4, o5, rfl⟩
    have rl : rs.length ≤ 40 * 31 := by
      rw [Pd.len prs]
      exact Nat.le_trans (bound _ (fun g hg => (calls7_mem hg).1) c40) (Nat.mul_le_mul_right _ c40)
    refine ⟨_, rfl, .inl ⟨rfl, _, SqL.of hrs⟩, _, rfl, (by show 3 ≤ sizeLine; decide), fun t ht => ?_⟩
    have j1 := (Kp.refl [] H3).new (o := .tup [.str "end", nV n, .str ""]) ht
    have q1 : upd H3 t (.tup [.str "end", nV n, .str ""]) t = some (.tup [.str "end", nV n, .str ""]) := upd_same
    generalize upd H3 t (.tup [.str "end", nV n, .str ""]) = H4 at j1 q1 ⊢
    have hf4 := j1.keep0 hrs
    refine ⟨f, _, _, rfl, rfl, hf4, Nat.lt_of_le_of_lt rl (by decide), ?_⟩
    have k04 := (k03.trans j1).lst (o := .lst (rs ++ [V.ref t])) (.inr hf) hf4
    have kk := (Kp.refl [f] H4).lst (o := .lst (rs ++ [V.ref t])) (.inl (by simp)) hf4
    have f5 : upd H4 f (.lst (rs ++ [V.ref t])) f = some (.lst (rs ++ [V.ref t])) := upd_same
    have p5 : Paired (WtAt n (upd H4 f (.lst (rs ++ [V.ref t])))) (rs ++ [V.ref t]) (wanted7 hs z) := Pd.append (Pd.mono (fun _ _ z => (z.tk j1.tk).tk kk.tk) prs) (.cons ⟨t, rfl, kk.tk _ _ q1⟩ .nil)
    generalize upd H4 f (.lst (rs ++ [V.ref t])) = H5 at k04 kk f5 p5 ⊢
    intro d hdn
    refine ⟨_, rfl, _, rfl, upd_same, frD n f, rfl, by show 2 ≤ 15; decide, ?_⟩
    rw [merge_nd7 (frD n f) [] (frD_nd _ _), List.nil_append]
    have k6 := (k04.new (o := .dK []) hdn).dk (o := .dK (frD n f)) (.inr (k04.dom _ hdn)) upd_same
    have k56 := ((Kp.refl [] H5).new (o := .dK []) hdn).dk (o := .dK (frD n f)) (.inr hdn) upd_same
    exact k d f _ _ (k04.dom _ hdn) hf (fun e => by rw [e, f5] at hdn; cases hdn) k6 upd_same (k56.keep0 f5) (Pd.mono (fun _ _ z => z.tk k56.tk) p5)
end
end Ev
namespace Ev
open PySem L2
section
variable {P : Program} {w : World} {K : PySem.W.Frag} {mg : Str → Option Value} {base : Heap}
/-- an open event's own dict, and its list -/
def FA (H : Hp) (v : V) (x : (Nat × List Wt) × Addr) : Prop := ∃ d ys, v = .ref d ∧ H d = some (.dK (frD x.1.1 x.2)) ∧ H x.2 = some (.lst ys) ∧ Paired (WtAt x.1.1 H) ys x.1.2
theorem FA.kpM {M : List Addr} {H H' : Hp} {v : V} {x : (Nat × List Wt) × Addr} (h : FA H v x) (k : Kp M H H') (n : x.2 ∉ M) (nd : ∀ d kvs, H d = some (.dK kvs) → d ∉ M) : FA H' v x := by
  obtain ⟨d, ys, e, h1, h2, h3⟩ := h
  exact ⟨d, ys, e, k.keep _ _ (nd d _ h1) h1, k.keep _ _ n h2, Pd.mono (fun _ _ z => z.tk k.tk) h3⟩
theorem FA.kp {H H' : Hp} {v : V} {x : (Nat × List Wt) × Addr} (h : FA H v x) (k : Kp [] H H') : FA H' v x := h.kpM k (by simp) (by simp)
theorem fas_kpM {M : List Addr} {H H' : Hp} (k : Kp M H H') (nd : ∀ d kvs, H d = some (.dK kvs) → d ∉ M) : ∀ {xs : List V} {frs : List ((Nat × List Wt) × Addr)}, (∀ x ∈ frs, x.2 ∉ M) → Paired (FA H) xs frs → Paired (FA H') xs frs
  | _, _, _, .nil => .nil
  | _, _, n, .cons r t => .cons (r.kpM k (n _ List.mem_cons_self) nd) (fas_kpM k nd (fun x hx => n x (List.mem_cons_of_mem _ hx)) t)
structure At7 (H0 H : Hp) (f m : Addr) (o : B7) (xs : List V) (frs : List ((Nat × List Wt) × Addr)) : Prop where
  f0 : H0 f = none
  m0 : H0 m = none
  kp : Kp [] H0 H
  hf : H f = some (.lst xs)
  pd : Paired (FA H) xs frs
  ar : frs.map Prod.fst = o.around
  hm : H m = some (.lst (o.met.map nV))
  nf : f ≠ m ∧ f ∉ frs.map Prod.snd ∧ m ∉ frs.map Prod.snd
  nd : (frs.map Prod.snd).Nodup
  fr : ∀ x ∈ frs, H0 x.2 = none
theorem At7.kp0 {H0 H H' : Hp} {f m : Addr} {o : B7} {xs : List V} {frs : List ((Nat × List Wt) × Addr)} (a : At7 H0 H f m o xs frs) (k : Kp [] H H') : At7 H0 H' f m o xs frs :=
  ⟨a.f0, a.m0, a.kp.trans k, k.keep0 a.hf, Pd.mono (fun _ _ z => z.kp k) a.pd, a.ar, k.keep0 a.hm, a.nf, a.nd, a.fr⟩
/-- the met ones grow -/
theorem At7.setM {H0 H : Hp} {f m : Addr} {o : B7} {xs : List V} {frs : List ((Nat × List Wt) × Addr)} (a : At7 H0 H f m o xs frs) (n : Nat) (o' : B7) (e1 : o'.around = o.around) (e2 : o'.met = o.met ++ [n]) : At7 H0 (upd H m (.lst (o.met.map nV ++ [nV n]))) f m o' xs frs := by
  have k := (Kp.refl [m] H).lst (o := .lst (o.met.map nV ++ [nV n])) (.inl (by simp)) a.hm
  refine ⟨a.f0, a.m0, a.kp.lst (.inr a.m0) a.hm, k.keep _ _ (by simpa using a.nf.1) a.hf, fas_kpM k (fun d kvs h q => by rw [List.mem_singleton.mp q, a.hm] at h; cases h) (fun x hx q => a.nf.2.2 (by rw [← List.mem_singleton.mp q]; exact List.mem_map_of_mem hx)) a.pd, a.ar.trans e1.symm, ?_, a.nf, a.nd, a.fr⟩
  rw [upd_same, e2, List.map_append]
  rfl
/-- one more is open -/
theorem At7.push {H0 H : Hp} {f m : Addr} {o : B7} {xs : List V} {frs : List ((Nat × List Wt) × Addr)} (a : At7 H0 H f m o xs frs) {d q : Addr} {n : Nat} {l : List Wt} {ys : List V} (hd : H d = some (.dK (frD n q))) (hq : H q = some (.lst ys)) (pq : Paired (WtAt n H) ys l) (q0 : H0 q = none) (nq : q ≠ f ∧ q ≠ m ∧ q ∉ frs.map Prod.snd)
    (o' : B7) (e1 : o'.around = o.around ++ [(n, l)]) (e2 : o'.met = o.met) : At7 H0 (upd H f (.lst (xs ++ [V.ref d]))) f m o' (xs ++ [V.ref d]) (frs ++ [((n, l), q)]) := by
  have k := (Kp.refl [f] H).lst (o := .lst (xs ++ [V.ref d])) (.inl (by simp)) a.hf
  have p2 : Paired (FA H) (xs ++ [V.ref d]) (frs ++ [((n, l), q)]) := Pd.append a.pd (.cons ⟨d, ys, rfl, hd, hq, pq⟩ .nil)
  have es : (frs ++ [((n, l), q)]).map Prod.snd = frs.map Prod.snd ++ [q] := by simp
  refine ⟨a.f0, a.m0, a.kp.lst (.inr a.f0) a.hf, upd_same, fas_kpM k (fun d kvs h q => by rw [List.mem_singleton.mp q, a.hf] at h; cases h) (fun x hx q' => ?_) p2, ?_, ?_, ?_, ?_, ?_⟩
  · have q' := List.mem_singleton.mp q'
    rcases List.mem_append.mp hx with h | h
    · exact a.nf.2.1 (by rw [← q']; exact List.mem_map_of_mem h)
    · rw [List.mem_singleton.mp h] at q'
      exact nq.1 q'
  · rw [List.map_append, a.ar, e1]
    rfl
  · rw [e2]
    exact k.keep _ _ (by simpa using Ne.symm a.nf.1) a.hm
  · rw [es]
    refine ⟨a.nf.1, fun h => ?_, fun h => ?_⟩
    · rcases List.mem_append.mp h with h | h
      · exact a.nf.2.1 h
      · exact nq.1 (List.mem_singleton.mp h).symm
    · rcases List.mem_append.mp h with h | h
      · exact a.nf.2.2 h
      · exact nq.2.1 (List.mem_singleton.mp h).symm
  · rw [es]
    refine List.nodup_append.mpr ⟨a.nd, by simp, fun x hx y hy e => ?_⟩
    rw [List.mem_singleton.mp hy] at e
    exact nq.2.2 (e ▸ hx)
  · intro x hx
    rcases List.mem_append.mp hx with h | h
    · exact a.fr x h
    · rw [List.mem_singleton.mp h]; exact q0
theorem pd_split {α : Type} {R : V → α → Prop} : ∀ {xs : List V} {ds : List α} {d : α}, Paired R xs (ds ++ [d]) → ∃ xs' v, xs = xs' ++ [v] ∧ Paired R xs' ds ∧ R v d
  | _, [], _, .cons r .nil => ⟨[], _, rfl, .nil, r⟩
  | _, _ :: _, _, .cons r t => by
    obtain ⟨xs', v, rfl, p, q⟩ := pd_split t
    exact ⟨_ :: xs', v, rfl, .cons r p, q⟩
/-- the innermost one -/
theorem At7.top {H0 H : Hp} {f m : Addr} {o : B7} {xs : List V} {frs : List ((Nat × List Wt) × Addr)} (a : At7 H0 H f m o xs frs) {fs : List (Nat × List Wt)} {n : Nat} {x : Wt} {l : List Wt} (e : o.around = fs ++ [(n, x :: l)]) :
    ∃ xs' d q y ys t frs', xs = xs' ++ [V.ref d] ∧ frs = frs' ++ [((n, x :: l), q)] ∧ frs'.map Prod.fst = fs ∧ H d = some (.dK (frD n q)) ∧ H q = some (.lst (y :: ys)) ∧ y = .ref t ∧ H t = some (.tup (x.vals n)) ∧ q ≠ f ∧ H0 q = none ∧
    (∀ o' : B7, o'.around = fs ++ [(n, l)] → o'.met = o.met → At7 H0 (upd H q (.lst ys)) f m o' xs (frs' ++ [((n, l), q)])) := by
  have e1 := a.ar.trans e
  obtain ⟨frs', r, rfl, h1, h2⟩ := List.map_eq_append_iff.mp e1
  obtain ⟨z, rfl, h3⟩ := List.map_eq_singleton_iff.mp h2
  obtain ⟨c, q⟩ := z
  cases h3
  obtain ⟨xs', v, rfl, p1, p2⟩ := pd_split a.pd
  obtain ⟨d, zs, rfl, hd, hq, pz⟩ := p2
  cases pz with
  | cons r pz =>
    rename_i y ys
    obtain ⟨t, rfl, ht⟩ := r
    have es : ∀ l', (frs' ++ [((n, l'), q)]).map Prod.snd = frs'.map Prod.snd ++ [q] := fun l' => by simp
    have nqf : q ≠ f := fun e => a.nf.2.1 (by rw [es, ← e]; simp)
    refine ⟨xs', d, q, .ref t, ys, t, frs', rfl, rfl, h1, hd, hq, rfl, ht, nqf, a.fr _ (by simp : ((n, x :: l), q) ∈ frs' ++ [((n, x :: l), q)]), fun o' e1 e2 => ?_⟩
    have k := (Kp.refl [q] H).lst (o := .lst ys) (.inl (by simp)) hq
    have q0 := a.fr _ (by simp : ((n, x :: l), q) ∈ frs' ++ [((n, x :: l), q)])
    have nd := a.nd
    rw [es] at nd
    have nqm : q ≠ m := fun e => a.nf.2.2 (by rw [es, ← e]; simp)
    have p1' := fas_kpM k (fun d kvs h q' => by rw [List.mem_singleton.mp q', hq] at h; cases h) (fun z hz q' => by
      have := (List.nodup_append.mp nd).2.2 z.2 (List.mem_map_of_mem hz) q (by simp)
      exact this (List.mem_singleton.mp q')) p1
    have nf := a.nf
    rw [es] at nf
    refine ⟨a.f0, a.m0, a.kp.lst (.inr q0) hq, k.keep _ _ (by simpa using Ne.symm nqf) a.hf, Pd.append p1' (.cons ⟨d, ys, rfl, k.keep _ _ (fun q' => by rw [List.mem_singleton.mp q', hq] at hd; cases hd) hd, upd_same, Pd.mono (fun _ _ z => z.tk k.tk) pz⟩ .nil), ?_, ?_, ?_, ?_, ?_⟩
    · rw [List.map_append, h1, e1]; rfl
    · rw [e2]; exact k.keep _ _ (by simpa using Ne.symm nqm) a.hm
    · rw [es]; exact nf
    · rw [es]; exact nd
    · intro z hz
      rcases List.mem_append.mp hz with h | h
      · exact a.fr z (List.mem_append_left _ h)
      · rw [List.mem_singleton.mp h]; exact q0
theorem At7.drop {H0 H : Hp} {f m : Addr} {o : B7} {xs : List V} {v : V} {frs : List ((Nat × List Wt) × Addr)} {z : (Nat × List Wt) × Addr} (a : At7 H0 H f m o (xs ++ [v]) (frs ++ [z])) (o' : B7) (e1 : o'.around = frs.map Prod.fst) (e2 : o'.met = o.met) : At7 H0 (upd H f (.lst xs)) f m o' xs frs := by
  have k := (Kp.refl [f] H).lst (o := .lst xs) (.inl (by simp)) a.hf
  obtain ⟨xs1, v1, e, p, _⟩ := pd_split a.pd
  obtain ⟨rfl, _⟩ := List.append_inj' e rfl
  have es : (frs ++ [z]).map Prod.snd = frs.map Prod.snd ++ [z.2] := by simp
  have nf := a.nf
  have nd := a.nd
  rw [es] at nf nd
  refine ⟨a.f0, a.m0, a.kp.lst (.inr a.f0) a.hf, upd_same, fas_kpM k (fun d kvs h q => by rw [List.mem_singleton.mp q, a.hf] at h; cases h) (fun x hx q' => ?_) p, e1.symm, ?_, ⟨nf.1, fun h => nf.2.1 (List.mem_append_left _ h), fun h => nf.2.2 (List.mem_append_left _ h)⟩, (List.nodup_append.mp nd).1, fun x hx => a.fr x (List.mem_append_left _ hx)⟩
  · exact nf.2.1 (List.mem_append_left _ (by rw [← List.mem_singleton.mp q']; exact List.mem_map_of_mem hx))
  · rw [e2]
    exact k.keep _ _ (by simpa using Ne.symm nf.1) a.hm
end
end Ev
namespace Ev
open PySem L2
section
variable {P : Program} {w : World} {K : PySem.W.Frag} {mg : Str → Option Value} {base : Heap}
theorem onV_ne {o : Option Nat} : decide (onV o = V.non) = o.isNone := by
  cases o with
  | none => rfl
  | some n => exact decide_eq_false (fun e => nomatch e)
theorem nV_ne {a b : Nat} (h : a = b) : (!decide (nV a = nV b)) = false := neF (by rw [h])
theorem sorted_range {n : Nat} {l : List Nat} {ns : List Int} (p : l.Perm (List.range n)) (perm : ns.Perm (l.map fun n => ((n : Nat) : Int))) (pw : ns.Pairwise (· ≤ ·)) : ns = (List.range n).map fun (i : Nat) => (i : Int) := by
  refine List.Perm.eq_of_pairwise (le := (· ≤ ·)) (fun a b _ _ h1 h2 => by omega) pw ?_ (perm.trans (p.map _))
  rw [List.pairwise_map]
  exact List.pairwise_lt_range.imp fun h => by omega
theorem pop_at {o : B7} {fs : List (Nat × List Wt)} {x : Wt} {w : List Wt} {n : Nat} (e : o.around = fs ++ [(n, x :: w)]) (m : Nat) : o.pop m = fs ++ [(m, w)] := by
  unfold B7.pop
  rw [e, List.dropLast_concat, List.getLast?_concat]
  rfl
theorem atLastN (l : List V) (v : V) : (l ++ [v])[(l ++ [v]).length - 1]? = some v := by simp
def sp_lwalked : Sp := fun vs H Q _ => ∃ (a b c : Addr) (xs es hv : List V) (rows : List Row) (E : List Evt) (hs : List Hnd), vs = [.ref a, .ref b, .ref c] ∧ H a = some (.lst xs) ∧ Paired (RowAt H) xs rows ∧ H b = some (.lst es) ∧ Paired (EvtAt H) es E ∧ H c = some (.lst hv) ∧ Paired (HndL H) hv hs ∧
  hs.length ≤ 40 ∧ (hs.map Hnd.name).Nodup ∧ (∀ h ∈ hs, h.deeds.length ≤ 30 ∧ ∀ d ∈ h.deeds, ∃ z, d = .now z) ∧ rows.length ≤ 100000 ∧ E.length ≤ 100000 ∧ (∀ e ∈ E, strOkT e.word) ∧ Tra (ok7 E) (B7.step hs E) ⟨[], none, []⟩ rows ∧
  (rows.foldl (B7.step hs E) ⟨[], none, []⟩).around = [] ∧ (rows.foldl (B7.step hs E) ⟨[], none, []⟩).born = none ∧ (rows.foldl (B7.step hs E) ⟨[], none, []⟩).met.Perm (List.range E.length) ∧ ∀ H', Kp [] H H' → Q (.bl true) H'
theorem ok_lwalked (T : Tx K mg) : FnOk P w K mg base CX0 3 T.f_lwalked T.d_lwalked ["_law_log", "_law_events", "_law_handlers"] (sp_lwalked) := by
  refine T.F_lwalked.ok sc_lwalked (by walk_at "len") (fun cdv A outer s H vs Q E hr h => ?_)
  obtain ⟨a, b, c, xs, es, hv, rows, E, hs, rfl, ha, hx, hb, he, hcc, hhv, h40, nd, hd, hl, hel, hw, tra, ar0, bn0, pm, k⟩ := h
  refine ⟨_, (pss_cons (ps_set (i := 3) sc_lwalked.nd rfl (Or.inl rfl) (pe_lst pa_nil))
    (pss_cons (ps_set (i := 4) sc_lwalked.nd rfl (Or.inl rfl) pe_non)
    (pss_cons (ps_set (i := 5) sc_lwalked.nd rfl (Or.inl rfl) (pe_lst pa_nil))
    (pss_cons (ps_for PassesOwn.never rfl (pi_list (pv 0)) (pg_name (i := 6) sc_lwalked.nd rfl (Or.inl rfl))
        (pss_cons (ps_if (pt_cmpR op_eq (pe_ix (kIxT K) (pv 6) pe_int (fun _ _ => rfl)) pe_str (nomark _))
            (pss_one ps_continue)
            pss_nil)
        (pss_cons (ps_if (pt_cmpR op_eq (pe_ix (kIxT K) (pv 6) pe_int (fun _ _ => rfl)) pe_str (nomark _))
            (pss_cons (ps_if (PW.pt (pw_or (pt_cmpR (kIn K) (pe_ix (kIxT K) (pv 6) pe_int (fun _ _ => rfl)) (pv 5) rfl) (pw_or (PW.pt (pw_and (pt_cmpR op_notN (pv 4) pe_non (nomark _)) (pw_and1 (pt_cmpR op_ne (pe_ix (kIxT K) (pv 6) pe_int (fun _ _ => rfl)) (pv 4) (nomark _))))) (pw_or1 (pt_cmpR op_ne (pe_ix (kIxT K) (pv 6) pe_int (fun _ _ => rfl)) pe_int (nomark _))))))
                (pss_one (ps_ret pe_bl))
                pss_nil)
            (pss_cons (ps_if (PW.pt (pw_and (pt_cmpR op_isN (pv 4) pe_non (nomark _)) (pw_and1 (kTruth K (pv 3)))))
                (pss_one (ps_ret pe_bl))
                pss_nil)
            (pss_cons (ps_expr (pe_bm PySem.F.plainAttrs_list PySem.F.slot_list_append PySem.F.type_list_append mt_append (pv 5) (pa_cons (pe_ix (kIxT K) (pv 6) pe_int (fun _ _ => rfl)) pa_nil)))
            (pss_cons (ps_set (i := 4) sc_lwalked.nd rfl (Or.inl rfl) pe_non)
            (pss_cons (ps_expr (pe_bm PySem.F.plainAttrs_list PySem.F.slot_list_append PySem.F.type_list_append mt_append (pv 3) (pa_cons (pe_call (ok_lframe T) (hr.mono (by decide)) rfl T.g_lframe T.F_lframe.kp T.b_lframe .nil pass0 (pa_cons (pe_ix (kIxT K) (pv 6) pe_int (fun _ _ => rfl)) (pa_cons (pe_ix (kIxT K) (pe_ix (kIxL K) (pv 1) (pe_ix (kIxT K) (pv 6) pe_int (fun _ _ => rfl)) (fun _ _ => rfl)) pe_int (fun _ _ => rfl)) (pa_cons (pv 2) pa_nil)))) pa_nil)))
            (pss_one ps_continue))))))
            pss_nil)
        (pss_cons (ps_if (PW.pt (pw_or (pt_not (kTruth K (pv 3))) (pw_or (pt_cmpR op_notN (pv 4) pe_non (nomark _)) (pw_or1 (pt_cmpR op_ne (pe_ix (kIxT K) (pv 6) pe_int (fun _ _ => rfl)) (pe_dget (hu_of hr) (pe_ix (kIxL K) (pv 3) (pe_un un_neg pe_int) (fun _ _ => rfl)) pe_str (fun _ _ => rfl)) (nomark _))))))
            (pss_one (ps_ret pe_bl))
            pss_nil)
        (pss_cons (ps_set (i := 7) sc_lwalked.nd rfl (Or.inl rfl) (pe_bm PySem.F.plainAttrs_list PySem.F.slot_list_pop PySem.F.type_list_pop mt_popAt (pe_dget (hu_of hr) (pe_ix (kIxL K) (pv 3) (pe_un un_neg pe_int) (fun _ _ => rfl)) pe_str (fun _ _ => rfl)) (pa_cons pe_int pa_nil)))
        (pss_cons (ps_if (pt_cmpR op_ne (pe_ix (kIxT K) (pv 6) pe_int (fun _ _ => rfl)) (pe_ix (kIxT K) (pv 7) pe_int (fun _ _ => rfl)) (nomark _))
            (pss_one (ps_ret pe_bl))
            pss_nil)
        (pss_cons (ps_if (PW.pt (pw_and (pt_cmpR op_eq (pe_ix (kIxT K) (pv 6) pe_int (fun _ _ => rfl)) pe_str (nomark _)) (pw_and1 (pt_cmpR op_ne (pe_ix (kIxT K) (pv 6) pe_int (fun _ _ => rfl)) (pe_ix (kIxT K) (pv 7) pe_int (fun _ _ => rfl)) (nomark _)))))
            (pss_one (ps_ret pe_bl))
            pss_nil)
        (pss_cons (ps_if (pt_cmpR op_eq (pe_ix (kIxT K) (pv 6) pe_int (fun _ _ => rfl)) pe_str (nomark _))
            (pss_cons (ps_set (i := 4) sc_lwalked.nd rfl (Or.inl rfl) (pe_ix (kIxT K) (pv 6) pe_int (fun _ _ => rfl)))
            (pss_one (ps_if (pt_cmpR (kNeD K hr.units) (pe_ix (kIxL K) (pv 1) (pv 4) (fun _ _ => rfl)) (pe_tup (pa_cons (pe_ix (kIxT K) (pv 7) pe_int (fun _ _ => rfl)) (pa_cons (pe_ix (kIxT K) (pv 6) pe_int (fun _ _ => rfl)) (pa_cons pe_str (pa_cons pe_int pa_nil))))) (nomark _))
                (pss_one (ps_ret pe_bl))
                pss_nil)))
            pss_nil)
        (pss_one (ps_if (pt_cmpR op_eq (pe_ix (kIxT K) (pv 6) pe_int (fun _ _ => rfl)) pe_str (nomark _))
            (pss_one (ps_expr (pe_bm0 PySem.F.plainAttrs_list PySem.F.slot_list_pop PySem.F.type_list_pop mt_pop (pv 3))))
            pss_nil))))))))))
    (pss_one (ps_ret (pe_and (pe_cmpR (kEqD K hr.units) (pv 3) (pe_lst pa_nil) (nomark _)) (pe_and (pe_cmpR op_isN (pv 4) pe_non (nomark _)) (pe_one (pe_cmpR (kEqD K hr.units) (pe_callB (kSortI K) (by rfl) T.z_sorted (by decide +kernel) (pa_cons (pv 5) pa_nil)) (pe_listRg rfl (by rfl) T.z_list (prg_1 (by rfl) T.z_range (pe_callB (kLen K) (by rfl) T.z_len PySem.boot_len (pa_cons (pv 1) pa_nil)))) (nomark _))))))))))), ?_⟩
  refine seq_go (asg_go ?_)
  refine ⟨Nat.zero_le _, fun f hf => ?_⟩
  have k1 := (Kp.refl [] H).new (o := .lst []) hf
  have e1 : upd H f (.lst []) f = some (.lst []) := upd_same
  generalize upd H f (.lst []) = H1 at k1 e1 ⊢
  dsimp only [gName]
  refine seq_go (asg_go ?_)
  dsimp only [tC, gName]
  refine seq_go (asg_go ?_)
  refine ⟨Nat.zero_le _, fun m hm => ?_⟩
  have k2 := (Kp.refl [] H1).new (o := .lst []) hm
  have e2 : upd H1 m (.lst []) m = some (.lst []) := upd_same
  have nfm : f ≠ m := fun e => by rw [← e, e1] at hm; cases hm
  generalize upd H1 m (.lst []) = H2 at k2 e2 ⊢
  dsimp only [gName]
  refine seq_go (for_go ?_)
  refine ⟨_, rfl, a, rfl, ⟨_, SqL.of ((k1.trans k2).keep0 ha)⟩, ?_⟩
  refine for_pd hx (fun pre σ H' => ∃ as frs, At7 H H' f m (pre.foldl (B7.step hs E) ⟨[], none, []⟩) as frs ∧ as.length ≤ pre.length ∧ (pre.foldl (B7.step hs E) ⟨[], none, []⟩).met.length ≤ pre.length ∧
      ∃ o6 o7, σ = [some (.ref a), some (.ref b), some (.ref c), some (.ref f), some (onV (pre.foldl (B7.step hs E) ⟨[], none, []⟩).born), some (.ref m), o6, o7])
    ⟨[], [], ⟨hf, k1.dom _ hm, k1.trans k2, k2.keep0 e1, .nil, rfl, e2, ⟨nfm, by simp, by simp⟩, by simp, by simp⟩, Nat.le_refl _, Nat.le_refl _, _, _, rfl⟩ (fun pre σ H' ⟨_, _, q, _⟩ => SqL.of (q.kp.keep0 ha)) ?_ ?_
  · rintro pre v r post σ H3 ed rv ⟨as, frs, at3, la, lm, o6, o7, rfl⟩
    have ok := tra pre r post ed
    have pl : pre.length < 100000 := by
      have : (pre ++ r :: post).length ≤ 100000 := by rw [← ed]; exact hl
      rw [List.length_append, List.length_cons] at this
      omega
    rw [List.foldl_append, List.length_append]
    generalize pre.foldl (B7.step hs E) ⟨[], none, []⟩ = o at at3 lm ok ⊢
    obtain ⟨p, q, rfl, hp, hq⟩ := rv.kp at3.kp
    cases r with
    | send n =>
      refine ⟨_, rfl, p, _, _, _, rfl, rfl, SqT.of hp, at0, rfl, _, rfl, iteT' (Row.isSend_tag _) ?_⟩
      exact ⟨as, frs, at3, by omega, by show o.met.length ≤ _; omega, _, _, rfl⟩
    | begin n t =>
      obtain ⟨nm, ob, rfl, oa, hn⟩ := ok
      obtain ⟨e, hE⟩ : ∃ e, E[n]? = some e := ⟨_, List.getElem?_eq_getElem hn⟩
      obtain ⟨ev, eev, pe, rfl, hpe⟩ := Pd.at' he hE
      refine ⟨_, rfl, p, _, _, _, rfl, rfl, SqT.of hp, at0, rfl, _, rfl, iteF' (Row.isSend_tag _) ?_⟩
      refine ⟨_, rfl, p, _, _, _, rfl, rfl, SqT.of hp, at0, rfl, _, rfl, iteT' (Row.isBegin_tag _) ?_⟩
      refine ⟨_, rfl, p, _, _, _, rfl, rfl, SqT.of hp, at1, _, rfl, m, _, rfl, .inl (SqL.of at3.hm), rfl, flat_nats _, _, rfl, ?_⟩
      rw [inV_nats, decide_eq_false nm]
      refine iteF' rfl ?_
      have mid : Kp [] H3 H3 := Kp.refl _ _
      have lm1 : (o.met.map nV).length < sizeLine := by
        rw [List.length_map]
        exact Nat.lt_of_le_of_lt (show o.met.length ≤ 100000 by omega) (by decide)
      rcases eb : o.born with _ | b'
      all_goals first
        | (refine ⟨_, rfl, rfl, _, rfl, iteF' rfl ⟨_, rfl, p, _, _, _, rfl, rfl, SqT.of hp, at2, rfl, _, rfl, iteF' (neF rfl) ?_⟩⟩
           have e0 := oa eb
           have ef : frs = [] := List.map_eq_nil_iff.mp (at3.ar.trans e0)
           have ea : as = [] := by
             have := Pd.len at3.pd
             rw [ef] at this
             exact List.eq_nil_of_length_eq_zero this
           refine ⟨_, rfl, rfl, _, rfl, iteT' rfl ⟨_, rfl, _, .inl ⟨_, SqL.of at3.hf, rfl⟩, iteF' (by rw [ea]; rfl) ?_⟩⟩)
        | (refine ⟨_, rfl, rfl, _, rfl, iteT' rfl ⟨_, rfl, p, _, _, _, rfl, rfl, SqT.of hp, at1, _, rfl, rfl, _, rfl, iteF' (nV_ne (ob _ eb).symm) ⟨_, rfl, p, _, _, _, rfl, rfl, SqT.of hp, at2, rfl, _, rfl, iteF' (neF rfl) ?_⟩⟩⟩
           refine ⟨_, rfl, rfl, _, rfl, iteF' rfl ?_⟩)
      all_goals
        refine ⟨_, rfl, .inl ⟨rfl, _, SqL.of at3.hm⟩, _, rfl, p, _, _, _, rfl, rfl, SqT.of hp, at1, m, _, _, rfl, rfl, at3.hm, lm1, ?_⟩
        have at4 := at3.setM n { o with met := o.met ++ [n], born := none } rfl rfl
        have k34 : TK H3 (upd H3 m (.lst (o.met.map nV ++ [nV n]))) := ((Kp.refl [m] H3).lst (o := .lst (o.met.map nV ++ [nV n])) (.inl (by simp)) at3.hm).tk
        generalize upd H3 m (.lst (o.met.map nV ++ [nV n])) = H4 at at4 k34 ⊢
        have hp4 := k34 _ _ hp
        refine ⟨_, rfl, .inl ⟨rfl, _, SqL.of at4.hf⟩, _, rfl, p, _, _, _, rfl, rfl, SqT.of hp4, at1, _, rfl, _, rfl, p, _, _, _, rfl, rfl, SqT.of hp4, at1, b, _, _, _, rfl, rfl, SqL.of (at4.kp.keep0 hb), atI_nat eev, pe, _, _, _, rfl, rfl, SqT.of (at4.kp.tk _ _ hpe), at0, _, rfl,
          n, e.word, c, hv, hs, rfl, at4.kp.keep0 hcc, Pd.mono (fun _ _ z => z.kp at4.kp) hhv, h40, nd, hd, fun d q5 H5 ys hd0 hq0 ndq k5 gd gq py => ?_⟩
        have at5 := at4.kp0 k5
        have nq5 : q5 ∉ frs.map Prod.snd := fun hm => by
          obtain ⟨z, hz, ez⟩ := List.mem_map.mp hm
          obtain ⟨i, hi⟩ := List.getElem?_of_mem hz
          obtain ⟨v, _, hv⟩ := Pd.at' at4.pd hi
          obtain ⟨_, _, _, _, h2, _⟩ := hv
          rw [ez, hq0] at h2
          cases h2
        have at6 := at5.push gd gq py (at4.kp.dom _ hq0) ⟨(fun e => by rw [e, at4.hf] at hq0; cases hq0), (fun e => by rw [e, at4.hm] at hq0; cases hq0), nq5⟩ (o.step hs E (.begin n 0)) (by show o.around ++ [(n, wanted7 hs (wOf E n))] = _; rw [wOf_at hE]) rfl
        refine ⟨f, _, _, rfl, rfl, at5.hf, Nat.lt_of_le_of_lt (show as.length ≤ 100000 by omega) (by decide), ?_⟩
        exact ⟨_, _, at6, by rw [List.length_append]; show as.length + 1 ≤ pre.length + 1; omega, by show (o.met ++ [n]).length ≤ pre.length + 1; rw [List.length_append]; show o.met.length + 1 ≤ _; omega, _, _, rfl⟩
    | call n x =>
      obtain ⟨ob, fs, w, ea⟩ := ok
      refine ⟨_, rfl, p, _, _, _, rfl, rfl, SqT.of hp, at0, rfl, _, rfl, iteF' (Row.isSend_tag _) ?_⟩
      refine ⟨_, rfl, p, _, _, _, rfl, rfl, SqT.of hp, at0, rfl, _, rfl, iteF' (Row.isBegin_tag _) ?_⟩
      obtain ⟨xs', d, q, y, ys, t, frs', rfl, rfl, h1, hdd, hqq, rfl, ht, nqf, q0, st⟩ := at3.top ea
      have neA : ∀ (l : List V) (v : V), (l ++ [v]).isEmpty = false := fun l v => by cases l <;> rfl
      refine ⟨_, rfl, _, .inl ⟨_, SqL.of at3.hf, rfl⟩, iteF' (by rw [neA]; rfl) ⟨_, rfl, rfl, _, rfl, iteF' (by rw [ob]; rfl) ?_⟩⟩
      refine ⟨_, rfl, p, _, _, _, rfl, rfl, SqT.of hp, at1, _, rfl, _, rfl, f, _, _, .ref d, rfl, rfl, SqL.of at3.hf, atLast List.getLast?_concat, d, nV n, rfl, DGet.k (k := Sum.inr "number") hdd, rfl, _, rfl, iteF' (nV_ne rfl) ?_⟩
      refine ⟨_, rfl, _, rfl, f, _, _, .ref d, rfl, rfl, SqL.of at3.hf, atLast List.getLast?_concat, d, .ref q, rfl, DGet.k (k := Sum.inr "wanted") hdd, .inl ⟨rfl, _, SqL.of hqq⟩, q, _, 0, 0, .ref t, rfl, rfl, hqq, (by decide), (by decide), sq0 (Nat.succ_pos _), rfl, ?_⟩
      have kq : TK H3 (upd H3 q (.lst ys)) := ((Kp.refl [q] H3).lst (o := .lst ys) (.inl (by simp)) hqq).tk
      have at4 := st (o.step hs E (.call n x)) (pop_at ea n) rfl
      change TK H3 (upd H3 q (.lst (List.eraseIdx (V.ref t :: ys) 0))) at kq
      change At7 H (upd H3 q (.lst (List.eraseIdx (V.ref t :: ys) 0))) _ _ _ _ _ at at4
      generalize upd H3 q (.lst (List.eraseIdx (V.ref t :: ys) 0)) = H4 at at4 kq ⊢
      have hp4 := kq _ _ hp
      have ht4 := kq _ _ ht
      refine ⟨_, rfl, p, _, _, _, rfl, rfl, SqT.of hp4, at0, _, rfl, t, _, _, _, rfl, rfl, SqT.of ht4, at0, rfl, _, rfl, iteF' (neF rfl) ?_⟩
      refine ⟨_, rfl, p, _, _, _, rfl, rfl, SqT.of hp4, at0, rfl, _, rfl, iteT' (Row.isCall_tag _) ⟨_, rfl, p, _, _, _, rfl, rfl, SqT.of hp4, at2, _, rfl, t, _, _, _, rfl, rfl, SqT.of ht4, at2, rfl, _, rfl, iteF' (neF rfl) ?_⟩⟩
      refine ⟨_, rfl, p, _, _, _, rfl, rfl, SqT.of hp4, at0, rfl, _, rfl, iteF' (Row.isMake_tag _) ?_⟩
      refine ⟨_, rfl, p, _, _, _, rfl, rfl, SqT.of hp4, at0, rfl, _, rfl, iteF' (Row.isFin_tag _) ?_⟩
      exact ⟨_, _, at4, by show _ ≤ pre.length + 1; omega, by show o.met.length ≤ pre.length + 1; omega, _, _, rfl⟩
    | make n b' =>
      obtain ⟨ob, fs, z, w, ea, eE⟩ := ok
      obtain ⟨ev, eev, pev⟩ := Pd.at' he eE
      refine ⟨_, rfl, p, _, _, _, rfl, rfl, SqT.of hp, at0, rfl, _, rfl, iteF' (Row.isSend_tag _) ?_⟩
      refine ⟨_, rfl, p, _, _, _, rfl, rfl, SqT.of hp, at0, rfl, _, rfl, iteF' (Row.isBegin_tag _) ?_⟩
      obtain ⟨xs', d, q, y, ys, t, frs', rfl, rfl, h1, hdd, hqq, rfl, ht, nqf, q0, st⟩ := at3.top ea
      have neA : ∀ (l : List V) (v : V), (l ++ [v]).isEmpty = false := fun l v => by cases l <;> rfl
      refine ⟨_, rfl, _, .inl ⟨_, SqL.of at3.hf, rfl⟩, iteF' (by rw [neA]; rfl) ⟨_, rfl, rfl, _, rfl, iteF' (by rw [ob]; rfl) ?_⟩⟩
      refine ⟨_, rfl, p, _, _, _, rfl, rfl, SqT.of hp, at1, _, rfl, _, rfl, f, _, _, .ref d, rfl, rfl, SqL.of at3.hf, atLast List.getLast?_concat, d, nV n, rfl, DGet.k (k := Sum.inr "number") hdd, rfl, _, rfl, iteF' (nV_ne rfl) ?_⟩
      refine ⟨_, rfl, _, rfl, f, _, _, .ref d, rfl, rfl, SqL.of at3.hf, atLast List.getLast?_concat, d, .ref q, rfl, DGet.k (k := Sum.inr "wanted") hdd, .inl ⟨rfl, _, SqL.of hqq⟩, q, _, 0, 0, .ref t, rfl, rfl, hqq, (by decide), (by decide), sq0 (Nat.succ_pos _), rfl, ?_⟩
      have kq : TK H3 (upd H3 q (.lst ys)) := ((Kp.refl [q] H3).lst (o := .lst ys) (.inl (by simp)) hqq).tk
      have at4 := st (o.step hs E (.make n b')) (pop_at ea n) rfl
      change TK H3 (upd H3 q (.lst (List.eraseIdx (V.ref t :: ys) 0))) at kq
      change At7 H (upd H3 q (.lst (List.eraseIdx (V.ref t :: ys) 0))) _ _ _ _ _ at at4
      generalize upd H3 q (.lst (List.eraseIdx (V.ref t :: ys) 0)) = H4 at at4 kq ⊢
      have hp4 := kq _ _ hp
      have ht4 := kq _ _ ht
      refine ⟨_, rfl, p, _, _, _, rfl, rfl, SqT.of hp4, at0, _, rfl, t, _, _, _, rfl, rfl, SqT.of ht4, at0, rfl, _, rfl, iteF' (neF rfl) ?_⟩
      refine ⟨_, rfl, p, _, _, _, rfl, rfl, SqT.of hp4, at0, rfl, _, rfl, iteF' (Row.isCall_tag _) (iteF ?_)⟩
      refine ⟨_, rfl, p, _, _, _, rfl, rfl, SqT.of hp4, at0, rfl, _, rfl, iteT' (Row.isMake_tag _) ?_⟩
      refine ⟨_, rfl, p, _, _, _, rfl, rfl, SqT.of hp4, at2, ?_⟩
      refine ⟨_, rfl, _, rfl, b, _, _, ev, rfl, rfl, SqL.of (at4.kp.keep0 hb), atI_nat eev, _, rfl, t, _, _, _, rfl, rfl, SqT.of ht4, at2, _, rfl, p, _, _, _, rfl, rfl, SqT.of hp4, at1, (by show 4 ≤ sizeLine; decide), fun t5 ht5 => ?_⟩
      have hz := hw _ (List.mem_of_getElem? eE)
      have k5 := (Kp.refl [] H4).new (o := .tup [.str z, nV n, .str "now", .int 0]) ht5
      have q5 : EvtAt (upd H4 t5 (.tup [.str z, nV n, .str "now", .int 0])) (.ref t5) ⟨z, some n, .now, 0⟩ := ⟨t5, rfl, upd_same⟩
      generalize upd H4 t5 (.tup [.str z, nV n, .str "now", .int 0]) = H5 at k5 q5 ⊢
      have at5 := at4.kp0 k5
      refine ⟨_, _, evt_dp (pev.tk at5.kp.tk), evt_dp q5, (evt_ok hz).sh, (evt_ok hz).sh, _, rfl, iteF' (by rw [(evt_ok hz).rfl]; rfl) ?_⟩
      have hp5 := k5.tk _ _ hp4
      refine ⟨_, rfl, p, _, _, _, rfl, rfl, SqT.of hp5, at0, rfl, _, rfl, iteF' (Row.isFin_tag _) ?_⟩
      exact ⟨_, _, at5, by show _ ≤ pre.length + 1; omega, by show o.met.length ≤ pre.length + 1; omega, _, _, rfl⟩
    | fin n =>
      obtain ⟨ob, fs, ea⟩ := ok
      refine ⟨_, rfl, p, _, _, _, rfl, rfl, SqT.of hp, at0, rfl, _, rfl, iteF' (Row.isSend_tag _) ?_⟩
      refine ⟨_, rfl, p, _, _, _, rfl, rfl, SqT.of hp, at0, rfl, _, rfl, iteF' (Row.isBegin_tag _) ?_⟩
      obtain ⟨xs', d, q, y, ys, t, frs', rfl, rfl, h1, hdd, hqq, rfl, ht, nqf, q0, st⟩ := at3.top ea
      have neA : ∀ (l : List V) (v : V), (l ++ [v]).isEmpty = false := fun l v => by cases l <;> rfl
      refine ⟨_, rfl, _, .inl ⟨_, SqL.of at3.hf, rfl⟩, iteF' (by rw [neA]; rfl) ⟨_, rfl, rfl, _, rfl, iteF' (by rw [ob]; rfl) ?_⟩⟩
      refine ⟨_, rfl, p, _, _, _, rfl, rfl, SqT.of hp, at1, _, rfl, _, rfl, f, _, _, .ref d, rfl, rfl, SqL.of at3.hf, atLast List.getLast?_concat, d, nV n, rfl, DGet.k (k := Sum.inr "number") hdd, rfl, _, rfl, iteF' (nV_ne rfl) ?_⟩
      refine ⟨_, rfl, _, rfl, f, _, _, .ref d, rfl, rfl, SqL.of at3.hf, atLast List.getLast?_concat, d, .ref q, rfl, DGet.k (k := Sum.inr "wanted") hdd, .inl ⟨rfl, _, SqL.of hqq⟩, q, _, 0, 0, .ref t, rfl, rfl, hqq, (by decide), (by decide), sq0 (Nat.succ_pos _), rfl, ?_⟩
      have kq : TK H3 (upd H3 q (.lst ys)) := ((Kp.refl [q] H3).lst (o := .lst ys) (.inl (by simp)) hqq).tk
      have at4 := st ⟨fs ++ [(n, [])], o.born, o.met⟩ rfl rfl
      change TK H3 (upd H3 q (.lst (List.eraseIdx (V.ref t :: ys) 0))) at kq
      change At7 H (upd H3 q (.lst (List.eraseIdx (V.ref t :: ys) 0))) _ _ _ _ _ at at4
      generalize upd H3 q (.lst (List.eraseIdx (V.ref t :: ys) 0)) = H4 at at4 kq ⊢
      have hp4 := kq _ _ hp
      have ht4 := kq _ _ ht
      refine ⟨_, rfl, p, _, _, _, rfl, rfl, SqT.of hp4, at0, _, rfl, t, _, _, _, rfl, rfl, SqT.of ht4, at0, rfl, _, rfl, iteF' (neF rfl) ?_⟩
      refine ⟨_, rfl, p, _, _, _, rfl, rfl, SqT.of hp4, at0, rfl, _, rfl, iteF' (Row.isCall_tag _) (iteF ?_)⟩
      refine ⟨_, rfl, p, _, _, _, rfl, rfl, SqT.of hp4, at0, rfl, _, rfl, iteF' (Row.isMake_tag _) ?_⟩
      refine ⟨_, rfl, p, _, _, _, rfl, rfl, SqT.of hp4, at0, rfl, _, rfl, iteT' (Row.isFin_tag _) ?_⟩
      have at5 := at4.drop (o.step hs E (.fin n)) (by show o.around.dropLast = _; rw [ea, List.dropLast_concat, h1]) rfl
      refine ⟨_, rfl, .inl ⟨rfl, _, SqL.of at4.hf⟩, f, _, _, rfl, rfl, at4.hf, atLastN _ _, ?_⟩
      rw [List.dropLast_concat]
      exact ⟨_, _, at5, by rw [List.length_append] at la; show _ ≤ pre.length + 1; simp at la; omega, by show o.met.length ≤ pre.length + 1; omega, _, _, rfl⟩
    | cancel _ _ => exact ok.elim
    | join _ _ => exact ok.elim
    | leave _ _ => exact ok.elim
    | hush _ => exact ok.elim
  · rintro σ H3 ⟨as, frs, at3, la, lm, o6, o7, rfl⟩
    generalize rows.foldl (B7.step hs E) ⟨[], none, []⟩ = o at at3 ar0 bn0 pm lm ⊢
    have ef : frs = [] := List.map_eq_nil_iff.mp (at3.ar.trans ar0)
    have ea : as = [] := by
      have := Pd.len at3.pd
      rw [ef] at this
      exact List.eq_nil_of_length_eq_zero this
    subst ea
    refine ⟨_, rfl, Nat.zero_le _, fun l hl' => ?_⟩
    have k4 := (Kp.refl [] H3).new (o := .lst []) hl'
    have q4 : upd H3 l (.lst []) l = some (.lst []) := upd_same
    generalize upd H3 l (.lst []) = H4 at k4 q4 ⊢
    have at4 := at3.kp0 k4
    refine ⟨_, _, dp_ints (ns := []) at4.hf, dp_ints (ns := []) q4, (ok_ints []).sh, (ok_ints []).sh, _, rfl, iteT' (ok_ints []).rfl ?_⟩
    refine ⟨_, rfl, rfl, _, rfl, iteT' (by rw [bn0]; rfl) ?_⟩
    have em : o.met.map nV = (o.met.map fun (n : Nat) => (n : Int)).map V.int := by rw [List.map_map]; rfl
    refine ⟨_, rfl, m, _, rfl, by rw [← em]; exact SqL.of at4.hm, fun ns' p perm pw hp => ?_⟩
    have k5 := (Kp.refl [] H4).new (o := .lst (ns'.map V.int)) hp
    have q5 : upd H4 p (.lst (ns'.map V.int)) p = some (.lst (ns'.map V.int)) := upd_same
    generalize upd H4 p (.lst (ns'.map V.int)) = H5 at k5 q5 ⊢
    have at5 := at4.kp0 k5
    have les := Pd.len he
    refine ⟨_, rfl, b, es, rfl, .inl (SqL.of (at5.kp.keep0 hb)), _, rfl, ?_, fun q hq => ?_⟩
    · refine RgOk.of_le (by omega) ?_ (by omega) (by omega)
      rw [les]
      omega
    have k6 := (Kp.refl [] H5).new (o := .lst (rgV 0 (es.length : Nat))) hq
    have q6 : upd H5 q (.lst (rgV 0 (es.length : Nat))) q = some (.lst (rgV 0 (es.length : Nat))) := upd_same
    generalize upd H5 q (.lst (rgV 0 (es.length : Nat))) = H6 at k6 q6 ⊢
    rw [sorted_range pm perm pw] at q5
    have e5 : ((List.range E.length).map fun (i : Nat) => (i : Int)).map V.int = (List.range E.length).map nV := by rw [List.map_map]; rfl
    have e6 : rgV 0 (es.length : Nat) = (List.range E.length).map nV := by
      unfold rgV
      have : ((es.length : Nat) - 0 : Int).toNat = E.length := by rw [les]; omega
      rw [this]
      refine List.map_congr_left fun i _ => ?_
      rw [Int.zero_add]
      rfl
    rw [e5] at q5
    rw [e6] at q6
    refine ⟨_, _, dp_ints (k6.keep0 q5), dp_ints q6, (ok_ints _).sh, (ok_ints _).sh, ?_⟩
    rw [(ok_ints _).rfl]
    exact k _ (at5.kp.trans k6)
end
end Ev
namespace Ev
open PySem L2
section
variable {P : Program} {w : World} {K : PySem.W.Frag} {mg : Str → Option Value} {base : Heap}
def sp_ltoldAt (K : PySem.W.Frag) : Sp := fun vs H Q _ => ∃ (a : Addr) (ns : List Int) (i : Nat), vs = [.ref a, nV i] ∧ SqL K H a (ns.map V.int) ∧ Q (.int (ns.getD i 0)) H
theorem ok_ltoldAt (T : Tx K mg) : FnOk P w K mg base CX0 1 T.f_ltoldAt T.d_ltoldAt ["_law_script", "_law_place"] (sp_ltoldAt K) := by
  refine T.F_ltoldAt.ok sc_ltoldAt (by walk_at "len") (fun cdv A outer s H vs Q E hr h => ?_)
  obtain ⟨a, ns, i, rfl, ha, k⟩ := h
  refine ⟨_, (pss_cons (ps_if (pt_cmpR op_ge (pv 1) (pe_callB (kLen K) (by rfl) T.z_len PySem.boot_len (pa_cons (pv 0) pa_nil)) (nomark _))
        (pss_one (ps_ret pe_int))
        pss_nil)
    (pss_one (ps_ret (pe_ix (kIxL K) (pv 0) (pv 1) (fun _ _ => rfl))))), ?_⟩
  refine ⟨_, rfl, _, rfl, a, _, rfl, .inl ha, _, _, rfl, rfl, _, rfl, ite2 (fun hc => ?_) (fun hc => ?_)⟩
  · have e : ns.getD i 0 = 0 := by
      have h1 := of_decide_eq_true hc
      rw [List.length_map] at h1
      rw [List.getD_eq_getElem?_getD, List.getElem?_eq_none (by omega)]
      rfl
    rw [e] at k
    exact k
  · have h1 : ¬ _ := fun q => hc (decide_eq_true q)
    rw [List.length_map] at h1
    have h2 : i < ns.length := by omega
    refine ⟨_, rfl, _, rfl, a, _, _, V.int (ns.getD i 0), rfl, rfl, ha, atI_nat ?_, k⟩
    rw [List.getElem?_map, List.getElem?_eq_getElem h2, List.getD_eq_getElem?_getD, List.getElem?_eq_getElem h2]
    rfl
end
end Ev
namespace Ev
open PySem L2
section
variable {P : Program} {w : World} {K : PySem.W.Frag} {mg : Str → Option Value} {base : Heap}
def primes7 : List Int := [10007, 20011, 30011, 40009, 50021, 60013, 70001]
def mixM (cell k many : Int) : Int := (cell + 31 * k) * 48271 % (primes7.getD (k % 7).toNat 1) % many
theorem mixM_lo {cell k many : Int} (h : 0 < many) : 0 ≤ mixM cell k many := Int.emod_nonneg _ (by omega)
theorem mixM_hi {cell k many : Int} (h : 0 < many) : mixM cell k many < many := Int.emod_lt_of_pos _ h
theorem primes_at (k : Int) : ∃ p : Int, 0 < p ∧ primes7.getD (k % 7).toNat 1 = p ∧ atI (primes7.map V.int) (k % 7) = some (V.int p) := by
  have h0 : 0 ≤ k % 7 := Int.emod_nonneg _ (by decide)
  have h7 : k % 7 < 7 := Int.emod_lt_of_pos _ (by decide)
  generalize k % 7 = j at h0 h7 ⊢
  obtain ⟨n, rfl⟩ := Int.eq_ofNat_of_zero_le h0
  have hn : n < 7 := by omega
  refine ⟨primes7.getD n 1, ?_, rfl, atI_nat ?_⟩
  · have : ∀ n < 7, 0 < primes7.getD n 1 := by decide
    exact this n hn
  · rw [List.getElem?_map, List.getD_eq_getElem?_getD, List.getElem?_eq_getElem (show n < primes7.length from hn)]
    rfl
def sp_lmixed (K : PySem.W.Frag) : Sp := fun vs H Q _ => ∃ (cell k many : Int), vs = [.int cell, .int k, .int many] ∧ 0 < many ∧ ∀ H', Kp [] H H' → Q (.int (mixM cell k many)) H'
theorem ok_lmixed (T : Tx K mg) : FnOk P w K mg base CX0 1 T.f_lmixed T.d_lmixed ["_law_cell", "_law_k", "_law_many"] (sp_lmixed K) := by
  refine T.F_lmixed.ok sc_lmixed (by walk_at "len") (fun cdv A outer s H vs Q E hr h => ?_)
  obtain ⟨cell, j, many, rfl, hm, k⟩ := h
  refine ⟨_, (pss_cons (ps_set (i := 3) sc_lmixed.nd rfl (Or.inl rfl) (pe_lst (pa_cons pe_int (pa_cons pe_int (pa_cons pe_int (pa_cons pe_int (pa_cons pe_int (pa_cons pe_int (pa_cons pe_int pa_nil)))))))))
    (pss_one (ps_ret (pe_op op_mod (pe_op op_mod (pe_op op_mul (pe_op op_add (pv 0) (pe_op op_mul pe_int (pv 1))) pe_int) (pe_ix (kIxL K) (pv 3) (pe_op op_mod (pv 1) pe_int) (fun _ _ => rfl))) (pv 2))))), ?_⟩
  obtain ⟨p, p0, ep, ea⟩ := primes_at j
  refine ⟨by show 7 ≤ sizeLine; decide, fun a ha => ?_⟩
  refine ⟨_, rfl, _, rfl, _, _, rfl, rfl, .inl (by decide), _, _, rfl, rfl, _, _, rfl, rfl, .inr (by decide), _, rfl, _, rfl, _, _, rfl, rfl, (by show (0 : Int) < 7; decide), a, _, _, V.int p, rfl, rfl, SqL.of upd_same, ea, _, _, rfl, rfl, p0, _, rfl, _, _, rfl, rfl, hm, ?_⟩
  have e : mixM cell j many = (cell + 31 * j) * 48271 % p % many := by rw [← ep]; rfl
  show Q (V.int ((cell + 31 * j) * 48271 % p % many)) _
  rw [← e]
  exact k _ ((Kp.refl _ _).new ha)
end
end Ev
namespace Ev
open PySem L2
/-! ### words of the law's own -/
theorem ofL_app (a b : List Nat) : ofL a ++ ofL b = ofL (a ++ b) := str_eq (by rw [app_list]; rfl)
theorem cutS_to (cs : List Nat) {k : Nat} (h : k ≤ cs.length) : cutS (ofL cs) none (some (k : Int)) = ofL (cs.take k) := by
  refine str_eq ?_
  show ((cs.drop (HT.sIx cs.length 0 none)).take (HT.sIx cs.length cs.length (some (k : Int)) - HT.sIx cs.length 0 none)) = cs.take k
  rw [HT.sIx_none, HT.sIx_nat, Nat.min_eq_left h]
  rfl
theorem cutS_from (cs : List Nat) {k : Nat} (h : k ≤ cs.length) : cutS (ofL cs) (some (k : Int)) none = ofL (cs.drop k) := by
  refine str_eq ?_
  show ((cs.drop (HT.sIx cs.length 0 (some (k : Int)))).take (HT.sIx cs.length cs.length none - HT.sIx cs.length 0 (some (k : Int)))) = cs.drop k
  rw [HT.sIx_none, HT.sIx_nat, Nat.min_eq_left h]
  exact List.take_of_length_le (by simp)
def isLet (cs : List Nat) : Prop := ∀ c ∈ cs, 97 ≤ c ∧ c ≤ 122
theorem isLet_sub {a b : List Nat} (s : ∀ c ∈ a, c ∈ b) (h : isLet b) : isLet a := fun c hc => h c (s c hc)
theorem isLet_app {a b : List Nat} (ha : isLet a) (hb : isLet b) : isLet (a ++ b) := fun c hc => (List.mem_append.mp hc).elim (ha c) (hb c)
end Ev
namespace Ev
open PySem L2
theorem let_mem : ∀ n < 26, 97 + n ∈ letters.cps.toList := by decide +kernel
theorem isWord_let {cs : List Nat} (h0 : 1 ≤ cs.length) (h1 : cs.length ≤ 12) (h : isLet cs) : isWord (ofL cs) = true := by
  unfold isWord
  rw [ofL_len, decide_eq_true (show 0 < cs.length from h0), decide_eq_true h1]
  show (cs.all fun c => decide (c ∈ letters.cps.toList)) = true
  rw [List.all_eq_true]
  intro c hc
  have q := h c hc
  have := let_mem (c - 97) (by omega)
  rw [show 97 + (c - 97) = c by omega] at this
  exact decide_eq_true this
end Ev
namespace Ev
open PySem L2
/-! ### deeds and handlers that are good; an if that goes on -/
/-- a good deed, whose name is one of S -/
def GoodD (S : Str → Prop) (d : Deed) : Prop := d.ok = true ∧ ∀ x ∈ d.names, S x
theorem good_cons {S : Str → Prop} {d : Deed} {ds : List Deed} (h : GoodD S d) (t : ∀ x ∈ ds, GoodD S x) : ∀ x ∈ d :: ds, GoodD S x := fun x hx => (List.mem_cons.mp hx).elim (fun e => e ▸ h) (t x)
theorem notB {b : Bool} (h : b = true) : (!b) = false := by rw [h]; rfl
theorem notF {b : Bool} (h : b = false) : (!(!b)) = false := by rw [h]; rfl
theorem okWait {t : Int} {z : Str} (h0 : 0 ≤ t) (h1 : t ≤ 1000000000) (hz : isWord z = true) : Deed.ok (.wait t z) = true := by
  show (decide (0 ≤ t) && decide (t ≤ 1000000000) && isWord z) = true
  rw [decide_eq_true h0, decide_eq_true h1, hz]
  rfl
theorem seq_cut {t u : TS} {D : Ends} {σ : L2.St} {H : Hp} (P : L2.St → Hp → Prop) (h2 : ∀ σ' H', P σ' H' → u D σ' H') (h1 : ∀ N : L2.St → Hp → Prop, (∀ σ' H', P σ' H' → N σ' H') → t { D with nx := N } σ H) : tSeq t u D σ H := h1 _ h2
theorem pick {α : Type} {R : V → α → Prop} {xs : List V} {ds : List α} (p : Paired R xs ds) {i : Int} (h0 : 0 ≤ i) (h1 : i < ds.length) : ∃ v d, atI xs i = some v ∧ d ∈ ds ∧ R v d := by
  obtain ⟨n, rfl⟩ := Int.eq_ofNat_of_zero_le h0
  have hn : n < ds.length := by omega
  obtain ⟨v, e, r⟩ := Pd.at' p (List.getElem?_eq_getElem hn)
  exact ⟨v, _, atI_nat e, List.getElem_mem hn, r⟩
theorem mix_nat {cell k many : Int} (h : 0 < many) : ∃ n : Nat, mixM cell k many = n ∧ (n : Int) < many := by
  have h0 := mixM_lo (cell := cell) (k := k) h
  have h1 := mixM_hi (cell := cell) (k := k) h
  exact ⟨(mixM cell k many).toNat, by omega, by omega⟩
theorem pd_choose {α β : Type} {R : V → α → Prop} {G : α → Prop} : ∀ {xs : List V} {is : List β}, Paired (fun v _ => ∃ d, R v d ∧ G d) xs is → ∃ ds, Paired R xs ds ∧ (∀ d ∈ ds, G d) ∧ ds.length = is.length
  | _, _, .nil => ⟨[], .nil, (fun _ h => nomatch h), rfl⟩
  | _, _, .cons r t => by
    obtain ⟨d, r1, g1⟩ := r
    obtain ⟨ds, p, g, l⟩ := pd_choose t
    exact ⟨d :: ds, .cons r1 p, (fun x hx => (List.mem_cons.mp hx).elim (fun e => e ▸ g1) (g x)), by simp [l]⟩
/-- a handler handed in with a list of deeds that is not at f -/
def HndX (f : Addr) (H : Hp) (v : V) (h : Hnd) : Prop := ∃ p q ds, v = .ref p ∧ q ≠ f ∧ H p = some (.tup [.str h.name, .int h.rank, .str h.hears, .bl h.once, .ref q]) ∧ H q = some (.lst ds) ∧ Paired (DeedAt H) ds h.deeds
theorem HndX.kp {f : Addr} {H H' : Hp} (k : Kp [f] H H') {v : V} {h : Hnd} (x : HndX f H v h) : HndX f H' v h := by
  obtain ⟨p, q, ds, e, n, h1, h2, h3⟩ := x
  exact ⟨p, q, ds, e, n, k.tk _ _ h1, k.keep _ _ (by simpa using n) h2, Pd.mono (fun _ _ => DeedAt.tk k.tk) h3⟩
theorem HndX.in_ {f : Addr} {H : Hp} {v : V} {h : Hnd} (x : HndX f H v h) : HndIn H v h := by
  obtain ⟨p, q, ds, e, n, h1, h2, h3⟩ := x
  exact ⟨p, q, ds, e, h1, .inl h2, h3⟩
/-- good handlers, named by S -/
structure GoodHs (N : Nat → Str) (c : Nat) (hs : List Hnd) : Prop where
  len : hs.length = c
  nm : ∀ i h, hs[i]? = some h → h.name = N i
  ok : ∀ h ∈ hs, h.ok = true
  inn : ∀ h ∈ hs, ∀ d ∈ h.deeds, ∀ x ∈ d.names, ∃ i, i < c ∧ x = N i
theorem GoodHs.names {N : Nat → Str} {c : Nat} {hs : List Hnd} (g : GoodHs N c hs) : hs.map Hnd.name = (List.range c).map N := by
  refine List.ext_getElem? fun i => ?_
  rw [List.getElem?_map, List.getElem?_map]
  by_cases h : i < c
  · have h2 : i < hs.length := by rw [g.len]; exact h
    rw [List.getElem?_eq_getElem h2, List.getElem?_range h]
    exact congrArg some (g.nm i _ (List.getElem?_eq_getElem h2))
  · rw [List.getElem?_eq_none (by rw [g.len]; omega), List.getElem?_eq_none (by rw [List.length_range]; omega)]
    rfl
theorem GoodHs.nodup {N : Nat → Str} {c : Nat} {hs : List Hnd} (g : GoodHs N c hs) (nd : ((List.range c).map N).Nodup) : (hs.map Hnd.name).Nodup := by rw [g.names]; exact nd
theorem GoodHs.hin {N : Nat → Str} {c : Nat} {hs : List Hnd} (g : GoodHs N c hs) : ∀ h ∈ hs, ∀ d ∈ h.deeds, ∀ x ∈ d.names, x ∈ hs.map Hnd.name := fun h hh d hd x hx => by
  obtain ⟨i, hi, e⟩ := g.inn h hh d hd x hx
  rw [g.names, e]
  exact List.mem_map.mpr ⟨i, List.mem_range.mpr hi, rfl⟩
theorem GoodHs.snoc {N : Nat → Str} {c n : Nat} {hs : List Hnd} {h : Hnd} (l : hs.length = n) (g1 : ∀ i h, hs[i]? = some h → h.name = N i) (g2 : ∀ h ∈ hs, h.ok = true) (g3 : ∀ h ∈ hs, ∀ d ∈ h.deeds, ∀ x ∈ d.names, ∃ i, i < c ∧ x = N i)
    (e1 : h.name = N n) (e2 : h.ok = true) (e3 : ∀ d ∈ h.deeds, ∀ x ∈ d.names, ∃ i, i < c ∧ x = N i) :
    (hs ++ [h]).length = n + 1 ∧ (∀ i g, (hs ++ [h])[i]? = some g → g.name = N i) ∧ (∀ g ∈ hs ++ [h], g.ok = true) ∧ ∀ g ∈ hs ++ [h], ∀ d ∈ g.deeds, ∀ x ∈ d.names, ∃ i, i < c ∧ x = N i := by
  refine ⟨by simp [l], fun i g hg => ?_, fun g hg => ?_, fun g hg => ?_⟩
  · by_cases q : i < hs.length
    · rw [List.getElem?_append_left q] at hg
      exact g1 i g hg
    · have : i = hs.length := by
        have := (List.getElem?_eq_some_iff.mp hg).1
        rw [List.length_append, List.length_singleton] at this
        omega
      subst this
      rw [List.getElem?_concat_length] at hg
      cases hg
      rw [l]
      exact e1
  · rcases List.mem_append.mp hg with q | q
    · exact g2 g q
    · rw [List.mem_singleton.mp q]; exact e2
  · rcases List.mem_append.mp hg with q | q
    · exact g3 g q
    · rw [List.mem_singleton.mp q]; exact e3
theorem isWord_len {h : Hnd} (ok : h.ok = true) : h.name.length ≤ sizeLine := by
  unfold Hnd.ok isWord at ok
  simp only [Bool.and_eq_true, decide_eq_true_eq] at ok
  exact Nat.le_trans ok.1.1.1.1.2 (by decide)
theorem let_lt : ∀ c ∈ letters.cps.toList, c < 0x110000 := by decide +kernel
theorem word_okT {z : Str} (h : isWord z = true) : strOkT z := by
  unfold isWord at h
  simp only [Bool.and_eq_true, List.all_eq_true, decide_eq_true_eq] at h
  unfold strOkT PyData.strOk
  rw [← Array.all_toList, List.all_eq_true]
  intro c hc
  exact decide_eq_true (let_lt c (h.2 c hc))
theorem hears_len {h : Hnd} (ok : h.ok = true) : h.hears.length ≤ sizeLine := by
  unfold Hnd.ok isWord at ok
  simp only [Bool.and_eq_true, Bool.or_eq_true, decide_eq_true_eq] at ok
  rcases ok.1.1.2 with q | q
  · exact Nat.le_trans q.1.2 (by decide)
  · rw [q]; decide
theorem okHnd {x : Str} {r : Int} {z : Str} {o : Bool} {ds : List Deed} (hx : isWord x = true) (hz : isWord z = true ∨ z = Str.empty) (hl : ds.length ≤ 30) (hd : ∀ d ∈ ds, d.ok = true) : Hnd.ok ⟨x, r, z, o, ds⟩ = true := by
  unfold Hnd.ok
  simp only [Bool.and_eq_true, Bool.or_eq_true, decide_eq_true_eq, List.all_eq_true]
  exact ⟨⟨⟨hx, hz⟩, hl⟩, hd⟩
end Ev
namespace Ev
open PySem L2
def size7 (b : Int) : Nat := (1 + b / 26 % 12).toNat
def at7 (b : Int) : Nat := (b / 312 % (size7 b : Int)).toNat
def cs7 (b : Int) : List Nat := (List.range (size7 b)).map fun (i : Nat) => 97 + ((b + 3 * (i : Int)) % 26).toNat
def lt7 (b : Int) (k : Nat) : Nat := 97 + ((b + 5 * (k : Int)) % 26).toNat
def wd7 (b : Int) (k : Nat) : Str := ofL ((cs7 b).take (at7 b) ++ [lt7 b k] ++ (cs7 b).drop (at7 b + 1))
theorem size7_ok (b : Int) : 1 ≤ size7 b ∧ size7 b ≤ 12 ∧ (1 + b / 26 % 12) = (size7 b : Int) := by
  have s0 : 0 ≤ b / 26 % 12 := Int.emod_nonneg _ (by decide)
  have s1 : b / 26 % 12 < 12 := Int.emod_lt_of_pos _ (by decide)
  unfold size7
  omega
theorem at7_ok (b : Int) : at7 b < size7 b ∧ b / 312 % (size7 b : Int) = (at7 b : Int) := by
  have h := size7_ok b
  have a0 : 0 ≤ b / 312 % (size7 b : Int) := Int.emod_nonneg _ (by omega)
  have a1 : b / 312 % (size7 b : Int) < size7 b := Int.emod_lt_of_pos _ (by omega)
  unfold at7
  omega
theorem cs7_len (b : Int) : (cs7 b).length = size7 b := by unfold cs7; rw [List.length_map, List.length_range]
theorem let26 (x : Int) : 0 ≤ x % 26 ∧ x % 26 < 26 := ⟨Int.emod_nonneg _ (by decide), Int.emod_lt_of_pos _ (by decide)⟩
theorem cs7_let (b : Int) : isLet (cs7 b) := fun x hx => by
  obtain ⟨i, _, rfl⟩ := List.mem_map.mp hx
  have := let26 (b + 3 * (i : Int))
  omega
theorem lt7_let (b : Int) (k : Nat) : isLet [lt7 b k] := fun x hx => by
  rw [List.mem_singleton.mp hx]
  have := let26 (b + 5 * (k : Int))
  unfold lt7
  omega
theorem wd7_word (b : Int) (k : Nat) : isWord (wd7 b k) = true := by
  have h1 := size7_ok b
  have h2 := at7_ok b
  have h3 := cs7_len b
  refine isWord_let ?_ ?_ ?_
  · rw [List.length_append, List.length_append]
    show 1 ≤ _ + 1 + _
    omega
  · rw [List.length_append, List.length_append, List.length_take, List.length_drop]
    show min (at7 b) (cs7 b).length + 1 + ((cs7 b).length - (at7 b + 1)) ≤ 12
    omega
  · exact isLet_app (isLet_app (isLet_sub (fun c hc => List.mem_of_mem_take hc) (cs7_let b)) (lt7_let b k)) (isLet_sub (fun c hc => List.mem_of_mem_drop hc) (cs7_let b))
theorem wd7_inj {b : Int} {i j : Nat} (hi : i < 4) (hj : j < 4) (e : wd7 b i = wd7 b j) : i = j := by
  have e := congrArg (fun x : Str => x.cps.toList) e
  have e : (cs7 b).take (at7 b) ++ [lt7 b i] ++ (cs7 b).drop (at7 b + 1) = (cs7 b).take (at7 b) ++ [lt7 b j] ++ (cs7 b).drop (at7 b + 1) := e
  rw [List.append_assoc, List.append_assoc] at e
  have e := List.append_cancel_left e
  have e : lt7 b i = lt7 b j := by
    have := congrArg List.head? e
    exact Option.some.inj this
  unfold lt7 at e
  have h1 := let26 (b + 5 * (i : Int))
  have h2 := let26 (b + 5 * (j : Int))
  omega
def ws7 (b : Int) : List Str := (List.range 4).map (wd7 b)
theorem ws7_nd (b : Int) : (ws7 b).Nodup := by
  unfold ws7
  rw [List.nodup_iff_pairwise_ne, List.pairwise_map]
  have : (List.range 4).Pairwise (fun a b => a < b ∧ b < 4) := by decide
  exact this.imp fun {i j} h e => by
    have := wd7_inj (by omega) h.2 e
    omega
section
variable {P : Program} {w : World} {K : PySem.W.Frag} {mg : Str → Option Value} {base : Heap}
def sp_lwordsBy : Sp := fun vs H Q _ => ∃ (b : Int), vs = [.int b] ∧ ∀ p H', H p = none → Kp [] H H' → H' p = some (.lst ((ws7 b).map V.str)) → Q (.ref p) H'
theorem ok_lwordsBy (T : Tx K mg) : FnOk P w K mg base CX0 1 T.f_lwordsBy T.d_lwordsBy ["_law_cell"] (sp_lwordsBy) := by
  refine T.F_lwordsBy.ok sc_lwordsBy (by walk_at "len") (fun cdv A outer s H vs Q E hr h => ?_)
  obtain ⟨b, rfl, k⟩ := h
  refine ⟨_, (pss_cons (ps_set (i := 1) sc_lwordsBy.nd rfl (Or.inr rfl) pe_str)
    (pss_cons (ps_set (i := 2) sc_lwordsBy.nd rfl (Or.inl rfl) (pe_lst pa_nil))
    (pss_cons (ps_set (i := 3) sc_lwordsBy.nd rfl (Or.inl rfl) (pe_op op_add pe_int (pe_op op_mod (pe_op op_fdiv (pv 0) pe_int) pe_int)))
    (pss_cons (ps_set (i := 4) sc_lwordsBy.nd rfl (Or.inl rfl) (pe_op op_mod (pe_op op_fdiv (pv 0) pe_int) (pv 3)))
    (pss_cons (ps_for PassesOwn.never rfl (pi_range1 rfl T.z_range (pa_cons pe_int pa_nil)) (pg_name (i := 5) sc_lwordsBy.nd rfl (Or.inl rfl))
        (pss_cons (ps_set (i := 6) sc_lwordsBy.nd rfl (Or.inl rfl) (pe_join pe_str (pe_lc (own := [("_law_j", 7)]) (g := gName 7) (tt := tYes) rfl sc_lwordsBy.nd (pi_range1 rfl T.z_range (pa_cons (pv 3) pa_nil)) (blkOk_by (own := [("_law_j", 7)]) (N := nm_lwordsBy) (sc := defScope s_lwordsBy) (by decide +kernel)) (fun _ _ _ _ _ => (pg_name (i := 7) sc_lwordsBy.nd rfl (Or.inl rfl))) (fun _ _ _ _ _ => pts_nil) (fun _ _ _ _ _ => (pe_ix ix_str (pv 1) (pe_op op_mod (pe_op op_add (pv 0) (pe_op op_mul pe_int (pv 7))) pe_int) (fun _ _ => rfl))))))
        (pss_one (ps_expr (pe_bm PySem.F.plainAttrs_list PySem.F.slot_list_append PySem.F.type_list_append mt_append (pv 2) (pa_cons (pe_op op_add_str (pe_op op_add_str (pe_slice sl_str (pv 6) po_none (po_some (pv 4))) (pe_ix ix_str (pv 1) (pe_op op_mod (pe_op op_add (pv 0) (pe_op op_mul pe_int (pv 5))) pe_int) (fun _ _ => rfl))) (pe_slice sl_str (pv 6) (po_some (pe_op op_add (pv 4) pe_int)) po_none)) pa_nil))))))
    (pss_one (ps_ret (pv 2)))))))), ?_⟩
  obtain ⟨z1, z2, z3⟩ := size7_ok b
  obtain ⟨t1, t2⟩ := at7_ok b
  refine ⟨Nat.zero_le _, fun f hf => ?_⟩
  have k1 := (Kp.refl [] H).new (o := .lst []) hf
  have e1 : upd H f (.lst []) f = some (.lst []) := upd_same
  generalize upd H f (.lst []) = H1 at k1 e1 ⊢
  refine ⟨_, rfl, _, _, rfl, rfl, ⟨by decide, by decide⟩, _, _, rfl, rfl, (by show (0 : Int) < 12; decide), _, _, rfl, rfl, ?_⟩
  dsimp only
  rw [z3]
  refine ⟨_, rfl, _, _, rfl, rfl, ⟨by decide, by decide⟩, _, rfl, _, _, rfl, rfl, (by show (0 : Int) < (size7 b : Int); omega), ?_⟩
  dsimp only
  rw [t2]
  dsimp only [gName]
  refine seq_go (for_go ?_)
  refine ⟨_, rfl, (by show _ ≤ (4 : Int); decide), (by show (4 : Int) < _; decide), ?_⟩
  refine for_range (fun i σ H' => Kp [] H H' ∧ H' f = some (.lst (((List.range i).map (wd7 b)).map V.str)) ∧ ∃ o5 o6 o7, σ = [some (.int b), some (.str abc), some (.ref f), some (nV (size7 b)), some (nV (at7 b)), o5, o6, o7]) ⟨k1, e1, _, _, _, rfl⟩ ?_ ?_
  · rintro i σ H2 hi ⟨k2, e2, o5, o6, o7, rfl⟩
    have hi : i < 4 := by omega
    rw [Int.zero_add]
    dsimp only [gName]
    refine seq_go (asg_go ?_)
    walk_at "nf"
    let ix : Nat → Int := fun i => (b + 3 * (i : Int)) % 26
    have i0 : ∀ i : Nat, 0 ≤ (b + 3 * (i : Int)) % 26 ∧ (b + 3 * (i : Int)) % 26 < 26 := fun i => let26 _
    refine ⟨⟨_, rfl⟩, ?_⟩
    refine lc_go ?_
    refine ⟨_, rfl, _, rfl, (by show _ ≤ ((size7 b : Nat) : Int); omega), (by show ((size7 b : Nat) : Int) < _; omega), ?_⟩
    refine lc_rmp (fun i => V.str ⟨#[97 + ((b + 3 * (i : Int)) % 26).toNat]⟩) (Nat.lt_of_le_of_lt (show (((size7 b : Nat) : Int)).toNat ≤ 12 by omega) (by decide)) (fun x => rfl) ?_ ?_
    · intro i H' Q' hi kp q
      rw [Int.zero_add]
      refine ⟨_, rfl, _, rfl, _, rfl, _, _, rfl, rfl, .inl (by decide), _, _, rfl, rfl, _, _, rfl, rfl, (by show (0 : Int) < 26; decide), _, _, _, rfl, rfl, ?_, abc_at (i0 i).1 (i0 i).2, q _ (Kp.refl _ _)⟩
      exact Nat.le_trans (Nat.le_of_eq abc_len) (by decide)
    · intro D H3 hD k23 e
      have en : (List.range (((size7 b : Nat) : Int)).toNat).map (fun (i : Nat) => V.str ⟨#[97 + ((b + 3 * (i : Int)) % 26).toNat]⟩) = ((cs7 b).map fun c => (⟨#[c]⟩ : Str)).map V.str := by
        unfold cs7
        rw [List.map_map, List.map_map]
        rfl
      have e : H3 D = some (.lst ((List.range (((size7 b : Nat) : Int)).toNat).map (fun (i : Nat) => V.str ⟨#[97 + ((b + 3 * (i : Int)) % 26).toNat]⟩))) := e
      rw [en] at e
      have lc := cs7_len b
      refine ⟨"", D, _, rfl, rfl, .inl (SqL.of e), ?_, ?_⟩
      · rw [sum_ones]
        have e8 : ("" : Str).length = 0 := by decide +kernel
        rw [e8]
        omega
      · rw [join_letters]
        have k3 := k2.trans k23
        have e3 := k23.keep0 e2
        have j0 := let26 (b + 5 * (i : Int))
        have cl : ∀ n : Nat, n ≤ 24 → n ≤ sizeLine := fun n h => Nat.le_trans h (by decide)
        refine ⟨_, rfl, .inl ⟨rfl, _, SqL.of e3⟩, ?_⟩
        refine ⟨_, rfl, _, rfl, _, rfl, _, rfl, cl _ (by rw [ofL_len]; omega), _, rfl, _, rfl, _, rfl, _, _, rfl, rfl, .inl (by decide), _, _, rfl, rfl, _, _, rfl, rfl, (by show (0 : Int) < 26; decide), _, _, _, rfl, rfl, Nat.le_trans (Nat.le_of_eq abc_len) (by decide), abc_at j0.1 j0.2, _, _, rfl, rfl, ?_,
          _, rfl, _, rfl, _, _, rfl, rfl, _, rfl, _, rfl, cl _ (by rw [ofL_len]; omega), _, _, rfl, rfl, ?_, f, _, _, rfl, rfl, e3, small1000 (by simp; omega), ?_⟩
        · rw [cutS_to _ (by omega), ofL_len]
          exact cl _ (by rw [List.length_take]; show min (at7 b) (cs7 b).length + 1 ≤ 24; omega)
        · rw [cutS_to _ (by omega), show ((at7 b : Int) + 1) = ((at7 b + 1 : Nat) : Int) by omega, cutS_from _ (by omega)]
          show (ofL ((cs7 b).take (at7 b)) ++ ofL [lt7 b i]).length + (ofL ((cs7 b).drop (at7 b + 1))).length ≤ _
          rw [ofL_app, ofL_len, ofL_len]
          exact cl _ (by rw [List.length_append, List.length_take, List.length_drop]; show min (at7 b) (cs7 b).length + 1 + ((cs7 b).length - (at7 b + 1)) ≤ 24; omega)
        · rw [cutS_to _ (by omega), show ((at7 b : Int) + 1) = ((at7 b + 1 : Nat) : Int) by omega, cutS_from _ (by omega)]
          have ew : (ofL ((cs7 b).take (at7 b)) ++ ofL [lt7 b i]) ++ ofL ((cs7 b).drop (at7 b + 1)) = wd7 b i := by
            rw [ofL_app, ofL_app]
            rfl
          have kz : Kp [] H (upd H3 f (.lst (((List.range i).map (wd7 b)).map V.str ++ [V.str (wd7 b i)]))) := k3.lst (.inr hf) e3
          refine ⟨by rw [← ew] at kz; exact kz, ?_, _, _, _, rfl⟩
          rw [upd_same, List.range_succ, List.map_append, List.map_append]
          show _ = some (HO.lst (_ ++ [V.str (wd7 b i)]))
          rw [← ew]
          rfl
  · rintro σ H2 ⟨k2, e2, o5, o6, o7, rfl⟩
    exact ⟨_, rfl, k f _ hf k2 e2⟩
theorem okNow {z : Str} (hz : isWord z = true) : Deed.ok (.now z) = true := hz
def nm7 (k : Nat) : Str := ofL [104, 97 + k]
theorem nm7_word : ∀ k < 6, isWord (nm7 k) = true := by decide +kernel
theorem nm7_inj {i j : Nat} (h : nm7 i = nm7 j) : i = j := by
  have e : [104, 97 + i] = [104, 97 + j] := congrArg (fun x : Str => x.cps.toList) h
  have := List.cons.inj (List.cons.inj e).2
  omega
theorem abcdef_at : ∀ i < 6, ("abcdef" : Str).cps.toList[i]? = some (97 + i) := by decide +kernel
def Gd7 (ws : List Str) (h : Hnd) : Prop := h.once = false ∧ h.ok = true ∧ (h.deeds = [] ∨ (∃ i : Nat, ws[i]? = some h.hears ∧ h.deeds.length ≤ 3 ∧ ∀ d ∈ h.deeds, ∃ (j : Nat) (z : Str), i < j ∧ ws[j]? = some z ∧ d = .now z))
def sp_lhandlersBy (K : PySem.W.Frag) : Sp := fun vs H Q _ => ∃ (a b : Addr) (ns : List Int) (ws : List Str), vs = [.ref a, .ref b] ∧ SqL K H a (ns.map V.int) ∧ H b = some (.lst (ws.map V.str)) ∧ ws.length = 4 ∧ (∀ z ∈ ws, isWord z = true) ∧
  ∀ p H' xs hs, H p = none → Kp [] H H' → H' p = some (.lst xs) → Paired (HndL H') xs hs → hs.length ≤ 6 → (∀ i h, hs[i]? = some h → h.name = nm7 i) → (∀ h ∈ hs, Gd7 ws h) → Q (.ref p) H'
theorem ok_lhandlersBy (T : Tx K mg) : FnOk P w K mg base CX0 2 T.f_lhandlersBy T.d_lhandlersBy ["_law_script", "_law_words"] (sp_lhandlersBy K) := by
  refine T.F_lhandlersBy.ok sc_lhandlersBy (by walk_at "len") (fun cdv A outer s H vs Q E hr h => ?_)
  obtain ⟨a, b, ns, ws, rfl, hS, hb, w4, hw, k⟩ := h
  refine ⟨_, (pss_cons (ps_set (i := 2) sc_lhandlersBy.nd rfl (Or.inl rfl) (pe_lst pa_nil))
    (pss_cons (ps_for PassesOwn.never rfl (pi_range1 rfl T.z_range (pa_cons (pe_op op_add pe_int (pe_op op_mod (pe_call (ok_ltoldAt T) (hr.mono (by decide)) rfl T.g_ltoldAt T.F_ltoldAt.kp T.b_ltoldAt .nil pass0 (pa_cons (pv 0) (pa_cons pe_int pa_nil))) pe_int)) pa_nil)) (pg_name (i := 3) sc_lhandlersBy.nd rfl (Or.inl rfl))
        (pss_cons (ps_set (i := 4) sc_lhandlersBy.nd rfl (Or.inl rfl) (pe_op op_add (pe_call (ok_ltoldAt T) (hr.mono (by decide)) rfl T.g_ltoldAt T.F_ltoldAt.kp T.b_ltoldAt .nil pass0 (pa_cons (pv 0) (pa_cons (pe_op op_add pe_int (pv 3)) pa_nil))) (pe_op op_mul pe_int (pv 3))))
        (pss_cons (ps_set (i := 5) sc_lhandlersBy.nd rfl (Or.inl rfl) (pe_call (ok_lmixed T) (hr.mono (by decide)) rfl T.g_lmixed T.F_lmixed.kp T.b_lmixed .nil pass0 (pa_cons (pv 4) (pa_cons pe_int (pa_cons pe_int pa_nil)))))
        (pss_cons (ps_set (i := 6) sc_lhandlersBy.nd rfl (Or.inl rfl) (pe_lst pa_nil))
        (pss_cons (ps_if (pt_cmpR op_lt (pv 5) pe_int (nomark _))
            (pss_one (ps_for PassesOwn.never rfl (pi_range1 rfl T.z_range (pa_cons (pe_call (ok_lmixed T) (hr.mono (by decide)) rfl T.g_lmixed T.F_lmixed.kp T.b_lmixed .nil pass0 (pa_cons (pv 4) (pa_cons pe_int (pa_cons pe_int pa_nil)))) pa_nil)) (pg_name (i := 7) sc_lhandlersBy.nd rfl (Or.inl rfl))
                (pss_one (ps_if (pt_cmpR op_lt (pv 5) pe_int (nomark _))
                    (pss_one (ps_expr (pe_bm PySem.F.plainAttrs_list PySem.F.slot_list_append PySem.F.type_list_append mt_append (pv 6) (pa_cons (pe_tup (pa_cons pe_str (pa_cons (pe_ix (kIxL K) (pv 1) (pe_op op_add (pe_op op_add (pv 5) pe_int) (pe_call (ok_lmixed T) (hr.mono (by decide)) rfl T.g_lmixed T.F_lmixed.kp T.b_lmixed .nil pass0 (pa_cons (pv 4) (pa_cons (pe_op op_add pe_int (pv 7)) (pa_cons (pe_op op_sub pe_int (pv 5)) pa_nil))))) (fun _ _ => rfl)) pa_nil))) pa_nil))))
                    pss_nil))))
            pss_nil)
        (pss_one (ps_expr (pe_bm PySem.F.plainAttrs_list PySem.F.slot_list_append PySem.F.type_list_append mt_append (pv 2) (pa_cons (pe_tup (pa_cons (pe_op op_add_str pe_str (pe_ix ix_str pe_str (pv 3) (fun _ _ => rfl))) (pa_cons (pe_op op_sub (pe_call (ok_lmixed T) (hr.mono (by decide)) rfl T.g_lmixed T.F_lmixed.kp T.b_lmixed .nil pass0 (pa_cons (pv 4) (pa_cons pe_int (pa_cons pe_int pa_nil)))) pe_int) (pa_cons (pe_ix (kIxL K) (pe_op op_cat (pv 1) (pe_lst (pa_cons pe_str pa_nil))) (pv 5) (fun _ _ => rfl)) (pa_cons pe_bl (pa_cons (pv 6) pa_nil)))))) pa_nil)))))))))
    (pss_one (ps_ret (pv 2))))), ?_⟩
  refine seq_go (asg_go ?_)
  refine ⟨Nat.zero_le _, fun f hf => ?_⟩
  have kf : Kp [] H (upd H f (.lst [])) := (Kp.refl _ _).new hf
  have ef : upd H f (.lst []) f = some (.lst []) := upd_same
  generalize upd H f (.lst []) = Hf at kf ef ⊢
  dsimp only [gName]
  refine seq_go (for_go ?_)
  refine ⟨_, rfl, a, ns, 0, rfl, SqL.kp kf (by simp) hS, _, _, rfl, rfl, (by show (0 : Int) < 6; decide), _, _, rfl, rfl, ?_⟩
  obtain ⟨c, ec, c1, c6⟩ : ∃ c : Nat, 1 + ns.getD 0 0 % 6 = (c : Int) ∧ 1 ≤ c ∧ c ≤ 6 := by
    have h0 : 0 ≤ ns.getD 0 0 % 6 := Int.emod_nonneg _ (by decide)
    have h1 : ns.getD 0 0 % 6 < 6 := Int.emod_lt_of_pos _ (by decide)
    exact ⟨(1 + ns.getD 0 0 % 6).toNat, by omega, by omega, by omega⟩
  dsimp only
  rw [ec]
  refine ⟨_, rfl, (by show _ ≤ (c : Int); omega), (by show (c : Int) < _; omega), ?_⟩
  refine for_range (fun i σ H' => Kp [] H H' ∧ ∃ acc hs, H' f = some (.lst acc) ∧ Paired (HndX f H') acc hs ∧ hs.length = i ∧ (∀ j h, hs[j]? = some h → h.name = nm7 j) ∧ (∀ h ∈ hs, Gd7 ws h) ∧ ∃ o3 o4 o5 o6 o7, σ = [some (.ref a), some (.ref b), some (.ref f), o3, o4, o5, o6, o7])
    ⟨kf, [], [], ef, .nil, rfl, by simp, by simp, _, _, _, _, _, rfl⟩ ?_ ?_
  · rintro i σ H1 hi ⟨k01, acc, hs, hf1, pd, len, g1, g2, o3, o4, o5, o6, o7, rfl⟩
    have hi : i < c := by omega
    rw [Int.zero_add]
    refine ⟨_, rfl, _, rfl, _, _, rfl, rfl, a, ns, 2 + i, rfl, SqL.kp k01 (by simp) hS, _, rfl, _, _, rfl, rfl, .inl (by decide), _, _, rfl, rfl, ?_⟩
    dsimp only [gName]
    generalize ns.getD (2 + i) 0 + 5 * (i : Int) = cell
    refine seq_go (asg_go ?_)
    refine ⟨_, rfl, _, _, _, rfl, (by decide), fun H2 k2 => ?_⟩
    obtain ⟨he, ehe, h5⟩ := mix_nat (cell := cell) (k := 1) (many := 5) (by decide)
    rw [ehe]
    dsimp only [gName]
    refine seq_go (asg_go ?_)
    refine ⟨Nat.zero_le _, fun g hg => ?_⟩
    have kg := (Kp.refl [] H2).new (o := .lst []) hg
    have eg : upd H2 g (.lst []) g = some (.lst []) := upd_same
    have ngf : g ≠ f := fun e => by rw [e, k2.keep0 hf1] at hg; cases hg
    have g10 : H1 g = none := k2.dom _ hg
    generalize upd H2 g (.lst []) = H3 at kg eg ⊢
    have k13 := k2.trans kg
    clear kg k2 hg
    dsimp only [gName]
    refine seq_cut (fun σ' H' => ∃ ds dd o7, Kp [] H1 H' ∧ H' g = some (.lst ds) ∧ Paired (DeedAt H') ds dd ∧ dd.length ≤ 3 ∧ (∀ d ∈ dd, ∃ (j : Nat) (z : Str), he < j ∧ ws[j]? = some z ∧ d = .now z) ∧ σ' = [some (.ref a), some (.ref b), some (.ref f), some (nV i), some (.int cell), some (nV he), some (.ref g), o7]) ?_ ?_
    rotate_left
    · intro N hN
      refine ⟨_, rfl, _, _, rfl, rfl, _, rfl, ite2 (fun hq => ?_) (fun hq => hN _ _ ⟨[], [], _, k13, eg, .nil, by simp, by simp, rfl⟩)⟩
      refine for_go ?_
      refine ⟨_, rfl, _, _, _, rfl, (by decide), fun H4 k4 => ?_⟩
      obtain ⟨n, en, n4⟩ := mix_nat (cell := cell) (k := 2) (many := 4) (by decide)
      rw [en]
      refine ⟨_, rfl, (by show _ ≤ (n : Int); omega), (by show (n : Int) < _; omega), ?_⟩
      refine for_range (fun j σ' H' => ∃ ds dd o7, Kp [] H1 H' ∧ H' g = some (.lst ds) ∧ Paired (DeedAt H') ds dd ∧ dd.length ≤ j ∧ (∀ d ∈ dd, ∃ (j : Nat) (z : Str), he < j ∧ ws[j]? = some z ∧ d = .now z) ∧ σ' = [some (.ref a), some (.ref b), some (.ref f), some (nV i), some (.int cell), some (nV he), some (.ref g), o7])
        ⟨[], [], _, k13.trans k4, k4.keep0 eg, .nil, by simp, by simp, rfl⟩ ?_ ?_
      · rintro j σ' H5 hj ⟨ds, dd, o7, k15, hg5, pds, ld, hdd, rfl⟩
        have hj : j < 3 := by omega
        refine ⟨_, rfl, _, _, rfl, rfl, _, rfl, ite2 (fun hq => ?_) (fun hq => ⟨ds, dd, _, k15, hg5, pds, by omega, hdd, rfl⟩)⟩
        have h3 : (he : Int) < 3 := by simpa using hq
        refine ⟨_, rfl, .inl ⟨rfl, _, SqL.of hg5⟩, _, rfl, _, rfl, _, _, rfl, rfl, _, rfl, _, rfl, _, _, rfl, rfl, _, rfl, _, _, rfl, rfl, _, _, _, rfl, (by show (0 : Int) < 3 - (he : Int); omega), fun H6 k6 => ?_⟩
        obtain ⟨x, ex, hx⟩ := mix_nat (cell := cell) (k := 3 + (0 + (j : Int))) (many := 3 - (he : Int)) (by omega)
        have hxx : he + 1 + x < ws.length := by omega
        refine ⟨_, _, rfl, rfl, b, _, _, .str ws[he + 1 + x], rfl, rfl, SqL.of ((k01.trans (k15.trans k6)).keep0 hb), ?_, (by show 2 ≤ sizeLine; decide), fun t ht => ?_⟩
        · have e1 : (he : Int) + 1 + mixM cell (3 + (0 + (j : Int))) (3 - (he : Int)) = ((he + 1 + x : Nat) : Int) := by rw [ex]; omega
          show atI _ ((he : Int) + 1 + mixM cell (3 + (0 + (j : Int))) (3 - (he : Int))) = _
          rw [e1]
          refine atI_nat ?_
          rw [List.getElem?_map, List.getElem?_eq_getElem hxx]
          rfl
        have j1 := (Kp.refl [] H6).new (o := .tup [.str "now", .str ws[he + 1 + x]]) ht
        have q1 : upd H6 t (.tup [.str "now", .str ws[he + 1 + x]]) t = some (.tup [.str "now", .str ws[he + 1 + x]]) := upd_same
        generalize upd H6 t (.tup [.str "now", .str ws[he + 1 + x]]) = H7 at j1 q1 ⊢
        have hg7 := (k6.trans j1).keep0 hg5
        have kk := (Kp.refl [g] H7).lst (o := .lst (ds ++ [V.ref t])) (.inl (by simp)) hg7
        refine ⟨g, _, _, rfl, rfl, hg7, small1000 (by rw [Pd.len pds]; omega), ?_⟩
        refine ⟨_, dd ++ [.now ws[he + 1 + x]], _, (k15.trans (k6.trans j1)).lst (.inr g10) hg7, upd_same, Pd.append (Pd.mono (fun _ _ z => (z.tk (k6.trans j1).tk).tk kk.tk) pds) (.cons (show DeedAt _ _ (Deed.now ws[he + 1 + x]) from ⟨t, rfl, kk.tk _ _ q1⟩) .nil), by rw [List.length_append, List.length_singleton]; omega, fun d hd => ?_, rfl⟩
        rcases List.mem_append.mp hd with q | q
        · exact hdd d q
        · rw [List.mem_singleton.mp q]
          exact ⟨he + 1 + x, _, by omega, List.getElem?_eq_getElem hxx, rfl⟩
      · rintro σ' H5 ⟨ds, dd, o7, k15, hg5, pds, ld, hdd, rfl⟩
        exact hN _ _ ⟨ds, dd, _, k15, hg5, pds, by omega, hdd, rfl⟩
    rintro σ' H5 ⟨ds, dd, o7, k15, hg5, pds, ld, hdd, rfl⟩
    have hfi := k15.keep0 hf1
    have hzl : he < (ws ++ [Str.empty]).length := by rw [List.length_append, List.length_singleton]; omega
    obtain ⟨z, ez⟩ : ∃ z, (ws ++ [Str.empty])[he]? = some z := ⟨_, List.getElem?_eq_getElem hzl⟩
    have hz : isWord z = true ∨ z = Str.empty := by
      rcases List.mem_append.mp (List.mem_of_getElem? ez) with q | q
      · exact .inl (hw z q)
      · exact .inr (List.mem_singleton.mp q)
    have cl : ∀ n : Nat, n ≤ 24 → n ≤ sizeLine := fun n h => Nat.le_trans h (by decide)
    refine ⟨_, rfl, .inl ⟨rfl, _, SqL.of hfi⟩, _, rfl, _, _, _, rfl, rfl, (by decide), atI_nat (abcdef_at i (by omega)), _, _, rfl, rfl, (by show 1 + 1 ≤ sizeLine; decide), _, rfl, _, _, _, rfl, (by decide), fun H6 k6 => ⟨_, _, rfl, rfl, _, rfl, (by show 1 ≤ sizeLine; decide), fun l hl => ?_⟩⟩
    have k16 := k15.trans k6
    have j1 := (Kp.refl [] H6).new (o := .lst [.str ""]) hl
    have q1 : upd H6 l (.lst [.str ""]) l = some (.lst [.str ""]) := upd_same
    generalize upd H6 l (.lst [.str ""]) = H7 at j1 q1 ⊢
    refine ⟨b, l, _, _, rfl, rfl, ((k01.trans k16).trans j1).keep0 hb, q1, (by rw [List.length_map, w4]; show 4 + 1 ≤ sizeLine; decide), fun r hr => ?_⟩
    have eL : ws.map V.str ++ [.str ""] = (ws ++ [Str.empty]).map V.str := by rw [List.map_append]; rfl
    rw [eL]
    have j2 := (Kp.refl [] H7).new (o := .lst ((ws ++ [Str.empty]).map V.str)) hr
    have q2 : upd H7 r (.lst ((ws ++ [Str.empty]).map V.str)) r = some (.lst ((ws ++ [Str.empty]).map V.str)) := upd_same
    generalize upd H7 r (.lst ((ws ++ [Str.empty]).map V.str)) = H8 at j2 q2 ⊢
    refine ⟨_, rfl, r, _, _, .str z, rfl, rfl, SqL.of q2, atI_nat (by rw [List.getElem?_map, ez]; rfl), _, rfl, (by show 5 ≤ sizeLine; decide), fun t ht => ?_⟩
    have enm : ("h" : Str) ++ (⟨#[97 + i]⟩ : Str) = nm7 i := str_eq (by
      rw [app_list]
      have : ("h" : Str).cps.toList = [104] := by decide +kernel
      rw [this]
      rfl)
    rw [enm]
    dsimp only
    have j3 := (Kp.refl [] H8).new (o := .tup [.str (nm7 i), .int (mixM cell 9 4 - 1), .str z, .bl false, .ref g]) ht
    have q3 : upd H8 t (.tup [.str (nm7 i), .int (mixM cell 9 4 - 1), .str z, .bl false, .ref g]) t = some (.tup [.str (nm7 i), .int (mixM cell 9 4 - 1), .str z, .bl false, .ref g]) := upd_same
    generalize upd H8 t (.tup [.str (nm7 i), .int (mixM cell 9 4 - 1), .str z, .bl false, .ref g]) = H9 at j3 q3 ⊢
    have k59 := ((k6.trans j1).trans j2).trans j3
    have k19 := k15.trans k59
    have hf9 := k59.keep0 hfi
    have kk := (Kp.refl [f] H9).lst (o := .lst (acc ++ [V.ref t])) (.inl (by simp)) hf9
    have ok : Hnd.ok ⟨nm7 i, mixM cell 9 4 - 1, z, false, dd⟩ = true := okHnd (nm7_word i (by omega)) hz (by omega) fun d hd => by
      obtain ⟨j, y, _, hy, rfl⟩ := hdd d hd
      exact okNow (hw y (List.mem_of_getElem? hy))
    refine ⟨f, _, _, rfl, rfl, hf9, small1000 (by rw [Pd.len pd]; omega), ?_⟩
    refine ⟨(k01.trans k19).lst (.inr hf) hf9, _, hs ++ [⟨nm7 i, mixM cell 9 4 - 1, z, false, dd⟩], upd_same, Pd.append (Pd.mono (fun _ _ q => (HndX.kp (k19.mono (by simp)) q).kp kk) pd) (.cons ⟨t, g, ds, rfl, ngf, kk.tk _ _ q3, kk.keep _ _ (by simpa using ngf) (k59.keep0 hg5), Pd.mono (fun _ _ z => (z.tk k59.tk).tk kk.tk) pds⟩ .nil), by rw [List.length_append, List.length_singleton, len], fun j h hj => ?_, fun h hh => ?_, _, _, _, _, _, rfl⟩
    · by_cases q : j < hs.length
      · rw [List.getElem?_append_left q] at hj
        exact g1 j h hj
      · have : j = hs.length := by
          have := (List.getElem?_eq_some_iff.mp hj).1
          rw [List.length_append, List.length_singleton] at this
          omega
        subst this
        rw [List.getElem?_concat_length] at hj
        cases hj
        rw [len]
    · rcases List.mem_append.mp hh with q | q
      · exact g2 h q
      · rw [List.mem_singleton.mp q]
        refine ⟨rfl, ok, ?_⟩
        by_cases e : dd = []
        · exact .inl e
        · refine .inr ⟨he, ?_, ld, hdd⟩
          obtain ⟨d, hd⟩ := List.exists_mem_of_ne_nil dd e
          obtain ⟨j, y, hj, hy, _⟩ := hdd d hd
          have := (List.getElem?_eq_some_iff.mp hy).1
          rw [List.getElem?_append_left (by omega)] at ez
          exact ez
  · rintro σ H1 ⟨k01, acc, hs, hf1, pd, len, g1, g2, o3, o4, o5, o6, o7, rfl⟩
    exact ⟨_, rfl, k f H1 acc hs hf k01 hf1 (Pd.mono (fun _ _ z => by obtain ⟨p, q, ds, e, _, r⟩ := z; exact ⟨p, q, ds, e, r⟩) pd) (by omega) g1 g2⟩
end
end Ev
namespace Ev
open PySem L2
section
variable {P : Program} {w : World} {K : PySem.W.Frag} {mg : Str → Option Value} {base : Heap}
theorem let_lt7 : ∀ c ∈ letters.cps.toList, c < 0x110000 := by decide +kernel
theorem word_okT7 {z : Str} (h : isWord z = true) : strOkT z := by
  unfold isWord at h
  simp only [Bool.and_eq_true, List.all_eq_true, decide_eq_true_eq] at h
  unfold strOkT PyData.strOk
  rw [← Array.all_toList, List.all_eq_true]
  intro c hc
  exact decide_eq_true (let_lt7 c (h.2 c hc))
theorem word_ne {z : Str} (h : isWord z = true) : z ≠ Str.empty := fun e => by
  rw [e] at h
  have : isWord Str.empty = false := by decide +kernel
  rw [this] at h
  cases h
theorem g7_of {ws : List Str} {hs : List Hnd} (w4 : ws.length = 4) (wnd : ws.Nodup) (hw : ∀ z ∈ ws, isWord z = true) (h6 : hs.length ≤ 6) (nm : ∀ (i : Nat) (h : Hnd), hs[i]? = some h → h.name = nm7 i) (gd : ∀ h ∈ hs, Gd7 ws h) : G7 ws hs := by
  have en : hs.map Hnd.name = (List.range hs.length).map nm7 := by
    refine List.ext_getElem? fun i => ?_
    rw [List.getElem?_map, List.getElem?_map]
    by_cases h : i < hs.length
    · rw [List.getElem?_eq_getElem h, List.getElem?_range h]
      exact congrArg some (nm i _ (List.getElem?_eq_getElem h))
    · rw [List.getElem?_eq_none (by omega), List.getElem?_eq_none (by rw [List.length_range]; omega)]
      rfl
  have nd : (hs.map Hnd.name).Nodup := by
    rw [en, List.nodup_iff_pairwise_ne, List.pairwise_map]
    exact List.pairwise_lt_range.imp fun {i j} h e => by
      have := nm7_inj e
      omega
  exact ⟨h6, nd, fun h hh => (gd h hh).1, w4, wnd, fun z hz => word_ne (hw z hz), fun h hh => (gd h hh).2.2⟩
def sp_law (K : PySem.W.Frag) : Sp := fun vs H Q _ => ∃ (a : Addr) (ns : List Int), vs = [.ref a] ∧ SqL K H a (ns.map V.int) ∧ ns.length ≤ 63 ∧ ∀ H', Q (.bl true) H'
theorem ok_law (T : Tx K mg) : FnOk P w K mg base CX0 7 T.f_law T.d_law ["_law_script"] (sp_law K) := by
  refine T.F_law.ok sc_law (by walk_at "len") (fun cdv A outer s H vs Q E hr h => ?_)
  obtain ⟨a, ns, rfl, hS, hlen, k⟩ := h
  refine ⟨_, (pss_cons (ps_set (i := 1) sc_law.nd rfl (Or.inl rfl) (pe_call (ok_lwordsBy T) (hr.mono (by decide)) rfl T.g_lwordsBy T.F_lwordsBy.kp T.b_lwordsBy .nil pass0 (pa_cons (pe_call (ok_ltoldAt T) (hr.mono (by decide)) rfl T.g_ltoldAt T.F_ltoldAt.kp T.b_ltoldAt .nil pass0 (pa_cons (pv 0) (pa_cons pe_int pa_nil))) pa_nil)))
    (pss_cons (ps_set (i := 2) sc_law.nd rfl (Or.inl rfl) (pe_call (ok_lhandlersBy T) (hr.mono (by decide)) rfl T.g_lhandlersBy T.F_lhandlersBy.kp T.b_lhandlersBy .nil pass0 (pa_cons (pv 0) (pa_cons (pv 1) pa_nil))))
    (pss_cons (ps_set (i := 3) sc_law.nd rfl (Or.inl rfl) (pe_make T.mk_Loom (ok_LoomInit T) (hr.mono (by decide)) rfl T.g_Loom T.b_LoomInit .nil pass0 (pa_cons (pe_callTy (kList K) (by rfl) T.z_list (by decide +kernel) (pa_cons (pv 2) pa_nil)) (pa_cons (pe_lc (own := [("_law_one", 8)]) (g := gName 8) (tt := tYes) rfl sc_law.nd (pi_list (pv 2)) (blkOk_by (own := [("_law_one", 8)]) (N := nm_law) (sc := defScope s_law) (by decide +kernel)) (fun _ _ _ _ _ => (pg_name (i := 8) sc_law.nd rfl (Or.inl rfl))) (fun _ _ _ _ _ => pts_nil) (fun _ _ _ _ _ => (pe_ix (kIxT K) (pv 8) pe_int (fun _ _ => rfl)))) pa_nil))))
    (pss_cons (ps_set (i := 4) sc_law.nd rfl (Or.inl rfl) (pe_lst (pa_cons (pe_ix (kIxL K) (pv 1) (pe_op op_mod (pe_op op_fdiv (pe_call (ok_ltoldAt T) (hr.mono (by decide)) rfl T.g_ltoldAt T.F_ltoldAt.kp T.b_ltoldAt .nil pass0 (pa_cons (pv 0) (pa_cons pe_int pa_nil))) pe_int) pe_int) (fun _ _ => rfl)) pa_nil)))
    (pss_cons (ps_if (pt_cmpR op_eq (pe_op op_mod (pe_op op_fdiv (pe_call (ok_ltoldAt T) (hr.mono (by decide)) rfl T.g_ltoldAt T.F_ltoldAt.kp T.b_ltoldAt .nil pass0 (pa_cons (pv 0) (pa_cons pe_int pa_nil))) pe_int) pe_int) pe_int (nomark _))
        (pss_one (ps_set (i := 4) sc_law.nd rfl (Or.inl rfl) (pe_lst (pa_cons (pe_ix (kIxL K) (pv 1) pe_int (fun _ _ => rfl)) (pa_cons (pe_ix (kIxL K) (pv 1) pe_int (fun _ _ => rfl)) pa_nil)))))
        pss_nil)
    (pss_cons (ps_for PassesOwn.never rfl (pi_list (pv 4)) (pg_name (i := 5) sc_law.nd rfl (Or.inl rfl))
        (pss_one (ps_expr (pe_meth (pv 3) T.cl_Loom T.m_LoomSend (ok_LoomSend T) (hr.mono (by decide)) T.b_LoomSend .nil pass0 (pa_cons (pv 5) pa_nil)))))
    (pss_cons (ps_set (i := 6) sc_law.nd rfl (Or.inl rfl) (pe_callB (kLen K) (by rfl) T.z_len PySem.boot_len (pa_cons (kFld K (pv 3)) pa_nil)))
    (pss_cons (ps_set (i := 7) sc_law.nd rfl (Or.inl rfl) (pe_meth (pv 3) T.cl_Loom T.m_LoomRun (ok_LoomRun T) (hr.mono (by decide)) T.b_LoomRun .nil pass0 (pa_cons (pe_ix (kIxL K) (pe_lst (pa_cons pe_int (pa_cons pe_int pa_nil))) (pe_op op_mod (pe_call (ok_ltoldAt T) (hr.mono (by decide)) rfl T.g_ltoldAt T.F_ltoldAt.kp T.b_ltoldAt .nil pass0 (pa_cons (pv 0) (pa_cons pe_int pa_nil))) pe_int) (fun _ _ => rfl)) pa_nil)))
    (pss_cons (ps_if (PW.pt (pw_or (pt_cmpR op_ne (pv 7) (pe_op op_sub (pe_callB (kLen K) (by rfl) T.z_len PySem.boot_len (pa_cons (kFld K (pv 3)) pa_nil)) (pv 6)) (nomark _)) (pw_or1 (pt_cmpR op_notBl (pe_meth0 (pv 3) T.cl_Loom T.m_LoomIdle (ok_LoomIdle T) (hr.mono (by decide)) T.b_LoomIdle .nil pass0) pe_bl (nomark _)))))
        (pss_one (ps_ret pe_bl))
        pss_nil)
    (pss_one (ps_ret (pe_call (ok_lwalked T) (hr.mono (by decide)) rfl T.g_lwalked T.F_lwalked.kp T.b_lwalked .nil pass0 (pa_cons (pe_callTy (kList K) (by rfl) T.z_list (by decide +kernel) (pa_cons (kFld K (pv 3)) pa_nil)) (pa_cons (pe_callTy (kList K) (by rfl) T.z_list (by decide +kernel) (pa_cons (kFld K (pv 3)) pa_nil)) (pa_cons (pv 2) pa_nil))))))))))))))), ?_⟩
  refine seq_go (asg_go ?_)
  refine ⟨_, rfl, a, ns, 1, rfl, hS, _, rfl, fun pw H1 hpw k1 ew => ?_⟩
  have w4 : (ws7 (ns.getD 1 0)).length = 4 := by unfold ws7; rw [List.length_map, List.length_range]
  have wnd := ws7_nd (ns.getD 1 0)
  have hw : ∀ z ∈ ws7 (ns.getD 1 0), isWord z = true := fun z hz => by
    obtain ⟨i, _, rfl⟩ := List.mem_map.mp hz
    exact wd7_word _ _
  generalize ws7 (ns.getD 1 0) = ws at ew w4 wnd hw
  dsimp only [gName]
  refine seq_go (asg_go ?_)
  have hS1 := SqL.kp k1 (by simp) hS
  refine ⟨_, rfl, _, rfl, a, pw, ns, ws, rfl, hS1, ew, w4, hw, fun p H2 vs1 hs hp0 k2 hp1 pd h6 nm gd => ?_⟩
  have g := g7_of w4 wnd hw h6 nm gd
  have h40 : hs.length ≤ 40 := by omega
  have hok : ∀ h ∈ hs, h.ok = true := fun h hh => (gd h hh).2.1
  have hin : ∀ h ∈ hs, ∀ d ∈ h.deeds, ∀ x ∈ d.names, x ∈ hs.map Hnd.name := fun h hh d hd x hx => by
    obtain ⟨z, e⟩ := g.now7.now h hh d hd
    rw [e] at hx
    cases hx
  have nin : ∀ x ∈ hs.map Hnd.name, x ∈ hs.map Hnd.name := fun _ h => h
  have w0 : Wf (LoomS.init hs (hs.map Hnd.name)) := Wf.init h40 hok g.nd hin nin
  clear gd nm
  dsimp only [gName]
  refine seq_go (asg_go ?_)
  -- the loom
  refine ⟨_, rfl, p, _, rfl, .inl (SqL.of hp1), fun l1 hl1 => ?_⟩
  have k3 := (Kp.refl [] H2).new (o := .lst vs1) hl1
  have e3 : upd H2 l1 (.lst vs1) l1 = some (.lst vs1) := upd_same
  generalize upd H2 l1 (.lst vs1) = H3 at k3 e3 ⊢
  have hp3 := k3.keep0 hp1
  dsimp only [L2.tCons, L2.tNil]
  refine lc_go ?_
  refine ⟨_, rfl, p, rfl, ⟨_, SqL.of hp3⟩, ?_⟩
  refine lc_mp pd (Nat.lt_of_le_of_lt h40 (by decide)) (SqL.of hp3) (fun h => V.str h.name) (fun x => rfl) ?_ ?_
  · rintro v h H' Q' hh r kp q
    obtain ⟨p2, q2, ds, rfl, h1, h2, h3⟩ := r.kp (k3.trans kp)
    exact ⟨_, rfl, p2, _, _, _, rfl, rfl, SqT.of h1, at0, q _ (Kp.refl _ _)⟩
  intro D H4 hD k4 hD4
  have en : hs.map (fun h => V.str h.name) = (hs.map Hnd.name).map V.str := by simp
  rw [en] at hD4
  have k34 := k3.trans k4
  intro lo ldx hlo hldx hne
  have hlo' : upd H4 ldx (.own lo) lo = none := by rw [upd_ne (Ne.symm hne)]; exact hlo
  have kw : Kp [] H4 (upd (upd H4 ldx (.own lo)) lo (.ins T.c_Loom ldx [])) := ((Kp.refl [] H4).new hldx).new hlo'
  refine ⟨lo, ldx, l1, D, vs1, hs, hs.map Hnd.name, rfl, upd_same, kw.keep0 (k4.keep0 e3), Pd.mono (fun _ _ z => (z.kp (k34.trans kw)).in_) pd, kw.keep0 hD4, h40, hok, g.nd, hin, g.nd, nin, fun Ha A0 L0 ka eA hcl => ⟨rfl, ?_⟩⟩
  have ka4 : Kp [] H4 Ha := (kw.transM ka fun y hy => .inr (by rw [List.mem_singleton.mp hy]; exact hlo)).mono (by simp)
  have fr4 : ∀ y ∈ A0.cells, H4 y = none := fun y hy => (hcl y hy).elim (fun e => by rw [e]; exact hlo) fun e => kw.dom _ e
  have k2a := k34.trans ka4
  have k04 := (k1.trans k2).trans k34
  have s70 := S7.zero g
  -- what is sent
  dsimp only [gName]
  have ewa := (k2.trans k2a).keep0 ew
  have hSa := SqL.kp ((k1.trans k2).trans k2a) (by simp) hS
  have ixw : ∀ {i : Int}, 0 ≤ i → i < 4 → ∃ z ∈ ws, atI (ws.map V.str) i = some (V.str z) := fun {i} h0 h1 => by
    obtain ⟨n, rfl⟩ := Int.eq_ofNat_of_zero_le h0
    have hn : n < ws.length := by omega
    refine ⟨ws[n], List.getElem_mem hn, atI_nat ?_⟩
    rw [List.getElem?_map, List.getElem?_eq_getElem hn]
    rfl
  refine seq_go (asg_go ?_)
  obtain ⟨z0, hz0, ez0⟩ := ixw (i := ns.getD 0 0 / 6 % 4) (Int.emod_nonneg _ (by decide)) (Int.emod_lt_of_pos _ (by decide))
  refine ⟨_, rfl, _, rfl, a, ns, 0, rfl, hSa, _, _, rfl, rfl, ⟨by decide, by decide⟩, _, _, rfl, rfl, (by show (0 : Int) < 4; decide), pw, _, _, _, rfl, rfl, SqL.of ewa, ez0, (by show 1 ≤ sizeLine; decide), fun q hq => ?_⟩
  have kq := (Kp.refl [] Ha).new (o := .lst [.str z0]) hq
  have eq : upd Ha q (.lst [.str z0]) q = some (.lst ([z0].map V.str)) := upd_same
  have nqA : q ∉ A0.cells := L0.fresh hq
  generalize upd Ha q (.lst [.str z0]) = Hq at kq eq ⊢
  dsimp only [gName]
  have L1 := L0.kp kq (by simp)
  rw [← eA] at *
  refine seq_cut (fun σ' Hx => ∃ (q : Addr) (zs : List Str), Kp [] Ha Hx ∧ Hx q = some (.lst (zs.map V.str)) ∧ zs.length ≤ 2 ∧ (∀ z ∈ zs, z ∈ ws) ∧ q ∉ A0.cells ∧ σ' = [some (.ref a), some (.ref pw), some (.ref p), some (.ref A0.p), some (.ref q), none, none, none, none]) ?_ ?_
  rotate_left
  · intro N hN
    refine ⟨_, rfl, a, ns, 0, rfl, SqL.kp kq (by simp) hSa, _, _, rfl, rfl, ⟨by decide, by decide⟩, _, _, rfl, rfl, (by show (0 : Int) < 3; decide), rfl, _, rfl, ite2 (fun hq => ?_) (fun hq => hN _ _ ⟨q, [z0], kq, eq, by simp, by simpa using hz0, nqA, rfl⟩)⟩
    obtain ⟨z1, hz1, ez1⟩ := ixw (i := 0) (by decide) (by decide)
    have ewq := kq.keep0 ewa
    refine ⟨_, rfl, pw, _, _, _, rfl, rfl, SqL.of ewq, ez1, _, rfl, pw, _, _, _, rfl, rfl, SqL.of ewq, ez1, (by show 2 ≤ sizeLine; decide), fun q2 hq2 => hN _ _ ⟨q2, [z1, z1], kq.new hq2, upd_same, by simp, fun z hz => ?_, L1.fresh hq2, rfl⟩⟩
    simp at hz
    rw [hz]
    exact hz1
  rintro σ' Hb ⟨q, zs, kb, hqb, lz, hzs, nq, rfl⟩
  clear eq nqA L1 kq hq
  have k4b := ka4.trans kb
  refine seq_go (for_go ?_)
  refine ⟨_, rfl, q, rfl, ⟨_, SqL.of hqb⟩, ?_⟩
  refine for_pd (Pd.map (f := V.str) (R := fun v x => v = V.str x) fun _ _ => rfl) (fun pre σ' Hx => ∃ A s, S7 ws hs pre.length s ∧ LoomAt T.cs Hx A s ∧ A.p = A0.p ∧ Kp [] H4 Hx ∧ (∀ y ∈ A.cells, H4 y = none) ∧ Hx q = some (.lst (zs.map V.str)) ∧ q ∉ A.cells ∧
      ∃ o5, σ' = [some (.ref a), some (.ref pw), some (.ref p), some (.ref A0.p), some (.ref q), o5, none, none, none])
    ⟨A0, _, s70, L0.kp kb (by simp), rfl, k4b, fr4, hqb, nq, _, rfl⟩ (fun pre σ' Hx ⟨_, _, _, _, _, _, _, h, _⟩ => SqL.of h) ?_ ?_
  · rintro pre v z post σ' Hx ed rfl ⟨A, s, sv, L, ep, kx, frx, hqx, nqx, o5, rfl⟩
    have hz : z ∈ ws := hzs z (by rw [ed]; simp)
    have lp : pre.length ≤ 1 := by
      have := congrArg List.length ed
      simp at this
      omega
    have lg := sv.lg
    have wf := sv.re.wf w0
    have e1 := wf.evlg
    have e2 := wf.wait
    refine ⟨_, rfl, A0.p, A.dx, _, rfl, by rw [← ep]; exact L.p, lf_no (by decide +kernel), _, rfl, A, s, z, by rw [ep]; rfl, L, hw z hz, by omega, by omega, by omega, fun Hy A' W => ?_⟩
    refine ⟨A', _, by rw [List.length_append]; exact sv.send g w0 (hw z hz) hz, W.l, W.p.trans ep, (kx.transM W.kp fun y hy => .inr (frx y hy)).mono (by simp), fun y hy => (W.sub y hy).elim (frx y) fun e => kx.dom _ e, W.kp.keep _ _ nqx hqx, (fun h => (W.sub q h).elim nqx fun e => by rw [hqx] at e; cases e), _, rfl⟩
  rintro σ' Hx ⟨A, s, sv, L, ep, kx, frx, -, -, o5, rfl⟩
  have sv : S7 ws hs zs.length s := sv
  have lg := sv.lg
  have wf := sv.re.wf w0
  obtain ⟨xlg, hlg, plg⟩ := L.lg
  have ell := Pd.len plg
  refine ⟨_, rfl, A0.p, _, A.dx, _, _, rfl, by rw [← ep]; exact L.p, T.cl_Loom, T.n_Loom_log, lf_log _ _, A.lg, xlg, rfl, .inl (SqL.of hlg), ?_⟩
  dsimp only [gName]
  refine seq_go (asg_go ?_)
  have ixk : ∀ {i : Int}, 0 ≤ i → i < 2 → ∃ k : Nat, 8000 ≤ k ∧ atI [V.int 100000, .int 1000000000000] i = some (nV k) := fun {i} h0 h1 => by
    have : i = 0 ∨ i = 1 := by omega
    rcases this with rfl | rfl
    · exact ⟨100000, by decide, rfl⟩
    · exact ⟨1000000000000, by decide, rfl⟩
  obtain ⟨kk, hkk, ekk⟩ := ixk (i := ns.getD 1 0 % 2) (Int.emod_nonneg _ (by decide)) (Int.emod_lt_of_pos _ (by decide))
  have hS4 := SqL.kp (k1.trans (k2.trans k34)) (by simp) hS
  refine ⟨_, rfl, A0.p, A.dx, _, rfl, by rw [← ep]; exact L.p, lf_no (by decide +kernel), (by show 2 ≤ sizeLine; decide), fun l hl => ⟨_, rfl, a, ns, 1, rfl, SqL.kp (kx.new hl) (by simp) hS4, _, _, rfl, rfl, (by show (0 : Int) < 2; decide), l, _, _, _, rfl, rfl, SqL.of upd_same, ekk, ?_⟩⟩
  have ky := (Kp.refl [] Hx).new (o := .lst [V.int 100000, .int 1000000000000]) hl
  generalize upd Hx l (.lst [V.int 100000, .int 1000000000000]) = Hy at ky ⊢
  obtain ⟨r1, r2, r3, r4, r5, r6, r7⟩ := sv.run g w0 (by omega) hkk
  obtain ⟨n1, n2, n3⟩ := runM_log wf kk
  have wf2 := (sv.re.run w0 kk).wf w0
  have Ly := L.kp ky (by simp)
  refine ⟨A, s, kk, by rw [ep]; rfl, Ly, wf, by omega, by rw [sv.fm]; show 0 + _ ≤ _; omega, fun Hz A' W => ?_⟩
  have ep2 : A'.p = A0.p := W.p.trans ep
  have kz : Kp [] H4 Hz := ((kx.trans ky).transM W.kp fun y hy => .inr (frx y hy)).mono (by simp)
  have L2 := W.l
  generalize (s.runM kk).1 = s2 at r2 r3 r4 r5 r6 r7 n1 wf2 L2
  generalize (s.runM kk).2 = n at r1 n1 ⊢
  obtain ⟨xl2, hl2, pl2⟩ := L2.lg
  obtain ⟨xe2, he2, pe2⟩ := L2.ev
  have el2 := Pd.len pl2
  refine ⟨_, rfl, _, rfl, A0.p, _, A'.dx, _, _, rfl, by rw [← ep2]; exact L2.p, T.cl_Loom, T.n_Loom_log, lf_log _ _, A'.lg, xl2, rfl, .inl (SqL.of hl2), _, rfl, _, _, rfl, rfl, rfl, _, rfl, iteF' (neF ?_) ?_⟩
  · show V.int (n : Int) = V.int ((xl2.length : Int) - (xlg.length : Int))
    congr 1
    omega
  have evl := wf2.evlg
  have wt := wf2.wait
  refine ⟨_, rfl, A0.p, A'.dx, _, rfl, by rw [← ep2]; exact L2.p, lf_no (by decide +kernel), A', s2, by rw [ep2]; rfl, L2, by omega, fun Hw kw2 => ?_⟩
  rw [step_idle, r2]
  refine ⟨true, true, rfl, rfl, _, rfl, iteF' rfl ?_⟩
  have L3 := L2.kp kw2 (by simp)
  have kz3 := kz.trans kw2
  have hl3 := kw2.keep0 hl2
  have he3 := kw2.keep0 he2
  have pl3 : Paired (RowAt Hw) xl2 s2.log := Pd.mono (fun _ _ z => z.tk kw2.tk) pl2
  have pe3 : Paired (EvtAt Hw) xe2 s2.events := Pd.mono (fun _ _ z => z.tk kw2.tk) pe2
  refine ⟨_, rfl, A0.p, _, A'.dx, _, _, rfl, by rw [← ep2]; exact L3.p, T.cl_Loom, T.n_Loom_log, lf_log _ _, A'.lg, xl2, rfl, .inl (SqL.of hl3), fun c1 hc1 => ?_⟩
  have m1 := (Kp.refl [] Hw).new (o := .lst xl2) hc1
  have x1 : upd Hw c1 (.lst xl2) c1 = some (.lst xl2) := upd_same
  generalize upd Hw c1 (.lst xl2) = Hv at m1 x1 ⊢
  have L4 := L3.kp m1 (by simp)
  have he4 := m1.keep0 he3
  refine ⟨_, rfl, A0.p, _, A'.dx, _, _, rfl, by rw [← ep2]; exact L4.p, T.cl_Loom, T.n_Loom_events, lf_events _ _, A'.ev, xe2, rfl, .inl (SqL.of he4), fun c2 hc2 => ?_⟩
  have m2 := (Kp.refl [] Hv).new (o := .lst xe2) hc2
  have x2 : upd Hv c2 (.lst xe2) c2 = some (.lst xe2) := upd_same
  generalize upd Hv c2 (.lst xe2) = Hu at m2 x2 ⊢
  have m12 := m1.trans m2
  have k4u := kz3.trans m12
  refine ⟨_, rfl, c1, c2, p, xl2, xe2, vs1, s2.log, s2.events, hs, rfl, m2.keep0 x1, Pd.mono (fun _ _ z => z.tk m12.tk) pl3, x2, Pd.mono (fun _ _ z => z.tk m12.tk) pe3, (k34.trans k4u).keep0 hp1, Pd.mono (fun _ _ z => z.kp (k34.trans k4u)) pd, h40, g.nd, fun h hh => ⟨?_, g.now7.now h hh⟩, by omega, by omega, fun e he => word_okT7 (hw _ (r3 e he)), r4, r5, r6, r7, fun H' _ => k H'⟩
  rcases g.dd h hh with e | ⟨_, _, e, _⟩
  · rw [e]
    exact Nat.zero_le _
  · omega
end
end Ev
namespace Ev
open PySem L2
theorem all_mk {K : PySem.W.Frag} {h : Heap} {mg : Str → Option Value} {fa : Addr} (X : K.In h) (G : h.Ns mainGlobals mg) (hfa : mg "law" = some (.ref fa))
    {C_LoomError C_NoWord C_NoHandler C_Twice C_Stranger C_NoCount C_Waits C_Frame C_Loom f_Wall f_isWhole f_isWord f_needWord f_isDeed f_isHandler f_needHandlers f_needNames f_handlerOf f_hearers f_WaitsInit f_WaitsSooner f_WaitsLater f_WaitsLineup f_WaitsLead f_WaitsDrop f_FrameInit f_LoomInit f_LoomCome f_LoomGo f_LoomMade f_LoomSend f_LoomStep f_LoomBegin f_LoomGoOn f_LoomCall f_LoomDo f_LoomMake f_LoomRun f_LoomWaiting f_LoomAround f_LoomStanding f_LoomIdle f_ltoldAt f_lmixed f_lwordsBy f_lhandlersBy f_lcallsDue f_lframe f_lwalked f_law t_WORDED : Addr}
    {od1 an1 : Option Addr} {sl1 : Array (Option Value)} {oc1 kV1 dc1 pm1 cd1 ct1 : Value}
    {od2 an2 : Option Addr} {sl2 : Array (Option Value)} {oc2 kV2 dc2 pm2 cd2 ct2 : Value}
    {od3 an3 : Option Addr} {sl3 : Array (Option Value)} {oc3 kV3 dc3 pm3 cd3 ct3 : Value}
    {od4 an4 : Option Addr} {sl4 : Array (Option Value)} {oc4 kV4 dc4 pm4 cd4 ct4 : Value}
    {od5 an5 : Option Addr} {sl5 : Array (Option Value)} {oc5 kV5 dc5 pm5 cd5 ct5 : Value}
    {od6 an6 : Option Addr} {sl6 : Array (Option Value)} {oc6 kV6 dc6 pm6 cd6 ct6 : Value}
    {od7 an7 : Option Addr} {sl7 : Array (Option Value)} {oc7 kV7 dc7 pm7 cd7 ct7 : Value}
    {od8 an8 : Option Addr} {sl8 : Array (Option Value)} {oc8 kV8 dc8 pm8 cd8 ct8 : Value}
    {od9 an9 : Option Addr} {sl9 : Array (Option Value)} {oc9 kV9 dc9 pm9 cd9 ct9 : Value}
    {od10 an10 : Option Addr} {sl10 : Array (Option Value)} {oc10 kV10 dc10 pm10 cd10 ct10 : Value}
    {od11 an11 : Option Addr} {sl11 : Array (Option Value)} {oc11 kV11 dc11 pm11 cd11 ct11 : Value}
    {od12 an12 : Option Addr} {sl12 : Array (Option Value)} {oc12 kV12 dc12 pm12 cd12 ct12 : Value}
    {od13 an13 : Option Addr} {sl13 : Array (Option Value)} {oc13 kV13 dc13 pm13 cd13 ct13 : Value}
    {od14 an14 : Option Addr} {sl14 : Array (Option Value)} {oc14 kV14 dc14 pm14 cd14 ct14 : Value}
    {od15 an15 : Option Addr} {sl15 : Array (Option Value)} {oc15 kV15 dc15 pm15 cd15 ct15 : Value}
    {od16 an16 : Option Addr} {sl16 : Array (Option Value)} {oc16 kV16 dc16 pm16 cd16 ct16 : Value}
    {od17 an17 : Option Addr} {sl17 : Array (Option Value)} {oc17 kV17 dc17 pm17 cd17 ct17 : Value}
    {od18 an18 : Option Addr} {sl18 : Array (Option Value)} {oc18 kV18 dc18 pm18 cd18 ct18 : Value}
    {od19 an19 : Option Addr} {sl19 : Array (Option Value)} {oc19 kV19 dc19 pm19 cd19 ct19 : Value}
    {od20 an20 : Option Addr} {sl20 : Array (Option Value)} {oc20 kV20 dc20 pm20 cd20 ct20 : Value}
    {od21 an21 : Option Addr} {sl21 : Array (Option Value)} {oc21 kV21 dc21 pm21 cd21 ct21 : Value}
    {od22 an22 : Option Addr} {sl22 : Array (Option Value)} {oc22 kV22 dc22 pm22 cd22 ct22 : Value}
    {od23 an23 : Option Addr} {sl23 : Array (Option Value)} {oc23 kV23 dc23 pm23 cd23 ct23 : Value}
    {od24 an24 : Option Addr} {sl24 : Array (Option Value)} {oc24 kV24 dc24 pm24 cd24 ct24 : Value}
    {od25 an25 : Option Addr} {sl25 : Array (Option Value)} {oc25 kV25 dc25 pm25 cd25 ct25 : Value}
    {od26 an26 : Option Addr} {sl26 : Array (Option Value)} {oc26 kV26 dc26 pm26 cd26 ct26 : Value}
    {od27 an27 : Option Addr} {sl27 : Array (Option Value)} {oc27 kV27 dc27 pm27 cd27 ct27 : Value}
    {od28 an28 : Option Addr} {sl28 : Array (Option Value)} {oc28 kV28 dc28 pm28 cd28 ct28 : Value}
    {od29 an29 : Option Addr} {sl29 : Array (Option Value)} {oc29 kV29 dc29 pm29 cd29 ct29 : Value}
    {od30 an30 : Option Addr} {sl30 : Array (Option Value)} {oc30 kV30 dc30 pm30 cd30 ct30 : Value}
    {od31 an31 : Option Addr} {sl31 : Array (Option Value)} {oc31 kV31 dc31 pm31 cd31 ct31 : Value}
    {od32 an32 : Option Addr} {sl32 : Array (Option Value)} {oc32 kV32 dc32 pm32 cd32 ct32 : Value}
    {od33 an33 : Option Addr} {sl33 : Array (Option Value)} {oc33 kV33 dc33 pm33 cd33 ct33 : Value}
    {od34 an34 : Option Addr} {sl34 : Array (Option Value)} {oc34 kV34 dc34 pm34 cd34 ct34 : Value}
    {od35 an35 : Option Addr} {sl35 : Array (Option Value)} {oc35 kV35 dc35 pm35 cd35 ct35 : Value}
    {od36 an36 : Option Addr} {sl36 : Array (Option Value)} {oc36 kV36 dc36 pm36 cd36 ct36 : Value}
    {od37 an37 : Option Addr} {sl37 : Array (Option Value)} {oc37 kV37 dc37 pm37 cd37 ct37 : Value}
    {od38 an38 : Option Addr} {sl38 : Array (Option Value)} {oc38 kV38 dc38 pm38 cd38 ct38 : Value}
    {od39 an39 : Option Addr} {sl39 : Array (Option Value)} {oc39 kV39 dc39 pm39 cd39 ct39 : Value}
    {od40 an40 : Option Addr} {sl40 : Array (Option Value)} {oc40 kV40 dc40 pm40 cd40 ct40 : Value}
    {od41 an41 : Option Addr} {sl41 : Array (Option Value)} {oc41 kV41 dc41 pm41 cd41 ct41 : Value}
    {u_LETTERS : Value}
    {u_MOST_SIGNS : Value}
    {u_MOST_HANDLERS : Value}
    {u_MOST_DEEDS : Value}
    {u_MOST_TICKS : Value}
    {to_WORDED : Obj} {ti_WORDED : Array Value} {tn_WORDED : Nat}
    (aC_LoomError : PySem.W.nsIn K mainGlobals "LoomError" = some (some (.ref C_LoomError)))
    (aC_NoWord : PySem.W.nsIn K mainGlobals "NoWord" = some (some (.ref C_NoWord)))
    (aC_NoHandler : PySem.W.nsIn K mainGlobals "NoHandler" = some (some (.ref C_NoHandler)))
    (aC_Twice : PySem.W.nsIn K mainGlobals "Twice" = some (some (.ref C_Twice)))
    (aC_Stranger : PySem.W.nsIn K mainGlobals "Stranger" = some (some (.ref C_Stranger)))
    (aC_NoCount : PySem.W.nsIn K mainGlobals "NoCount" = some (some (.ref C_NoCount)))
    (aC_Waits : PySem.W.nsIn K mainGlobals "Waits" = some (some (.ref C_Waits)))
    (aC_Frame : PySem.W.nsIn K mainGlobals "Frame" = some (some (.ref C_Frame)))
    (aC_Loom : PySem.W.nsIn K mainGlobals "Loom" = some (some (.ref C_Loom)))
    (x_LoomError : PySem.W.excIn K C_LoomError [.type "ValueError", .type "Exception", .type "BaseException", .type "object"] "ValueError.__new__" = true)
    (k_LoomError : PySem.W.keepIn K (.ref C_LoomError) = true)
    (sb_LoomError : PySem.W.subIn K (.ref C_LoomError) (.type "BaseException") = some true)
    (ty_LoomError : PySem.W.typeIn K (.ref C_LoomError) = some (.type "type"))
    (x_NoWord : PySem.W.excIn K C_NoWord [.type "ValueError", .type "Exception", .type "BaseException", .type "object"] "ValueError.__new__" = true)
    (k_NoWord : PySem.W.keepIn K (.ref C_NoWord) = true)
    (sb_NoWord : PySem.W.subIn K (.ref C_NoWord) (.type "BaseException") = some true)
    (ty_NoWord : PySem.W.typeIn K (.ref C_NoWord) = some (.type "type"))
    (x_NoHandler : PySem.W.excIn K C_NoHandler [.type "ValueError", .type "Exception", .type "BaseException", .type "object"] "ValueError.__new__" = true)
    (k_NoHandler : PySem.W.keepIn K (.ref C_NoHandler) = true)
    (sb_NoHandler : PySem.W.subIn K (.ref C_NoHandler) (.type "BaseException") = some true)
    (ty_NoHandler : PySem.W.typeIn K (.ref C_NoHandler) = some (.type "type"))
    (x_Twice : PySem.W.excIn K C_Twice [.type "ValueError", .type "Exception", .type "BaseException", .type "object"] "ValueError.__new__" = true)
    (k_Twice : PySem.W.keepIn K (.ref C_Twice) = true)
    (sb_Twice : PySem.W.subIn K (.ref C_Twice) (.type "BaseException") = some true)
    (ty_Twice : PySem.W.typeIn K (.ref C_Twice) = some (.type "type"))
    (x_Stranger : PySem.W.excIn K C_Stranger [.type "ValueError", .type "Exception", .type "BaseException", .type "object"] "ValueError.__new__" = true)
    (k_Stranger : PySem.W.keepIn K (.ref C_Stranger) = true)
    (sb_Stranger : PySem.W.subIn K (.ref C_Stranger) (.type "BaseException") = some true)
    (ty_Stranger : PySem.W.typeIn K (.ref C_Stranger) = some (.type "type"))
    (x_NoCount : PySem.W.excIn K C_NoCount [.type "ValueError", .type "Exception", .type "BaseException", .type "object"] "ValueError.__new__" = true)
    (k_NoCount : PySem.W.keepIn K (.ref C_NoCount) = true)
    (sb_NoCount : PySem.W.subIn K (.ref C_NoCount) (.type "BaseException") = some true)
    (ty_NoCount : PySem.W.typeIn K (.ref C_NoCount) = some (.type "type"))
    (pg_Waits : PySem.W.plainGet K C_Waits Str.empty = true)
    (hd_Waits : PySem.W.hasDictIn K C_Waits = true)
    (po_Waits : PySem.W.plainOver K C_Waits = true)
    (sa_Waits : PySem.W.findIn K (.ref C_Waits) "__setattr__" = some (some (.builtin "object.__setattr__")))
    (mk_Waits : PySem.W.makesIn K C_Waits = true)
    (kc_Waits : PySem.W.keepIn K (.ref C_Waits) = true)
    (n_Waits_first_ones : PySem.W.findIn K (.ref C_Waits) "first_ones" = some none)
    (n_Waits_rows : PySem.W.findIn K (.ref C_Waits) "rows" = some none)
    (pg_Frame : PySem.W.plainGet K C_Frame Str.empty = true)
    (hd_Frame : PySem.W.hasDictIn K C_Frame = true)
    (po_Frame : PySem.W.plainOver K C_Frame = true)
    (sa_Frame : PySem.W.findIn K (.ref C_Frame) "__setattr__" = some (some (.builtin "object.__setattr__")))
    (mk_Frame : PySem.W.makesIn K C_Frame = true)
    (kc_Frame : PySem.W.keepIn K (.ref C_Frame) = true)
    (n_Frame_number : PySem.W.findIn K (.ref C_Frame) "number" = some none)
    (n_Frame_called : PySem.W.findIn K (.ref C_Frame) "called" = some none)
    (n_Frame_deeds : PySem.W.findIn K (.ref C_Frame) "deeds" = some none)
    (n_Frame_place : PySem.W.findIn K (.ref C_Frame) "place" = some none)
    (pg_Loom : PySem.W.plainGet K C_Loom Str.empty = true)
    (hd_Loom : PySem.W.hasDictIn K C_Loom = true)
    (po_Loom : PySem.W.plainOver K C_Loom = true)
    (sa_Loom : PySem.W.findIn K (.ref C_Loom) "__setattr__" = some (some (.builtin "object.__setattr__")))
    (mk_Loom : PySem.W.makesIn K C_Loom = true)
    (kc_Loom : PySem.W.keepIn K (.ref C_Loom) = true)
    (n_Loom_handlers : PySem.W.findIn K (.ref C_Loom) "handlers" = some none)
    (n_Loom_time : PySem.W.findIn K (.ref C_Loom) "time" = some none)
    (n_Loom_events : PySem.W.findIn K (.ref C_Loom) "events" = some none)
    (n_Loom_log : PySem.W.findIn K (.ref C_Loom) "log" = some none)
    (n_Loom_frames : PySem.W.findIn K (.ref C_Loom) "frames" = some none)
    (n_Loom_fresh : PySem.W.findIn K (.ref C_Loom) "fresh" = some none)
    (n_Loom_line : PySem.W.findIn K (.ref C_Loom) "line" = some none)
    (n_Loom_stood : PySem.W.findIn K (.ref C_Loom) "stood" = some none)
    (n_Loom_standings : PySem.W.findIn K (.ref C_Loom) "standings" = some none)
    (a1 : PySem.W.nsIn K mainGlobals "_wall" = some (some (.ref f_Wall)))
    (l1 : K.lookup f_Wall = some ⟨oc1, od1, .func (PySem.W.fnOf "_wall" "_wall" (defArgs s_Wall) (defBody s_Wall) (defScope s_Wall) .none kV1 dc1 pm1 an1 cd1 ct1), sl1⟩)
    (c1 : PySem.W.codeIn K cd1 "_wall" = true)
    (k1 : PySem.W.keepIn K (.ref f_Wall) = true)
    (a2 : PySem.W.nsIn K mainGlobals "is_whole" = some (some (.ref f_isWhole)))
    (l2 : K.lookup f_isWhole = some ⟨oc2, od2, .func (PySem.W.fnOf "is_whole" "is_whole" (defArgs s_isWhole) (defBody s_isWhole) (defScope s_isWhole) .none kV2 dc2 pm2 an2 cd2 ct2), sl2⟩)
    (c2 : PySem.W.codeIn K cd2 "is_whole" = true)
    (k2 : PySem.W.keepIn K (.ref f_isWhole) = true)
    (a3 : PySem.W.nsIn K mainGlobals "is_word" = some (some (.ref f_isWord)))
    (l3 : K.lookup f_isWord = some ⟨oc3, od3, .func (PySem.W.fnOf "is_word" "is_word" (defArgs s_isWord) (defBody s_isWord) (defScope s_isWord) .none kV3 dc3 pm3 an3 cd3 ct3), sl3⟩)
    (c3 : PySem.W.codeIn K cd3 "is_word" = true)
    (k3 : PySem.W.keepIn K (.ref f_isWord) = true)
    (a4 : PySem.W.nsIn K mainGlobals "need_word" = some (some (.ref f_needWord)))
    (l4 : K.lookup f_needWord = some ⟨oc4, od4, .func (PySem.W.fnOf "need_word" "need_word" (defArgs s_needWord) (defBody s_needWord) (defScope s_needWord) .none kV4 dc4 pm4 an4 cd4 ct4), sl4⟩)
    (c4 : PySem.W.codeIn K cd4 "need_word" = true)
    (k4 : PySem.W.keepIn K (.ref f_needWord) = true)
    (a5 : PySem.W.nsIn K mainGlobals "is_deed" = some (some (.ref f_isDeed)))
    (l5 : K.lookup f_isDeed = some ⟨oc5, od5, .func (PySem.W.fnOf "is_deed" "is_deed" (defArgs s_isDeed) (defBody s_isDeed) (defScope s_isDeed) .none kV5 dc5 pm5 an5 cd5 ct5), sl5⟩)
    (c5 : PySem.W.codeIn K cd5 "is_deed" = true)
    (k5 : PySem.W.keepIn K (.ref f_isDeed) = true)
    (a6 : PySem.W.nsIn K mainGlobals "is_handler" = some (some (.ref f_isHandler)))
    (l6 : K.lookup f_isHandler = some ⟨oc6, od6, .func (PySem.W.fnOf "is_handler" "is_handler" (defArgs s_isHandler) (defBody s_isHandler) (defScope s_isHandler) .none kV6 dc6 pm6 an6 cd6 ct6), sl6⟩)
    (c6 : PySem.W.codeIn K cd6 "is_handler" = true)
    (k6 : PySem.W.keepIn K (.ref f_isHandler) = true)
    (a7 : PySem.W.nsIn K mainGlobals "need_handlers" = some (some (.ref f_needHandlers)))
    (l7 : K.lookup f_needHandlers = some ⟨oc7, od7, .func (PySem.W.fnOf "need_handlers" "need_handlers" (defArgs s_needHandlers) (defBody s_needHandlers) (defScope s_needHandlers) .none kV7 dc7 pm7 an7 cd7 ct7), sl7⟩)
    (c7 : PySem.W.codeIn K cd7 "need_handlers" = true)
    (k7 : PySem.W.keepIn K (.ref f_needHandlers) = true)
    (a8 : PySem.W.nsIn K mainGlobals "need_names" = some (some (.ref f_needNames)))
    (l8 : K.lookup f_needNames = some ⟨oc8, od8, .func (PySem.W.fnOf "need_names" "need_names" (defArgs s_needNames) (defBody s_needNames) (defScope s_needNames) .none kV8 dc8 pm8 an8 cd8 ct8), sl8⟩)
    (c8 : PySem.W.codeIn K cd8 "need_names" = true)
    (k8 : PySem.W.keepIn K (.ref f_needNames) = true)
    (a9 : PySem.W.nsIn K mainGlobals "handler_of" = some (some (.ref f_handlerOf)))
    (l9 : K.lookup f_handlerOf = some ⟨oc9, od9, .func (PySem.W.fnOf "handler_of" "handler_of" (defArgs s_handlerOf) (defBody s_handlerOf) (defScope s_handlerOf) .none kV9 dc9 pm9 an9 cd9 ct9), sl9⟩)
    (c9 : PySem.W.codeIn K cd9 "handler_of" = true)
    (k9 : PySem.W.keepIn K (.ref f_handlerOf) = true)
    (a10 : PySem.W.nsIn K mainGlobals "hearers" = some (some (.ref f_hearers)))
    (l10 : K.lookup f_hearers = some ⟨oc10, od10, .func (PySem.W.fnOf "hearers" "hearers" (defArgs s_hearers) (defBody s_hearers) (defScope s_hearers) .none kV10 dc10 pm10 an10 cd10 ct10), sl10⟩)
    (c10 : PySem.W.codeIn K cd10 "hearers" = true)
    (k10 : PySem.W.keepIn K (.ref f_hearers) = true)
    (a11 : PySem.W.findIn K (.ref C_Waits) "__init__" = some (some (.ref f_WaitsInit)))
    (i11 : PySem.W.isFn K (.ref f_WaitsInit) = true)
    (l11 : K.lookup f_WaitsInit = some ⟨oc11, od11, .func (PySem.W.fnOf "__init__" "Waits.__init__" (defArgs s_WaitsInit) (defBody s_WaitsInit) (defScope s_WaitsInit) .none kV11 dc11 pm11 an11 cd11 ct11), sl11⟩)
    (c11 : PySem.W.codeIn K cd11 "Waits.__init__" = true)
    (k11 : PySem.W.keepIn K (.ref f_WaitsInit) = true)
    (a12 : PySem.W.findIn K (.ref C_Waits) "sooner" = some (some (.ref f_WaitsSooner)))
    (i12 : PySem.W.isFn K (.ref f_WaitsSooner) = true)
    (l12 : K.lookup f_WaitsSooner = some ⟨oc12, od12, .func (PySem.W.fnOf "sooner" "Waits.sooner" (defArgs s_WaitsSooner) (defBody s_WaitsSooner) (defScope s_WaitsSooner) .none kV12 dc12 pm12 an12 cd12 ct12), sl12⟩)
    (c12 : PySem.W.codeIn K cd12 "Waits.sooner" = true)
    (k12 : PySem.W.keepIn K (.ref f_WaitsSooner) = true)
    (a13 : PySem.W.findIn K (.ref C_Waits) "later" = some (some (.ref f_WaitsLater)))
    (i13 : PySem.W.isFn K (.ref f_WaitsLater) = true)
    (l13 : K.lookup f_WaitsLater = some ⟨oc13, od13, .func (PySem.W.fnOf "later" "Waits.later" (defArgs s_WaitsLater) (defBody s_WaitsLater) (defScope s_WaitsLater) .none kV13 dc13 pm13 an13 cd13 ct13), sl13⟩)
    (c13 : PySem.W.codeIn K cd13 "Waits.later" = true)
    (k13 : PySem.W.keepIn K (.ref f_WaitsLater) = true)
    (a14 : PySem.W.findIn K (.ref C_Waits) "lineup" = some (some (.ref f_WaitsLineup)))
    (i14 : PySem.W.isFn K (.ref f_WaitsLineup) = true)
    (l14 : K.lookup f_WaitsLineup = some ⟨oc14, od14, .func (PySem.W.fnOf "lineup" "Waits.lineup" (defArgs s_WaitsLineup) (defBody s_WaitsLineup) (defScope s_WaitsLineup) .none kV14 dc14 pm14 an14 cd14 ct14), sl14⟩)
    (c14 : PySem.W.codeIn K cd14 "Waits.lineup" = true)
    (k14 : PySem.W.keepIn K (.ref f_WaitsLineup) = true)
    (a15 : PySem.W.findIn K (.ref C_Waits) "lead" = some (some (.ref f_WaitsLead)))
    (i15 : PySem.W.isFn K (.ref f_WaitsLead) = true)
    (l15 : K.lookup f_WaitsLead = some ⟨oc15, od15, .func (PySem.W.fnOf "lead" "Waits.lead" (defArgs s_WaitsLead) (defBody s_WaitsLead) (defScope s_WaitsLead) .none kV15 dc15 pm15 an15 cd15 ct15), sl15⟩)
    (c15 : PySem.W.codeIn K cd15 "Waits.lead" = true)
    (k15 : PySem.W.keepIn K (.ref f_WaitsLead) = true)
    (a16 : PySem.W.findIn K (.ref C_Waits) "drop" = some (some (.ref f_WaitsDrop)))
    (i16 : PySem.W.isFn K (.ref f_WaitsDrop) = true)
    (l16 : K.lookup f_WaitsDrop = some ⟨oc16, od16, .func (PySem.W.fnOf "drop" "Waits.drop" (defArgs s_WaitsDrop) (defBody s_WaitsDrop) (defScope s_WaitsDrop) .none kV16 dc16 pm16 an16 cd16 ct16), sl16⟩)
    (c16 : PySem.W.codeIn K cd16 "Waits.drop" = true)
    (k16 : PySem.W.keepIn K (.ref f_WaitsDrop) = true)
    (a17 : PySem.W.findIn K (.ref C_Frame) "__init__" = some (some (.ref f_FrameInit)))
    (i17 : PySem.W.isFn K (.ref f_FrameInit) = true)
    (l17 : K.lookup f_FrameInit = some ⟨oc17, od17, .func (PySem.W.fnOf "__init__" "Frame.__init__" (defArgs s_FrameInit) (defBody s_FrameInit) (defScope s_FrameInit) .none kV17 dc17 pm17 an17 cd17 ct17), sl17⟩)
    (c17 : PySem.W.codeIn K cd17 "Frame.__init__" = true)
    (k17 : PySem.W.keepIn K (.ref f_FrameInit) = true)
    (a18 : PySem.W.findIn K (.ref C_Loom) "__init__" = some (some (.ref f_LoomInit)))
    (i18 : PySem.W.isFn K (.ref f_LoomInit) = true)
    (l18 : K.lookup f_LoomInit = some ⟨oc18, od18, .func (PySem.W.fnOf "__init__" "Loom.__init__" (defArgs s_LoomInit) (defBody s_LoomInit) (defScope s_LoomInit) .none kV18 dc18 pm18 an18 cd18 ct18), sl18⟩)
    (c18 : PySem.W.codeIn K cd18 "Loom.__init__" = true)
    (k18 : PySem.W.keepIn K (.ref f_LoomInit) = true)
    (a19 : PySem.W.findIn K (.ref C_Loom) "come" = some (some (.ref f_LoomCome)))
    (i19 : PySem.W.isFn K (.ref f_LoomCome) = true)
    (l19 : K.lookup f_LoomCome = some ⟨oc19, od19, .func (PySem.W.fnOf "come" "Loom.come" (defArgs s_LoomCome) (defBody s_LoomCome) (defScope s_LoomCome) .none kV19 dc19 pm19 an19 cd19 ct19), sl19⟩)
    (c19 : PySem.W.codeIn K cd19 "Loom.come" = true)
    (k19 : PySem.W.keepIn K (.ref f_LoomCome) = true)
    (a20 : PySem.W.findIn K (.ref C_Loom) "go" = some (some (.ref f_LoomGo)))
    (i20 : PySem.W.isFn K (.ref f_LoomGo) = true)
    (l20 : K.lookup f_LoomGo = some ⟨oc20, od20, .func (PySem.W.fnOf "go" "Loom.go" (defArgs s_LoomGo) (defBody s_LoomGo) (defScope s_LoomGo) .none kV20 dc20 pm20 an20 cd20 ct20), sl20⟩)
    (c20 : PySem.W.codeIn K cd20 "Loom.go" = true)
    (k20 : PySem.W.keepIn K (.ref f_LoomGo) = true)
    (a21 : PySem.W.findIn K (.ref C_Loom) "made" = some (some (.ref f_LoomMade)))
    (i21 : PySem.W.isFn K (.ref f_LoomMade) = true)
    (l21 : K.lookup f_LoomMade = some ⟨oc21, od21, .func (PySem.W.fnOf "made" "Loom.made" (defArgs s_LoomMade) (defBody s_LoomMade) (defScope s_LoomMade) .none kV21 dc21 pm21 an21 cd21 ct21), sl21⟩)
    (c21 : PySem.W.codeIn K cd21 "Loom.made" = true)
    (k21 : PySem.W.keepIn K (.ref f_LoomMade) = true)
    (a22 : PySem.W.findIn K (.ref C_Loom) "send" = some (some (.ref f_LoomSend)))
    (i22 : PySem.W.isFn K (.ref f_LoomSend) = true)
    (l22 : K.lookup f_LoomSend = some ⟨oc22, od22, .func (PySem.W.fnOf "send" "Loom.send" (defArgs s_LoomSend) (defBody s_LoomSend) (defScope s_LoomSend) .none kV22 dc22 pm22 an22 cd22 ct22), sl22⟩)
    (c22 : PySem.W.codeIn K cd22 "Loom.send" = true)
    (k22 : PySem.W.keepIn K (.ref f_LoomSend) = true)
    (a23 : PySem.W.findIn K (.ref C_Loom) "step" = some (some (.ref f_LoomStep)))
    (i23 : PySem.W.isFn K (.ref f_LoomStep) = true)
    (l23 : K.lookup f_LoomStep = some ⟨oc23, od23, .func (PySem.W.fnOf "step" "Loom.step" (defArgs s_LoomStep) (defBody s_LoomStep) (defScope s_LoomStep) .none kV23 dc23 pm23 an23 cd23 ct23), sl23⟩)
    (c23 : PySem.W.codeIn K cd23 "Loom.step" = true)
    (k23 : PySem.W.keepIn K (.ref f_LoomStep) = true)
    (a24 : PySem.W.findIn K (.ref C_Loom) "begin" = some (some (.ref f_LoomBegin)))
    (i24 : PySem.W.isFn K (.ref f_LoomBegin) = true)
    (l24 : K.lookup f_LoomBegin = some ⟨oc24, od24, .func (PySem.W.fnOf "begin" "Loom.begin" (defArgs s_LoomBegin) (defBody s_LoomBegin) (defScope s_LoomBegin) .none kV24 dc24 pm24 an24 cd24 ct24), sl24⟩)
    (c24 : PySem.W.codeIn K cd24 "Loom.begin" = true)
    (k24 : PySem.W.keepIn K (.ref f_LoomBegin) = true)
    (a25 : PySem.W.findIn K (.ref C_Loom) "go_on" = some (some (.ref f_LoomGoOn)))
    (i25 : PySem.W.isFn K (.ref f_LoomGoOn) = true)
    (l25 : K.lookup f_LoomGoOn = some ⟨oc25, od25, .func (PySem.W.fnOf "go_on" "Loom.go_on" (defArgs s_LoomGoOn) (defBody s_LoomGoOn) (defScope s_LoomGoOn) .none kV25 dc25 pm25 an25 cd25 ct25), sl25⟩)
    (c25 : PySem.W.codeIn K cd25 "Loom.go_on" = true)
    (k25 : PySem.W.keepIn K (.ref f_LoomGoOn) = true)
    (a26 : PySem.W.findIn K (.ref C_Loom) "call" = some (some (.ref f_LoomCall)))
    (i26 : PySem.W.isFn K (.ref f_LoomCall) = true)
    (l26 : K.lookup f_LoomCall = some ⟨oc26, od26, .func (PySem.W.fnOf "call" "Loom.call" (defArgs s_LoomCall) (defBody s_LoomCall) (defScope s_LoomCall) .none kV26 dc26 pm26 an26 cd26 ct26), sl26⟩)
    (c26 : PySem.W.codeIn K cd26 "Loom.call" = true)
    (k26 : PySem.W.keepIn K (.ref f_LoomCall) = true)
    (a27 : PySem.W.findIn K (.ref C_Loom) "do" = some (some (.ref f_LoomDo)))
    (i27 : PySem.W.isFn K (.ref f_LoomDo) = true)
    (l27 : K.lookup f_LoomDo = some ⟨oc27, od27, .func (PySem.W.fnOf "do" "Loom.do" (defArgs s_LoomDo) (defBody s_LoomDo) (defScope s_LoomDo) .none kV27 dc27 pm27 an27 cd27 ct27), sl27⟩)
    (c27 : PySem.W.codeIn K cd27 "Loom.do" = true)
    (k27 : PySem.W.keepIn K (.ref f_LoomDo) = true)
    (a28 : PySem.W.findIn K (.ref C_Loom) "make" = some (some (.ref f_LoomMake)))
    (i28 : PySem.W.isFn K (.ref f_LoomMake) = true)
    (l28 : K.lookup f_LoomMake = some ⟨oc28, od28, .func (PySem.W.fnOf "make" "Loom.make" (defArgs s_LoomMake) (defBody s_LoomMake) (defScope s_LoomMake) .none kV28 dc28 pm28 an28 cd28 ct28), sl28⟩)
    (c28 : PySem.W.codeIn K cd28 "Loom.make" = true)
    (k28 : PySem.W.keepIn K (.ref f_LoomMake) = true)
    (a29 : PySem.W.findIn K (.ref C_Loom) "run" = some (some (.ref f_LoomRun)))
    (i29 : PySem.W.isFn K (.ref f_LoomRun) = true)
    (l29 : K.lookup f_LoomRun = some ⟨oc29, od29, .func (PySem.W.fnOf "run" "Loom.run" (defArgs s_LoomRun) (defBody s_LoomRun) (defScope s_LoomRun) .none kV29 dc29 pm29 an29 cd29 ct29), sl29⟩)
    (c29 : PySem.W.codeIn K cd29 "Loom.run" = true)
    (k29 : PySem.W.keepIn K (.ref f_LoomRun) = true)
    (a30 : PySem.W.findIn K (.ref C_Loom) "waiting" = some (some (.ref f_LoomWaiting)))
    (i30 : PySem.W.isFn K (.ref f_LoomWaiting) = true)
    (l30 : K.lookup f_LoomWaiting = some ⟨oc30, od30, .func (PySem.W.fnOf "waiting" "Loom.waiting" (defArgs s_LoomWaiting) (defBody s_LoomWaiting) (defScope s_LoomWaiting) .none kV30 dc30 pm30 an30 cd30 ct30), sl30⟩)
    (c30 : PySem.W.codeIn K cd30 "Loom.waiting" = true)
    (k30 : PySem.W.keepIn K (.ref f_LoomWaiting) = true)
    (a31 : PySem.W.findIn K (.ref C_Loom) "around" = some (some (.ref f_LoomAround)))
    (i31 : PySem.W.isFn K (.ref f_LoomAround) = true)
    (l31 : K.lookup f_LoomAround = some ⟨oc31, od31, .func (PySem.W.fnOf "around" "Loom.around" (defArgs s_LoomAround) (defBody s_LoomAround) (defScope s_LoomAround) .none kV31 dc31 pm31 an31 cd31 ct31), sl31⟩)
    (c31 : PySem.W.codeIn K cd31 "Loom.around" = true)
    (k31 : PySem.W.keepIn K (.ref f_LoomAround) = true)
    (a32 : PySem.W.findIn K (.ref C_Loom) "standing" = some (some (.ref f_LoomStanding)))
    (i32 : PySem.W.isFn K (.ref f_LoomStanding) = true)
    (l32 : K.lookup f_LoomStanding = some ⟨oc32, od32, .func (PySem.W.fnOf "standing" "Loom.standing" (defArgs s_LoomStanding) (defBody s_LoomStanding) (defScope s_LoomStanding) .none kV32 dc32 pm32 an32 cd32 ct32), sl32⟩)
    (c32 : PySem.W.codeIn K cd32 "Loom.standing" = true)
    (k32 : PySem.W.keepIn K (.ref f_LoomStanding) = true)
    (a33 : PySem.W.findIn K (.ref C_Loom) "idle" = some (some (.ref f_LoomIdle)))
    (i33 : PySem.W.isFn K (.ref f_LoomIdle) = true)
    (l33 : K.lookup f_LoomIdle = some ⟨oc33, od33, .func (PySem.W.fnOf "idle" "Loom.idle" (defArgs s_LoomIdle) (defBody s_LoomIdle) (defScope s_LoomIdle) .none kV33 dc33 pm33 an33 cd33 ct33), sl33⟩)
    (c33 : PySem.W.codeIn K cd33 "Loom.idle" = true)
    (k33 : PySem.W.keepIn K (.ref f_LoomIdle) = true)
    (a34 : PySem.W.nsIn K mainGlobals "_law_told_at" = some (some (.ref f_ltoldAt)))
    (l34 : K.lookup f_ltoldAt = some ⟨oc34, od34, .func (PySem.W.fnOf "_law_told_at" "_law_told_at" (defArgs s_ltoldAt) (defBody s_ltoldAt) (defScope s_ltoldAt) .none kV34 dc34 pm34 an34 cd34 ct34), sl34⟩)
    (c34 : PySem.W.codeIn K cd34 "_law_told_at" = true)
    (k34 : PySem.W.keepIn K (.ref f_ltoldAt) = true)
    (a35 : PySem.W.nsIn K mainGlobals "_law_mixed" = some (some (.ref f_lmixed)))
    (l35 : K.lookup f_lmixed = some ⟨oc35, od35, .func (PySem.W.fnOf "_law_mixed" "_law_mixed" (defArgs s_lmixed) (defBody s_lmixed) (defScope s_lmixed) .none kV35 dc35 pm35 an35 cd35 ct35), sl35⟩)
    (c35 : PySem.W.codeIn K cd35 "_law_mixed" = true)
    (k35 : PySem.W.keepIn K (.ref f_lmixed) = true)
    (a36 : PySem.W.nsIn K mainGlobals "_law_words_by" = some (some (.ref f_lwordsBy)))
    (l36 : K.lookup f_lwordsBy = some ⟨oc36, od36, .func (PySem.W.fnOf "_law_words_by" "_law_words_by" (defArgs s_lwordsBy) (defBody s_lwordsBy) (defScope s_lwordsBy) .none kV36 dc36 pm36 an36 cd36 ct36), sl36⟩)
    (c36 : PySem.W.codeIn K cd36 "_law_words_by" = true)
    (k36 : PySem.W.keepIn K (.ref f_lwordsBy) = true)
    (a37 : PySem.W.nsIn K mainGlobals "_law_handlers_by" = some (some (.ref f_lhandlersBy)))
    (l37 : K.lookup f_lhandlersBy = some ⟨oc37, od37, .func (PySem.W.fnOf "_law_handlers_by" "_law_handlers_by" (defArgs s_lhandlersBy) (defBody s_lhandlersBy) (defScope s_lhandlersBy) .none kV37 dc37 pm37 an37 cd37 ct37), sl37⟩)
    (c37 : PySem.W.codeIn K cd37 "_law_handlers_by" = true)
    (k37 : PySem.W.keepIn K (.ref f_lhandlersBy) = true)
    (a38 : PySem.W.nsIn K mainGlobals "_law_calls_due" = some (some (.ref f_lcallsDue)))
    (l38 : K.lookup f_lcallsDue = some ⟨oc38, od38, .func (PySem.W.fnOf "_law_calls_due" "_law_calls_due" (defArgs s_lcallsDue) (defBody s_lcallsDue) (defScope s_lcallsDue) .none kV38 dc38 pm38 an38 cd38 ct38), sl38⟩)
    (c38 : PySem.W.codeIn K cd38 "_law_calls_due" = true)
    (k38 : PySem.W.keepIn K (.ref f_lcallsDue) = true)
    (a39 : PySem.W.nsIn K mainGlobals "_law_frame" = some (some (.ref f_lframe)))
    (l39 : K.lookup f_lframe = some ⟨oc39, od39, .func (PySem.W.fnOf "_law_frame" "_law_frame" (defArgs s_lframe) (defBody s_lframe) (defScope s_lframe) .none kV39 dc39 pm39 an39 cd39 ct39), sl39⟩)
    (c39 : PySem.W.codeIn K cd39 "_law_frame" = true)
    (k39 : PySem.W.keepIn K (.ref f_lframe) = true)
    (a40 : PySem.W.nsIn K mainGlobals "_law_walked" = some (some (.ref f_lwalked)))
    (l40 : K.lookup f_lwalked = some ⟨oc40, od40, .func (PySem.W.fnOf "_law_walked" "_law_walked" (defArgs s_lwalked) (defBody s_lwalked) (defScope s_lwalked) .none kV40 dc40 pm40 an40 cd40 ct40), sl40⟩)
    (c40 : PySem.W.codeIn K cd40 "_law_walked" = true)
    (k40 : PySem.W.keepIn K (.ref f_lwalked) = true)
    (a41 : PySem.W.nsIn K mainGlobals "law" = some (some (.ref f_law)))
    (l41 : K.lookup f_law = some ⟨oc41, od41, .func (PySem.W.fnOf "law" "law" (defArgs s_law) (defBody s_law) (defScope s_law) .none kV41 dc41 pm41 an41 cd41 ct41), sl41⟩)
    (c41 : PySem.W.codeIn K cd41 "law" = true)
    (k41 : PySem.W.keepIn K (.ref f_law) = true)
    (z_isinstance : PySem.W.nsIn K mainGlobals "isinstance" = some none)
    (z_int : PySem.W.nsIn K mainGlobals "int" = some none)
    (z_bool : PySem.W.nsIn K mainGlobals "bool" = some none)
    (z_str : PySem.W.nsIn K mainGlobals "str" = some none)
    (z_len : PySem.W.nsIn K mainGlobals "len" = some none)
    (z_all : PySem.W.nsIn K mainGlobals "all" = some none)
    (z_tuple : PySem.W.nsIn K mainGlobals "tuple" = some none)
    (z_list : PySem.W.nsIn K mainGlobals "list" = some none)
    (z_enumerate : PySem.W.nsIn K mainGlobals "enumerate" = some none)
    (z_sorted : PySem.W.nsIn K mainGlobals "sorted" = some none)
    (z_range : PySem.W.nsIn K mainGlobals "range" = some none)
    (a_LETTERS : PySem.W.nsIn K mainGlobals "LETTERS" = some (some u_LETTERS))
    (r_LETTERS : RelV (.str "abcdefghijklmnopqrstuvwxyz") u_LETTERS)
    (a_MOST_SIGNS : PySem.W.nsIn K mainGlobals "MOST_SIGNS" = some (some u_MOST_SIGNS))
    (r_MOST_SIGNS : RelV (.int 12) u_MOST_SIGNS)
    (a_MOST_HANDLERS : PySem.W.nsIn K mainGlobals "MOST_HANDLERS" = some (some u_MOST_HANDLERS))
    (r_MOST_HANDLERS : RelV (.int 40) u_MOST_HANDLERS)
    (a_MOST_DEEDS : PySem.W.nsIn K mainGlobals "MOST_DEEDS" = some (some u_MOST_DEEDS))
    (r_MOST_DEEDS : RelV (.int 30) u_MOST_DEEDS)
    (a_MOST_TICKS : PySem.W.nsIn K mainGlobals "MOST_TICKS" = some (some u_MOST_TICKS))
    (r_MOST_TICKS : RelV (.int 1000000000) u_MOST_TICKS)
    (a_WORDED : PySem.W.nsIn K mainGlobals "WORDED" = some (some (.ref t_WORDED)))
    (t0_WORDED : K.lookup t_WORDED = some to_WORDED)
    (t1_WORDED : to_WORDED.cls = PySem.Value.type "tuple")
    (t2_WORDED : to_WORDED.data = PySem.Data.seq ti_WORDED tn_WORDED)
    (t3_WORDED : ti_WORDED.size ≤ PySem.sizeLine)
    (t4_WORDED : Vals [.str "now", .str "soon", .str "cancel", .str "join", .str "leave"] ti_WORDED.toList)
    : ∃ T : Tx K mg, fa = T.f_law ∧ ∀ (s : Shared) (v : Value), BindsTo s T.d_law ⟨[v], []⟩ [("_law_script", v)] := by
  have F1 := fun_mk (st := s_Wall) l1 c1 k1
  have b1 := F1.binds (ps := ["k"]) fun _ _ _ _ _ _ us hl => match us, hl with | [_], _ => rfl
  have F2 := fun_mk (st := s_isWhole) l2 c2 k2
  have b2 := F2.binds (ps := ["thing"]) fun _ _ _ _ _ _ us hl => match us, hl with | [_], _ => rfl
  have F3 := fun_mk (st := s_isWord) l3 c3 k3
  have b3 := F3.binds (ps := ["thing"]) fun _ _ _ _ _ _ us hl => match us, hl with | [_], _ => rfl
  have F4 := fun_mk (st := s_needWord) l4 c4 k4
  have b4 := F4.binds (ps := ["thing"]) fun _ _ _ _ _ _ us hl => match us, hl with | [_], _ => rfl
  have F5 := fun_mk (st := s_isDeed) l5 c5 k5
  have b5 := F5.binds (ps := ["thing"]) fun _ _ _ _ _ _ us hl => match us, hl with | [_], _ => rfl
  have F6 := fun_mk (st := s_isHandler) l6 c6 k6
  have b6 := F6.binds (ps := ["thing"]) fun _ _ _ _ _ _ us hl => match us, hl with | [_], _ => rfl
  have F7 := fun_mk (st := s_needHandlers) l7 c7 k7
  have b7 := F7.binds (ps := ["handlers"]) fun _ _ _ _ _ _ us hl => match us, hl with | [_], _ => rfl
  have F8 := fun_mk (st := s_needNames) l8 c8 k8
  have b8 := F8.binds (ps := ["handlers", "names"]) fun _ _ _ _ _ _ us hl => match us, hl with | [_, _], _ => rfl
  have F9 := fun_mk (st := s_handlerOf) l9 c9 k9
  have b9 := F9.binds (ps := ["handlers", "name"]) fun _ _ _ _ _ _ us hl => match us, hl with | [_, _], _ => rfl
  have F10 := fun_mk (st := s_hearers) l10 c10 k10
  have b10 := F10.binds (ps := ["handlers", "names", "word"]) fun _ _ _ _ _ _ us hl => match us, hl with | [_, _, _], _ => rfl
  have F11 := fun_mk (st := s_WaitsInit) l11 c11 k11
  have b11 := F11.binds (ps := ["self"]) fun _ _ _ _ _ _ us hl => match us, hl with | [_], _ => rfl
  have F12 := fun_mk (st := s_WaitsSooner) l12 c12 k12
  have b12 := F12.binds (ps := ["self", "number"]) fun _ _ _ _ _ _ us hl => match us, hl with | [_, _], _ => rfl
  have F13 := fun_mk (st := s_WaitsLater) l13 c13 k13
  have b13 := F13.binds (ps := ["self", "number", "due"]) fun _ _ _ _ _ _ us hl => match us, hl with | [_, _, _], _ => rfl
  have F14 := fun_mk (st := s_WaitsLineup) l14 c14 k14
  have b14 := F14.binds (ps := ["self"]) fun _ _ _ _ _ _ us hl => match us, hl with | [_], _ => rfl
  have F15 := fun_mk (st := s_WaitsLead) l15 c15 k15
  have b15 := F15.binds (ps := ["self"]) fun _ _ _ _ _ _ us hl => match us, hl with | [_], _ => rfl
  have F16 := fun_mk (st := s_WaitsDrop) l16 c16 k16
  have b16 := F16.binds (ps := ["self", "numbers"]) fun _ _ _ _ _ _ us hl => match us, hl with | [_, _], _ => rfl
  have F17 := fun_mk (st := s_FrameInit) l17 c17 k17
  have b17 := F17.binds (ps := ["self", "number", "called"]) fun _ _ _ _ _ _ us hl => match us, hl with | [_, _, _], _ => rfl
  have F18 := fun_mk (st := s_LoomInit) l18 c18 k18
  have b18 := F18.binds (ps := ["self", "handlers", "names"]) fun _ _ _ _ _ _ us hl => match us, hl with | [_, _, _], _ => rfl
  have F19 := fun_mk (st := s_LoomCome) l19 c19 k19
  have b19 := F19.binds (ps := ["self", "name"]) fun _ _ _ _ _ _ us hl => match us, hl with | [_, _], _ => rfl
  have F20 := fun_mk (st := s_LoomGo) l20 c20 k20
  have b20 := F20.binds (ps := ["self", "name"]) fun _ _ _ _ _ _ us hl => match us, hl with | [_, _], _ => rfl
  have F21 := fun_mk (st := s_LoomMade) l21 c21 k21
  have b21 := F21.binds (ps := ["self", "word", "maker", "road", "due"]) fun _ _ _ _ _ _ us hl => match us, hl with | [_, _, _, _, _], _ => rfl
  have F22 := fun_mk (st := s_LoomSend) l22 c22 k22
  have b22 := F22.binds (ps := ["self", "word"]) fun _ _ _ _ _ _ us hl => match us, hl with | [_, _], _ => rfl
  have F23 := fun_mk (st := s_LoomStep) l23 c23 k23
  have b23 := F23.binds (ps := ["self"]) fun _ _ _ _ _ _ us hl => match us, hl with | [_], _ => rfl
  have F24 := fun_mk (st := s_LoomBegin) l24 c24 k24
  have b24 := F24.binds (ps := ["self", "number"]) fun _ _ _ _ _ _ us hl => match us, hl with | [_, _], _ => rfl
  have F25 := fun_mk (st := s_LoomGoOn) l25 c25 k25
  have b25 := F25.binds (ps := ["self", "frame"]) fun _ _ _ _ _ _ us hl => match us, hl with | [_, _], _ => rfl
  have F26 := fun_mk (st := s_LoomCall) l26 c26 k26
  have b26 := F26.binds (ps := ["self", "frame", "name"]) fun _ _ _ _ _ _ us hl => match us, hl with | [_, _, _], _ => rfl
  have F27 := fun_mk (st := s_LoomDo) l27 c27 k27
  have b27 := F27.binds (ps := ["self", "frame", "deed"]) fun _ _ _ _ _ _ us hl => match us, hl with | [_, _, _], _ => rfl
  have F28 := fun_mk (st := s_LoomMake) l28 c28 k28
  have b28 := F28.binds (ps := ["self", "maker", "deed"]) fun _ _ _ _ _ _ us hl => match us, hl with | [_, _, _], _ => rfl
  have F29 := fun_mk (st := s_LoomRun) l29 c29 k29
  have b29 := F29.binds (ps := ["self", "most"]) fun _ _ _ _ _ _ us hl => match us, hl with | [_, _], _ => rfl
  have F30 := fun_mk (st := s_LoomWaiting) l30 c30 k30
  have b30 := F30.binds (ps := ["self"]) fun _ _ _ _ _ _ us hl => match us, hl with | [_], _ => rfl
  have F31 := fun_mk (st := s_LoomAround) l31 c31 k31
  have b31 := F31.binds (ps := ["self"]) fun _ _ _ _ _ _ us hl => match us, hl with | [_], _ => rfl
  have F32 := fun_mk (st := s_LoomStanding) l32 c32 k32
  have b32 := F32.binds (ps := ["self"]) fun _ _ _ _ _ _ us hl => match us, hl with | [_], _ => rfl
  have F33 := fun_mk (st := s_LoomIdle) l33 c33 k33
  have b33 := F33.binds (ps := ["self"]) fun _ _ _ _ _ _ us hl => match us, hl with | [_], _ => rfl
  have F34 := fun_mk (st := s_ltoldAt) l34 c34 k34
  have b34 := F34.binds (ps := ["_law_script", "_law_place"]) fun _ _ _ _ _ _ us hl => match us, hl with | [_, _], _ => rfl
  have F35 := fun_mk (st := s_lmixed) l35 c35 k35
  have b35 := F35.binds (ps := ["_law_cell", "_law_k", "_law_many"]) fun _ _ _ _ _ _ us hl => match us, hl with | [_, _, _], _ => rfl
  have F36 := fun_mk (st := s_lwordsBy) l36 c36 k36
  have b36 := F36.binds (ps := ["_law_cell"]) fun _ _ _ _ _ _ us hl => match us, hl with | [_], _ => rfl
  have F37 := fun_mk (st := s_lhandlersBy) l37 c37 k37
  have b37 := F37.binds (ps := ["_law_script", "_law_words"]) fun _ _ _ _ _ _ us hl => match us, hl with | [_, _], _ => rfl
  have F38 := fun_mk (st := s_lcallsDue) l38 c38 k38
  have b38 := F38.binds (ps := ["_law_word", "_law_handlers"]) fun _ _ _ _ _ _ us hl => match us, hl with | [_, _], _ => rfl
  have F39 := fun_mk (st := s_lframe) l39 c39 k39
  have b39 := F39.binds (ps := ["_law_number", "_law_word", "_law_handlers"]) fun _ _ _ _ _ _ us hl => match us, hl with | [_, _, _], _ => rfl
  have F40 := fun_mk (st := s_lwalked) l40 c40 k40
  have b40 := F40.binds (ps := ["_law_log", "_law_events", "_law_handlers"]) fun _ _ _ _ _ _ us hl => match us, hl with | [_, _, _], _ => rfl
  have F41 := fun_mk (st := s_law) l41 c41 k41
  have b41 := F41.binds (ps := ["_law_script"]) fun _ _ _ _ _ _ us hl => match us, hl with | [_], _ => rfl
  have e : fa = f_law := by
    have e0 := hfa.symm.trans (PySem.W.mg_of X G a41)
    cases e0
    rfl
  exact ⟨{
    c_LoomError := C_LoomError
    g_LoomError := PySem.W.mg_of X G aC_LoomError
    x_LoomError := x_LoomError
    k_LoomError := k_LoomError
    sb_LoomError := sb_LoomError
    ty_LoomError := ty_LoomError
    c_NoWord := C_NoWord
    g_NoWord := PySem.W.mg_of X G aC_NoWord
    x_NoWord := x_NoWord
    k_NoWord := k_NoWord
    sb_NoWord := sb_NoWord
    ty_NoWord := ty_NoWord
    c_NoHandler := C_NoHandler
    g_NoHandler := PySem.W.mg_of X G aC_NoHandler
    x_NoHandler := x_NoHandler
    k_NoHandler := k_NoHandler
    sb_NoHandler := sb_NoHandler
    ty_NoHandler := ty_NoHandler
    c_Twice := C_Twice
    g_Twice := PySem.W.mg_of X G aC_Twice
    x_Twice := x_Twice
    k_Twice := k_Twice
    sb_Twice := sb_Twice
    ty_Twice := ty_Twice
    c_Stranger := C_Stranger
    g_Stranger := PySem.W.mg_of X G aC_Stranger
    x_Stranger := x_Stranger
    k_Stranger := k_Stranger
    sb_Stranger := sb_Stranger
    ty_Stranger := ty_Stranger
    c_NoCount := C_NoCount
    g_NoCount := PySem.W.mg_of X G aC_NoCount
    x_NoCount := x_NoCount
    k_NoCount := k_NoCount
    sb_NoCount := sb_NoCount
    ty_NoCount := ty_NoCount
    c_Waits := C_Waits
    g_Waits := PySem.W.mg_of X G aC_Waits
    cl_Waits := ⟨pg_Waits, hd_Waits, po_Waits, sa_Waits⟩
    n_Waits_first_ones := n_Waits_first_ones
    n_Waits_rows := n_Waits_rows
    c_Frame := C_Frame
    g_Frame := PySem.W.mg_of X G aC_Frame
    cl_Frame := ⟨pg_Frame, hd_Frame, po_Frame, sa_Frame⟩
    n_Frame_number := n_Frame_number
    n_Frame_called := n_Frame_called
    n_Frame_deeds := n_Frame_deeds
    n_Frame_place := n_Frame_place
    c_Loom := C_Loom
    g_Loom := PySem.W.mg_of X G aC_Loom
    cl_Loom := ⟨pg_Loom, hd_Loom, po_Loom, sa_Loom⟩
    n_Loom_handlers := n_Loom_handlers
    n_Loom_time := n_Loom_time
    n_Loom_events := n_Loom_events
    n_Loom_log := n_Loom_log
    n_Loom_frames := n_Loom_frames
    n_Loom_fresh := n_Loom_fresh
    n_Loom_line := n_Loom_line
    n_Loom_stood := n_Loom_stood
    n_Loom_standings := n_Loom_standings
    f_Wall := f_Wall
    d_Wall := PySem.W.fnOf "_wall" "_wall" (defArgs s_Wall) (defBody s_Wall) (defScope s_Wall) .none kV1 dc1 pm1 an1 cd1 ct1
    F_Wall := F1
    b_Wall := b1
    g_Wall := PySem.W.mg_of X G a1
    f_isWhole := f_isWhole
    d_isWhole := PySem.W.fnOf "is_whole" "is_whole" (defArgs s_isWhole) (defBody s_isWhole) (defScope s_isWhole) .none kV2 dc2 pm2 an2 cd2 ct2
    F_isWhole := F2
    b_isWhole := b2
    g_isWhole := PySem.W.mg_of X G a2
    f_isWord := f_isWord
    d_isWord := PySem.W.fnOf "is_word" "is_word" (defArgs s_isWord) (defBody s_isWord) (defScope s_isWord) .none kV3 dc3 pm3 an3 cd3 ct3
    F_isWord := F3
    b_isWord := b3
    g_isWord := PySem.W.mg_of X G a3
    f_needWord := f_needWord
    d_needWord := PySem.W.fnOf "need_word" "need_word" (defArgs s_needWord) (defBody s_needWord) (defScope s_needWord) .none kV4 dc4 pm4 an4 cd4 ct4
    F_needWord := F4
    b_needWord := b4
    g_needWord := PySem.W.mg_of X G a4
    f_isDeed := f_isDeed
    d_isDeed := PySem.W.fnOf "is_deed" "is_deed" (defArgs s_isDeed) (defBody s_isDeed) (defScope s_isDeed) .none kV5 dc5 pm5 an5 cd5 ct5
    F_isDeed := F5
    b_isDeed := b5
    g_isDeed := PySem.W.mg_of X G a5
    f_isHandler := f_isHandler
    d_isHandler := PySem.W.fnOf "is_handler" "is_handler" (defArgs s_isHandler) (defBody s_isHandler) (defScope s_isHandler) .none kV6 dc6 pm6 an6 cd6 ct6
    F_isHandler := F6
    b_isHandler := b6
    g_isHandler := PySem.W.mg_of X G a6
    f_needHandlers := f_needHandlers
    d_needHandlers := PySem.W.fnOf "need_handlers" "need_handlers" (defArgs s_needHandlers) (defBody s_needHandlers) (defScope s_needHandlers) .none kV7 dc7 pm7 an7 cd7 ct7
    F_needHandlers := F7
    b_needHandlers := b7
    g_needHandlers := PySem.W.mg_of X G a7
    f_needNames := f_needNames
    d_needNames := PySem.W.fnOf "need_names" "need_names" (defArgs s_needNames) (defBody s_needNames) (defScope s_needNames) .none kV8 dc8 pm8 an8 cd8 ct8
    F_needNames := F8
    b_needNames := b8
    g_needNames := PySem.W.mg_of X G a8
    f_handlerOf := f_handlerOf
    d_handlerOf := PySem.W.fnOf "handler_of" "handler_of" (defArgs s_handlerOf) (defBody s_handlerOf) (defScope s_handlerOf) .none kV9 dc9 pm9 an9 cd9 ct9
    F_handlerOf := F9
    b_handlerOf := b9
    g_handlerOf := PySem.W.mg_of X G a9
    f_hearers := f_hearers
    d_hearers := PySem.W.fnOf "hearers" "hearers" (defArgs s_hearers) (defBody s_hearers) (defScope s_hearers) .none kV10 dc10 pm10 an10 cd10 ct10
    F_hearers := F10
    b_hearers := b10
    g_hearers := PySem.W.mg_of X G a10
    f_WaitsInit := f_WaitsInit
    d_WaitsInit := PySem.W.fnOf "__init__" "Waits.__init__" (defArgs s_WaitsInit) (defBody s_WaitsInit) (defScope s_WaitsInit) .none kV11 dc11 pm11 an11 cd11 ct11
    F_WaitsInit := F11
    b_WaitsInit := b11
    mk_Waits := ⟨mk_Waits, a11, i11, kc_Waits⟩
    f_WaitsSooner := f_WaitsSooner
    d_WaitsSooner := PySem.W.fnOf "sooner" "Waits.sooner" (defArgs s_WaitsSooner) (defBody s_WaitsSooner) (defScope s_WaitsSooner) .none kV12 dc12 pm12 an12 cd12 ct12
    F_WaitsSooner := F12
    b_WaitsSooner := b12
    m_WaitsSooner := ⟨a12, i12, k12⟩
    f_WaitsLater := f_WaitsLater
    d_WaitsLater := PySem.W.fnOf "later" "Waits.later" (defArgs s_WaitsLater) (defBody s_WaitsLater) (defScope s_WaitsLater) .none kV13 dc13 pm13 an13 cd13 ct13
    F_WaitsLater := F13
    b_WaitsLater := b13
    m_WaitsLater := ⟨a13, i13, k13⟩
    f_WaitsLineup := f_WaitsLineup
    d_WaitsLineup := PySem.W.fnOf "lineup" "Waits.lineup" (defArgs s_WaitsLineup) (defBody s_WaitsLineup) (defScope s_WaitsLineup) .none kV14 dc14 pm14 an14 cd14 ct14
    F_WaitsLineup := F14
    b_WaitsLineup := b14
    m_WaitsLineup := ⟨a14, i14, k14⟩
    f_WaitsLead := f_WaitsLead
    d_WaitsLead := PySem.W.fnOf "lead" "Waits.lead" (defArgs s_WaitsLead) (defBody s_WaitsLead) (defScope s_WaitsLead) .none kV15 dc15 pm15 an15 cd15 ct15
    F_WaitsLead := F15
    b_WaitsLead := b15
    m_WaitsLead := ⟨a15, i15, k15⟩
    f_WaitsDrop := f_WaitsDrop
    d_WaitsDrop := PySem.W.fnOf "drop" "Waits.drop" (defArgs s_WaitsDrop) (defBody s_WaitsDrop) (defScope s_WaitsDrop) .none kV16 dc16 pm16 an16 cd16 ct16
    F_WaitsDrop := F16
    b_WaitsDrop := b16
    m_WaitsDrop := ⟨a16, i16, k16⟩
    f_FrameInit := f_FrameInit
    d_FrameInit := PySem.W.fnOf "__init__" "Frame.__init__" (defArgs s_FrameInit) (defBody s_FrameInit) (defScope s_FrameInit) .none kV17 dc17 pm17 an17 cd17 ct17
    F_FrameInit := F17
    b_FrameInit := b17
    mk_Frame := ⟨mk_Frame, a17, i17, kc_Frame⟩
    f_LoomInit := f_LoomInit
    d_LoomInit := PySem.W.fnOf "__init__" "Loom.__init__" (defArgs s_LoomInit) (defBody s_LoomInit) (defScope s_LoomInit) .none kV18 dc18 pm18 an18 cd18 ct18
    F_LoomInit := F18
    b_LoomInit := b18
    mk_Loom := ⟨mk_Loom, a18, i18, kc_Loom⟩
    f_LoomCome := f_LoomCome
    d_LoomCome := PySem.W.fnOf "come" "Loom.come" (defArgs s_LoomCome) (defBody s_LoomCome) (defScope s_LoomCome) .none kV19 dc19 pm19 an19 cd19 ct19
    F_LoomCome := F19
    b_LoomCome := b19
    m_LoomCome := ⟨a19, i19, k19⟩
    f_LoomGo := f_LoomGo
    d_LoomGo := PySem.W.fnOf "go" "Loom.go" (defArgs s_LoomGo) (defBody s_LoomGo) (defScope s_LoomGo) .none kV20 dc20 pm20 an20 cd20 ct20
    F_LoomGo := F20
    b_LoomGo := b20
    m_LoomGo := ⟨a20, i20, k20⟩
    f_LoomMade := f_LoomMade
    d_LoomMade := PySem.W.fnOf "made" "Loom.made" (defArgs s_LoomMade) (defBody s_LoomMade) (defScope s_LoomMade) .none kV21 dc21 pm21 an21 cd21 ct21
    F_LoomMade := F21
    b_LoomMade := b21
    m_LoomMade := ⟨a21, i21, k21⟩
    f_LoomSend := f_LoomSend
    d_LoomSend := PySem.W.fnOf "send" "Loom.send" (defArgs s_LoomSend) (defBody s_LoomSend) (defScope s_LoomSend) .none kV22 dc22 pm22 an22 cd22 ct22
    F_LoomSend := F22
    b_LoomSend := b22
    m_LoomSend := ⟨a22, i22, k22⟩
    f_LoomStep := f_LoomStep
    d_LoomStep := PySem.W.fnOf "step" "Loom.step" (defArgs s_LoomStep) (defBody s_LoomStep) (defScope s_LoomStep) .none kV23 dc23 pm23 an23 cd23 ct23
    F_LoomStep := F23
    b_LoomStep := b23
    m_LoomStep := ⟨a23, i23, k23⟩
    f_LoomBegin := f_LoomBegin
    d_LoomBegin := PySem.W.fnOf "begin" "Loom.begin" (defArgs s_LoomBegin) (defBody s_LoomBegin) (defScope s_LoomBegin) .none kV24 dc24 pm24 an24 cd24 ct24
    F_LoomBegin := F24
    b_LoomBegin := b24
    m_LoomBegin := ⟨a24, i24, k24⟩
    f_LoomGoOn := f_LoomGoOn
    d_LoomGoOn := PySem.W.fnOf "go_on" "Loom.go_on" (defArgs s_LoomGoOn) (defBody s_LoomGoOn) (defScope s_LoomGoOn) .none kV25 dc25 pm25 an25 cd25 ct25
    F_LoomGoOn := F25
    b_LoomGoOn := b25
    m_LoomGoOn := ⟨a25, i25, k25⟩
    f_LoomCall := f_LoomCall
    d_LoomCall := PySem.W.fnOf "call" "Loom.call" (defArgs s_LoomCall) (defBody s_LoomCall) (defScope s_LoomCall) .none kV26 dc26 pm26 an26 cd26 ct26
    F_LoomCall := F26
    b_LoomCall := b26
    m_LoomCall := ⟨a26, i26, k26⟩
    f_LoomDo := f_LoomDo
    d_LoomDo := PySem.W.fnOf "do" "Loom.do" (defArgs s_LoomDo) (defBody s_LoomDo) (defScope s_LoomDo) .none kV27 dc27 pm27 an27 cd27 ct27
    F_LoomDo := F27
    b_LoomDo := b27
    m_LoomDo := ⟨a27, i27, k27⟩
    f_LoomMake := f_LoomMake
    d_LoomMake := PySem.W.fnOf "make" "Loom.make" (defArgs s_LoomMake) (defBody s_LoomMake) (defScope s_LoomMake) .none kV28 dc28 pm28 an28 cd28 ct28
    F_LoomMake := F28
    b_LoomMake := b28
    m_LoomMake := ⟨a28, i28, k28⟩
    f_LoomRun := f_LoomRun
    d_LoomRun := PySem.W.fnOf "run" "Loom.run" (defArgs s_LoomRun) (defBody s_LoomRun) (defScope s_LoomRun) .none kV29 dc29 pm29 an29 cd29 ct29
    F_LoomRun := F29
    b_LoomRun := b29
    m_LoomRun := ⟨a29, i29, k29⟩
    f_LoomWaiting := f_LoomWaiting
    d_LoomWaiting := PySem.W.fnOf "waiting" "Loom.waiting" (defArgs s_LoomWaiting) (defBody s_LoomWaiting) (defScope s_LoomWaiting) .none kV30 dc30 pm30 an30 cd30 ct30
    F_LoomWaiting := F30
    b_LoomWaiting := b30
    m_LoomWaiting := ⟨a30, i30, k30⟩
    f_LoomAround := f_LoomAround
    d_LoomAround := PySem.W.fnOf "around" "Loom.around" (defArgs s_LoomAround) (defBody s_LoomAround) (defScope s_LoomAround) .none kV31 dc31 pm31 an31 cd31 ct31
    F_LoomAround := F31
    b_LoomAround := b31
    m_LoomAround := ⟨a31, i31, k31⟩
    f_LoomStanding := f_LoomStanding
    d_LoomStanding := PySem.W.fnOf "standing" "Loom.standing" (defArgs s_LoomStanding) (defBody s_LoomStanding) (defScope s_LoomStanding) .none kV32 dc32 pm32 an32 cd32 ct32
    F_LoomStanding := F32
    b_LoomStanding := b32
    m_LoomStanding := ⟨a32, i32, k32⟩
    f_LoomIdle := f_LoomIdle
    d_LoomIdle := PySem.W.fnOf "idle" "Loom.idle" (defArgs s_LoomIdle) (defBody s_LoomIdle) (defScope s_LoomIdle) .none kV33 dc33 pm33 an33 cd33 ct33
    F_LoomIdle := F33
    b_LoomIdle := b33
    m_LoomIdle := ⟨a33, i33, k33⟩
    f_ltoldAt := f_ltoldAt
    d_ltoldAt := PySem.W.fnOf "_law_told_at" "_law_told_at" (defArgs s_ltoldAt) (defBody s_ltoldAt) (defScope s_ltoldAt) .none kV34 dc34 pm34 an34 cd34 ct34
    F_ltoldAt := F34
    b_ltoldAt := b34
    g_ltoldAt := PySem.W.mg_of X G a34
    f_lmixed := f_lmixed
    d_lmixed := PySem.W.fnOf "_law_mixed" "_law_mixed" (defArgs s_lmixed) (defBody s_lmixed) (defScope s_lmixed) .none kV35 dc35 pm35 an35 cd35 ct35
    F_lmixed := F35
    b_lmixed := b35
    g_lmixed := PySem.W.mg_of X G a35
    f_lwordsBy := f_lwordsBy
    d_lwordsBy := PySem.W.fnOf "_law_words_by" "_law_words_by" (defArgs s_lwordsBy) (defBody s_lwordsBy) (defScope s_lwordsBy) .none kV36 dc36 pm36 an36 cd36 ct36
    F_lwordsBy := F36
    b_lwordsBy := b36
    g_lwordsBy := PySem.W.mg_of X G a36
    f_lhandlersBy := f_lhandlersBy
    d_lhandlersBy := PySem.W.fnOf "_law_handlers_by" "_law_handlers_by" (defArgs s_lhandlersBy) (defBody s_lhandlersBy) (defScope s_lhandlersBy) .none kV37 dc37 pm37 an37 cd37 ct37
    F_lhandlersBy := F37
    b_lhandlersBy := b37
    g_lhandlersBy := PySem.W.mg_of X G a37
    f_lcallsDue := f_lcallsDue
    d_lcallsDue := PySem.W.fnOf "_law_calls_due" "_law_calls_due" (defArgs s_lcallsDue) (defBody s_lcallsDue) (defScope s_lcallsDue) .none kV38 dc38 pm38 an38 cd38 ct38
    F_lcallsDue := F38
    b_lcallsDue := b38
    g_lcallsDue := PySem.W.mg_of X G a38
    f_lframe := f_lframe
    d_lframe := PySem.W.fnOf "_law_frame" "_law_frame" (defArgs s_lframe) (defBody s_lframe) (defScope s_lframe) .none kV39 dc39 pm39 an39 cd39 ct39
    F_lframe := F39
    b_lframe := b39
    g_lframe := PySem.W.mg_of X G a39
    f_lwalked := f_lwalked
    d_lwalked := PySem.W.fnOf "_law_walked" "_law_walked" (defArgs s_lwalked) (defBody s_lwalked) (defScope s_lwalked) .none kV40 dc40 pm40 an40 cd40 ct40
    F_lwalked := F40
    b_lwalked := b40
    g_lwalked := PySem.W.mg_of X G a40
    f_law := f_law
    d_law := PySem.W.fnOf "law" "law" (defArgs s_law) (defBody s_law) (defScope s_law) .none kV41 dc41 pm41 an41 cd41 ct41
    F_law := F41
    b_law := b41
    g_law := PySem.W.mg_of X G a41
    z_isinstance := PySem.W.mg_none_of X G z_isinstance
    z_int := PySem.W.mg_none_of X G z_int
    z_bool := PySem.W.mg_none_of X G z_bool
    z_str := PySem.W.mg_none_of X G z_str
    z_len := PySem.W.mg_none_of X G z_len
    z_all := PySem.W.mg_none_of X G z_all
    z_tuple := PySem.W.mg_none_of X G z_tuple
    z_list := PySem.W.mg_none_of X G z_list
    z_enumerate := PySem.W.mg_none_of X G z_enumerate
    z_sorted := PySem.W.mg_none_of X G z_sorted
    z_range := PySem.W.mg_none_of X G z_range
    u_LETTERS := u_LETTERS
    g_LETTERS := PySem.W.mg_of X G a_LETTERS
    r_LETTERS := r_LETTERS
    u_MOST_SIGNS := u_MOST_SIGNS
    g_MOST_SIGNS := PySem.W.mg_of X G a_MOST_SIGNS
    r_MOST_SIGNS := r_MOST_SIGNS
    u_MOST_HANDLERS := u_MOST_HANDLERS
    g_MOST_HANDLERS := PySem.W.mg_of X G a_MOST_HANDLERS
    r_MOST_HANDLERS := r_MOST_HANDLERS
    u_MOST_DEEDS := u_MOST_DEEDS
    g_MOST_DEEDS := PySem.W.mg_of X G a_MOST_DEEDS
    r_MOST_DEEDS := r_MOST_DEEDS
    u_MOST_TICKS := u_MOST_TICKS
    g_MOST_TICKS := PySem.W.mg_of X G a_MOST_TICKS
    r_MOST_TICKS := r_MOST_TICKS
    a_WORDED := t_WORDED
    g_WORDED := PySem.W.mg_of X G a_WORDED
    t_WORDED := fun H => .inr ⟨_, _, _, t0_WORDED, t1_WORDED, t2_WORDED, t3_WORDED, t4_WORDED⟩
    }, e, fun s v => .of_eq rfl⟩
theorem walk {l : PySem.W.OpenLaw} {q : Program} {loose : List Str} {XP : (Str → Option Value) → Heap → Prop} {YP : World → Heap → Prop} {d : DefRec} {K : Params → PySem.W.Frag} (hn : l.most = some 63) (hdf : d.params.defaults = [])
    (hY : ∀ (w : World) (h : Heap), YP w h → (K w.params).In h)
    (F : ∀ (w : World) (mg : Str → Option Value) (fa : Addr) (h : Heap), (K w.params).In h → h.Ns mainGlobals mg → mg d.name = some (.ref fa) →
      ∃ T : Tx (K w.params) mg, fa = T.f_law ∧ ∀ (s : Shared) (v : Value), BindsTo s T.d_law ⟨[v], []⟩ [("_law_script", v)]) :
    PySem.W.WalkO q loose XP YP l.row.toRowW d [] (fun f vs => PySem.call f vs) := by
  refine L2.walk_of (n := 63) (k := 7) (x := "_law_script") (CX := fun _ => CX0) (sp := fun w => sp_law (K w.params)) hn (by decide) hdf ⟨rfl, by decide, by decide⟩ hY (fun w mg fa h KX G hmg => ?_) (fun _ _ a ns hl _ hS => ⟨a, ns, rfl, hS, hl, fun _ => rfl⟩) fun _ _ _ _ _ z => z
  obtain ⟨T, e, b⟩ := F w mg fa h KX G hmg
  subst e
  exact ⟨T.d_law, b, fun base _ _ => ok_law T⟩
end Ev
open PySem PySem.W PyProof.Rows in
theorem PySem.Challenge.cw_eventloom_k07_now_within_holds : PySem.Challenge.rw_eventloom_k07_now_within.Holds := by
  w_on; o_law; k_head; (case hw => w_witness2)
  k_fill
  refine Ev.walk (l := PySem.Challenge.rw_eventloom_k07_now_within) rfl rfl (fun w h Y => PySem.W.kIn_of Y) ?F
  case F =>
    intro w mg fa h KX G hmg
    refine' Ev.all_mk KX G hmg ?aC_LoomError ?aC_NoWord ?aC_NoHandler ?aC_Twice ?aC_Stranger ?aC_NoCount ?aC_Waits ?aC_Frame ?aC_Loom ?x_LoomError ?k_LoomError ?sb_LoomError ?ty_LoomError ?x_NoWord ?k_NoWord ?sb_NoWord ?ty_NoWord ?x_NoHandler ?k_NoHandler ?sb_NoHandler ?ty_NoHandler ?x_Twice ?k_Twice ?sb_Twice ?ty_Twice ?x_Stranger ?k_Stranger ?sb_Stranger ?ty_Stranger ?x_NoCount ?k_NoCount ?sb_NoCount ?ty_NoCount ?pg_Waits ?hd_Waits ?po_Waits ?sa_Waits ?mk_Waits ?kc_Waits ?n_Waits_first_ones ?n_Waits_rows ?pg_Frame ?hd_Frame ?po_Frame ?sa_Frame ?mk_Frame ?kc_Frame ?n_Frame_number ?n_Frame_called ?n_Frame_deeds ?n_Frame_place ?pg_Loom ?hd_Loom ?po_Loom ?sa_Loom ?mk_Loom ?kc_Loom ?n_Loom_handlers ?n_Loom_time ?n_Loom_events ?n_Loom_log ?n_Loom_frames ?n_Loom_fresh ?n_Loom_line ?n_Loom_stood ?n_Loom_standings ?a1 ?l1 ?c1 ?k1 ?a2 ?l2 ?c2 ?k2 ?a3 ?l3 ?c3 ?k3 ?a4 ?l4 ?c4 ?k4 ?a5 ?l5 ?c5 ?k5 ?a6 ?l6 ?c6 ?k6 ?a7 ?l7 ?c7 ?k7 ?a8 ?l8 ?c8 ?k8 ?a9 ?l9 ?c9 ?k9 ?a10 ?l10 ?c10 ?k10 ?a11 ?i11 ?l11 ?c11 ?k11 ?a12 ?i12 ?l12 ?c12 ?k12 ?a13 ?i13 ?l13 ?c13 ?k13 ?a14 ?i14 ?l14 ?c14 ?k14 ?a15 ?i15 ?l15 ?c15 ?k15 ?a16 ?i16 ?l16 ?c16 ?k16 ?a17 ?i17 ?l17 ?c17 ?k17 ?a18 ?i18 ?l18 ?c18 ?k18 ?a19 ?i19 ?l19 ?c19 ?k19 ?a20 ?i20 ?l20 ?c20 ?k20 ?a21 ?i21 ?l21 ?c21 ?k21 ?a22 ?i22 ?l22 ?c22 ?k22 ?a23 ?i23 ?l23 ?c23 ?k23 ?a24 ?i24 ?l24 ?c24 ?k24 ?a25 ?i25 ?l25 ?c25 ?k25 ?a26 ?i26 ?l26 ?c26 ?k26 ?a27 ?i27 ?l27 ?c27 ?k27 ?a28 ?i28 ?l28 ?c28 ?k28 ?a29 ?i29 ?l29 ?c29 ?k29 ?a30 ?i30 ?l30 ?c30 ?k30 ?a31 ?i31 ?l31 ?c31 ?k31 ?a32 ?i32 ?l32 ?c32 ?k32 ?a33 ?i33 ?l33 ?c33 ?k33 ?a34 ?l34 ?c34 ?k34 ?a35 ?l35 ?c35 ?k35 ?a36 ?l36 ?c36 ?k36 ?a37 ?l37 ?c37 ?k37 ?a38 ?l38 ?c38 ?k38 ?a39 ?l39 ?c39 ?k39 ?a40 ?l40 ?c40 ?k40 ?a41 ?l41 ?c41 ?k41 ?z_isinstance ?z_int ?z_bool ?z_str ?z_len ?z_all ?z_tuple ?z_list ?z_enumerate ?z_sorted ?z_range ?a_LETTERS ?r_LETTERS ?a_MOST_SIGNS ?r_MOST_SIGNS ?a_MOST_HANDLERS ?r_MOST_HANDLERS ?a_MOST_DEEDS ?r_MOST_DEEDS ?a_MOST_TICKS ?r_MOST_TICKS ?a_WORDED ?t0_WORDED ?t1_WORDED ?t2_WORDED ?t3_WORDED ?t4_WORDED
    (case aC_LoomError => k_is)
    (case aC_NoWord => k_is)
    (case aC_NoHandler => k_is)
    (case aC_Twice => k_is)
    (case aC_Stranger => k_is)
    (case aC_NoCount => k_is)
    (case aC_Waits => k_is)
    (case aC_Frame => k_is)
    (case aC_Loom => k_is)
    (case x_LoomError => k_exc)
    (case k_LoomError => k_is)
    (case sb_LoomError => k_is)
    (case ty_LoomError => k_is)
    (case x_NoWord => k_exc)
    (case k_NoWord => k_is)
    (case sb_NoWord => k_is)
    (case ty_NoWord => k_is)
    (case x_NoHandler => k_exc)
    (case k_NoHandler => k_is)
    (case sb_NoHandler => k_is)
    (case ty_NoHandler => k_is)
    (case x_Twice => k_exc)
    (case k_Twice => k_is)
    (case sb_Twice => k_is)
    (case ty_Twice => k_is)
    (case x_Stranger => k_exc)
    (case k_Stranger => k_is)
    (case sb_Stranger => k_is)
    (case ty_Stranger => k_is)
    (case x_NoCount => k_exc)
    (case k_NoCount => k_is)
    (case sb_NoCount => k_is)
    (case ty_NoCount => k_is)
    (case pg_Waits => k_is)
    (case hd_Waits => k_is)
    (case po_Waits => k_is)
    (case sa_Waits => k_is)
    (case mk_Waits => k_is)
    (case kc_Waits => k_is)
    (case n_Waits_first_ones => k_is)
    (case n_Waits_rows => k_is)
    (case pg_Frame => k_is)
    (case hd_Frame => k_is)
    (case po_Frame => k_is)
    (case sa_Frame => k_is)
    (case mk_Frame => k_is)
    (case kc_Frame => k_is)
    (case n_Frame_number => k_is)
    (case n_Frame_called => k_is)
    (case n_Frame_deeds => k_is)
    (case n_Frame_place => k_is)
    (case pg_Loom => k_is)
    (case hd_Loom => k_is)
    (case po_Loom => k_is)
    (case sa_Loom => k_is)
    (case mk_Loom => k_is)
    (case kc_Loom => k_is)
    (case n_Loom_handlers => k_is)
    (case n_Loom_time => k_is)
    (case n_Loom_events => k_is)
    (case n_Loom_log => k_is)
    (case n_Loom_frames => k_is)
    (case n_Loom_fresh => k_is)
    (case n_Loom_line => k_is)
    (case n_Loom_stood => k_is)
    (case n_Loom_standings => k_is)
    (case a1 => k_is)
    (case l1 => k_is)
    (case c1 => k_is)
    (case k1 => k_is)
    (case a2 => k_is)
    (case l2 => k_is)
    (case c2 => k_is)
    (case k2 => k_is)
    (case a3 => k_is)
    (case l3 => k_is)
    (case c3 => k_is)
    (case k3 => k_is)
    (case a4 => k_is)
    (case l4 => k_is)
    (case c4 => k_is)
    (case k4 => k_is)
    (case a5 => k_is)
    (case l5 => k_is)
    (case c5 => k_is)
    (case k5 => k_is)
    (case a6 => k_is)
    (case l6 => k_is)
    (case c6 => k_is)
    (case k6 => k_is)
    (case a7 => k_is)
    (case l7 => k_is)
    (case c7 => k_is)
    (case k7 => k_is)
    (case a8 => k_is)
    (case l8 => k_is)
    (case c8 => k_is)
    (case k8 => k_is)
    (case a9 => k_is)
    (case l9 => k_is)
    (case c9 => k_is)
    (case k9 => k_is)
    (case a10 => k_is)
    (case l10 => k_is)
    (case c10 => k_is)
    (case k10 => k_is)
    (case a11 => k_is)
    (case i11 => k_is)
    (case l11 => k_is)
    (case c11 => k_is)
    (case k11 => k_is)
    (case a12 => k_is)
    (case i12 => k_is)
    (case l12 => k_is)
    (case c12 => k_is)
    (case k12 => k_is)
    (case a13 => k_is)
    (case i13 => k_is)
    (case l13 => k_is)
    (case c13 => k_is)
    (case k13 => k_is)
    (case a14 => k_is)
    (case i14 => k_is)
    (case l14 => k_is)
    (case c14 => k_is)
    (case k14 => k_is)
    (case a15 => k_is)
    (case i15 => k_is)
    (case l15 => k_is)
    (case c15 => k_is)
    (case k15 => k_is)
    (case a16 => k_is)
    (case i16 => k_is)
    (case l16 => k_is)
    (case c16 => k_is)
    (case k16 => k_is)
    (case a17 => k_is)
    (case i17 => k_is)
    (case l17 => k_is)
    (case c17 => k_is)
    (case k17 => k_is)
    (case a18 => k_is)
    (case i18 => k_is)
    (case l18 => k_is)
    (case c18 => k_is)
    (case k18 => k_is)
    (case a19 => k_is)
    (case i19 => k_is)
    (case l19 => k_is)
    (case c19 => k_is)
    (case k19 => k_is)
    (case a20 => k_is)
    (case i20 => k_is)
    (case l20 => k_is)
    (case c20 => k_is)
    (case k20 => k_is)
    (case a21 => k_is)
    (case i21 => k_is)
    (case l21 => k_is)
    (case c21 => k_is)
    (case k21 => k_is)
    (case a22 => k_is)
    (case i22 => k_is)
    (case l22 => k_is)
    (case c22 => k_is)
    (case k22 => k_is)
    (case a23 => k_is)
    (case i23 => k_is)
    (case l23 => k_is)
    (case c23 => k_is)
    (case k23 => k_is)
    (case a24 => k_is)
    (case i24 => k_is)
    (case l24 => k_is)
    (case c24 => k_is)
    (case k24 => k_is)
    (case a25 => k_is)
    (case i25 => k_is)
    (case l25 => k_is)
    (case c25 => k_is)
    (case k25 => k_is)
    (case a26 => k_is)
    (case i26 => k_is)
    (case l26 => k_is)
    (case c26 => k_is)
    (case k26 => k_is)
    (case a27 => k_is)
    (case i27 => k_is)
    (case l27 => k_is)
    (case c27 => k_is)
    (case k27 => k_is)
    (case a28 => k_is)
    (case i28 => k_is)
    (case l28 => k_is)
    (case c28 => k_is)
    (case k28 => k_is)
    (case a29 => k_is)
    (case i29 => k_is)
    (case l29 => k_is)
    (case c29 => k_is)
    (case k29 => k_is)
    (case a30 => k_is)
    (case i30 => k_is)
    (case l30 => k_is)
    (case c30 => k_is)
    (case k30 => k_is)
    (case a31 => k_is)
    (case i31 => k_is)
    (case l31 => k_is)
    (case c31 => k_is)
    (case k31 => k_is)
    (case a32 => k_is)
    (case i32 => k_is)
    (case l32 => k_is)
    (case c32 => k_is)
    (case k32 => k_is)
    (case a33 => k_is)
    (case i33 => k_is)
    (case l33 => k_is)
    (case c33 => k_is)
    (case k33 => k_is)
    (case a34 => k_is)
    (case l34 => k_is)
    (case c34 => k_is)
    (case k34 => k_is)
    (case a35 => k_is)
    (case l35 => k_is)
    (case c35 => k_is)
    (case k35 => k_is)
    (case a36 => k_is)
    (case l36 => k_is)
    (case c36 => k_is)
    (case k36 => k_is)
    (case a37 => k_is)
    (case l37 => k_is)
    (case c37 => k_is)
    (case k37 => k_is)
    (case a38 => k_is)
    (case l38 => k_is)
    (case c38 => k_is)
    (case k38 => k_is)
    (case a39 => k_is)
    (case l39 => k_is)
    (case c39 => k_is)
    (case k39 => k_is)
    (case a40 => k_is)
    (case l40 => k_is)
    (case c40 => k_is)
    (case k40 => k_is)
    (case a41 => k_is)
    (case l41 => k_is)
    (case c41 => k_is)
    (case k41 => k_is)
    (case z_isinstance => k_is)
    (case z_int => k_is)
    (case z_bool => k_is)
    (case z_str => k_is)
    (case z_len => k_is)
    (case z_all => k_is)
    (case z_tuple => k_is)
    (case z_list => k_is)
    (case z_enumerate => k_is)
    (case z_sorted => k_is)
    (case z_range => k_is)
    (case a_LETTERS => k_is)
    (case r_LETTERS => exact ⟨_, rfl⟩)
    (case a_MOST_SIGNS => k_is)
    (case r_MOST_SIGNS => exact ⟨_, rfl⟩)
    (case a_MOST_HANDLERS => k_is)
    (case r_MOST_HANDLERS => exact ⟨_, rfl⟩)
    (case a_MOST_DEEDS => k_is)
    (case r_MOST_DEEDS => exact ⟨_, rfl⟩)
    (case a_MOST_TICKS => k_is)
    (case r_MOST_TICKS => exact ⟨_, rfl⟩)
    (case a_WORDED => k_is)
    (case t0_WORDED => k_is)
    (case t1_WORDED => rfl)
    (case t2_WORDED => rfl)
    (case t3_WORDED => decide)
    (case t4_WORDED => exact .cons ⟨_, rfl⟩ (.cons ⟨_, rfl⟩ (.cons ⟨_, rfl⟩ (.cons ⟨_, rfl⟩ (.cons ⟨_, rfl⟩ (.nil))))))
