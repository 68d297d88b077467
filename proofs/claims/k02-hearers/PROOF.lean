import PyProof.Rows.All
import Wide.All
import OpenK.AllK
import Wide.FinOn
import HandS.ForMost
import HandS.More
import HandS.IsInst
import HandS.Conv
import HandS.Deep
import HandS.TupAny
import HandS.TupLe
import HandS.SortInts
import HandS.SortRule
import HandS.Style
import HandS.Flow
import HandS.Wide
import HandS.Exc
import HandS.ExcOwn
import HandS.WordsExc
import HandS.TryOnly
import HandS.SetFor
import HandS.Walk
import KE.SortData
import PySem.Challenge.RW_eventloom_k02_hearers
set_option Elab.async false
set_option linter.all false
set_option maxRecDepth 100000
set_option maxHeartbeats 4000000
local macro_rules | `(tactic| walk_at "len") => `(tactic| (intro vs H Q E h; first
  | (obtain ⟨e, _⟩ := h; rw [e]; rfl) | (obtain ⟨_, e, _⟩ := h; rw [e]; rfl) | (obtain ⟨_, _, e, _⟩ := h; rw [e]; rfl) | (obtain ⟨_, _, _, e, _⟩ := h; rw [e]; rfl)
  | (obtain ⟨_, _, _, _, e, _⟩ := h; rw [e]; rfl) | (obtain ⟨_, _, _, _, _, e, _⟩ := h; rw [e]; rfl) | (obtain ⟨_, _, _, _, _, _, e, _⟩ := h; rw [e]; rfl)
  | (obtain ⟨_, _, _, _, _, _, _, e, _⟩ := h; rw [e]; rfl) | (obtain ⟨_, _, _, _, _, _, _, _, e, _⟩ := h; rw [e]; rfl) | (obtain ⟨_, _, _, _, _, _, _, _, _, e, _⟩ := h; rw [e]; rfl) | (obtain ⟨_, _, _, _, _, _, _, _, _, _, e, _⟩ := h; rw [e]; rfl) | (obtain ⟨_, _, _, _, _, _, _, _, _, _, _, e, _⟩ := h; rw [e]; rfl) | (obtain ⟨_, _, _, _, _, _, _, _, _, _, _, _, e, _⟩ := h; rw [e]; rfl) | (obtain ⟨_, _, _, _, _, _, _, _, _, _, _, _, _, e, _⟩ := h; rw [e]; rfl) | (obtain ⟨_, _, _, _, _, _, _, _, _, _, _, _, _, _, e, _⟩ := h; rw [e]; rfl)))
local macro_rules | `(tactic| walk_at "nf") => `(tactic| dsimp only [L2.tNext, L2.tSeq, L2.tRet, L2.tAsg, L2.tDrop, L2.tCB, L2.tCons, L2.tNil, L2.tOp, L2.gName, L2.sFld])
local macro_rules | `(tactic| walk_at "go") => `(tactic| repeat (first | refine ⟨_, rfl, ?_⟩ | refine ⟨_, _, rfl, rfl, ?_⟩ | refine ⟨rfl, ?_⟩))
namespace Ev
open PySem L2
/-! ### heaps: what an operation keeps -/
structure Kp (M : List Addr) (H H' : Hp) : Prop where
  keep : ∀ a o, a ∉ M → H a = some o → H' a = some o
  dom : ∀ a, H' a = none → H a = none
  tup : ∀ a xs, H a = some (.tup xs) → H' a = some (.tup xs)
theorem Kp.refl (M : List Addr) (H : Hp) : Kp M H H := ⟨fun _ _ _ h => h, fun _ h => h, fun _ _ h => h⟩
theorem Kp.trans {M : List Addr} {H H1 H2 : Hp} (a : Kp M H H1) (b : Kp M H1 H2) : Kp M H H2 :=
  ⟨fun p o n h => b.keep p o n (a.keep p o n h), fun p h => a.dom p (b.dom p h), fun p xs h => b.tup p xs (a.tup p xs h)⟩
theorem Kp.transM {M M1 : List Addr} {H H1 H2 : Hp} (a : Kp M H H1) (b : Kp M1 H1 H2) (s : ∀ p, p ∈ M1 → p ∈ M ∨ H p = none) : Kp M H H2 :=
  ⟨fun p o n h => b.keep p o (fun z => (s p z).elim n fun q => by rw [q] at h; cases h) (a.keep p o n h), fun p h => a.dom p (b.dom p h), fun p xs h => b.tup p xs (a.tup p xs h)⟩
theorem Kp.mono {M M1 : List Addr} {H H1 : Hp} (a : Kp M1 H H1) (s : ∀ p, p ∈ M1 → p ∈ M ∨ H p = none) : Kp M H H1 := (Kp.refl M H).transM a s
theorem Kp.keep0 {H H' : Hp} (k : Kp [] H H') {a : Addr} {o : HO} (h : H a = some o) : H' a = some o := k.keep a o (by simp) h
theorem upd_none {H : Hp} {p a : Addr} {o : HO} (h : upd H p o a = none) : a ≠ p ∧ H a = none := by
  unfold upd at h
  split at h
  · cases h
  · exact ⟨by assumption, h⟩
theorem Kp.step {M : List Addr} {H H1 : Hp} {p : Addr} {o : HO} (k : Kp M H H1) (hm : p ∈ M ∨ H p = none) (ht : ∀ xs, H1 p ≠ some (.tup xs)) : Kp M H (upd H1 p o) := by
  refine ⟨fun a u n h => ?_, fun a h => k.dom a (upd_none h).2, fun a xs h => ?_⟩
  · have ne : a ≠ p := by
      rintro rfl
      rcases hm with q | q
      · exact n q
      · rw [q] at h; cases h
    rw [upd_ne ne]; exact k.keep a u n h
  · have ne : a ≠ p := by
      rintro rfl
      exact ht xs (k.tup _ _ h)
    rw [upd_ne ne]; exact k.tup a xs h
theorem Kp.new {M : List Addr} {H H1 : Hp} {p : Addr} {o : HO} (k : Kp M H H1) (h : H1 p = none) : Kp M H (upd H1 p o) :=
  k.step (.inr (k.dom p h)) fun xs q => by rw [h] at q; cases q
theorem Kp.lst {M : List Addr} {H H1 : Hp} {p : Addr} {o : HO} {ys : List V} (k : Kp M H H1) (hm : p ∈ M ∨ H p = none) (h : H1 p = some (.lst ys)) : Kp M H (upd H1 p o) :=
  k.step hm fun xs q => by rw [h] at q; cases q
theorem Kp.ins {M : List Addr} {H H1 : Hp} {p C dx : Addr} {o : HO} {fs : List (Str × V)} (k : Kp M H H1) (hm : p ∈ M ∨ H p = none) (h : H1 p = some (.ins C dx fs)) : Kp M H (upd H1 p o) :=
  k.step hm fun xs q => by rw [h] at q; cases q
theorem Kp.dk {M : List Addr} {H H1 : Hp} {p : Addr} {o : HO} {kvs : List (Key × V)} (k : Kp M H H1) (hm : p ∈ M ∨ H p = none) (h : H1 p = some (.dK kvs)) : Kp M H (upd H1 p o) :=
  k.step hm fun xs q => by rw [h] at q; cases q
theorem Kp.ne {M : List Addr} {H H' : Hp} (k : Kp M H H') {a p : Addr} {o : HO} (h : H a = some o) (hp : H' p = none) : a ≠ p := fun e => by
  subst e
  rw [k.dom _ hp] at h
  cases h
theorem SqL.kp {K : PySem.W.Frag} {M : List Addr} {H H' : Hp} {a : Addr} {xs : List V} (k : Kp M H H') (n : a ∉ M) (h : SqL K H a xs) : SqL K H' a xs := by
  rcases h with (h | ⟨o, h⟩) | h
  · exact .inl (.inl (k.keep _ _ n h))
  · exact .inl (.inr ⟨o, k.keep _ _ n h⟩)
  · exact .inr h
theorem SqT.kp {K : PySem.W.Frag} {M : List Addr} {H H' : Hp} {a : Addr} {xs : List V} (k : Kp M H H') (n : a ∉ M) (h : SqT K H a xs) : SqT K H' a xs := by
  rcases h with (h | ⟨o, h⟩) | h
  · exact .inl (.inl (k.keep _ _ n h))
  · exact .inl (.inr ⟨o, k.keep _ _ n h⟩)
  · exact .inr h
theorem SqT.of {K : PySem.W.Frag} {H : Hp} {a : Addr} {xs : List V} (h : H a = some (.tup xs)) : SqT K H a xs := .inl (.inl h)
theorem at0 {α : Type} {x : α} {l : List α} : atI (x :: l) 0 = some x := atI_nat (j := 0) rfl
theorem at1 {α : Type} {x y : α} {l : List α} : atI (x :: y :: l) 1 = some y := atI_nat (j := 1) rfl
theorem at2 {α : Type} {x y z : α} {l : List α} : atI (x :: y :: z :: l) 2 = some z := atI_nat (j := 2) rfl
theorem at3 {α : Type} {x y z u : α} {l : List α} : atI (x :: y :: z :: u :: l) 3 = some u := atI_nat (j := 3) rfl
theorem at4 {α : Type} {x y z u v : α} {l : List α} : atI (x :: y :: z :: u :: v :: l) 4 = some v := atI_nat (j := 4) rfl
theorem atLast {α : Type} {l : List α} {v : α} (h : l.getLast? = some v) : atI l (-1) = some v := by
  obtain ⟨r, rfl⟩ := List.getLast?_eq_some_iff.mp h
  exact atI_last r v
/-! ### fields by their place -/
theorem look_ix : ∀ {l : List (Str × V)} {i : Nat} {k : Str} {v : V}, (l.map Prod.fst).Nodup → l[i]? = some (k, v) → l.lookup k = some v
  | [], _, _, _, _, h => by simp at h
  | (a, b) :: l, 0, k, v, _, h => by
    have e : (a, b) = (k, v) := Option.some.inj h
    cases e
    simp [List.lookup]
  | (a, b) :: l, i + 1, k, v, nd, h => by
    have h' : l[i]? = some (k, v) := h
    have nd' := List.nodup_cons.mp (show (a :: l.map Prod.fst).Nodup from nd)
    have ne : k ≠ a := fun e => nd'.1 (by rw [← e]; exact List.mem_map.mpr ⟨_, List.mem_of_getElem? h', rfl⟩)
    have nb : (k == a) = false := by simpa using ne
    rw [List.lookup, nb]
    exact look_ix nd'.2 h'
theorem put_ix : ∀ {l : List (Str × V)} {i : Nat} {k : Str} {u v : V}, (l.map Prod.fst).Nodup → l[i]? = some (k, u) → putF k v l = l.set i (k, v)
  | [], _, _, _, _, _, h => by simp at h
  | (a, b) :: l, 0, k, u, v, _, h => by
    have e : (a, b) = (k, u) := Option.some.inj h
    cases e
    show (if a = a then _ else _) = _
    rw [if_pos rfl]
    rfl
  | (a, b) :: l, i + 1, k, u, v, nd, h => by
    have h' : l[i]? = some (k, u) := h
    have nd' := List.nodup_cons.mp (show (a :: l.map Prod.fst).Nodup from nd)
    have ne : ¬ a = k := fun e => nd'.1 (by rw [e]; exact List.mem_map.mpr ⟨_, List.mem_of_getElem? h', rfl⟩)
    show (if a = k then _ else (a, b) :: putF k v l) = _
    rw [if_neg ne, put_ix nd'.2 h']
    rfl
theorem put_new : ∀ {l : List (Str × V)} {k : Str} {v : V}, k ∉ l.map Prod.fst → putF k v l = l ++ [(k, v)]
  | [], _, _, _ => rfl
  | (a, b) :: l, k, v, h => by
    have h1 : k ∉ a :: l.map Prod.fst := h
    have ne : ¬ a = k := fun e => h1 (by rw [e]; exact List.mem_cons_self)
    show (if a = k then _ else (a, b) :: putF k v l) = _
    rw [if_neg ne, put_new fun z => h1 (List.mem_cons_of_mem _ z)]
    rfl
theorem look_no : ∀ {l : List (Str × V)} {k : Str}, k ∉ l.map Prod.fst → l.lookup k = none
  | [], _, _ => rfl
  | (a, b) :: l, k, h => by
    have h1 : k ∉ a :: l.map Prod.fst := h
    have ne : (k == a) = false := by simpa using fun e : k = a => h1 (by rw [e]; exact List.mem_cons_self)
    rw [List.lookup, ne]
    exact look_no fun z => h1 (List.mem_cons_of_mem _ z)
/-! ### pairs of lists -/
theorem Pd.len {α : Type} {R : V → α → Prop} : ∀ {xs : List V} {ds : List α}, Paired R xs ds → xs.length = ds.length
  | _, _, .nil => rfl
  | _, _, .cons _ t => by simp [Pd.len t]
theorem Pd.at {α : Type} {R : V → α → Prop} : ∀ {xs : List V} {ds : List α} {i : Nat} {x : V}, Paired R xs ds → xs[i]? = some x → ∃ d, ds[i]? = some d ∧ R x d
  | _, _, _, _, .nil, e => by simp at e
  | _, _, 0, _, .cons r _, e => by simp at e; subst e; exact ⟨_, rfl, r⟩
  | _, _, i + 1, x, .cons _ t, e => by
    obtain ⟨d, h1, h2⟩ := Pd.at (i := i) t (by simpa using e)
    exact ⟨d, by simpa using h1, h2⟩
theorem Pd.at' {α : Type} {R : V → α → Prop} : ∀ {xs : List V} {ds : List α} {i : Nat} {d : α}, Paired R xs ds → ds[i]? = some d → ∃ x, xs[i]? = some x ∧ R x d
  | _, _, _, _, .nil, e => by simp at e
  | _, _, 0, _, .cons r _, e => by simp at e; subst e; exact ⟨_, rfl, r⟩
  | _, _, i + 1, x, .cons _ t, e => by
    obtain ⟨d, h1, h2⟩ := Pd.at' (i := i) t (by simpa using e)
    exact ⟨d, by simpa using h1, h2⟩
theorem Pd.mono {α : Type} {R S : V → α → Prop} (f : ∀ x d, R x d → S x d) : ∀ {xs : List V} {ds : List α}, Paired R xs ds → Paired S xs ds
  | _, _, .nil => .nil
  | _, _, .cons r t => .cons (f _ _ r) (Pd.mono f t)
theorem Pd.map {α : Type} {R : V → α → Prop} {f : α → V} : ∀ {ds : List α}, (∀ d, d ∈ ds → R (f d) d) → Paired R (ds.map f) ds
  | [], _ => .nil
  | d :: ds, h => .cons (h d List.mem_cons_self) (Pd.map fun e he => h e (List.mem_cons_of_mem _ he))
theorem Pd.append {α : Type} {R : V → α → Prop} : ∀ {xs ys : List V} {ds es : List α}, Paired R xs ds → Paired R ys es → Paired R (xs ++ ys) (ds ++ es)
  | _, _, _, _, .nil, s => s
  | _, _, _, _, .cons r t, s => .cons r (Pd.append t s)
theorem Pd.take {α : Type} {R : V → α → Prop} : ∀ {xs : List V} {ds : List α} (n : Nat), Paired R xs ds → Paired R (xs.take n) (ds.take n)
  | _, _, 0, _ => .nil
  | _, _, _ + 1, .nil => .nil
  | _, _, n + 1, .cons r t => .cons r (Pd.take n t)
theorem Pd.drop {α : Type} {R : V → α → Prop} : ∀ {xs : List V} {ds : List α} (n : Nat), Paired R xs ds → Paired R (xs.drop n) (ds.drop n)
  | _, _, 0, r => r
  | _, _, _ + 1, .nil => .nil
  | _, _, n + 1, .cons _ t => Pd.drop n t
theorem Pd.eqmap {α : Type} {f : α → V} : ∀ {xs : List V} {ds : List α}, Paired (fun x d => x = f d) xs ds → xs = ds.map f
  | _, _, .nil => rfl
  | _, _, .cons r t => by rw [r, Pd.eqmap t]; rfl
theorem take_snoc {α : Type} {l : List α} {i : Nat} {d : α} (h : l[i]? = some d) : l.take (i + 1) = l.take i ++ [d] := by
  rw [List.take_add_one, h]; rfl
theorem split_at {α : Type} {l : List α} {i : Nat} {d : α} (h : l[i]? = some d) : l = l.take i ++ d :: l.drop (i + 1) := by
  obtain ⟨hi, e⟩ := List.getElem?_eq_some_iff.mp h
  have q := List.take_append_drop i l
  rw [List.drop_eq_getElem_cons hi, e] at q
  exact q.symm
/-! ### loops over a list whose items read as data -/
section
variable {K : PySem.W.Frag} {a : Addr} {xs : List V} {g : TG} {tb : TS} {D : Ends} {σ : St} {H : Hp} {α : Type} {R : V → α → Prop} {ds : List α}
theorem for_pd (hx : Paired R xs ds) (Pv : List α → St → Hp → Prop) (h0 : Pv [] σ H) (hl : ∀ pre σ H, Pv pre σ H → SqL K H a xs)
    (hs : ∀ pre x d post σ H, ds = pre ++ d :: post → R x d → Pv pre σ H → g x σ H fun σ2 H2 => tb { D with nx := Pv (pre ++ [d]), ct := Pv (pre ++ [d]), bk := D.nx } σ2 H2)
    (hd : ∀ σ H, Pv ds σ H → D.nx σ H) : tFor (fun _ H R => R (Itl K a) H) g tb D σ H :=
  for_list (fun i σ H => Pv (ds.take i) σ H) (by simpa using h0) (fun i σ H _ p => hl _ σ H p)
    (fun i x σ H e p => by
      obtain ⟨d, e1, r⟩ := Pd.at hx e
      have q := hs (ds.take i) x d (ds.drop (i + 1)) σ H (split_at e1) r p
      rw [← take_snoc e1] at q
      exact q)
    (fun σ H p => hd σ H (by rw [Pd.len hx, List.take_length] at p; exact p))
theorem for_pdT (hx : Paired R xs ds) (Pv : List α → St → Hp → Prop) (h0 : Pv [] σ H) (hl : ∀ pre σ H, Pv pre σ H → SqT K H a xs)
    (hs : ∀ pre x d post σ H, ds = pre ++ d :: post → R x d → Pv pre σ H → g x σ H fun σ2 H2 => tb { D with nx := Pv (pre ++ [d]), ct := Pv (pre ++ [d]), bk := D.nx } σ2 H2)
    (hd : ∀ σ H, Pv ds σ H → D.nx σ H) : tFor (fun _ H R => R (Itt K a) H) g tb D σ H :=
  for_tup (fun i σ H => Pv (ds.take i) σ H) (by simpa using h0) (fun i σ H _ p => hl _ σ H p)
    (fun i x σ H e p => by
      obtain ⟨d, e1, r⟩ := Pd.at hx e
      have q := hs (ds.take i) x d (ds.drop (i + 1)) σ H (split_at e1) r p
      rw [← take_snoc e1] at q
      exact q)
    (fun σ H p => hd σ H (by rw [Pd.len hx, List.take_length] at p; exact p))
variable {tt : TT} {te : TE} {vs : List Nat} {Q : VK}
/-- a comprehension: at D the list acc, of which I pre acc holds -/
theorem lc_pd (hx : Paired R xs ds) (hz : ds.length < sizeLine) (Pv : Addr → List α → List V → Hp → Prop) (h0 : ∀ D, H D = none → Pv D [] [] (upd H D (.lst [])))
    (hl : ∀ D pre acc H', H D = none → H' D = some (.lst acc) → Pv D pre acc H' → SqL K H' a xs)
    (hs : ∀ D pre acc x d post H' (Yes : V → Hp → Prop) (No : Hp → Prop), H D = none → ds = pre ++ d :: post → R x d → H' D = some (.lst acc) → Pv D pre acc H' →
      (∀ y H4, H4 D = some (.lst acc) → Pv D (pre ++ [d]) (acc ++ [y]) (upd H4 D (.lst (acc ++ [y]))) → Yes y H4) → (∀ H3, H3 D = some (.lst acc) → Pv D (pre ++ [d]) acc H3 → No H3) →
      g x (wipe σ vs) H' fun σ2 H2 => wipe σ2 vs = wipe σ vs ∧ tt σ2 H2 fun b H3 => if b = true then te σ2 H3 Yes else No H3)
    (hd : ∀ D acc H', H D = none → H' D = some (.lst acc) → Pv D ds acc H' → Q (.ref D) H') : tLc (fun _ H R => R (Itl K a) H) g tt te vs σ H Q := fun D hD =>
  lc_list (fun i H' => ∃ acc, H' D = some (.lst acc) ∧ acc.length ≤ i ∧ Pv D (ds.take i) acc H') ⟨[], upd_same, Nat.le_refl _, by simpa using h0 D hD⟩ (fun i H' _ ⟨acc, e, _, p⟩ => hl D _ acc H' hD e p)
    (fun i x H' e ⟨acc, e2, hi, p⟩ => by
      obtain ⟨d, e1, r⟩ := Pd.at hx e
      have hlt : i < ds.length := (List.getElem?_eq_some_iff.mp e1).1
      have q := fun Yes No => hs D (ds.take i) acc x d (ds.drop (i + 1)) H' Yes No hD (split_at e1) r e2 p
      rw [← take_snoc e1] at q
      exact q _ _ (fun y H4 z1 z2 => ⟨acc, z1, Nat.lt_of_le_of_lt hi (Nat.lt_trans hlt hz), acc ++ [y], upd_same, by simp; exact hi, z2⟩) fun H3 z1 z2 => ⟨acc, z1, Nat.le_succ_of_le hi, z2⟩)
    (fun H' ⟨acc, e, _, p⟩ => hd D acc H' hD e (by rw [Pd.len hx, List.take_length] at p; exact p))
/-- .. over a tuple -/
theorem lc_pdT (hx : Paired R xs ds) (hz : ds.length < sizeLine) (Pv : Addr → List α → List V → Hp → Prop) (h0 : ∀ D, H D = none → Pv D [] [] (upd H D (.lst [])))
    (hl : ∀ D pre acc H', H D = none → H' D = some (.lst acc) → Pv D pre acc H' → SqT K H' a xs)
    (hs : ∀ D pre acc x d post H' (Yes : V → Hp → Prop) (No : Hp → Prop), H D = none → ds = pre ++ d :: post → R x d → H' D = some (.lst acc) → Pv D pre acc H' →
      (∀ y H4, H4 D = some (.lst acc) → Pv D (pre ++ [d]) (acc ++ [y]) (upd H4 D (.lst (acc ++ [y]))) → Yes y H4) → (∀ H3, H3 D = some (.lst acc) → Pv D (pre ++ [d]) acc H3 → No H3) →
      g x (wipe σ vs) H' fun σ2 H2 => wipe σ2 vs = wipe σ vs ∧ tt σ2 H2 fun b H3 => if b = true then te σ2 H3 Yes else No H3)
    (hd : ∀ D acc H', H D = none → H' D = some (.lst acc) → Pv D ds acc H' → Q (.ref D) H') : tLc (fun _ H R => R (Itt K a) H) g tt te vs σ H Q := fun D hD =>
  lc_tup (fun i H' => ∃ acc, H' D = some (.lst acc) ∧ acc.length ≤ i ∧ Pv D (ds.take i) acc H') ⟨[], upd_same, Nat.le_refl _, by simpa using h0 D hD⟩ (fun i H' _ ⟨acc, e, _, p⟩ => hl D _ acc H' hD e p)
    (fun i x H' e ⟨acc, e2, hi, p⟩ => by
      obtain ⟨d, e1, r⟩ := Pd.at hx e
      have hlt : i < ds.length := (List.getElem?_eq_some_iff.mp e1).1
      have q := fun Yes No => hs D (ds.take i) acc x d (ds.drop (i + 1)) H' Yes No hD (split_at e1) r e2 p
      rw [← take_snoc e1] at q
      exact q _ _ (fun y H4 z1 z2 => ⟨acc, z1, Nat.lt_of_le_of_lt hi (Nat.lt_trans hlt hz), acc ++ [y], upd_same, by simp; exact hi, z2⟩) fun H3 z1 z2 => ⟨acc, z1, Nat.le_succ_of_le hi, z2⟩)
    (fun H' ⟨acc, e, _, p⟩ => hd D acc H' hD e (by rw [Pd.len hx, List.take_length] at p; exact p))
end
/-! ### a comprehension that maps what passes a test -/
section
variable {K : PySem.W.Frag} {a : Addr} {xs : List V} {tt : TT} {te : TE} {σ : St} {H : Hp} {α : Type} {R : V → α → Prop} {ds : List α} {vs : List Nat} {Q : VK} {i : Nat}
theorem lc_fm (hx : Paired R xs ds) (hz : ds.length < sizeLine) (ha : SqL K H a xs) (f : α → V) (p : α → Bool) (hw : ∀ x, wipe ((wipe σ vs).set i (some x)) vs = wipe σ vs)
    (ht : ∀ x d H' (Q : Bool → Hp → Prop), d ∈ ds → R x d → Kp [] H H' → (∀ H'', Kp [] H' H'' → Q (p d) H'') → tt ((wipe σ vs).set i (some x)) H' Q)
    (he : ∀ x d H' (Q : VK), d ∈ ds → R x d → p d = true → Kp [] H H' → (∀ H'', Kp [] H' H'' → Q (f d) H'') → te ((wipe σ vs).set i (some x)) H' Q)
    (k : ∀ D H', H D = none → Kp [] H H' → H' D = some (.lst ((ds.filter p).map f)) → Q (.ref D) H') : tLc (fun _ H R => R (Itl K a) H) (gName i) tt te vs σ H Q := by
  refine lc_pd hx hz (fun D pre acc H' => Kp [] H H' ∧ acc = (pre.filter p).map f) (fun D hD => ⟨(Kp.refl _ _).new hD, rfl⟩) (fun D pre acc H' hD e q => SqL.kp q.1 (by simp) ha) ?_ (fun D acc H' hD e q => k D H' hD q.1 (q.2 ▸ e))
  rintro D pre acc x d post H' Yes No hD ed r e ⟨kp, rfl⟩ yes no
  have hd : d ∈ ds := by rw [ed]; simp
  refine ⟨hw x, ht x d H' _ hd r kp fun H2 k2 => ?_⟩
  cases hp : p d with
  | true =>
    rw [if_pos rfl]
    refine he x d H2 _ hd r hp (kp.trans k2) fun H3 k3 => ?_
    have e3 := (k2.trans k3).keep0 e
    exact yes _ _ e3 ⟨((kp.trans k2).trans k3).lst (.inr hD) e3, by simp [List.filter_append, hp]⟩
  | false =>
    rw [if_neg Bool.false_ne_true]
    exact no _ (k2.keep0 e) ⟨kp.trans k2, by simp [List.filter_append, hp]⟩
theorem lc_mp (hx : Paired R xs ds) (hz : ds.length < sizeLine) (ha : SqL K H a xs) (f : α → V) (hw : ∀ x, wipe ((wipe σ vs).set i (some x)) vs = wipe σ vs)
    (he : ∀ x d H' (Q : VK), d ∈ ds → R x d → Kp [] H H' → (∀ H'', Kp [] H' H'' → Q (f d) H'') → te ((wipe σ vs).set i (some x)) H' Q)
    (k : ∀ D H', H D = none → Kp [] H H' → H' D = some (.lst (ds.map f)) → Q (.ref D) H') : tLc (fun _ H R => R (Itl K a) H) (gName i) tYes te vs σ H Q :=
  lc_fm hx hz ha f (fun _ => true) hw (fun x d H' Q _ _ _ q => q H' (Kp.refl _ _)) (fun x d H' Q h1 h2 _ h3 q => he x d H' Q h1 h2 h3 q) fun D H' hD kp e => k D H' hD kp (by
    have e2 : ds.filter (fun _ => true) = ds := List.filter_eq_self.mpr fun _ _ => rfl
    rw [e2] at e
    exact e)
end
/-! ### one step of a reading, named -/
section
variable {σ : L2.St} {H : Hp} {D : Ends} {Q : VK} {te ta : TE} {tr : TA} {t u tb : TS} {wi : TI} {g : TG} {tt : TT} {vs : List Nat}
theorem next_go (h : D.nx σ H) : tNext D σ H := h
theorem ret_go (h : te σ H D.rt) : tRet te D σ H := h
theorem seq_go (h : t { D with nx := u D } σ H) : tSeq t u D σ H := h
theorem asg_go (h : te σ H fun x H1 => g x σ H1 D.nx) : tAsg te g D σ H := h
theorem drop_go (h : te σ H fun _ H1 => D.nx σ H1) : tDrop te D σ H := h
theorem cb_go {r : List V → Hp → VK → Prop} (h : tr σ H fun vs H1 => r vs H1 Q) : tCB r tr σ H Q := h
theorem cons_go {Q : List V → Hp → Prop} (h : ta σ H fun x H1 => tr σ H1 fun xs H2 => Q (x :: xs) H2) : tCons ta tr σ H Q := h
theorem op_go {r : R2} (h : te σ H fun x H1 => ta σ H1 fun y H2 => r x y H2 Q) : tOp r te ta σ H Q := h
theorem for_go (h : wi σ H fun J H1 => tFor (fun _ H R => R J H) g tb D σ H1) : tFor wi g tb D σ H := h
theorem lc_go (h : wi σ H fun J H1 => tLc (fun _ H R => R J H) g tt te vs σ H1 Q) : tLc wi g tt te vs σ H Q := h
theorem if_go {c : TT} {A B : TS} (h : c σ H fun b H1 => if b = true then A D σ H1 else B D σ H1) : tIfS c A B D σ H := h
theorem if_else {c : Prop} [Decidable c] {A B : Prop} (h1 : c → A) (h2 : ¬ c → B) : if decide c = true then A else B := by
  by_cases h : c
  · rw [decide_eq_true h, if_pos rfl]; exact h1 h
  · rw [decide_eq_false h, if_neg Bool.false_ne_true]; exact h2 h
end
/-! ### the layer's rules with K said -/
section
variable {X : Cx}
def rLn (K : PySem.W.Frag) : List V → Hp → VK → Prop := fun xs H Q => ∃ p ys, xs = [.ref p] ∧ (SqL K H p ys ∨ SqT K H p ys) ∧ Q (.int ys.length) H
def rLs (K : PySem.W.Frag) : List V → Hp → VK → Prop := fun xs H Q => ∃ p ys, xs = [.ref p] ∧ (SqL K H p ys ∨ SqT K H p ys) ∧ ∀ l, H l = none → Q (.ref l) (upd H l (.lst ys))
def rIns : V → List V → Hp → VK → Prop := fun x vs H Q => ∃ (l : Addr) (xs : List V) (i : Int) (y : V), x = .ref l ∧ vs = [.int i, y] ∧ H l = some (.lst xs) ∧
  xs.length < sizeLine ∧ 0 ≤ i ∧ i < 2 ^ 63 ∧ Q .non (upd H l (.lst (xs.take i.toNat ++ [y] ++ xs.drop i.toNat)))
theorem kInsert : MtR X "list.insert" rIns := mt_insert
def rTp (K : PySem.W.Frag) : List V → Hp → VK → Prop := fun xs H Q => ∃ p ys, xs = [.ref p] ∧ ((SqL K H p ys ∧ ∀ l, H l = none → Q (.ref l) (upd H l (.tup ys))) ∨ (SqT K H p ys ∧ Q (.ref p) H))
theorem kLen (K : PySem.W.Frag) (h : X.K = K := by rfl) : CallR X (.builtin "len") (rLn K) := by subst h; exact call_len_seq
theorem kList (K : PySem.W.Frag) (h : X.K = K := by rfl) : CallR X (.type "list") (rLs K) := by subst h; exact call_list_of
theorem kTuple (K : PySem.W.Frag) (h : X.K = K := by rfl) : CallR X (.type "tuple") (rTp K) := by subst h; exact call_tuple_of
theorem kAll (K : PySem.W.Frag) (h : X.K = K := by rfl) (hc : X.calm = true := by rfl) : CallR X (.builtin "all") (rAll K) := by subst h; exact cr_all hc
theorem kAny (K : PySem.W.Frag) (h : X.K = K := by rfl) (hc : X.calm = true := by rfl) : CallR X (.builtin "any") (rAny K) := by subst h; exact cr_any hc
theorem kSum (K : PySem.W.Frag) (h : X.K = K := by rfl) (hc : X.calm = true := by rfl) : CallR X (.builtin "sum") (rSum K) := by subst h; exact cr_sum hc
theorem kMax (K : PySem.W.Frag) (h : X.K = K := by rfl) (hc : X.calm = true := by rfl) : CallR X (.builtin "max") (rMax K) := by subst h; exact cr_max hc
theorem kIsi (K : PySem.W.Frag) (h : X.K = K := by rfl) : CallR X (.builtin "isinstance") (rIsi K) := by subst h; exact call_isi
theorem kIsiT (K : PySem.W.Frag) (h : X.K = K := by rfl) : CallR X (.builtin "isinstance") (rIsiT K) := by subst h; exact call_isiT
theorem kSortI (K : PySem.W.Frag) (h : X.K = K := by rfl) : CallR X (.builtin "sorted") (rSortedI K) := by subst h; exact cr_sortedI
theorem kSortP (K : PySem.W.Frag) (h : X.K = K := by rfl) : CallR X (.builtin "sorted") (rSortedPO K) := by subst h; exact cr_sortedPO
theorem kIxL (K : PySem.W.Frag) (h : X.K = K := by rfl) : IxR X (rIxL K) := by subst h; exact ix_list
theorem kIxT (K : PySem.W.Frag) (h : X.K = K := by rfl) : IxR X (rIxT K) := by subst h; exact ix_tup
theorem kSlL (K : PySem.W.Frag) (h : X.K = K := by rfl) : SlR X (rSlL K) := by subst h; exact sl_list
theorem kSlA (K : PySem.W.Frag) (h : X.K = K := by rfl) : SlR X (rSlA K) := by subst h; exact sl_tupA
theorem kIn (K : PySem.W.Frag) (h : X.K = K := by rfl) : OpR X (compareOp .In) (rIn K false) := by subst h; exact op_in_seq
theorem kNotIn (K : PySem.W.Frag) (h : X.K = K := by rfl) : OpR X (compareOp .NotIn) (rIn K true) := by subst h; exact op_notIn_seq
theorem kInD (K : PySem.W.Frag) (hu : X.A.units + 65 < cLine) (h : X.K = K := by rfl) : OpR X (compareOp .In) (rInD K) := by subst h; exact op_inD hu
theorem kNotInD (K : PySem.W.Frag) (hu : X.A.units + 65 < cLine) (h : X.K = K := by rfl) : OpR X (compareOp .NotIn) (rNotInD K) := by subst h; exact op_notInD hu
theorem kEqD (K : PySem.W.Frag) (hu : X.A.units + 64 < cLine) (h : X.K = K := by rfl) : OpR X (compareOp .Eq) (rEqD K) := by subst h; exact op_eqD hu
theorem kNeD (K : PySem.W.Frag) (hu : X.A.units + 64 < cLine) (h : X.K = K := by rfl) : OpR X (compareOp .NotEq) (rNeD K) := by subst h; exact op_neD hu
theorem kLtT (K : PySem.W.Frag) (hu : X.A.units < cLine) (h : X.K = K := by rfl) : OpR X (compareOp .Lt) (rLtT K) := by subst h; exact op_ltT hu
theorem kLeT (K : PySem.W.Frag) (hu : X.A.units < cLine) (h : X.K = K := by rfl) : OpR X (compareOp .LtE) (rLeT K) := by subst h; exact op_leT hu
theorem kCatA (K : PySem.W.Frag) (h : X.K = K := by rfl) : OpR X (binaryOp .Add) (rCatA K) := by subst h; exact op_catA
theorem kFld (K : PySem.W.Frag) {e : Expr} {f : Str} {pos : Pos} {ta : TE} (he : PE X e ta) (h : X.K = K := by rfl) (hb : attributeBase e f X.env (eval e X.env) = eval e X.env := by rfl) : PE X (.Attribute e f pos) (tFld K ta f) := by subst h; exact pe_fld he hb
/-! ### sorted of triples: a rank, a place, a name -/
abbrev Tri := Int × Int × Str
def triD (t : Tri) : PyData := .tuple [.int t.1, .int t.2.1, .str t.2.2]
def triLe : Tri → Tri → Bool := PySem.W.dataLe false triD
def TriAt (K : PySem.W.Frag) (H : Hp) (v : V) (t : Tri) : Prop := ∃ p, v = .ref p ∧ SqT K H p [.int t.1, .int t.2.1, .str t.2.2]
def rSort3 (K : PySem.W.Frag) : List V → Hp → VK → Prop := fun vs H Q => ∃ (a : Addr) (xs : List V) (ts : List Tri), vs = [V.ref a] ∧ SqL K H a xs ∧ Paired (TriAt K H) xs ts ∧
  ∀ ys p, Paired (TriAt K H) ys (ts.mergeSort triLe) → H p = none → Q (.ref p) (upd H p (.lst ys))
theorem TriAt.dp {K : PySem.W.Frag} {H : Hp} {v : V} {t : Tri} (h : TriAt K H v t) : Dp K H v (triD t) := by
  obtain ⟨p, rfl, h⟩ := h
  exact .tup h (.cons (.int _) (.cons (.int _) (.cons (.str _) .nil)))
theorem tri_alike (t u : Tri) : PySem.W.alike (triD t) (triD u) = true := by simp [triD, PySem.W.alike, PySem.W.alikeAll]
theorem tri_depth (t : Tri) : (triD t).depth = 1 := by simp [triD, PyData.depth, PyData.depthAll]
theorem each_of {xs : List V} {its : List Value} {ts : List Tri} {K : PySem.W.Frag} {H : Hp} : ∀ {xs : List V} {its : List Value} {ts : List Tri}, Vals xs its → Paired (TriAt K H) xs ts →
    PySem.W.EachIs (fun u (b : V × Tri) => RelV b.1 u ∧ TriAt K H b.1 b.2) its (xs.zip ts)
  | _, _, _, .nil, .nil => .nil
  | _, _, _, .cons r q, .cons r' q' => .cons ⟨r, r'⟩ (each_of (xs := []) (its := []) (ts := []) q q')
theorem each_vals {K : PySem.W.Frag} {H : Hp} : ∀ {its : List Value} {bs : List (V × Tri)}, PySem.W.EachIs (fun u (b : V × Tri) => RelV b.1 u ∧ TriAt K H b.1 b.2) its bs → Vals (bs.map Prod.fst) its ∧ Paired (TriAt K H) (bs.map Prod.fst) (bs.map Prod.snd)
  | _, _, .nil => ⟨.nil, .nil⟩
  | _, _, .cons r q => ⟨.cons r.1 (each_vals q).1, .cons r.2 (each_vals q).2⟩
theorem zip_snd {α β : Type} {R : α → β → Prop} : ∀ {xs : List α} {ts : List β}, Paired R xs ts → (xs.zip ts).map Prod.snd = ts
  | _, _, .nil => rfl
  | _, _, .cons _ q => by simp [zip_snd q]
theorem kSort3 (K : PySem.W.Frag) (hu : X.A.units + 64 < cLine) (h : X.K = K := by rfl) : CallR X (.builtin "sorted") (rSort3 K) := by
  subst h
  intro pins s σ H vs us Q I r h
  obtain ⟨a, xs, ts, rfl, hs, hx, q⟩ := h
  obtain ⟨its, rv, hl, hz⟩ := I.list hs
  obtain ⟨u, rfl, ru⟩ := vals1 r
  obtain rfl : u = Value.ref a := ru
  have e := each_of (xs := []) (its := []) (ts := []) rv hx
  have hlen : (xs.zip ts).length = its.length := by
    rw [List.length_zip, ← Pd.len hx, Nat.min_self, rv.length]
  refine PySem.W.sorted_data (enc := fun b : V × Tri => triD b.2) (R := fun u (b : V × Tri) => RelV b.1 u ∧ TriAt X.K H b.1 b.2) hl.isList e (e.mono fun u b hb => ?_) (PySem.W.AllAlike.of fun b b' => tri_alike _ _) (PySem.W.Sortable.tuples fun b => ⟨_, _, rfl⟩) ?_ ?_ ?_
  · exact Dp.reads I _ _ _ hb.2.dp hb.1
  · rw [hlen, ← rv.length]; exact hz
  · intro b _
    rw [tri_depth]
    omega
  · intro out ho eo
    obtain ⟨c, hc⟩ := PyProof.Rows.sortedAll_at s.heap its out.toArray
    obtain ⟨v1, v2⟩ := each_vals eo
    have e2 : ((xs.zip ts).mergeSort (PySem.W.dataLe false fun b : V × Tri => triD b.2)).map Prod.snd = ts.mergeSort triLe := by
      have m := List.map_mergeSort (f := Prod.snd) (r := PySem.W.dataLe false fun b : V × Tri => triD b.2) (s := triLe) (l := xs.zip ts) (fun _ _ _ _ => rfl)
      rw [m, zip_snd hx]
    rw [e2] at v2
    have hn : H (s.heap.objs.size + 1) = none := I.hok.fresh (Nat.le_succ _)
    refine ⟨.ref (s.heap.objs.size + 1), upd H (s.heap.objs.size + 1) (.lst (((xs.zip ts).mergeSort (PySem.W.dataLe false fun b : V × Tri => triD b.2)).map Prod.fst)), I.laid (t' := s.toks) (fun b o z => PyProof.Rows.sortedAll_old z) (Nat.le_succ _) ⟨?_, out, c, v1, hc⟩, rfl, q _ _ v2 hn⟩
    rw [v1.length, ho, hlen, ← rv.length]
    exact hz
/-- pairs of whole numbers, greater, or not less -/
def rGtP (K : PySem.W.Frag) : R2 := fun x y H Q => ∃ (a b : Addr) (i j k l : Int), x = .ref a ∧ y = .ref b ∧ SqT K H a [.int i, .int j] ∧ SqT K H b [.int k, .int l] ∧ Q (.bl (decide (k < i ∨ (i = k ∧ l < j)))) H
def rGeP (K : PySem.W.Frag) : R2 := fun x y H Q => ∃ (a b : Addr) (i j k l : Int), x = .ref a ∧ y = .ref b ∧ SqT K H a [.int i, .int j] ∧ SqT K H b [.int k, .int l] ∧ Q (.bl (decide (k < i ∨ (i = k ∧ l ≤ j)))) H
theorem eqInt {A : Around} {s : Shared} {i k : Int} {t u : Tok} : SeqAt.EqAt A s (.int i t) (.int k u) (decide (i = k)) := by
  have z : (i == k) = decide (i = k) := by
    by_cases q : i = k
    · rw [decide_eq_true q]; exact beq_iff_eq.mpr q
    · rw [decide_eq_false q]; exact beq_eq_false_iff_ne.mpr q
  rw [← z]
  exact SeqAt.EqAt.int_int _ _ _ _
theorem pairInts {xs : List Value} {i j : Int} (r : Vals [V.int i, V.int j] xs) : ∃ t u, xs = [.int i t, .int j u] := by
  cases r with
  | cons r1 r =>
    cases r with
    | cons r2 r =>
      cases r
      obtain ⟨t, rfl⟩ := r1
      obtain ⟨u, rfl⟩ := r2
      exact ⟨t, u, rfl⟩
def two (p q : Bool) : Nat → Bool
  | 0 => p
  | _ => q
theorem kGtP (K : PySem.W.Frag) (hu : X.A.units < cLine) (h : X.K = K := by rfl) : OpR X (compareOp .Gt) (rGtP K) := by
  subst h
  intro pins s σ H x y v u Q I rx ry h
  obtain ⟨a, b, i, j, k, l, rfl, rfl, ha, hb, q⟩ := h
  cases rx; cases ry
  obtain ⟨xs, r1, p1, _⟩ := I.tuple ha
  obtain ⟨ys, r2, p2, _⟩ := I.tuple hb
  obtain ⟨t1, u1, rfl⟩ := pairInts r1
  obtain ⟨t2, u2, rfl⟩ := pairInts r2
  have R := Ob.RcOp.tuples_gt (A := X.A) (s := s) (e := two (decide (i = k)) (decide (j = l))) (r := two (decide (i > k)) (decide (j > l))) p1 p2 hu
    (fun m h1 h2 => match m, h1, h2 with | 0, _, _ => eqInt | 1, _, _ => eqInt | m + 2, h1, _ => absurd h1 (by simp)) (fun m h1 h2 _ => match m, h1, h2 with | 0, _, _ => Ob.RcOp.gt_int _ _ _ _ | 1, _, _ => Ob.RcOp.gt_int _ _ _ _ | m + 2, h1, _ => absurd h1 (by simp))
  have e : Ob.lexAt (two (decide (i = k)) (decide (j = l))) (two (decide (i > k)) (decide (j > l))) (decide (([Value.int i t1, .int j u1] : List Value).toArray.size > ([Value.int k t2, .int l u2] : List Value).toArray.size)) 0
      (min ([Value.int i t1, .int j u1] : List Value).toArray.size ([Value.int k t2, .int l u2] : List Value).toArray.size) = decide (k < i ∨ (i = k ∧ l < j)) := by
    show (if decide (i = k) = true then (if decide (j = l) = true then decide (2 > 2) else decide (j > l)) else decide (i > k)) = _
    by_cases e1 : i = k <;> by_cases e2 : j = l <;> simp [e1, e2]
    all_goals omega
  rw [e] at R
  exact R X.prog X.w X.xe (EP X pins σ Q) ⟨.bl _, H, I, rfl, q⟩
theorem kGeP (K : PySem.W.Frag) (hu : X.A.units < cLine) (h : X.K = K := by rfl) : OpR X (compareOp .GtE) (rGeP K) := by
  subst h
  intro pins s σ H x y v u Q I rx ry h
  obtain ⟨a, b, i, j, k, l, rfl, rfl, ha, hb, q⟩ := h
  cases rx; cases ry
  obtain ⟨xs, r1, p1, _⟩ := I.tuple ha
  obtain ⟨ys, r2, p2, _⟩ := I.tuple hb
  obtain ⟨t1, u1, rfl⟩ := pairInts r1
  obtain ⟨t2, u2, rfl⟩ := pairInts r2
  have R := Ob.RcOp.tuples_ge (A := X.A) (s := s) (e := two (decide (i = k)) (decide (j = l))) (r := two (decide (i ≥ k)) (decide (j ≥ l))) p1 p2 hu
    (fun m h1 h2 => match m, h1, h2 with | 0, _, _ => eqInt | 1, _, _ => eqInt | m + 2, h1, _ => absurd h1 (by simp)) (fun m h1 h2 _ => match m, h1, h2 with | 0, _, _ => Ob.RcOp.ge_int _ _ _ _ | 1, _, _ => Ob.RcOp.ge_int _ _ _ _ | m + 2, h1, _ => absurd h1 (by simp))
  have e : Ob.lexAt (two (decide (i = k)) (decide (j = l))) (two (decide (i ≥ k)) (decide (j ≥ l))) (decide (([Value.int i t1, .int j u1] : List Value).toArray.size ≥ ([Value.int k t2, .int l u2] : List Value).toArray.size)) 0
      (min ([Value.int i t1, .int j u1] : List Value).toArray.size ([Value.int k t2, .int l u2] : List Value).toArray.size) = decide (k < i ∨ (i = k ∧ l ≤ j)) := by
    show (if decide (i = k) = true then (if decide (j = l) = true then decide (2 ≥ 2) else decide (j ≥ l)) else decide (i ≥ k)) = _
    by_cases e1 : i = k <;> by_cases e2 : j = l <;> simp [e1, e2]
    all_goals omega
  rw [e] at R
  exact R X.prog X.w X.xe (EP X pins σ Q) ⟨.bl _, H, I, rfl, q⟩
/-- a text, n times -/
def repS (z : Str) (n : Nat) : Str := ⟨(List.replicate n z.cps).foldl (· ++ ·) #[]⟩
theorem fold_cat : ∀ (l : List (Array Nat)) (a : Array Nat), (l.foldl (· ++ ·) a).toList = a.toList ++ (l.map Array.toList).flatten
  | [], a => by simp
  | b :: l, a => by
    rw [List.foldl_cons, fold_cat l (a ++ b)]
    simp
theorem repS_list (z : Str) (n : Nat) : (repS z n).cps.toList = (List.replicate n z.cps.toList).flatten := by
  unfold repS
  rw [fold_cat]
  simp
theorem str_ext {x y : Str} (h : x.cps.toList = y.cps.toList) : x = y := by
  cases x; cases y
  congr
  exact Array.toList_inj.mp h
theorem str_len (x : Str) : x.length = x.cps.toList.length := by
  show x.cps.size = _
  simp
theorem repS_len (z : Str) (n : Nat) : (repS z n).length = n * z.length := by
  rw [str_len, repS_list, str_len]
  simp
def rMulS : R2 := fun x y H Q => ∃ (z : Str) (n : Int), x = .str z ∧ y = .int n ∧ 0 ≤ n ∧ n ≤ 4000 ∧ z.length ≤ 4000 ∧ Q (.str (repS z n.toNat)) H
theorem kMulS : OpR X (binaryOp .Mult) rMulS := by
  intro pins s σ H x y v u Q I rx ry h
  obtain ⟨z, n, rfl, rfl, h0, h1, hz, q⟩ := h
  obtain ⟨t, rfl⟩ := rx
  obtain ⟨t', rfl⟩ := ry
  have big : ∀ m : Nat, m ≤ 16000000 → Builtin.Str.tooLong m = false := fun m hm => by
    unfold Builtin.Str.tooLong
    rw [sizeLine_eq]
    exact decide_eq_false (by omega)
  have hp : z.length * n.toNat ≤ 4000 * 4000 := Nat.mul_le_mul hz (by omega)
  refine P.mul_str (by rw [decide_eq_false (by omega), decide_eq_false (by omega)]; rfl) (fun hn _ hh => ?_) (fun _ _ => big _ (by omega)) ?_
  · have e1 : (4000 : Int) ≤ (2 ^ 63 - 1) / n := Int.le_ediv_of_mul_le (by omega) (by omega)
    omega
  · by_cases hn : n < 1
    · have e : n = 0 := by omega
      subst e
      rw [if_pos hn]
      exact ⟨by decide, .str _, H, I.tok _, ⟨_, rfl⟩, q⟩
    · rw [if_neg hn]
      by_cases h2 : (n == 1 || z.length == 0) = true
      · rw [if_pos h2]
        have e : repS z n.toNat = z := by
          refine str_ext ?_
          rw [repS_list]
          rcases Bool.or_eq_true_iff.mp h2 with h | h
          · have h : n = 1 := by simpa using h
            subst h
            simp
          · have h : z.length = 0 := by simpa using h
            rw [str_len] at h
            have h : z.cps.toList = [] := List.eq_nil_of_length_eq_zero h
            rw [h]
            simp
        rw [e] at q
        exact ⟨.str z, H, I, ⟨_, rfl⟩, q⟩
      · rw [if_neg h2]
        refine ⟨?_, .str _, H, I.tok _, ⟨_, rfl⟩, q⟩
        have e := repS_len z n.toNat
        unfold repS at e
        rw [e, sizeLine_eq, Nat.mul_comm]
        omega
def tTruth (K : PySem.W.Frag) (ta : TE) : TT := fun σ H Q => ta σ H fun x H' => ∃ k, TruV K x H' k ∧ Q k H'
theorem kTruth (K : PySem.W.Frag) {e : Expr} {ta : TE} (he : PE X e ta) (h : X.K = K := by rfl) (hb : ∀ whole, isTrue e X.env whole = (do let v ← whole; standAt e.pos; holding [v] (truthy v)) := by intro _; rfl) : PT X e (tTruth K ta) := by subst h; exact pt_truth he hb
theorem kTup (K : PySem.W.Frag) {es : List Expr} {k n : Nat} {t : TGs} {pos : Pos} (g : PGs X es t) (h : X.K = K := by rfl) (hc : X.calm = true := by rfl)
    (hn : (assignEach es X.env).length = n := by rfl) (hst : (assignEach es X.env).findIdx? (·.1) = none := by rfl) : PG X (.Tuple es k pos) (gTup K n t) := by subst h; exact pg_tup hc g hn hst
end
section
variable {K : PySem.W.Frag}
theorem iteT' {c : Bool} {A B : Prop} (e : c = true) (h : A) : if c = true then A else B := by rw [if_pos e]; exact h
theorem iteF' {c : Bool} {A B : Prop} (e : c = false) (h : B) : if c = true then A else B := by rw [if_neg (by rw [e]; decide)]; exact h
theorem tYes_go {σ : L2.St} {H : Hp} {Q : Bool → Hp → Prop} (h : Q true H) : tYes σ H Q := h
theorem isI {H : Hp} {i : Int} : TyX K H (.int i) (.type "int") := .base (.int _)
theorem isS {H : Hp} {x : Str} : TyX K H (.str x) (.type "str") := .base (.str _)
theorem isB {H : Hp} {x : Bool} : TyX K H (.bl x) (.type "bool") := .base (.bl _)
theorem isT {H : Hp} {p : Addr} {xs : List V} (h : H p = some (.tup xs)) : TyX K H (.ref p) (.type "tuple") := .base (.tup h)
theorem isL {H : Hp} {p : Addr} {xs : List V} (h : H p = some (.lst xs)) : TyX K H (.ref p) (.type "list") := .base (.lst h)
end
theorem flat_strs (l : List Str) : (l.map V.str).all flatV = true := by simp [flatV]
theorem inV_strs (x : Str) (l : List Str) : inV (V.str x) (l.map V.str) = decide (x ∈ l) := by
  unfold inV
  induction l with
  | nil => simp
  | cons y l ih =>
    rw [List.map_cons, List.any_cons, ih]
    have e : eqV (V.str y) (V.str x) = decide (y = x) := by
      show (y == x) = decide (y = x)
      rw [Bool.eq_iff_iff]
      simp
    rw [e]
    by_cases h : y = x <;> simp [h, eq_comm]
    by_cases h2 : x = y
    · exact absurd h2.symm h
    · simp [h2]
theorem nodup_len {α : Type} [DecidableEq α] : ∀ {l m : List α}, l.Nodup → (∀ x ∈ l, x ∈ m) → l.length ≤ m.length
  | [], _, _, _ => Nat.zero_le _
  | x :: l, m, nd, h => by
    have nd' := List.nodup_cons.mp nd
    have hx : x ∈ m := h x List.mem_cons_self
    have ih := nodup_len (l := l) (m := m.erase x) nd'.2 fun y hy => (List.mem_erase_of_ne (fun e => nd'.1 (by rw [← e]; exact hy))).mpr (h y (List.mem_cons_of_mem _ hy))
    rw [List.length_erase_of_mem hx] at ih
    have : 0 < m.length := List.length_pos_of_mem hx
    simp
    omega
/-! ### a comprehension over a range -/
section
variable {tt : TT} {te : TE} {σ : L2.St} {H : Hp} {vs : List Nat} {Q : VK} {j : Nat}
theorem range_snoc {β : Type} (f : Nat → β) (i : Nat) : (List.range (i + 1)).map f = (List.range i).map f ++ [f i] := by
  rw [List.range_succ, List.map_append]
  rfl
/-- no test; the items by S, which the list that is made at D may be part of -/
theorem lc_rg {lo : Int} {n : Nat} {β : Type} (S : Addr → Hp → V → β → Prop) (f : Nat → β) (hz : n < sizeLine) (hw : ∀ x, wipe ((wipe σ vs).set j (some x)) vs = wipe σ vs) (st : ∀ D H H' v d, Kp [D] H H' → S D H v d → S D H' v d)
    (he : ∀ D acc i H' (Q : VK), i < n → H D = none → H' D = some (.lst acc) → Kp [] H H' → (∀ v H'', Kp [] H' H'' → S D H'' v (f i) → Q v H'') → te ((wipe σ vs).set j (some (.int (lo + (i : Nat))))) H' Q)
    (k : ∀ D H' xs, H D = none → Kp [] H H' → H' D = some (.lst xs) → Paired (S D H') xs ((List.range n).map f) → Q (.ref D) H') : tLc (fun _ H R => R (Itr lo n) H) (gName j) tYes te vs σ H Q := fun D hD =>
  lc_range (fun i H' => ∃ acc, H' D = some (.lst acc) ∧ acc.length = i ∧ Kp [] H H' ∧ Paired (S D H') acc ((List.range i).map f)) ⟨[], upd_same, rfl, (Kp.refl _ _).new hD, .nil⟩
    (fun i H' hi ⟨acc, e, hl, kp, pd⟩ => by
      refine ⟨hw _, tYes_go (iteT (he D acc i H' _ hi hD e kp fun v H2 k2 s2 => ?_))⟩
      have e2 := k2.keep0 e
      have kd : Kp [D] H2 (upd H2 D (.lst (acc ++ [v]))) := (Kp.refl _ _).lst (.inl (by simp)) e2
      have k2d : Kp [D] H' H2 := k2.mono (by simp)
      refine ⟨acc, e2, by omega, acc ++ [v], upd_same, by simp [hl], (kp.trans k2).lst (.inr hD) e2, ?_⟩
      rw [range_snoc]
      exact Pd.append (Pd.mono (fun _ _ z => st _ _ _ _ _ kd (st _ _ _ _ _ k2d z)) pd) (.cons (st _ _ _ _ _ kd s2) .nil))
    (fun H' ⟨acc, e, hl, kp, pd⟩ => k D H' acc hD kp e pd)
/-- .. whose items are plain -/
theorem lc_rmp {lo : Int} {n : Nat} (f : Nat → V) (hz : n < sizeLine) (hw : ∀ x, wipe ((wipe σ vs).set j (some x)) vs = wipe σ vs)
    (he : ∀ i H' (Q : VK), i < n → Kp [] H H' → (∀ H'', Kp [] H' H'' → Q (f i) H'') → te ((wipe σ vs).set j (some (.int (lo + (i : Nat))))) H' Q)
    (k : ∀ D H', H D = none → Kp [] H H' → H' D = some (.lst ((List.range n).map f)) → Q (.ref D) H') : tLc (fun _ H R => R (Itr lo n) H) (gName j) tYes te vs σ H Q :=
  lc_rg (fun _ _ v d => v = d) f hz hw (fun _ _ _ _ _ _ e => e) (fun D acc i H' Q hi _ _ kp q => he i H' Q hi kp fun H2 k2 => q _ H2 k2 rfl)
    fun D H' xs hD kp e pd => k D H' hD kp (by
      have e2 := Pd.eqmap (f := fun v => v) pd
      rw [List.map_id'] at e2
      rw [e, e2])
end
end Ev
namespace Ev
open PySem L2
/-! ### the data of a loom -/
inductive Row where
  | send (n : Nat) | begin (n : Nat) (t : Int) | call (n : Nat) (x : Str) | make (m n : Nat) | cancel (n : Nat) (ns : List Nat)
  | join (n : Nat) (x : Str) | leave (n : Nat) (x : Str) | hush (n : Nat) | fin (n : Nat)
  deriving DecidableEq
def nV (n : Nat) : V := .int (n : Int)
def Row.tag : Row → Str
  | .send _ => "send" | .begin _ _ => "begin" | .call _ _ => "call" | .make _ _ => "make" | .cancel _ _ => "cancel"
  | .join _ _ => "join" | .leave _ _ => "leave" | .hush _ => "hush" | .fin _ => "end"
/-- what stands behind the tag; q: where a cancel's numbers stand -/
def Row.rest (q : Addr) : Row → List V
  | .send n => [nV n] | .begin n t => [nV n, .int t] | .call n x => [nV n, .str x] | .make m n => [nV m, nV n] | .cancel n _ => [nV n, .ref q]
  | .join n x => [nV n, .str x] | .leave n x => [nV n, .str x] | .hush n => [nV n] | .fin n => [nV n]
def Row.more (H : Hp) (q : Addr) : Row → Prop
  | .cancel _ ns => H q = some (.tup (ns.map nV))
  | _ => True
def RowAt (H : Hp) (v : V) (r : Row) : Prop := ∃ p q, v = .ref p ∧ H p = some (.tup (.str r.tag :: r.rest q)) ∧ r.more H q
theorem RowAt.kp {M : List Addr} {H H' : Hp} (k : Kp M H H') {v : V} {r : Row} (h : RowAt H v r) : RowAt H' v r := by
  obtain ⟨p, q, e, h1, h2⟩ := h
  refine ⟨p, q, e, k.tup _ _ h1, ?_⟩
  cases r <;> first | trivial | exact k.tup _ _ h2
def Row.isSend : Row → Bool | .send _ => true | _ => false
theorem Row.isSend_tag : ∀ r : Row, decide (V.str r.tag = V.str "send") = r.isSend
  | .send _ => (by decide +kernel : decide (V.str "send" = V.str "send") = true)
  | .begin _ _ => (by decide +kernel : decide (V.str "begin" = V.str "send") = false)
  | .call _ _ => (by decide +kernel : decide (V.str "call" = V.str "send") = false)
  | .make _ _ => (by decide +kernel : decide (V.str "make" = V.str "send") = false)
  | .cancel _ _ => (by decide +kernel : decide (V.str "cancel" = V.str "send") = false)
  | .join _ _ => (by decide +kernel : decide (V.str "join" = V.str "send") = false)
  | .leave _ _ => (by decide +kernel : decide (V.str "leave" = V.str "send") = false)
  | .hush _ => (by decide +kernel : decide (V.str "hush" = V.str "send") = false)
  | .fin _ => (by decide +kernel : decide (V.str "end" = V.str "send") = false)
def Row.isBegin : Row → Bool | .begin _ _ => true | _ => false
theorem Row.isBegin_tag : ∀ r : Row, decide (V.str r.tag = V.str "begin") = r.isBegin
  | .send _ => (by decide +kernel : decide (V.str "send" = V.str "begin") = false)
  | .begin _ _ => (by decide +kernel : decide (V.str "begin" = V.str "begin") = true)
  | .call _ _ => (by decide +kernel : decide (V.str "call" = V.str "begin") = false)
  | .make _ _ => (by decide +kernel : decide (V.str "make" = V.str "begin") = false)
  | .cancel _ _ => (by decide +kernel : decide (V.str "cancel" = V.str "begin") = false)
  | .join _ _ => (by decide +kernel : decide (V.str "join" = V.str "begin") = false)
  | .leave _ _ => (by decide +kernel : decide (V.str "leave" = V.str "begin") = false)
  | .hush _ => (by decide +kernel : decide (V.str "hush" = V.str "begin") = false)
  | .fin _ => (by decide +kernel : decide (V.str "end" = V.str "begin") = false)
def Row.isCall : Row → Bool | .call _ _ => true | _ => false
theorem Row.isCall_tag : ∀ r : Row, decide (V.str r.tag = V.str "call") = r.isCall
  | .send _ => (by decide +kernel : decide (V.str "send" = V.str "call") = false)
  | .begin _ _ => (by decide +kernel : decide (V.str "begin" = V.str "call") = false)
  | .call _ _ => (by decide +kernel : decide (V.str "call" = V.str "call") = true)
  | .make _ _ => (by decide +kernel : decide (V.str "make" = V.str "call") = false)
  | .cancel _ _ => (by decide +kernel : decide (V.str "cancel" = V.str "call") = false)
  | .join _ _ => (by decide +kernel : decide (V.str "join" = V.str "call") = false)
  | .leave _ _ => (by decide +kernel : decide (V.str "leave" = V.str "call") = false)
  | .hush _ => (by decide +kernel : decide (V.str "hush" = V.str "call") = false)
  | .fin _ => (by decide +kernel : decide (V.str "end" = V.str "call") = false)
def Row.isMake : Row → Bool | .make _ _ => true | _ => false
theorem Row.isMake_tag : ∀ r : Row, decide (V.str r.tag = V.str "make") = r.isMake
  | .send _ => (by decide +kernel : decide (V.str "send" = V.str "make") = false)
  | .begin _ _ => (by decide +kernel : decide (V.str "begin" = V.str "make") = false)
  | .call _ _ => (by decide +kernel : decide (V.str "call" = V.str "make") = false)
  | .make _ _ => (by decide +kernel : decide (V.str "make" = V.str "make") = true)
  | .cancel _ _ => (by decide +kernel : decide (V.str "cancel" = V.str "make") = false)
  | .join _ _ => (by decide +kernel : decide (V.str "join" = V.str "make") = false)
  | .leave _ _ => (by decide +kernel : decide (V.str "leave" = V.str "make") = false)
  | .hush _ => (by decide +kernel : decide (V.str "hush" = V.str "make") = false)
  | .fin _ => (by decide +kernel : decide (V.str "end" = V.str "make") = false)
def Row.isCancel : Row → Bool | .cancel _ _ => true | _ => false
theorem Row.isCancel_tag : ∀ r : Row, decide (V.str r.tag = V.str "cancel") = r.isCancel
  | .send _ => (by decide +kernel : decide (V.str "send" = V.str "cancel") = false)
  | .begin _ _ => (by decide +kernel : decide (V.str "begin" = V.str "cancel") = false)
  | .call _ _ => (by decide +kernel : decide (V.str "call" = V.str "cancel") = false)
  | .make _ _ => (by decide +kernel : decide (V.str "make" = V.str "cancel") = false)
  | .cancel _ _ => (by decide +kernel : decide (V.str "cancel" = V.str "cancel") = true)
  | .join _ _ => (by decide +kernel : decide (V.str "join" = V.str "cancel") = false)
  | .leave _ _ => (by decide +kernel : decide (V.str "leave" = V.str "cancel") = false)
  | .hush _ => (by decide +kernel : decide (V.str "hush" = V.str "cancel") = false)
  | .fin _ => (by decide +kernel : decide (V.str "end" = V.str "cancel") = false)
def Row.isJoin : Row → Bool | .join _ _ => true | _ => false
theorem Row.isJoin_tag : ∀ r : Row, decide (V.str r.tag = V.str "join") = r.isJoin
  | .send _ => (by decide +kernel : decide (V.str "send" = V.str "join") = false)
  | .begin _ _ => (by decide +kernel : decide (V.str "begin" = V.str "join") = false)
  | .call _ _ => (by decide +kernel : decide (V.str "call" = V.str "join") = false)
  | .make _ _ => (by decide +kernel : decide (V.str "make" = V.str "join") = false)
  | .cancel _ _ => (by decide +kernel : decide (V.str "cancel" = V.str "join") = false)
  | .join _ _ => (by decide +kernel : decide (V.str "join" = V.str "join") = true)
  | .leave _ _ => (by decide +kernel : decide (V.str "leave" = V.str "join") = false)
  | .hush _ => (by decide +kernel : decide (V.str "hush" = V.str "join") = false)
  | .fin _ => (by decide +kernel : decide (V.str "end" = V.str "join") = false)
def Row.isLeave : Row → Bool | .leave _ _ => true | _ => false
theorem Row.isLeave_tag : ∀ r : Row, decide (V.str r.tag = V.str "leave") = r.isLeave
  | .send _ => (by decide +kernel : decide (V.str "send" = V.str "leave") = false)
  | .begin _ _ => (by decide +kernel : decide (V.str "begin" = V.str "leave") = false)
  | .call _ _ => (by decide +kernel : decide (V.str "call" = V.str "leave") = false)
  | .make _ _ => (by decide +kernel : decide (V.str "make" = V.str "leave") = false)
  | .cancel _ _ => (by decide +kernel : decide (V.str "cancel" = V.str "leave") = false)
  | .join _ _ => (by decide +kernel : decide (V.str "join" = V.str "leave") = false)
  | .leave _ _ => (by decide +kernel : decide (V.str "leave" = V.str "leave") = true)
  | .hush _ => (by decide +kernel : decide (V.str "hush" = V.str "leave") = false)
  | .fin _ => (by decide +kernel : decide (V.str "end" = V.str "leave") = false)
def Row.isHush : Row → Bool | .hush _ => true | _ => false
theorem Row.isHush_tag : ∀ r : Row, decide (V.str r.tag = V.str "hush") = r.isHush
  | .send _ => (by decide +kernel : decide (V.str "send" = V.str "hush") = false)
  | .begin _ _ => (by decide +kernel : decide (V.str "begin" = V.str "hush") = false)
  | .call _ _ => (by decide +kernel : decide (V.str "call" = V.str "hush") = false)
  | .make _ _ => (by decide +kernel : decide (V.str "make" = V.str "hush") = false)
  | .cancel _ _ => (by decide +kernel : decide (V.str "cancel" = V.str "hush") = false)
  | .join _ _ => (by decide +kernel : decide (V.str "join" = V.str "hush") = false)
  | .leave _ _ => (by decide +kernel : decide (V.str "leave" = V.str "hush") = false)
  | .hush _ => (by decide +kernel : decide (V.str "hush" = V.str "hush") = true)
  | .fin _ => (by decide +kernel : decide (V.str "end" = V.str "hush") = false)
def Row.isFin : Row → Bool | .fin _ => true | _ => false
theorem Row.isFin_tag : ∀ r : Row, decide (V.str r.tag = V.str "end") = r.isFin
  | .send _ => (by decide +kernel : decide (V.str "send" = V.str "end") = false)
  | .begin _ _ => (by decide +kernel : decide (V.str "begin" = V.str "end") = false)
  | .call _ _ => (by decide +kernel : decide (V.str "call" = V.str "end") = false)
  | .make _ _ => (by decide +kernel : decide (V.str "make" = V.str "end") = false)
  | .cancel _ _ => (by decide +kernel : decide (V.str "cancel" = V.str "end") = false)
  | .join _ _ => (by decide +kernel : decide (V.str "join" = V.str "end") = false)
  | .leave _ _ => (by decide +kernel : decide (V.str "leave" = V.str "end") = false)
  | .hush _ => (by decide +kernel : decide (V.str "hush" = V.str "end") = false)
  | .fin _ => (by decide +kernel : decide (V.str "end" = V.str "end") = true)
end Ev
namespace Ev
open PySem L2
/-! ### the loom's data -/
inductive Deed where
  | now (w : Str) | soon (w : Str) | wait (n : Int) (w : Str) | cancel (w : Str) | join (x : Str) | leave (x : Str) | hush
  deriving DecidableEq
def Deed.vals : Deed → List V
  | .now w => [.str "now", .str w] | .soon w => [.str "soon", .str w] | .wait n w => [.str "wait", .int n, .str w] | .cancel w => [.str "cancel", .str w]
  | .join x => [.str "join", .str x] | .leave x => [.str "leave", .str x] | .hush => [.str "hush"]
structure Hnd where
  name : Str
  rank : Int
  hears : Str
  once : Bool
  deeds : List Deed
inductive Road where
  | now | soon | wait
  deriving DecidableEq
def Road.str : Road → Str
  | .now => "now" | .soon => "soon" | .wait => "wait"
structure Evt where
  word : Str
  maker : Option Nat
  road : Road
  due : Int
  deriving DecidableEq
def onV : Option Nat → V
  | none => .non
  | some n => nV n
def Evt.vals (e : Evt) : List V := [.str e.word, onV e.maker, .str e.road.str, .int e.due]
structure Frm where
  number : Nat
  called : List (Str × Nat)
  deeds : List Deed
  place : Nat
structure LoomS where
  hs : List Hnd
  time : Int
  events : List Evt
  log : List Row
  frames : List Frm
  fresh : Option Nat
  soon : List Nat
  rows : List (Int × Nat)
  stood : Nat
  stands : List (Str × Nat)
/-! ### where it stands -/
def TK (H H' : Hp) : Prop := ∀ a xs, H a = some (.tup xs) → H' a = some (.tup xs)
def DeedAt (H : Hp) (v : V) (d : Deed) : Prop := ∃ p, v = .ref p ∧ H p = some (.tup d.vals)
def HndAt (H : Hp) (v : V) (h : Hnd) : Prop := ∃ p q ds, v = .ref p ∧ H p = some (.tup [.str h.name, .int h.rank, .str h.hears, .bl h.once, .ref q]) ∧ H q = some (.tup ds) ∧ Paired (DeedAt H) ds h.deeds
def CallAt (H : Hp) (v : V) (c : Str × Nat) : Prop := ∃ p, v = .ref p ∧ H p = some (.tup [.str c.1, nV c.2])
def EvtAt (H : Hp) (v : V) (e : Evt) : Prop := ∃ p, v = .ref p ∧ H p = some (.tup e.vals)
def RwAt (H : Hp) (v : V) (r : Int × Nat) : Prop := ∃ p, v = .ref p ∧ H p = some (.tup [.int r.1, nV r.2])
theorem DeedAt.tk {H H' : Hp} (k : TK H H') {v : V} {d : Deed} (h : DeedAt H v d) : DeedAt H' v d := by
  obtain ⟨p, e, h1⟩ := h
  exact ⟨p, e, k _ _ h1⟩
theorem HndAt.tk {H H' : Hp} (k : TK H H') {v : V} {d : Hnd} (h : HndAt H v d) : HndAt H' v d := by
  obtain ⟨p, q, ds, e, h1, h2, h3⟩ := h
  exact ⟨p, q, ds, e, k _ _ h1, k _ _ h2, Pd.mono (fun _ _ => DeedAt.tk k) h3⟩
theorem CallAt.tk {H H' : Hp} (k : TK H H') {v : V} {d : Str × Nat} (h : CallAt H v d) : CallAt H' v d := by
  obtain ⟨p, e, h1⟩ := h
  exact ⟨p, e, k _ _ h1⟩
theorem EvtAt.tk {H H' : Hp} (k : TK H H') {v : V} {d : Evt} (h : EvtAt H v d) : EvtAt H' v d := by
  obtain ⟨p, e, h1⟩ := h
  exact ⟨p, e, k _ _ h1⟩
theorem RwAt.tk {H H' : Hp} (k : TK H H') {v : V} {d : Int × Nat} (h : RwAt H v d) : RwAt H' v d := by
  obtain ⟨p, e, h1⟩ := h
  exact ⟨p, e, k _ _ h1⟩
theorem RowAt.tk {H H' : Hp} (k : TK H H') {v : V} {r : Row} (h : RowAt H v r) : RowAt H' v r := by
  obtain ⟨p, q, e, h1, h2⟩ := h
  refine ⟨p, q, e, k _ _ h1, ?_⟩
  cases r <;> first | trivial | exact k _ _ h2
def Stb {α : Type} (R : Hp → V → α → Prop) : Prop := ∀ H H' v d, TK H H' → R H v d → R H' v d
theorem deedStb : Stb DeedAt := fun _ _ _ _ k h => DeedAt.tk k h
theorem hndStb : Stb HndAt := fun _ _ _ _ k h => HndAt.tk k h
theorem callStb : Stb CallAt := fun _ _ _ _ k h => CallAt.tk k h
theorem evtStb : Stb EvtAt := fun _ _ _ _ k h => EvtAt.tk k h
theorem rwStb : Stb RwAt := fun _ _ _ _ k h => RwAt.tk k h
theorem rowStb : Stb RowAt := fun _ _ _ _ k h => RowAt.tk k h
/-- at c a list of data -/
def LstAt {α : Type} (R : Hp → V → α → Prop) (H : Hp) (c : Addr) (ds : List α) : Prop := ∃ xs, H c = some (.lst xs) ∧ Paired (R H) xs ds
theorem LstAt.tr {α : Type} {R : Hp → V → α → Prop} (f : Stb R) {H H' : Hp} {c : Addr} {ds : List α} (k : TK H H') (e : H' c = H c) (h : LstAt R H c ds) : LstAt R H' c ds := by
  obtain ⟨xs, h1, h2⟩ := h
  exact ⟨xs, by rw [e]; exact h1, Pd.mono (fun _ _ => f _ _ _ _ k) h2⟩
theorem LstAt.put {α : Type} {R : Hp → V → α → Prop} (f : Stb R) {H : Hp} {c : Addr} {ds : List α} {xs : List V} (k : TK H (upd H c (.lst xs))) (h2 : Paired (R H) xs ds) : LstAt R (upd H c (.lst xs)) c ds :=
  ⟨xs, upd_same, Pd.mono (fun _ _ => f _ _ _ _ k) h2⟩
structure FrA where
  fa : Addr
  dx : Addr
  lc : Addr
def frmFs (f : Frm) (lc dq : Addr) : List (Str × V) := [("number", nV f.number), ("called", .ref lc), ("deeds", .ref dq), ("place", nV f.place)]
def DdsAt (H : Hp) (q : Addr) (ds : List Deed) : Prop := ∃ xs, H q = some (.tup xs) ∧ Paired (DeedAt H) xs ds
theorem DdsAt.tk {H H' : Hp} (k : TK H H') {q : Addr} {ds : List Deed} (h : DdsAt H q ds) : DdsAt H' q ds := by
  obtain ⟨xs, h1, h2⟩ := h
  exact ⟨xs, k _ _ h1, Pd.mono (fun _ _ => DeedAt.tk k) h2⟩
def FrmAt (CF : Addr) (H : Hp) (A : FrA) (f : Frm) : Prop :=
  ∃ dq, H A.fa = some (.ins CF A.dx (frmFs f A.lc dq)) ∧ LstAt CallAt H A.lc f.called ∧ DdsAt H dq f.deeds
theorem FrmAt.tr {CF : Addr} {H H' : Hp} (k : TK H H') {A : FrA} {f : Frm} (e1 : H' A.fa = H A.fa) (e2 : H' A.lc = H A.lc) (h : FrmAt CF H A f) : FrmAt CF H' A f := by
  obtain ⟨dq, h1, h2, h3⟩ := h
  exact ⟨dq, by rw [e1]; exact h1, h2.tr callStb k e2, h3.tk k⟩
structure LoomA where
  p : Addr
  dx : Addr
  hl : Addr
  ev : Addr
  lg : Addr
  fr : Addr
  sd : Addr
  wa : Addr
  wdx : Addr
  fo : Addr
  rw : Addr
  frs : List FrA
def frCells (l : List FrA) : List Addr := l.flatMap fun f => [f.fa, f.lc]
def LoomA.cells (A : LoomA) : List Addr := [A.p, A.hl, A.ev, A.lg, A.fr, A.sd, A.wa, A.fo, A.rw] ++ frCells A.frs
def loomFs (A : LoomA) (s : LoomS) : List (Str × V) :=
  [("handlers", .ref A.hl), ("time", .int s.time), ("events", .ref A.ev), ("log", .ref A.lg), ("frames", .ref A.fr), ("fresh", onV s.fresh), ("line", .ref A.wa), ("stood", nV s.stood), ("standings", .ref A.sd)]
def waitFs (A : LoomA) : List (Str × V) := [("first_ones", .ref A.fo), ("rows", .ref A.rw)]
def sdK (l : List (Str × Nat)) : List (Key × V) := l.map fun c => (Sum.inr c.1, nV c.2)
structure Cs where
  L : Addr
  W : Addr
  F : Addr
/-- the frames' records stand -/
inductive FrsAt (CF : Addr) (H : Hp) : List FrA → List Frm → Prop
  | nil : FrsAt CF H [] []
  | cons {A : FrA} {f : Frm} {As : List FrA} {fs : List Frm} : FrmAt CF H A f → FrsAt CF H As fs → FrsAt CF H (A :: As) (f :: fs)
structure LoomAt (C : Cs) (H : Hp) (A : LoomA) (s : LoomS) : Prop where
  nd : A.cells.Nodup
  p : H A.p = some (.ins C.L A.dx (loomFs A s))
  hl : LstAt HndAt H A.hl s.hs
  ev : LstAt EvtAt H A.ev s.events
  lg : LstAt RowAt H A.lg s.log
  fr : H A.fr = some (.lst (A.frs.map fun f => .ref f.fa))
  frs : FrsAt C.F H A.frs s.frames
  sd : H A.sd = some (.dK (sdK s.stands))
  wa : H A.wa = some (.ins C.W A.wdx (waitFs A))
  fo : H A.fo = some (.lst (s.soon.map nV))
  rw : LstAt RwAt H A.rw s.rows
theorem FrsAt.tr {CF : Addr} {H H' : Hp} (k : TK H H') : ∀ {As : List FrA} {fs : List Frm}, (∀ a ∈ frCells As, H' a = H a) → FrsAt CF H As fs → FrsAt CF H' As fs
  | _, _, _, .nil => .nil
  | A :: As, _, e, .cons h t => .cons (h.tr k (e _ (by simp [frCells])) (e _ (by simp [frCells]))) (FrsAt.tr k (fun a ha => e a (by
      unfold frCells at ha ⊢
      rw [List.flatMap_cons]
      exact List.mem_append.mpr (.inr ha))) t)
theorem FrsAt.snoc {CF : Addr} {H : Hp} {A : FrA} {f : Frm} : ∀ {As : List FrA} {fs : List Frm}, FrsAt CF H As fs → FrmAt CF H A f → FrsAt CF H (As ++ [A]) (fs ++ [f])
  | _, _, .nil, h => .cons h .nil
  | _, _, .cons g t, h => .cons g (FrsAt.snoc t h)
theorem FrsAt.len {CF : Addr} {H : Hp} : ∀ {As : List FrA} {fs : List Frm}, FrsAt CF H As fs → As.length = fs.length
  | _, _, .nil => rfl
  | _, _, .cons _ t => by simp [FrsAt.len t]
theorem FrsAt.unsnoc {CF : Addr} {H : Hp} {f : Frm} : ∀ {As : List FrA} {fs : List Frm}, FrsAt CF H As (fs ++ [f]) → ∃ Bs B, As = Bs ++ [B] ∧ FrsAt CF H Bs fs ∧ FrmAt CF H B f
  | _, [], .cons h .nil => ⟨[], _, rfl, .nil, h⟩
  | _, g :: fs, .cons h t => by
    obtain ⟨Bs, B, e, t1, t2⟩ := FrsAt.unsnoc (fs := fs) t
    exact ⟨_ :: Bs, B, by rw [e]; rfl, .cons h t1, t2⟩
theorem frCells_app (l m : List FrA) : frCells (l ++ m) = frCells l ++ frCells m := by simp [frCells]
theorem nd_ne {α : Type} {l : List α} (nd : l.Nodup) (i j : Nat) {a b : α} (h : i ≠ j) (ha : l[i]? = some a) (hb : l[j]? = some b) : a ≠ b := fun e => by
  subst e
  exact h (nd_ix nd ha hb)
theorem nd_neR {α : Type} {l m : List α} (nd : (l ++ m).Nodup) {a b : α} (ha : a ∈ l) (hb : b ∈ m) : a ≠ b := fun e => by
  subst e
  exact (List.nodup_append.mp nd).2.2 a ha a hb rfl
theorem TK.upd {H : Hp} {c : Addr} {o : HO} (h : ∀ xs, H c ≠ some (.tup xs)) : TK H (upd H c o) := fun a xs e => by
  by_cases q : a = c
  · subst q; exact absurd e (h xs)
  · rw [upd_ne q]; exact e
theorem Kp.tk {M : List Addr} {H H' : Hp} (k : Kp M H H') : TK H H' := k.tup
section
variable {C : Cs} {H H' : Hp} {A : LoomA} {s : LoomS}
theorem LoomAt.notup (L : LoomAt C H A s) : ∀ a ∈ A.cells, ∀ xs, H a ≠ some (.tup xs) := by
  have key : ∀ {As : List FrA} {fs : List Frm}, FrsAt C.F H As fs → ∀ a ∈ frCells As, ∀ xs, H a ≠ some (.tup xs) := by
    intro As fs h
    induction h with
    | nil => intro a ha; simp [frCells] at ha
    | cons h t ih =>
      intro a ha xs e
      obtain ⟨dq, h1, ⟨ys, h2, _⟩, _⟩ := h
      unfold frCells at ha
      rw [List.flatMap_cons] at ha
      rcases List.mem_append.mp ha with ha | ha
      · simp at ha
        rcases ha with rfl | rfl
        · rw [h1] at e; cases e
        · rw [h2] at e; cases e
      · exact ih a ha xs e
  intro a ha xs e
  unfold LoomA.cells at ha
  rcases List.mem_append.mp ha with ha | ha
  · obtain ⟨_, hl, _⟩ := L.hl
    obtain ⟨_, ev, _⟩ := L.ev
    obtain ⟨_, lg, _⟩ := L.lg
    obtain ⟨_, rw_, _⟩ := L.rw
    simp at ha
    rcases ha with rfl | rfl | rfl | rfl | rfl | rfl | rfl | rfl | rfl
    · rw [L.p] at e; cases e
    · rw [hl] at e; cases e
    · rw [ev] at e; cases e
    · rw [lg] at e; cases e
    · rw [L.fr] at e; cases e
    · rw [L.sd] at e; cases e
    · rw [L.wa] at e; cases e
    · rw [L.fo] at e; cases e
    · rw [rw_] at e; cases e
  · exact key L.frs a ha xs e
/-- what stands elsewhere may change -/
theorem LoomAt.tr (L : LoomAt C H A s) (k : TK H H') (e : ∀ a ∈ A.cells, H' a = H a) : LoomAt C H' A s where
  nd := L.nd
  p := by rw [e A.p (by simp [LoomA.cells])]; exact L.p
  hl := L.hl.tr hndStb k (e A.hl (by simp [LoomA.cells]))
  ev := L.ev.tr evtStb k (e A.ev (by simp [LoomA.cells]))
  lg := L.lg.tr rowStb k (e A.lg (by simp [LoomA.cells]))
  fr := by rw [e A.fr (by simp [LoomA.cells])]; exact L.fr
  frs := L.frs.tr k fun a ha => e a (List.mem_append.mpr (.inr ha))
  sd := by rw [e A.sd (by simp [LoomA.cells])]; exact L.sd
  wa := by rw [e A.wa (by simp [LoomA.cells])]; exact L.wa
  fo := by rw [e A.fo (by simp [LoomA.cells])]; exact L.fo
  rw := L.rw.tr rwStb k (e A.rw (by simp [LoomA.cells]))
theorem LoomAt.has (L : LoomAt C H A s) : ∀ a ∈ A.cells, ∃ o, H a = some o := by
  have key : ∀ {As : List FrA} {fs : List Frm}, FrsAt C.F H As fs → ∀ a ∈ frCells As, ∃ o, H a = .some o := by
    intro As fs h
    induction h with
    | nil => intro a ha; simp [frCells] at ha
    | cons h t ih =>
      intro a ha
      obtain ⟨dq, h1, ⟨ys, h2, _⟩, _⟩ := h
      unfold frCells at ha
      rw [List.flatMap_cons] at ha
      rcases List.mem_append.mp ha with ha | ha
      · simp at ha
        rcases ha with rfl | rfl
        · exact ⟨_, h1⟩
        · exact ⟨_, h2⟩
      · exact ih a ha
  intro a ha
  unfold LoomA.cells at ha
  rcases List.mem_append.mp ha with ha | ha
  · obtain ⟨_, hl, _⟩ := L.hl
    obtain ⟨_, ev, _⟩ := L.ev
    obtain ⟨_, lg, _⟩ := L.lg
    obtain ⟨_, rw_, _⟩ := L.rw
    simp at ha
    rcases ha with rfl | rfl | rfl | rfl | rfl | rfl | rfl | rfl | rfl
    · exact ⟨_, L.p⟩
    · exact ⟨_, hl⟩
    · exact ⟨_, ev⟩
    · exact ⟨_, lg⟩
    · exact ⟨_, L.fr⟩
    · exact ⟨_, L.sd⟩
    · exact ⟨_, L.wa⟩
    · exact ⟨_, L.fo⟩
    · exact ⟨_, rw_⟩
  · exact key L.frs a ha
theorem LoomAt.kp {M : List Addr} (L : LoomAt C H A s) (k : Kp M H H') (n : ∀ a ∈ A.cells, a ∉ M) : LoomAt C H' A s :=
  L.tr k.tk fun a ha => by
    obtain ⟨o, e⟩ := L.has a ha
    rw [e, k.keep _ _ (n a ha) e]
theorem LoomAt.new (L : LoomAt C H A s) {p : Addr} {o : HO} (h : H p = none) : LoomAt C (upd H p o) A s :=
  L.kp ((Kp.refl [] H).new h) (by simp)
end
/-! ### single changes -/
structure Went (C : Cs) (H : Hp) (A : LoomA) (H' : Hp) (A' : LoomA) (s' : LoomS) : Prop where
  l : LoomAt C H' A' s'
  kp : Kp A.cells H H'
  sub : ∀ a ∈ A'.cells, a ∈ A.cells ∨ H a = none
  p : A'.p = A.p
section
variable {C : Cs} {H H1 H' : Hp} {A A1 A2 : LoomA} {s s1 s2 : LoomS}
theorem Went.refl (L : LoomAt C H A s) : Went C H A H A s := ⟨L, Kp.refl _ _, fun _ h => .inl h, rfl⟩
theorem Went.trans (W : Went C H A H1 A1 s1) (V : Went C H1 A1 H' A2 s2) : Went C H A H' A2 s2 :=
  ⟨V.l, W.kp.transM V.kp W.sub, fun a h => (V.sub a h).elim (W.sub a) fun q => .inr (W.kp.dom a q), V.p.trans W.p⟩
theorem Went.new (W : Went C H A H1 A1 s1) {p : Addr} {o : HO} (h : H1 p = none) : Went C H A (upd H1 p o) A1 s1 :=
  ⟨W.l.new h, W.kp.new h, W.sub, W.p⟩
theorem Went.kp0 (W : Went C H A H1 A1 s1) (k : Kp [] H1 H') : Went C H A H' A1 s1 :=
  ⟨W.l.kp k (by simp), W.kp.transM k (by simp), W.sub, W.p⟩
/-- one cell changed, the places as before -/
theorem LoomAt.step (L : LoomAt C H A s) {c : Addr} (hc : c ∈ A.cells) (o : HO) : Kp A.cells H (upd H c o) ∧ TK H (upd H c o) := by
  have k := (Kp.refl A.cells H).step (o := o) (.inl hc) (L.notup c hc)
  exact ⟨k, k.tk⟩
theorem at_c {l m : List Addr} {a : Addr} {i : Nat} (h : l[i]? = some a) : a ∈ l ++ m := List.mem_append.mpr (.inl (List.mem_of_getElem? h))
def LoomA.fix (A : LoomA) : List Addr := [A.p, A.hl, A.ev, A.lg, A.fr, A.sd, A.wa, A.fo, A.rw]
theorem LoomAt.ne (L : LoomAt C H A s) (i j : Nat) (h : i ≠ j) {a b : Addr} (ha : A.fix[i]? = some a) (hb : A.fix[j]? = some b) : a ≠ b :=
  nd_ne (List.nodup_append.mp (show (A.fix ++ frCells A.frs).Nodup from L.nd)).1 i j h ha hb
theorem LoomAt.neR (L : LoomAt C H A s) {i : Nat} {a b : Addr} (ha : A.fix[i]? = some a) (hb : b ∈ frCells A.frs) : b ≠ a := fun e =>
  nd_neR (show (A.fix ++ frCells A.frs).Nodup from L.nd) (List.mem_of_getElem? ha) hb e.symm
theorem LoomAt.setP (L : LoomAt C H A s) (s' : LoomS) (e1 : s'.hs = s.hs) (e2 : s'.events = s.events) (e3 : s'.log = s.log) (e4 : s'.frames = s.frames) (e5 : s'.soon = s.soon) (e6 : s'.rows = s.rows) (e7 : s'.stands = s.stands) :
    Went C H A (upd H A.p (.ins C.L A.dx (loomFs A s'))) A s' := by
  obtain ⟨k, tk⟩ := L.step (c := A.p) (at_c (i := 0) rfl) (.ins C.L A.dx (loomFs A s'))
  refine ⟨⟨L.nd, upd_same, ?_, ?_, ?_, ?_, ?_, ?_, ?_, ?_, ?_⟩, k, fun _ h => .inl h, rfl⟩
  · rw [e1]; exact L.hl.tr hndStb tk (upd_ne (L.ne 1 0 (by decide) rfl rfl))
  · rw [e2]; exact L.ev.tr evtStb tk (upd_ne (L.ne 2 0 (by decide) rfl rfl))
  · rw [e3]; exact L.lg.tr rowStb tk (upd_ne (L.ne 3 0 (by decide) rfl rfl))
  · rw [upd_ne (L.ne 4 0 (by decide) rfl rfl)]; exact L.fr
  · rw [e4]; exact L.frs.tr tk fun a ha => upd_ne (L.neR (i := 0) rfl ha)
  · rw [e7, upd_ne (L.ne 5 0 (by decide) rfl rfl)]; exact L.sd
  · rw [upd_ne (L.ne 6 0 (by decide) rfl rfl)]; exact L.wa
  · rw [e5, upd_ne (L.ne 7 0 (by decide) rfl rfl)]; exact L.fo
  · rw [e6]; exact L.rw.tr rwStb tk (upd_ne (L.ne 8 0 (by decide) rfl rfl))
theorem LoomAt.setEv (L : LoomAt C H A s) {xs : List V} {es : List Evt} (h : Paired (EvtAt H) xs es) : Went C H A (upd H A.ev (.lst xs)) A { s with events := es } := by
  obtain ⟨k, tk⟩ := L.step (c := A.ev) (at_c (i := 2) rfl) (.lst xs)
  refine ⟨⟨L.nd, ?_, ?_, ?_, ?_, ?_, ?_, ?_, ?_, ?_, ?_⟩, k, fun _ h => .inl h, rfl⟩
  · rw [upd_ne (L.ne 0 2 (by decide) rfl rfl)]; exact L.p
  · exact L.hl.tr hndStb tk (upd_ne (L.ne 1 2 (by decide) rfl rfl))
  · exact LstAt.put evtStb tk h
  · exact L.lg.tr rowStb tk (upd_ne (L.ne 3 2 (by decide) rfl rfl))
  · rw [upd_ne (L.ne 4 2 (by decide) rfl rfl)]; exact L.fr
  · exact L.frs.tr tk fun a ha => upd_ne (L.neR (i := 2) rfl ha)
  · rw [upd_ne (L.ne 5 2 (by decide) rfl rfl)]; exact L.sd
  · rw [upd_ne (L.ne 6 2 (by decide) rfl rfl)]; exact L.wa
  · rw [upd_ne (L.ne 7 2 (by decide) rfl rfl)]; exact L.fo
  · exact L.rw.tr rwStb tk (upd_ne (L.ne 8 2 (by decide) rfl rfl))
theorem LoomAt.setLg (L : LoomAt C H A s) {xs : List V} {es : List Row} (h : Paired (RowAt H) xs es) : Went C H A (upd H A.lg (.lst xs)) A { s with log := es } := by
  obtain ⟨k, tk⟩ := L.step (c := A.lg) (at_c (i := 3) rfl) (.lst xs)
  refine ⟨⟨L.nd, ?_, ?_, ?_, ?_, ?_, ?_, ?_, ?_, ?_, ?_⟩, k, fun _ h => .inl h, rfl⟩
  · rw [upd_ne (L.ne 0 3 (by decide) rfl rfl)]; exact L.p
  · exact L.hl.tr hndStb tk (upd_ne (L.ne 1 3 (by decide) rfl rfl))
  · exact L.ev.tr evtStb tk (upd_ne (L.ne 2 3 (by decide) rfl rfl))
  · exact LstAt.put rowStb tk h
  · rw [upd_ne (L.ne 4 3 (by decide) rfl rfl)]; exact L.fr
  · exact L.frs.tr tk fun a ha => upd_ne (L.neR (i := 3) rfl ha)
  · rw [upd_ne (L.ne 5 3 (by decide) rfl rfl)]; exact L.sd
  · rw [upd_ne (L.ne 6 3 (by decide) rfl rfl)]; exact L.wa
  · rw [upd_ne (L.ne 7 3 (by decide) rfl rfl)]; exact L.fo
  · exact L.rw.tr rwStb tk (upd_ne (L.ne 8 3 (by decide) rfl rfl))
theorem LoomAt.setSd (L : LoomAt C H A s) (l : List (Str × Nat)) : Went C H A (upd H A.sd (.dK (sdK l))) A { s with stands := l } := by
  obtain ⟨k, tk⟩ := L.step (c := A.sd) (at_c (i := 5) rfl) (.dK (sdK l))
  refine ⟨⟨L.nd, ?_, ?_, ?_, ?_, ?_, ?_, ?_, ?_, ?_, ?_⟩, k, fun _ h => .inl h, rfl⟩
  · rw [upd_ne (L.ne 0 5 (by decide) rfl rfl)]; exact L.p
  · exact L.hl.tr hndStb tk (upd_ne (L.ne 1 5 (by decide) rfl rfl))
  · exact L.ev.tr evtStb tk (upd_ne (L.ne 2 5 (by decide) rfl rfl))
  · exact L.lg.tr rowStb tk (upd_ne (L.ne 3 5 (by decide) rfl rfl))
  · rw [upd_ne (L.ne 4 5 (by decide) rfl rfl)]; exact L.fr
  · exact L.frs.tr tk fun a ha => upd_ne (L.neR (i := 5) rfl ha)
  · exact upd_same
  · rw [upd_ne (L.ne 6 5 (by decide) rfl rfl)]; exact L.wa
  · rw [upd_ne (L.ne 7 5 (by decide) rfl rfl)]; exact L.fo
  · exact L.rw.tr rwStb tk (upd_ne (L.ne 8 5 (by decide) rfl rfl))
theorem LoomAt.setFo (L : LoomAt C H A s) (l : List Nat) : Went C H A (upd H A.fo (.lst (l.map nV))) A { s with soon := l } := by
  obtain ⟨k, tk⟩ := L.step (c := A.fo) (at_c (i := 7) rfl) (.lst (l.map nV))
  refine ⟨⟨L.nd, ?_, ?_, ?_, ?_, ?_, ?_, ?_, ?_, ?_, ?_⟩, k, fun _ h => .inl h, rfl⟩
  · rw [upd_ne (L.ne 0 7 (by decide) rfl rfl)]; exact L.p
  · exact L.hl.tr hndStb tk (upd_ne (L.ne 1 7 (by decide) rfl rfl))
  · exact L.ev.tr evtStb tk (upd_ne (L.ne 2 7 (by decide) rfl rfl))
  · exact L.lg.tr rowStb tk (upd_ne (L.ne 3 7 (by decide) rfl rfl))
  · rw [upd_ne (L.ne 4 7 (by decide) rfl rfl)]; exact L.fr
  · exact L.frs.tr tk fun a ha => upd_ne (L.neR (i := 7) rfl ha)
  · rw [upd_ne (L.ne 5 7 (by decide) rfl rfl)]; exact L.sd
  · rw [upd_ne (L.ne 6 7 (by decide) rfl rfl)]; exact L.wa
  · exact upd_same
  · exact L.rw.tr rwStb tk (upd_ne (L.ne 8 7 (by decide) rfl rfl))
theorem LoomAt.setRw (L : LoomAt C H A s) {xs : List V} {es : List (Int × Nat)} (h : Paired (RwAt H) xs es) : Went C H A (upd H A.rw (.lst xs)) A { s with rows := es } := by
  obtain ⟨k, tk⟩ := L.step (c := A.rw) (at_c (i := 8) rfl) (.lst xs)
  refine ⟨⟨L.nd, ?_, ?_, ?_, ?_, ?_, ?_, ?_, ?_, ?_, ?_⟩, k, fun _ h => .inl h, rfl⟩
  · rw [upd_ne (L.ne 0 8 (by decide) rfl rfl)]; exact L.p
  · exact L.hl.tr hndStb tk (upd_ne (L.ne 1 8 (by decide) rfl rfl))
  · exact L.ev.tr evtStb tk (upd_ne (L.ne 2 8 (by decide) rfl rfl))
  · exact L.lg.tr rowStb tk (upd_ne (L.ne 3 8 (by decide) rfl rfl))
  · rw [upd_ne (L.ne 4 8 (by decide) rfl rfl)]; exact L.fr
  · exact L.frs.tr tk fun a ha => upd_ne (L.neR (i := 8) rfl ha)
  · rw [upd_ne (L.ne 5 8 (by decide) rfl rfl)]; exact L.sd
  · rw [upd_ne (L.ne 6 8 (by decide) rfl rfl)]; exact L.wa
  · rw [upd_ne (L.ne 7 8 (by decide) rfl rfl)]; exact L.fo
  · exact LstAt.put rwStb tk h
theorem nodup_set {α : Type} : ∀ {l : List α} {i : Nat} {d : α}, l.Nodup → d ∉ l → (l.set i d).Nodup
  | [], _, _, _, _ => by simp
  | a :: l, 0, d, nd, h => List.nodup_cons.mpr ⟨fun q => h (List.mem_cons_of_mem _ q), (List.nodup_cons.mp nd).2⟩
  | a :: l, i + 1, d, nd, h => by
    refine List.nodup_cons.mpr ⟨fun q => ?_, nodup_set (List.nodup_cons.mp nd).2 fun q => h (List.mem_cons_of_mem _ q)⟩
    rcases List.mem_or_eq_of_mem_set q with q | q
    · exact (List.nodup_cons.mp nd).1 q
    · exact h (by rw [q]; exact List.mem_cons_self)
/-- places that change: a list of fixed places with one of them new -/
theorem nd_new {A : LoomA} {B : LoomA} {d : Addr} (nd : A.cells.Nodup) (hd : d ∉ A.cells) (i : Nat) (hi : i < 9) (e : B.fix = A.fix.set i d) (ef : B.frs = A.frs) : B.cells.Nodup := by
  have nd' : (A.fix ++ frCells A.frs).Nodup := nd
  have hd' : d ∉ A.fix ++ frCells A.frs := hd
  obtain ⟨n1, n2, n3⟩ := List.nodup_append.mp nd'
  show (B.fix ++ frCells B.frs).Nodup
  rw [e, ef]
  have hs : ∀ x, x ∈ A.fix.set i d → x = d ∨ x ∈ A.fix := fun x hx => (List.mem_or_eq_of_mem_set hx).symm
  refine List.nodup_append.mpr ⟨?_, n2, fun a ha b hb q => ?_⟩
  · exact nodup_set n1 fun q => hd' (List.mem_append.mpr (.inl q))
  · rcases hs a ha with r | r
    · subst r; subst q; exact hd' (List.mem_append.mpr (.inr hb))
    · exact n3 a r b hb q
theorem mem_new {A B : LoomA} {d : Addr} (i : Nat) (e : B.fix = A.fix.set i d) (ef : B.frs = A.frs) : ∀ a ∈ B.cells, a ∈ A.cells ∨ a = d := by
  intro a ha
  have ha' : a ∈ B.fix ++ frCells B.frs := ha
  rw [e, ef] at ha'
  rcases List.mem_append.mp ha' with h | h
  · rcases List.mem_or_eq_of_mem_set h with h | h
    · exact .inl (List.mem_append.mpr (.inl h))
    · exact .inr h
  · exact .inl (List.mem_append.mpr (.inr h))
theorem LoomAt.fresh (L : LoomAt C H A s) {d : Addr} (h : H d = none) : d ∉ A.cells := fun q => by
  obtain ⟨o, e⟩ := L.has d q
  rw [h] at e; cases e
variable {H0 : Hp} {A0 : LoomA}
/-- the instance, a wait's instance or a frame's record is written: what else stands, stands -/
theorem LoomAt.others (L : LoomAt C H A s) {c : Addr} (hc : c ∈ A.cells) (o : HO) : ∀ a, a ∈ A.cells → a ≠ c → upd H c o a = H a := fun a _ n => upd_ne n
theorem Went.newSd (W : Went C H0 A0 H A s) {d : Addr} (l : List (Str × Nat)) (z : H0 d = none) (n : d ∉ A.cells) (h : H d = some (.dK (sdK l))) :
    Went C H0 A0 (upd H A.p (.ins C.L A.dx (loomFs { A with sd := d } { s with stands := l }))) { A with sd := d } { s with stands := l } := by
  have L := W.l
  obtain ⟨k, tk⟩ := L.step (c := A.p) (at_c (i := 0) rfl) (.ins C.L A.dx (loomFs { A with sd := d } { s with stands := l }))
  have np : d ≠ A.p := fun e => n (by rw [e]; exact at_c (i := 0) rfl)
  refine ⟨⟨nd_new (A := A) (d := d) L.nd n 5 (by decide) rfl rfl, upd_same, ?_, ?_, ?_, ?_, ?_, ?_, ?_, ?_, ?_⟩, W.kp.transM k W.sub, fun a ha => ?_, W.p⟩
  · exact L.hl.tr hndStb tk (upd_ne (L.ne 1 0 (by decide) rfl rfl))
  · exact L.ev.tr evtStb tk (upd_ne (L.ne 2 0 (by decide) rfl rfl))
  · exact L.lg.tr rowStb tk (upd_ne (L.ne 3 0 (by decide) rfl rfl))
  · rw [upd_ne (L.ne 4 0 (by decide) rfl rfl)]; exact L.fr
  · exact L.frs.tr tk fun a ha => upd_ne (L.neR (i := 0) rfl ha)
  · exact (upd_ne np).trans h
  · rw [upd_ne (L.ne 6 0 (by decide) rfl rfl)]; exact L.wa
  · rw [upd_ne (L.ne 7 0 (by decide) rfl rfl)]; exact L.fo
  · exact L.rw.tr rwStb tk (upd_ne (L.ne 8 0 (by decide) rfl rfl))
  · rcases mem_new (A := A) (B := { A with sd := d }) (d := d) 5 rfl rfl a ha with q | q
    · exact W.sub a q
    · exact .inr (by rw [q]; exact z)
theorem Went.newFo (W : Went C H0 A0 H A s) {d : Addr} (l : List Nat) (z : H0 d = none) (n : d ∉ A.cells) (h : H d = some (.lst (l.map nV))) :
    Went C H0 A0 (upd H A.wa (.ins C.W A.wdx (waitFs { A with fo := d }))) { A with fo := d } { s with soon := l } := by
  have L := W.l
  obtain ⟨k, tk⟩ := L.step (c := A.wa) (at_c (i := 6) rfl) (.ins C.W A.wdx (waitFs { A with fo := d }))
  have np : d ≠ A.wa := fun e => n (by rw [e]; exact at_c (i := 6) rfl)
  refine ⟨⟨nd_new (A := A) (d := d) L.nd n 7 (by decide) rfl rfl, ?_, ?_, ?_, ?_, ?_, ?_, ?_, upd_same, ?_, ?_⟩, W.kp.transM k W.sub, fun a ha => ?_, W.p⟩
  · rw [upd_ne (L.ne 0 6 (by decide) rfl rfl)]; exact L.p
  · exact L.hl.tr hndStb tk (upd_ne (L.ne 1 6 (by decide) rfl rfl))
  · exact L.ev.tr evtStb tk (upd_ne (L.ne 2 6 (by decide) rfl rfl))
  · exact L.lg.tr rowStb tk (upd_ne (L.ne 3 6 (by decide) rfl rfl))
  · rw [upd_ne (L.ne 4 6 (by decide) rfl rfl)]; exact L.fr
  · exact L.frs.tr tk fun a ha => upd_ne (L.neR (i := 6) rfl ha)
  · rw [upd_ne (L.ne 5 6 (by decide) rfl rfl)]; exact L.sd
  · exact (upd_ne np).trans h
  · exact L.rw.tr rwStb tk (upd_ne (L.ne 8 6 (by decide) rfl rfl))
  · rcases mem_new (A := A) (B := { A with fo := d }) (d := d) 7 rfl rfl a ha with q | q
    · exact W.sub a q
    · exact .inr (by rw [q]; exact z)
theorem Went.newRw (W : Went C H0 A0 H A s) {d : Addr} (l : List (Int × Nat)) (z : H0 d = none) (n : d ∉ A.cells) (h : LstAt RwAt H d l) :
    Went C H0 A0 (upd H A.wa (.ins C.W A.wdx (waitFs { A with rw := d }))) { A with rw := d } { s with rows := l } := by
  have L := W.l
  obtain ⟨k, tk⟩ := L.step (c := A.wa) (at_c (i := 6) rfl) (.ins C.W A.wdx (waitFs { A with rw := d }))
  have np : d ≠ A.wa := fun e => n (by rw [e]; exact at_c (i := 6) rfl)
  refine ⟨⟨nd_new (A := A) (d := d) L.nd n 8 (by decide) rfl rfl, ?_, ?_, ?_, ?_, ?_, ?_, ?_, upd_same, ?_, ?_⟩, W.kp.transM k W.sub, fun a ha => ?_, W.p⟩
  · rw [upd_ne (L.ne 0 6 (by decide) rfl rfl)]; exact L.p
  · exact L.hl.tr hndStb tk (upd_ne (L.ne 1 6 (by decide) rfl rfl))
  · exact L.ev.tr evtStb tk (upd_ne (L.ne 2 6 (by decide) rfl rfl))
  · exact L.lg.tr rowStb tk (upd_ne (L.ne 3 6 (by decide) rfl rfl))
  · rw [upd_ne (L.ne 4 6 (by decide) rfl rfl)]; exact L.fr
  · exact L.frs.tr tk fun a ha => upd_ne (L.neR (i := 6) rfl ha)
  · rw [upd_ne (L.ne 5 6 (by decide) rfl rfl)]; exact L.sd
  · rw [upd_ne (L.ne 7 6 (by decide) rfl rfl)]; exact L.fo
  · exact h.tr rwStb tk (upd_ne np)
  · rcases mem_new (A := A) (B := { A with rw := d }) (d := d) 8 rfl rfl a ha with q | q
    · exact W.sub a q
    · exact .inr (by rw [q]; exact z)
/-- the frames' list and what else stands when a list of the same cells stands at fr -/
theorem Went.pushFr (W : Went C H0 A0 H A s) {B : FrA} {f : Frm} (hB : FrmAt C.F H B f) (n1 : B.fa ∉ A.cells) (n2 : B.lc ∉ A.cells) (n3 : B.fa ≠ B.lc) (z1 : H0 B.fa = none) (z2 : H0 B.lc = none) :
    Went C H0 A0 (upd H A.fr (.lst ((A.frs ++ [B]).map fun f => V.ref f.fa))) { A with frs := A.frs ++ [B] } { s with frames := s.frames ++ [f] } := by
  have L := W.l
  obtain ⟨k, tk⟩ := L.step (c := A.fr) (at_c (i := 4) rfl) (.lst ((A.frs ++ [B]).map fun f => V.ref f.fa))
  have q1 : B.fa ≠ A.fr := fun e => n1 (by rw [e]; exact at_c (i := 4) rfl)
  have q2 : B.lc ≠ A.fr := fun e => n2 (by rw [e]; exact at_c (i := 4) rfl)
  have ec : LoomA.cells { A with frs := A.frs ++ [B] } = A.cells ++ [B.fa, B.lc] := by
    show A.fix ++ frCells (A.frs ++ [B]) = (A.fix ++ frCells A.frs) ++ [B.fa, B.lc]
    rw [frCells_app, List.append_assoc]
    rfl
  refine ⟨⟨?_, ?_, ?_, ?_, ?_, upd_same, ?_, ?_, ?_, ?_, ?_⟩, W.kp.transM k W.sub, fun a ha => ?_, W.p⟩
  · rw [ec]
    refine List.nodup_append.mpr ⟨L.nd, by simp [n3], fun a ha b hb e => ?_⟩
    subst e
    simp at hb
    rcases hb with rfl | rfl
    · exact n1 ha
    · exact n2 ha
  · rw [upd_ne (L.ne 0 4 (by decide) rfl rfl)]; exact L.p
  · exact L.hl.tr hndStb tk (upd_ne (L.ne 1 4 (by decide) rfl rfl))
  · exact L.ev.tr evtStb tk (upd_ne (L.ne 2 4 (by decide) rfl rfl))
  · exact L.lg.tr rowStb tk (upd_ne (L.ne 3 4 (by decide) rfl rfl))
  · exact (L.frs.tr tk fun a ha => upd_ne (L.neR (i := 4) rfl ha)).snoc (hB.tr tk (upd_ne q1) (upd_ne q2))
  · rw [upd_ne (L.ne 5 4 (by decide) rfl rfl)]; exact L.sd
  · rw [upd_ne (L.ne 6 4 (by decide) rfl rfl)]; exact L.wa
  · rw [upd_ne (L.ne 7 4 (by decide) rfl rfl)]; exact L.fo
  · exact L.rw.tr rwStb tk (upd_ne (L.ne 8 4 (by decide) rfl rfl))
  · rw [ec] at ha
    rcases List.mem_append.mp ha with q | q
    · exact W.sub a q
    · simp at q
      rcases q with rfl | rfl
      · exact .inr z1
      · exact .inr z2
theorem LoomAt.popFr (L : LoomAt C H A s) {Bs : List FrA} {B : FrA} {fs : List Frm} {f : Frm} (eA : A.frs = Bs ++ [B]) (es : s.frames = fs ++ [f]) :
    Went C H A (upd H A.fr (.lst (Bs.map fun f => V.ref f.fa))) { A with frs := Bs } { s with frames := fs } := by
  obtain ⟨k, tk⟩ := L.step (c := A.fr) (at_c (i := 4) rfl) (.lst (Bs.map fun f => V.ref f.fa))
  have ec : A.cells = (A.fix ++ frCells Bs) ++ [B.fa, B.lc] := by
    show A.fix ++ frCells A.frs = _
    rw [eA, frCells_app, List.append_assoc]
    rfl
  have fr0 := L.frs
  rw [eA, es] at fr0
  obtain ⟨Bs', B', eB, t1, t2⟩ := fr0.unsnoc
  obtain ⟨rfl, hh⟩ := List.append_inj' eB rfl
  refine ⟨⟨?_, ?_, ?_, ?_, ?_, upd_same, ?_, ?_, ?_, ?_, ?_⟩, k, fun a ha => .inl ?_, rfl⟩
  · have := L.nd
    rw [ec] at this
    exact (List.nodup_append.mp this).1
  · rw [upd_ne (L.ne 0 4 (by decide) rfl rfl)]; exact L.p
  · exact L.hl.tr hndStb tk (upd_ne (L.ne 1 4 (by decide) rfl rfl))
  · exact L.ev.tr evtStb tk (upd_ne (L.ne 2 4 (by decide) rfl rfl))
  · exact L.lg.tr rowStb tk (upd_ne (L.ne 3 4 (by decide) rfl rfl))
  · exact t1.tr tk fun a ha => upd_ne (L.neR (i := 4) rfl (by rw [eA, frCells_app]; exact List.mem_append.mpr (.inl ha)))
  · rw [upd_ne (L.ne 5 4 (by decide) rfl rfl)]; exact L.sd
  · rw [upd_ne (L.ne 6 4 (by decide) rfl rfl)]; exact L.wa
  · rw [upd_ne (L.ne 7 4 (by decide) rfl rfl)]; exact L.fo
  · exact L.rw.tr rwStb tk (upd_ne (L.ne 8 4 (by decide) rfl rfl))
  · rw [ec]
    exact List.mem_append.mpr (.inl ha)
/-- what is known of the innermost frame's record -/
theorem LoomAt.last (L : LoomAt C H A s) {fs : List Frm} {f : Frm} (es : s.frames = fs ++ [f]) : ∃ Bs B, A.frs = Bs ++ [B] ∧ FrsAt C.F H Bs fs ∧ FrmAt C.F H B f ∧ B.fa ∈ A.cells ∧ B.lc ∈ A.cells ∧ B.fa ≠ B.lc ∧
    (∀ a ∈ A.fix, a ≠ B.fa ∧ a ≠ B.lc) ∧ ∀ a ∈ frCells Bs, a ≠ B.fa ∧ a ≠ B.lc := by
  have fr0 := L.frs
  rw [es] at fr0
  obtain ⟨Bs, B, eB, t1, t2⟩ := fr0.unsnoc
  have nd : (A.fix ++ (frCells Bs ++ [B.fa, B.lc])).Nodup := by
    have h := L.nd
    have e : A.cells = A.fix ++ (frCells Bs ++ [B.fa, B.lc]) := by
      show A.fix ++ frCells A.frs = _
      rw [eB, frCells_app]
      rfl
    rw [e] at h
    exact h
  have m : ∀ a, a ∈ frCells Bs ++ [B.fa, B.lc] → a ∈ A.cells := fun a ha => by
    show a ∈ A.fix ++ frCells A.frs
    rw [eB, frCells_app]
    exact List.mem_append.mpr (.inr ha)
  obtain ⟨_, n2, n3⟩ := List.nodup_append.mp nd
  obtain ⟨_, n4, n5⟩ := List.nodup_append.mp n2
  refine ⟨Bs, B, eB, t1, t2, m _ (by simp), m _ (by simp), ?_, fun a ha => ⟨n3 a ha _ (by simp), n3 a ha _ (by simp)⟩, fun a ha => ⟨n5 a ha _ (by simp), n5 a ha _ (by simp)⟩⟩
  have := n4
  simp at this
  exact this
theorem LoomAt.setFrm (L : LoomAt C H A s) {Bs : List FrA} {B : FrA} {fs : List Frm} {f : Frm} (eA : A.frs = Bs ++ [B]) (es : s.frames = fs ++ [f]) (f' : Frm) {dq : Addr} (hc : f'.called = f.called) (hd : DdsAt H dq f'.deeds) :
    Went C H A (upd H B.fa (.ins C.F B.dx (frmFs f' B.lc dq))) A { s with frames := fs ++ [f'] } := by
  obtain ⟨Bs', B', eB, t1, t2, m1, m2, ne, nf, nb⟩ := L.last es
  rw [eA] at eB
  obtain ⟨rfl, hh⟩ := List.append_inj' eB rfl
  have hh : B = B' := by simpa using hh
  subst hh
  obtain ⟨k, tk⟩ := L.step m1 (.ins C.F B.dx (frmFs f' B.lc dq))
  obtain ⟨dq0, _, g2, _⟩ := t2
  have nx : ∀ {i a}, A.fix[i]? = some a → a ≠ B.fa := fun h => (nf _ (List.mem_of_getElem? h)).1
  refine ⟨⟨L.nd, ?_, ?_, ?_, ?_, ?_, ?_, ?_, ?_, ?_, ?_⟩, k, fun _ h => .inl h, rfl⟩
  · rw [upd_ne (nx (i := 0) rfl)]; exact L.p
  · exact L.hl.tr hndStb tk (upd_ne (nx (i := 1) rfl))
  · exact L.ev.tr evtStb tk (upd_ne (nx (i := 2) rfl))
  · exact L.lg.tr rowStb tk (upd_ne (nx (i := 3) rfl))
  · rw [upd_ne (nx (i := 4) rfl)]; exact L.fr
  · rw [eA]
    refine (t1.tr tk fun a ha => upd_ne (nb a ha).1).snoc ⟨dq, upd_same, ?_, hd.tk tk⟩
    rw [hc]
    exact g2.tr callStb tk (upd_ne (Ne.symm ne))
  · rw [upd_ne (nx (i := 5) rfl)]; exact L.sd
  · rw [upd_ne (nx (i := 6) rfl)]; exact L.wa
  · rw [upd_ne (nx (i := 7) rfl)]; exact L.fo
  · exact L.rw.tr rwStb tk (upd_ne (nx (i := 8) rfl))
theorem LoomAt.setLc (L : LoomAt C H A s) {Bs : List FrA} {B : FrA} {fs : List Frm} {f : Frm} (eA : A.frs = Bs ++ [B]) (es : s.frames = fs ++ [f]) {cs : List V} {l : List (Str × Nat)} (h : Paired (CallAt H) cs l) :
    Went C H A (upd H B.lc (.lst cs)) A { s with frames := fs ++ [{ f with called := l }] } := by
  obtain ⟨Bs', B', eB, t1, t2, m1, m2, ne, nf, nb⟩ := L.last es
  rw [eA] at eB
  obtain ⟨rfl, hh⟩ := List.append_inj' eB rfl
  have hh : B = B' := by simpa using hh
  subst hh
  obtain ⟨k, tk⟩ := L.step m2 (.lst cs)
  obtain ⟨dq0, g1, g2, g3⟩ := t2
  have nx : ∀ {i a}, A.fix[i]? = some a → a ≠ B.lc := fun h => (nf _ (List.mem_of_getElem? h)).2
  refine ⟨⟨L.nd, ?_, ?_, ?_, ?_, ?_, ?_, ?_, ?_, ?_, ?_⟩, k, fun _ h => .inl h, rfl⟩
  · rw [upd_ne (nx (i := 0) rfl)]; exact L.p
  · exact L.hl.tr hndStb tk (upd_ne (nx (i := 1) rfl))
  · exact L.ev.tr evtStb tk (upd_ne (nx (i := 2) rfl))
  · exact L.lg.tr rowStb tk (upd_ne (nx (i := 3) rfl))
  · rw [upd_ne (nx (i := 4) rfl)]; exact L.fr
  · rw [eA]
    exact (t1.tr tk fun a ha => upd_ne (nb a ha).2).snoc ⟨dq0, by rw [upd_ne ne]; exact g1, LstAt.put callStb tk h, g3.tk tk⟩
  · rw [upd_ne (nx (i := 5) rfl)]; exact L.sd
  · rw [upd_ne (nx (i := 6) rfl)]; exact L.wa
  · rw [upd_ne (nx (i := 7) rfl)]; exact L.fo
  · exact L.rw.tr rwStb tk (upd_ne (nx (i := 8) rfl))
/-- the innermost frame's list of those still to be called is a new, empty one -/
theorem Went.hush (W : Went C H0 A0 H A s) {Bs : List FrA} {B : FrA} {fs : List Frm} {f : Frm} (eA : A.frs = Bs ++ [B]) (es : s.frames = fs ++ [f]) {d dq : Addr} (z : H0 d = none) (n : d ∉ A.cells) (h : H d = some (.lst []))
    (hd : DdsAt H dq f.deeds) :
    Went C H0 A0 (upd H B.fa (.ins C.F B.dx (frmFs { f with called := [] } d dq))) { A with frs := Bs ++ [{ B with lc := d }] } { s with frames := fs ++ [{ f with called := [] }] } := by
  have L := W.l
  obtain ⟨Bs', B', eB, t1, t2, m1, m2, ne, nf, nb⟩ := L.last es
  rw [eA] at eB
  obtain ⟨rfl, hh⟩ := List.append_inj' eB rfl
  have hh : B = B' := by simpa using hh
  subst hh
  obtain ⟨k, tk⟩ := L.step m1 (.ins C.F B.dx (frmFs { f with called := [] } d dq))
  have nx : ∀ {i a}, A.fix[i]? = some a → a ≠ B.fa := fun h => (nf _ (List.mem_of_getElem? h)).1
  have ndf : d ≠ B.fa := fun e => n (by rw [e]; exact m1)
  have nd : (A.fix ++ (frCells Bs ++ [B.fa, B.lc])).Nodup := by
    have q := L.nd
    have e : A.cells = A.fix ++ (frCells Bs ++ [B.fa, B.lc]) := by
      show A.fix ++ frCells A.frs = _
      rw [eA, frCells_app]
      rfl
    rw [e] at q
    exact q
  have ec : LoomA.cells { A with frs := Bs ++ [{ B with lc := d }] } = A.fix ++ (frCells Bs ++ [B.fa, d]) := by
    show A.fix ++ frCells (Bs ++ [{ B with lc := d }]) = _
    rw [frCells_app]
    rfl
  have hm : ∀ a, a ∈ A.fix ∨ a ∈ frCells Bs ∨ a = B.fa → a ∈ A.cells := fun a ha => by
    show a ∈ A.fix ++ frCells A.frs
    rw [eA, frCells_app]
    rcases ha with q | q | q
    · exact List.mem_append.mpr (.inl q)
    · exact List.mem_append.mpr (.inr (List.mem_append.mpr (.inl q)))
    · exact List.mem_append.mpr (.inr (List.mem_append.mpr (.inr (by rw [q]; simp [frCells]))))
  refine ⟨⟨?_, ?_, ?_, ?_, ?_, ?_, ?_, ?_, ?_, ?_, ?_⟩, W.kp.transM k W.sub, fun a ha => ?_, W.p⟩
  · rw [ec]
    obtain ⟨n1, n2, n3⟩ := List.nodup_append.mp nd
    obtain ⟨n4, n5, n6⟩ := List.nodup_append.mp n2
    refine List.nodup_append.mpr ⟨n1, List.nodup_append.mpr ⟨n4, by simp; exact Ne.symm ndf, fun a ha b hb e => ?_⟩, fun a ha b hb e => ?_⟩
    · subst e
      simp at hb
      rcases hb with rfl | rfl
      · exact (nb _ ha).1 rfl
      · exact n (hm _ (.inr (.inl ha)))
    · subst e
      rcases List.mem_append.mp hb with hb | hb
      · exact n3 a ha a (List.mem_append.mpr (.inl hb)) rfl
      · simp at hb
        rcases hb with rfl | rfl
        · exact (nf _ ha).1 rfl
        · exact n (hm _ (.inl ha))
  · rw [upd_ne (nx (i := 0) rfl)]; exact L.p
  · exact L.hl.tr hndStb tk (upd_ne (nx (i := 1) rfl))
  · exact L.ev.tr evtStb tk (upd_ne (nx (i := 2) rfl))
  · exact L.lg.tr rowStb tk (upd_ne (nx (i := 3) rfl))
  · rw [upd_ne (nx (i := 4) rfl), L.fr, eA]
    simp
  · exact (t1.tr tk fun a ha => upd_ne (nb a ha).1).snoc ⟨dq, upd_same, ⟨[], by rw [upd_ne ndf]; exact h, .nil⟩, hd.tk tk⟩
  · rw [upd_ne (nx (i := 5) rfl)]; exact L.sd
  · rw [upd_ne (nx (i := 6) rfl)]; exact L.wa
  · rw [upd_ne (nx (i := 7) rfl)]; exact L.fo
  · exact L.rw.tr rwStb tk (upd_ne (nx (i := 8) rfl))
  · rw [ec] at ha
    rcases List.mem_append.mp ha with q | q
    · exact W.sub a (hm a (.inl q))
    · rcases List.mem_append.mp q with q | q
      · exact W.sub a (hm a (.inr (.inl q)))
      · simp at q
        rcases q with rfl | rfl
        · exact W.sub _ m1
        · exact .inr z
end
/-! ### fields -/
theorem loomFs_nd (A : LoomA) (s : LoomS) : ((loomFs A s).map Prod.fst).Nodup := by
  show (["handlers", "time", "events", "log", "frames", "fresh", "line", "stood", "standings"] : List Str).Nodup
  decide +kernel
theorem lf_handlers (A : LoomA) (s : LoomS) : (loomFs A s).lookup ("handlers" : Str) = some (.ref A.hl) := look_ix (loomFs_nd A s) (i := 0) rfl
theorem lf_time (A : LoomA) (s : LoomS) : (loomFs A s).lookup ("time" : Str) = some (.int s.time) := look_ix (loomFs_nd A s) (i := 1) rfl
theorem lf_events (A : LoomA) (s : LoomS) : (loomFs A s).lookup ("events" : Str) = some (.ref A.ev) := look_ix (loomFs_nd A s) (i := 2) rfl
theorem lf_log (A : LoomA) (s : LoomS) : (loomFs A s).lookup ("log" : Str) = some (.ref A.lg) := look_ix (loomFs_nd A s) (i := 3) rfl
theorem lf_frames (A : LoomA) (s : LoomS) : (loomFs A s).lookup ("frames" : Str) = some (.ref A.fr) := look_ix (loomFs_nd A s) (i := 4) rfl
theorem lf_fresh (A : LoomA) (s : LoomS) : (loomFs A s).lookup ("fresh" : Str) = some (onV s.fresh) := look_ix (loomFs_nd A s) (i := 5) rfl
theorem lf_line (A : LoomA) (s : LoomS) : (loomFs A s).lookup ("line" : Str) = some (.ref A.wa) := look_ix (loomFs_nd A s) (i := 6) rfl
theorem lf_stood (A : LoomA) (s : LoomS) : (loomFs A s).lookup ("stood" : Str) = some (nV s.stood) := look_ix (loomFs_nd A s) (i := 7) rfl
theorem lf_standings (A : LoomA) (s : LoomS) : (loomFs A s).lookup ("standings" : Str) = some (.ref A.sd) := look_ix (loomFs_nd A s) (i := 8) rfl
theorem lp_time (A : LoomA) (s : LoomS) (t : Int) : putF "time" (.int t) (loomFs A s) = loomFs A { s with time := t } := put_ix (loomFs_nd A s) (i := 1) rfl
theorem lp_fresh (A : LoomA) (s : LoomS) (o : Option Nat) : putF "fresh" (onV o) (loomFs A s) = loomFs A { s with fresh := o } := put_ix (loomFs_nd A s) (i := 5) rfl
theorem lp_stood (A : LoomA) (s : LoomS) (n : Nat) : putF "stood" (nV n) (loomFs A s) = loomFs A { s with stood := n } := put_ix (loomFs_nd A s) (i := 7) rfl
theorem lp_sd (A : LoomA) (s : LoomS) (d : Addr) (l : List (Str × Nat)) : putF "standings" (.ref d) (loomFs A s) = loomFs { A with sd := d } { s with stands := l } := put_ix (loomFs_nd A s) (i := 8) rfl
theorem frmFs_nd (f : Frm) (lc dq : Addr) : ((frmFs f lc dq).map Prod.fst).Nodup := by
  show (["number", "called", "deeds", "place"] : List Str).Nodup
  decide +kernel
theorem ff_number (f : Frm) (lc dq : Addr) : (frmFs f lc dq).lookup ("number" : Str) = some (nV f.number) := look_ix (frmFs_nd f lc dq) (i := 0) rfl
theorem ff_called (f : Frm) (lc dq : Addr) : (frmFs f lc dq).lookup ("called" : Str) = some (.ref lc) := look_ix (frmFs_nd f lc dq) (i := 1) rfl
theorem ff_deeds (f : Frm) (lc dq : Addr) : (frmFs f lc dq).lookup ("deeds" : Str) = some (.ref dq) := look_ix (frmFs_nd f lc dq) (i := 2) rfl
theorem ff_place (f : Frm) (lc dq : Addr) : (frmFs f lc dq).lookup ("place" : Str) = some (nV f.place) := look_ix (frmFs_nd f lc dq) (i := 3) rfl
theorem fp_place (f : Frm) (lc dq : Addr) (n : Nat) : putF "place" (nV n) (frmFs f lc dq) = frmFs { f with place := n } lc dq := put_ix (frmFs_nd f lc dq) (i := 3) rfl
theorem fp_deeds (f : Frm) (lc dq d : Addr) (l : List Deed) : putF "deeds" (.ref d) (frmFs f lc dq) = frmFs { f with deeds := l } lc d := put_ix (frmFs_nd f lc dq) (i := 2) rfl
theorem fp_called (f : Frm) (lc dq d : Addr) (l : List (Str × Nat)) : putF "called" (.ref d) (frmFs f lc dq) = frmFs { f with called := l } d dq := put_ix (frmFs_nd f lc dq) (i := 1) rfl
/-! ### those that wait -/
structure WtA where
  wa : Addr
  wdx : Addr
  fo : Addr
  rw : Addr
def WtA.cells (A : WtA) : List Addr := [A.wa, A.fo, A.rw]
def wFs (fo rw : Addr) : List (Str × V) := [("first_ones", .ref fo), ("rows", .ref rw)]
theorem wFs_nd (fo rw : Addr) : ((wFs fo rw).map Prod.fst).Nodup := by
  show (["first_ones", "rows"] : List Str).Nodup
  decide +kernel
theorem wFs_fo (fo rw : Addr) : (wFs fo rw).lookup ("first_ones" : Str) = some (.ref fo) := look_ix (wFs_nd fo rw) (i := 0) rfl
theorem wFs_rw (fo rw : Addr) : (wFs fo rw).lookup ("rows" : Str) = some (.ref rw) := look_ix (wFs_nd fo rw) (i := 1) rfl
theorem wFs_pfo (fo rw x : Addr) : putF "first_ones" (.ref x) (wFs fo rw) = wFs x rw := put_ix (wFs_nd fo rw) (i := 0) rfl
theorem wFs_prw (fo rw x : Addr) : putF "rows" (.ref x) (wFs fo rw) = wFs fo x := put_ix (wFs_nd fo rw) (i := 1) rfl
structure WaitsAt (W : Addr) (H : Hp) (A : WtA) (soon : List Nat) (rows : List (Int × Nat)) : Prop where
  n1 : A.wa ≠ A.fo
  n2 : A.wa ≠ A.rw
  n3 : A.fo ≠ A.rw
  wa : H A.wa = some (.ins W A.wdx (wFs A.fo A.rw))
  fo : H A.fo = some (.lst (soon.map nV))
  rw : LstAt RwAt H A.rw rows
/-- what a deed of those that wait leaves -/
structure WtPost (W : Addr) (H : Hp) (A : WtA) (H' : Hp) (A' : WtA) (soon : List Nat) (rows : List (Int × Nat)) : Prop where
  w : WaitsAt W H' A' soon rows
  kp : Kp A.cells H H'
  wa : A'.wa = A.wa
  wdx : A'.wdx = A.wdx
  fo : A'.fo = A.fo ∨ H A'.fo = none
  rw : A'.rw = A.rw ∨ H A'.rw = none
def LoomA.wt (A : LoomA) : WtA := ⟨A.wa, A.wdx, A.fo, A.rw⟩
theorem WaitsAt.kp {W : Addr} {H H' : Hp} {A : WtA} {soon : List Nat} {rows : List (Int × Nat)} (w : WaitsAt W H A soon rows) {M : List Addr} (k : Kp M H H') (n : ∀ a ∈ A.cells, a ∉ M) : WaitsAt W H' A soon rows := by
  obtain ⟨xs, h1, h2⟩ := w.rw
  refine ⟨w.n1, w.n2, w.n3, k.keep _ _ (n _ (by simp [WtA.cells])) w.wa, k.keep _ _ (n _ (by simp [WtA.cells])) w.fo, ⟨xs, k.keep _ _ (n _ (by simp [WtA.cells])) h1, Pd.mono (fun _ _ => rwStb _ _ _ _ k.tk) h2⟩⟩
section
variable {C : Cs} {H H' : Hp} {A : LoomA} {s : LoomS}
theorem LoomAt.waits (L : LoomAt C H A s) : WaitsAt C.W H A.wt s.soon s.rows :=
  ⟨L.ne 6 7 (by decide) rfl rfl, L.ne 6 8 (by decide) rfl rfl, L.ne 7 8 (by decide) rfl rfl, L.wa, L.fo, L.rw⟩
theorem LoomAt.wait (L : LoomAt C H A s) {A' : WtA} {soon : List Nat} {rows : List (Int × Nat)} (p : WtPost C.W H A.wt H' A' soon rows) : Went C H A H' { A with fo := A'.fo, rw := A'.rw } { s with soon := soon, rows := rows } := by
  have mem : ∀ a ∈ A.wt.cells, a ∈ A.cells := fun a ha => by
    simp [WtA.cells, LoomA.wt] at ha
    rcases ha with rfl | rfl | rfl <;> simp [LoomA.cells]
  have k : Kp A.cells H H' := p.kp.mono fun a ha => .inl (mem a ha)
  have tk := k.tk
  have same : ∀ {a : Addr} {i : Nat}, A.fix[i]? = some a → i ≠ 6 → i ≠ 7 → i ≠ 8 → H' a = H a := fun {a i} h h6 h7 h8 => by
    obtain ⟨o, e⟩ := L.has a (List.mem_append.mpr (.inl (List.mem_of_getElem? h)))
    rw [e, p.kp.keep a o (fun z => ?_) e]
    simp [WtA.cells, LoomA.wt] at z
    rcases z with z | z | z
    · exact L.ne i 6 h6 h rfl z
    · exact L.ne i 7 h7 h rfl z
    · exact L.ne i 8 h8 h rfl z
  have sameR : ∀ a ∈ frCells A.frs, H' a = H a := fun a ha => by
    obtain ⟨o, e⟩ := L.has a (List.mem_append.mpr (.inr ha))
    rw [e, p.kp.keep a o (fun z => ?_) e]
    simp [WtA.cells, LoomA.wt] at z
    rcases z with z | z | z
    · exact L.neR (i := 6) rfl ha z
    · exact L.neR (i := 7) rfl ha z
    · exact L.neR (i := 8) rfl ha z
  have nf : ∀ {d : Addr}, H d = none → d ∉ A.cells := fun h => L.fresh h
  have nd1 : LoomA.cells { A with fo := A'.fo } |>.Nodup := by
    rcases p.fo with e | e
    · rw [e]; exact L.nd
    · exact nd_new (A := A) (d := A'.fo) L.nd (nf e) 7 (by decide) rfl rfl
  have nd2 : LoomA.cells { A with fo := A'.fo, rw := A'.rw } |>.Nodup := by
    rcases p.rw with e | e
    · rw [e]; exact nd1
    · refine nd_new (A := { A with fo := A'.fo }) (d := A'.rw) nd1 (fun z => ?_) 8 (by decide) rfl rfl
      rcases mem_new (A := A) (B := { A with fo := A'.fo }) (d := A'.fo) 7 rfl rfl _ z with z | z
      · exact nf e z
      · exact p.w.n3 z.symm
  have ewa : A'.wa = A.wa := p.wa
  have ewd : A'.wdx = A.wdx := p.wdx
  refine ⟨⟨nd2, ?_, ?_, ?_, ?_, ?_, ?_, ?_, ?_, p.w.fo, p.w.rw⟩, k, fun a ha => ?_, rfl⟩
  · rw [same (i := 0) rfl (by decide) (by decide) (by decide)]; exact L.p
  · exact L.hl.tr hndStb tk (same (i := 1) rfl (by decide) (by decide) (by decide))
  · exact L.ev.tr evtStb tk (same (i := 2) rfl (by decide) (by decide) (by decide))
  · exact L.lg.tr rowStb tk (same (i := 3) rfl (by decide) (by decide) (by decide))
  · rw [same (i := 4) rfl (by decide) (by decide) (by decide)]; exact L.fr
  · exact L.frs.tr tk sameR
  · rw [same (i := 5) rfl (by decide) (by decide) (by decide)]; exact L.sd
  · have q := p.w.wa
    rw [ewa, ewd] at q
    exact q
  · rcases mem_new (A := { A with fo := A'.fo }) (B := { A with fo := A'.fo, rw := A'.rw }) (d := A'.rw) 8 rfl rfl a ha with z | z
    · rcases mem_new (A := A) (B := { A with fo := A'.fo }) (d := A'.fo) 7 rfl rfl a z with z | z
      · exact .inl z
      · subst z
        rcases p.fo with e | e
        · exact .inl (by rw [e]; simp [LoomA.cells, LoomA.wt])
        · exact .inr e
    · subst z
      rcases p.rw with e | e
      · exact .inl (by rw [e]; simp [LoomA.cells, LoomA.wt])
      · exact .inr e
end
/-! ### the waits' mirror -/
def rowGt (r q : Int × Nat) : Bool := decide (q.1 < r.1 ∨ (r.1 = q.1 ∧ q.2 < r.2))
/-- the place of q among the first k rows, from behind -/
def placeOf (rows : List (Int × Nat)) (q : Int × Nat) : Nat → Nat
  | 0 => 0
  | k + 1 => match rows[k]? with
    | some r => if rowGt r q then placeOf rows q k else k + 1
    | none => k + 1
def laterM (rows : List (Int × Nat)) (q : Int × Nat) : List (Int × Nat) := rows.take (placeOf rows q rows.length) ++ [q] ++ rows.drop (placeOf rows q rows.length)
theorem placeOf_le (rows : List (Int × Nat)) (q : Int × Nat) : ∀ k, placeOf rows q k ≤ k
  | 0 => Nat.le_refl _
  | k + 1 => by
    unfold placeOf
    split
    · split
      · exact Nat.le_succ_of_le (placeOf_le rows q k)
      · exact Nat.le_refl _
    · exact Nat.le_refl _
/-! ### the loom's mirror -/
def lk (l : List (Str × Nat)) (x : Str) : Option Nat := (l.find? fun c => decide (c.1 = x)).map Prod.snd
theorem lk_pos {c : Str × Nat} {l : List (Str × Nat)} {x : Str} (h : c.1 = x) : lk (c :: l) x = some c.2 := by
  unfold lk
  rw [List.find?_cons, decide_eq_true h]
  rfl
theorem lk_neg {c : Str × Nat} {l : List (Str × Nat)} {x : Str} (h : ¬ c.1 = x) : lk (c :: l) x = lk l x := by
  unfold lk
  rw [List.find?_cons, decide_eq_false h]
theorem sd_val : ∀ (l : List (Str × Nat)) (x : Str), valV (sdK l) (Sum.inr x) = (lk l x).map nV
  | [], _ => rfl
  | c :: l, x => by
    have ih := sd_val l x
    show valV ((Sum.inr c.1, nV c.2) :: sdK l) (Sum.inr x) = _
    by_cases h : c.1 = x
    · rw [lk_pos h, valV_pos (show (Sum.inr c.1 : Key) = Sum.inr x by rw [h])]
      rfl
    · rw [lk_neg h, valV_neg (show ¬ (Sum.inr c.1 : Key) = Sum.inr x from fun q => h (Sum.inr.inj q)), ih]
theorem lk_none {l : List (Str × Nat)} {x : Str} : lk l x = none ↔ x ∉ l.map Prod.fst := by
  unfold lk
  rw [Option.map_eq_none_iff, List.find?_eq_none]
  constructor
  · intro h q
    obtain ⟨c, hc, e⟩ := List.mem_map.mp q
    exact h c hc (decide_eq_true e)
  · intro h c hc q
    exact h (List.mem_map.mpr ⟨c, hc, of_decide_eq_true q⟩)
theorem sd_put {l : List (Str × Nat)} {x : Str} {n : Nat} (h : lk l x = none) : putK (sdK l) (Sum.inr x) (nV n) = sdK (l ++ [(x, n)]) := by
  unfold putK
  have e : ((sdK l).any fun kv => decide (kv.1 = Sum.inr x)) = false := by
    rw [List.any_eq_false]
    intro kv hkv q
    obtain ⟨c, hc, rfl⟩ := List.mem_map.mp hkv
    have q := of_decide_eq_true q
    exact lk_none.mp h (List.mem_map.mpr ⟨c, hc, Sum.inr.inj q⟩)
  rw [if_neg (by rw [e]; decide)]
  simp [sdK]
def LoomS.come (s : LoomS) (x : Str) : LoomS := if (lk s.stands x).isSome then s else { s with stood := s.stood + 1, stands := s.stands ++ [(x, s.stood + 1)] }
def LoomS.go (s : LoomS) (x : Str) : LoomS := { s with stands := s.stands.filter fun c => decide (c.1 ≠ x) }
def LoomS.sendM (s : LoomS) (z : Str) : LoomS :=
  { s with events := s.events ++ [⟨z, none, .wait, s.time⟩], rows := laterM s.rows (s.time, s.events.length), log := s.log ++ [.send s.events.length] }
/-- an event that a deed makes -/
def LoomS.mk1 (s : LoomS) (m : Nat) (z : Str) (r : Road) (t : Int) : LoomS := { s with events := s.events ++ [⟨z, some m, r, s.time + t⟩] }
def LoomS.logd (s : LoomS) (r : Row) : LoomS := { s with log := s.log ++ [r] }
/-- a deed of the innermost event n -/
def LoomS.doM (s : LoomS) (n : Nat) : Deed → LoomS
  | .now z => LoomS.logd { (s.mk1 n z .now 0) with fresh := some s.events.length } (.make n s.events.length)
  | .soon z => LoomS.logd { (s.mk1 n z .soon 0) with soon := s.soon ++ [s.events.length] } (.make n s.events.length)
  | .wait t z => LoomS.logd { (s.mk1 n z .wait t) with rows := laterM s.rows (s.time + t, s.events.length) } (.make n s.events.length)
  | .cancel z =>
    let ns := (s.soon ++ s.rows.map Prod.snd).filter fun k => decide ((s.events[k]?.map Evt.word) = some z)
    LoomS.logd { s with soon := s.soon.filter (fun k => !decide (k ∈ ns)), rows := s.rows.filter fun r => !decide (r.2 ∈ ns) } (.cancel n (ns.mergeSort fun a b => decide (a ≤ b)))
  | .join x => (s.come x).logd (.join n x)
  | .leave x => (s.go x).logd (.leave n x)
  | .hush => LoomS.logd { s with frames := s.frames.dropLast ++ (s.frames.getLast?.map fun f => { f with called := [] }).toList } (.hush n)
def loomNs : List Str := ["handlers", "time", "events", "log", "frames", "fresh", "line", "stood", "standings"]
theorem lf_no {A : LoomA} {s : LoomS} {m : Str} (h : m ∉ loomNs) : (loomFs A s).lookup m = none := look_no h
def wNs : List Str := ["first_ones", "rows"]
theorem wf_no {fo rw : Addr} {m : Str} (h : m ∉ wNs) : (wFs fo rw).lookup m = none := look_no h
theorem Went.to {C : Cs} {H H' : Hp} {A A' : LoomA} {s s' : LoomS} (W : Went C H A H' A' s) (e : s = s') : Went C H A H' A' s' := e ▸ W
theorem LoomAt.frm {C : Cs} {H : Hp} {A : LoomA} {s : LoomS} (L : LoomAt C H A s) {Bs : List FrA} {B : FrA} {fs : List Frm} {f : Frm} (eA : A.frs = Bs ++ [B]) (es : s.frames = fs ++ [f]) : FrmAt C.F H B f := by
  obtain ⟨Bs', B', eB, t1, t2, _⟩ := L.last es
  rw [eA] at eB
  obtain ⟨rfl, hh⟩ := List.append_inj' eB rfl
  have hh : B = B' := by simpa using hh
  subst hh
  exact t2
def LoomS.last (s : LoomS) (f : Frm) : LoomS := { s with frames := s.frames.dropLast ++ [f] }
theorem last_eq {s : LoomS} {fs : List Frm} {f f' : Frm} (es : s.frames = fs ++ [f]) : s.last f' = { s with frames := fs ++ [f'] } := by
  unfold LoomS.last
  rw [es, List.dropLast_concat]
/-- a handler is called for the innermost event -/
def LoomS.callM (s : LoomS) (f : Frm) (x : Str) (h : Hnd) : LoomS :=
  let s2 := (s.last { f with deeds := h.deeds, place := 0 }).logd (.call f.number x)
  if h.once then s2.go x else s2
def frmNs : List Str := ["number", "called", "deeds", "place"]
theorem ff_no {f : Frm} {lc dq : Addr} {m : Str} (h : m ∉ frmNs) : (frmFs f lc dq).lookup m = none := look_no h
end Ev
namespace Ev
open PySem L2
def top (i : Nat) : Stmt := PySem.Challenge.pw_eventloom_k02_hearers.main.body.getD i (.Pass ⟨0, 0, 0, 0⟩)
abbrev s_handlerOf : Stmt := top 4
abbrev nm_handlerOf : List Str := ["handlers", "name", "one"]
theorem sc_handlerOf : FnScope nm_handlerOf ["handlers", "name"] (defScope s_handlerOf) := ⟨rfl, rfl, rfl, by decide +kernel, rfl, by decide +kernel, by decide +kernel⟩
abbrev s_hearers : Stmt := top 5
abbrev nm_hearers : List Str := ["handlers", "names", "word", "rows", "place", "name", "one", "row"]
theorem sc_hearers : FnScope nm_hearers ["handlers", "names", "word"] (defScope s_hearers) := ⟨rfl, rfl, rfl, by decide +kernel, rfl, by decide +kernel, by decide +kernel⟩
abbrev s_ltoldAt : Stmt := top 7
abbrev nm_ltoldAt : List Str := ["_law_script", "_law_place_here"]
theorem sc_ltoldAt : FnScope nm_ltoldAt ["_law_script", "_law_place_here"] (defScope s_ltoldAt) := ⟨rfl, rfl, rfl, by decide +kernel, rfl, by decide +kernel, by decide +kernel⟩
abbrev s_lmixed : Stmt := top 8
abbrev nm_lmixed : List Str := ["_law_cell", "_law_k", "_law_many", "_law_primes"]
theorem sc_lmixed : FnScope nm_lmixed ["_law_cell", "_law_k", "_law_many"] (defScope s_lmixed) := ⟨rfl, rfl, rfl, by decide +kernel, rfl, by decide +kernel, by decide +kernel⟩
abbrev s_lnameBy : Stmt := top 9
abbrev nm_lnameBy : List Str := ["_law_cell", "_law_k", "_law_letters", "_law_at", "_law_tail", "_law_two"]
theorem sc_lnameBy : FnScope nm_lnameBy ["_law_cell", "_law_k"] (defScope s_lnameBy) := ⟨rfl, rfl, rfl, by decide +kernel, rfl, by decide +kernel, by decide +kernel⟩
abbrev s_lhandlerBy : Stmt := top 10
abbrev nm_lhandlerBy : List Str := ["_law_cell", "_law_base", "_law_k", "_law_rank", "_law_hears"]
theorem sc_lhandlerBy : FnScope nm_lhandlerBy ["_law_cell", "_law_base", "_law_k"] (defScope s_lhandlerBy) := ⟨rfl, rfl, rfl, by decide +kernel, rfl, by decide +kernel, by decide +kernel⟩
abbrev s_lplace : Stmt := top 11
abbrev nm_lplace : List Str := ["_law_name", "_law_names", "_law_k"]
theorem sc_lplace : FnScope nm_lplace ["_law_name", "_law_names"] (defScope s_lplace) := ⟨rfl, rfl, rfl, by decide +kernel, rfl, by decide +kernel, by decide +kernel⟩
abbrev s_lgood : Stmt := top 12
abbrev nm_lgood : List Str := ["_law_found", "_law_handlers", "_law_names", "_law_word", "_law_last", "_law_name", "_law_place_here", "_law_one", "_law_other"]
theorem sc_lgood : FnScope nm_lgood ["_law_found", "_law_handlers", "_law_names", "_law_word"] (defScope s_lgood) := ⟨rfl, rfl, rfl, by decide +kernel, rfl, by decide +kernel, by decide +kernel⟩
abbrev s_law : Stmt := top 13
abbrev nm_law : List Str := ["_law_script", "_law_base", "_law_count", "_law_handlers", "_law_names", "_law_word", "_law_given", "_law_told", "_law_found", "_law_hearing", "_law_k", "_law_one"]
theorem sc_law : FnScope nm_law ["_law_script"] (defScope s_law) := ⟨rfl, rfl, rfl, by decide +kernel, rfl, by decide +kernel, by decide +kernel⟩
structure Tx (K : PySem.W.Frag) (mg : Str → Option Value) where
  c_LoomError : Addr
  g_LoomError : mg "LoomError" = some (.ref c_LoomError)
  x_LoomError : PySem.W.excIn K c_LoomError [.type "ValueError", .type "Exception", .type "BaseException", .type "object"] "ValueError.__new__" = true
  k_LoomError : PySem.W.keepIn K (.ref c_LoomError) = true
  sb_LoomError : PySem.W.subIn K (.ref c_LoomError) (.type "BaseException") = some true
  ty_LoomError : PySem.W.typeIn K (.ref c_LoomError) = some (.type "type")
  c_Stranger : Addr
  g_Stranger : mg "Stranger" = some (.ref c_Stranger)
  x_Stranger : PySem.W.excIn K c_Stranger [.type "ValueError", .type "Exception", .type "BaseException", .type "object"] "ValueError.__new__" = true
  k_Stranger : PySem.W.keepIn K (.ref c_Stranger) = true
  sb_Stranger : PySem.W.subIn K (.ref c_Stranger) (.type "BaseException") = some true
  ty_Stranger : PySem.W.typeIn K (.ref c_Stranger) = some (.type "type")
  f_handlerOf : Addr
  d_handlerOf : FuncData
  F_handlerOf : Fun K "handler_of" "handler_of" s_handlerOf f_handlerOf d_handlerOf
  b_handlerOf : Binds K d_handlerOf ["handlers", "name"] []
  g_handlerOf : mg "handler_of" = some (.ref f_handlerOf)
  f_hearers : Addr
  d_hearers : FuncData
  F_hearers : Fun K "hearers" "hearers" s_hearers f_hearers d_hearers
  b_hearers : Binds K d_hearers ["handlers", "names", "word"] []
  g_hearers : mg "hearers" = some (.ref f_hearers)
  f_ltoldAt : Addr
  d_ltoldAt : FuncData
  F_ltoldAt : Fun K "_law_told_at" "_law_told_at" s_ltoldAt f_ltoldAt d_ltoldAt
  b_ltoldAt : Binds K d_ltoldAt ["_law_script", "_law_place_here"] []
  g_ltoldAt : mg "_law_told_at" = some (.ref f_ltoldAt)
  f_lmixed : Addr
  d_lmixed : FuncData
  F_lmixed : Fun K "_law_mixed" "_law_mixed" s_lmixed f_lmixed d_lmixed
  b_lmixed : Binds K d_lmixed ["_law_cell", "_law_k", "_law_many"] []
  g_lmixed : mg "_law_mixed" = some (.ref f_lmixed)
  f_lnameBy : Addr
  d_lnameBy : FuncData
  F_lnameBy : Fun K "_law_name_by" "_law_name_by" s_lnameBy f_lnameBy d_lnameBy
  b_lnameBy : Binds K d_lnameBy ["_law_cell", "_law_k"] []
  g_lnameBy : mg "_law_name_by" = some (.ref f_lnameBy)
  f_lhandlerBy : Addr
  d_lhandlerBy : FuncData
  F_lhandlerBy : Fun K "_law_handler_by" "_law_handler_by" s_lhandlerBy f_lhandlerBy d_lhandlerBy
  b_lhandlerBy : Binds K d_lhandlerBy ["_law_cell", "_law_base", "_law_k"] []
  g_lhandlerBy : mg "_law_handler_by" = some (.ref f_lhandlerBy)
  f_lplace : Addr
  d_lplace : FuncData
  F_lplace : Fun K "_law_place" "_law_place" s_lplace f_lplace d_lplace
  b_lplace : Binds K d_lplace ["_law_name", "_law_names"] []
  g_lplace : mg "_law_place" = some (.ref f_lplace)
  f_lgood : Addr
  d_lgood : FuncData
  F_lgood : Fun K "_law_good" "_law_good" s_lgood f_lgood d_lgood
  b_lgood : Binds K d_lgood ["_law_found", "_law_handlers", "_law_names", "_law_word"] []
  g_lgood : mg "_law_good" = some (.ref f_lgood)
  f_law : Addr
  d_law : FuncData
  F_law : Fun K "law" "law" s_law f_law d_law
  b_law : Binds K d_law ["_law_script"] []
  g_law : mg "law" = some (.ref f_law)
  z_enumerate : mg "enumerate" = none
  z_sorted : mg "sorted" = none
  z_len : mg "len" = none
  z_range : mg "range" = none
  z_isinstance : mg "isinstance" = none
  z_str : mg "str" = none
  z_list : mg "list" = none
  z_abs : mg "abs" = none
end Ev
namespace Ev
open PySem L2
section
variable {K : PySem.W.Frag} {a : Addr} {xs : List V} {te : TE} {σ : L2.St} {H : Hp} {α β : Type} {R : V → α → Prop} {ds : List α} {vs : List Nat} {Q : VK} {i : Nat}
theorem lc_mk (S : Hp → V → β → Prop) (st : Stb S) (hx : Paired R xs ds) (hz : ds.length < sizeLine) (ha : SqL K H a xs) (f : α → β) (hw : ∀ x, wipe ((wipe σ vs).set i (some x)) vs = wipe σ vs)
    (he : ∀ x d H' (Q : VK), d ∈ ds → R x d → Kp [] H H' → (∀ v H'', Kp [] H' H'' → S H'' v (f d) → Q v H'') → te ((wipe σ vs).set i (some x)) H' Q)
    (k : ∀ D H' ys, H D = none → Kp [] H H' → H' D = some (.lst ys) → Paired (S H') ys (ds.map f) → Q (.ref D) H') : tLc (fun _ H R => R (Itl K a) H) (gName i) tYes te vs σ H Q := by
  refine lc_pd hx hz (fun D pre acc H' => Kp [] H H' ∧ Paired (S H') acc (pre.map f)) (fun D hD => ⟨(Kp.refl _ _).new hD, .nil⟩) (fun D pre acc H' hD e q => SqL.kp q.1 (by simp) ha) ?_ (fun D acc H' hD e q => k D H' acc hD q.1 e q.2)
  rintro D pre acc x d post H' Yes No hD ed r e ⟨kp, pa⟩ yes no
  have hd : d ∈ ds := by rw [ed]; simp
  refine ⟨hw x, tYes_go (iteT (he x d H' _ hd r kp fun v H3 k3 s3 => ?_))⟩
  have e3 := k3.keep0 e
  have kD : Kp [D] H3 (upd H3 D (.lst (acc ++ [v]))) := (Kp.refl _ _).lst (.inl (by simp)) e3
  refine yes _ _ e3 ⟨(kp.trans k3).lst (.inr hD) e3, ?_⟩
  rw [List.map_append]
  exact Pd.append (Pd.mono (fun _ _ z => st _ _ _ _ kD.tk (st _ _ _ _ k3.tk z)) pa) (.cons (st _ _ _ _ kD.tk s3) .nil)
end
def HndT (H : Hp) (v : V) (h : Hnd) : Prop := ∃ p q, v = .ref p ∧ H p = some (.tup [.str h.name, .int h.rank, .str h.hears, .bl h.once, q])
theorem hndTStb : Stb HndT := fun _ _ _ _ k h => by
  obtain ⟨p, q, e, h⟩ := h
  exact ⟨p, q, e, k _ _ h⟩
end Ev
namespace Ev
open PySem L2
section
variable {P : Program} {w : World} {K : PySem.W.Frag} {mg : Str → Option Value} {base : Heap}
def handlerOf (hs : List Hnd) (x : Str) : Option Hnd := hs.find? fun h => decide (h.name = x)
def sp_handlerOf : Sp := fun vs H Q _ => ∃ (a : Addr) (x : Str) (hs : List Hnd) (h : Hnd), vs = [.ref a, .str x] ∧ LstAt HndT H a hs ∧ handlerOf hs x = some h ∧ ∀ v, HndT H v h → Q v H
theorem ok_handlerOf (T : Tx K mg) : FnOk P w K mg base CX0 1 T.f_handlerOf T.d_handlerOf ["handlers", "name"] (sp_handlerOf) := by
  refine T.F_handlerOf.ok sc_handlerOf (by walk_at "len") (fun cdv A outer s H vs Q E hr h => ?_)
  obtain ⟨a, x, hs, h, rfl, ⟨xs, ha, hx⟩, hf, k⟩ := h
  refine ⟨_, (pss_cons (ps_for PassesOwn.never rfl (pi_list (pv 0)) (pg_name (i := 2) sc_handlerOf.nd rfl (Or.inl rfl))
        (pss_one (ps_if (pt_cmpR op_eq (pe_ix (kIxT K) (pv 2) pe_int (fun _ _ => rfl)) (pv 1) (nomark _))
            (pss_one (ps_ret (pv 2)))
            pss_nil)))
    (pss_one ps_never)), ?_⟩
  refine seq_go ?_
  refine for_go ?_
  refine ⟨_, rfl, a, rfl, ⟨_, SqL.of ha⟩, ?_⟩
  refine for_pd hx (fun pre σ H' => H' = H ∧ (∃ o, σ = [some (.ref a), some (.str x), o]) ∧ pre.find? (fun h => decide (h.name = x)) = none) ⟨rfl, ⟨_, rfl⟩, rfl⟩ (fun pre σ H' q => by rw [q.1]; exact SqL.of ha) ?_ ?_
  · rintro pre v d post σ H' ed r ⟨rfl, ⟨o, rfl⟩, hn⟩
    obtain ⟨p, q, rfl, hp⟩ := id r
    refine ⟨_, rfl, p, _, _, _, rfl, rfl, SqT.of hp, at0, _, rfl, rfl, _, rfl, ?_⟩
    by_cases hb : d.name = x
    · rw [decide_eq_true (by rw [hb])]
      refine iteT ⟨_, rfl, ?_⟩
      have e : handlerOf hs x = some d := by
        unfold handlerOf
        rw [ed, List.find?_append, hn, List.find?_cons, decide_eq_true hb]
        rfl
      rw [e] at hf
      cases hf
      exact k _ r
    · rw [decide_eq_false (fun q => hb (V.str.inj q))]
      refine iteF ⟨rfl, ⟨_, rfl⟩, ?_⟩
      rw [List.find?_append, hn, List.find?_cons, decide_eq_false hb]
      rfl
  · rintro σ H' ⟨rfl, _, hn⟩
    unfold handlerOf at hf
    rw [hn] at hf
    cases hf
def hearRow (hs : List Hnd) (word : Str) (i : Nat) (x : Str) : Option Tri := (handlerOf hs x).bind fun h => if h.hears = "" ∨ h.hears = word then some (h.rank, (i : Int), x) else none
def hearRows (hs : List Hnd) (word : Str) : Nat → List Str → List Tri
  | _, [] => []
  | i, x :: r => (hearRow hs word i x).toList ++ hearRows hs word (i + 1) r
def hearersM (hs : List Hnd) (names : List Str) (word : Str) : List Str := ((hearRows hs word 0 names).mergeSort triLe).map fun t => t.2.2
theorem hearRows_snoc {hs : List Hnd} {word x : Str} : ∀ {l : List Str} {i : Nat}, hearRows hs word i (l ++ [x]) = hearRows hs word i l ++ (hearRow hs word (i + l.length) x).toList
  | [], i => by simp [hearRows]
  | y :: l, i => by
    rw [List.cons_append, hearRows, hearRows_snoc (l := l), hearRows, List.append_assoc, List.length_cons]
    congr 4
    omega
theorem hearRows_len {hs : List Hnd} {word : Str} : ∀ {l : List Str} {i : Nat}, (hearRows hs word i l).length ≤ l.length
  | [], i => Nat.le_refl _
  | y :: l, i => by
    have ih := hearRows_len (hs := hs) (word := word) (l := l) (i := i + 1)
    have h1 : (hearRow hs word i y).toList.length ≤ 1 := by cases hearRow hs word i y <;> simp
    rw [hearRows, List.length_append, List.length_cons]
    omega
def TriR (H : Hp) (v : V) (t : Tri) : Prop := ∃ p, v = .ref p ∧ H p = some (.tup [.int t.1, .int t.2.1, .str t.2.2])
theorem TriR.tk {H H' : Hp} (k : TK H H') {v : V} {t : Tri} (h : TriR H v t) : TriR H' v t := by
  obtain ⟨p, e, h⟩ := h
  exact ⟨p, e, k _ _ h⟩
def sp_hearers : Sp := fun vs H Q _ => ∃ (a b : Addr) (z : Str) (hs : List Hnd) (ns : List Str), vs = [.ref a, .ref b, .str z] ∧ LstAt HndT H a hs ∧ H b = some (.lst (ns.map V.str)) ∧ ns.length ≤ 100000 ∧ (∀ x ∈ ns, ∃ h, handlerOf hs x = some h) ∧
  ∀ p H', H p = none → Kp [] H H' → H' p = some (.lst ((hearersM hs ns z).map V.str)) → Q (.ref p) H'
theorem ok_hearers (T : Tx K mg) : FnOk P w K mg base CX0 2 T.f_hearers T.d_hearers ["handlers", "names", "word"] (sp_hearers) := by
  refine T.F_hearers.ok sc_hearers (by walk_at "len") (fun cdv A outer s H vs Q E hr h => ?_)
  obtain ⟨a, b, z, hs, ns, rfl, lh, hb, hns, hex, k⟩ := h
  refine ⟨_, (pss_cons (ps_set (i := 3) sc_hearers.nd rfl (Or.inl rfl) (pe_lst pa_nil))
    (pss_cons (ps_for PassesOwn.never rfl (pi_enum (by rfl) T.z_enumerate (pa_cons (pv 1) pa_nil)) (kTup K (pgs_cons (pg_name (i := 4) sc_hearers.nd rfl (Or.inl rfl)) (pgs_cons (pg_name (i := 5) sc_hearers.nd rfl (Or.inl rfl)) pgs_nil)))
        (pss_cons (ps_set (i := 6) sc_hearers.nd rfl (Or.inl rfl) (pe_call (ok_handlerOf T) (hr.mono (by decide)) rfl T.g_handlerOf T.F_handlerOf.kp T.b_handlerOf .nil pass0 (pa_cons (pv 0) (pa_cons (pv 5) pa_nil))))
        (pss_one (ps_if (PW.pt (pw_or (pt_cmpR op_eq (pe_ix (kIxT K) (pv 6) pe_int (fun _ _ => rfl)) pe_str (nomark _)) (pw_or1 (pt_cmpR op_eq (pe_ix (kIxT K) (pv 6) pe_int (fun _ _ => rfl)) (pv 2) (nomark _)))))
            (pss_one (ps_expr (pe_bm PySem.F.plainAttrs_list PySem.F.slot_list_append PySem.F.type_list_append mt_append (pv 3) (pa_cons (pe_tup (pa_cons (pe_ix (kIxT K) (pv 6) pe_int (fun _ _ => rfl)) (pa_cons (pv 4) (pa_cons (pv 5) pa_nil)))) pa_nil))))
            pss_nil))))
    (pss_one (ps_ret (pe_lc (own := [("row", 7)]) (g := gName 7) (tt := tYes) rfl sc_hearers.nd (pi_list (pe_callB (kSort3 K hr.units) (by rfl) T.z_sorted (by decide +kernel) (pa_cons (pv 3) pa_nil))) (blkOk_by (own := [("row", 7)]) (N := nm_hearers) (sc := defScope s_hearers) (by decide +kernel)) (fun _ _ _ _ _ => (pg_name (i := 7) sc_hearers.nd rfl (Or.inl rfl))) (fun _ _ _ _ _ => pts_nil) (fun _ _ _ _ _ => (pe_ix (kIxT K) (pv 7) pe_int (fun _ _ => rfl)))))))), ?_⟩
  refine ⟨Nat.zero_le _, fun f hf => ?_⟩
  walk_at "nf"
  refine for_go ?_
  have k1 : Kp [] H (upd H f (.lst [])) := (Kp.refl _ _).new hf
  refine ⟨_, rfl, b, _, rfl, SqL.of (k1.keep0 hb), ?_⟩
  refine for_it walk_enum (fun i σ H' => Kp [] H H' ∧ ∃ acc, H' f = some (.lst acc) ∧ Paired (TriR H') acc (hearRows hs z 0 (ns.take i)) ∧ ∃ o4 o5 o6, σ = [some (.ref a), some (.ref b), some (.str z), some (.ref f), o4, o5, o6, none])
    ⟨k1, _, upd_same, .nil, _, _, _, rfl⟩ (fun i σ H' _ q => SqL.of (q.1.keep0 hb)) ?_ ?_
  · rintro i v σ H1 H2 hi ⟨kp, acc, hf1, hac, o4, o5, o6, rfl⟩ ⟨T1, x, y, rfl, hT, rfl, hxe, hye⟩
    have hxe : V.int ((i : Nat) : Int) = x := Option.some.inj hxe
    subst hxe
    obtain ⟨nm, hnm, rfl⟩ : ∃ nm, ns[i]? = some nm ∧ y = V.str nm := by
      have hye : (ns.map V.str)[i]? = some y := hye
      rw [List.getElem?_map] at hye
      cases e : ns[i]? with
      | none => rw [e] at hye; cases hye
      | some q => rw [e] at hye; exact ⟨q, rfl, (Option.some.inj hye).symm⟩
    obtain ⟨h, hh⟩ := hex nm (List.mem_of_getElem? hnm)
    have kT := kp.new (o := .tup [V.int ((i : Nat) : Int), V.str nm]) hT
    have kT1 : Kp [] H1 (upd H1 T1 (.tup [V.int ((i : Nat) : Int), V.str nm])) := (Kp.refl _ _).new hT
    refine ⟨T1, _, rfl, SqT.of upd_same, rfl, _, _, rfl, _, _, rfl, rfl, ?_⟩
    refine ⟨_, rfl, _, rfl, a, nm, hs, h, rfl, lh.tr hndTStb kT.tk ?_, hh, fun v hv => ?_⟩
    · obtain ⟨xs, ha, _⟩ := lh
      rw [ha, kT.keep0 ha]
    have en : ns.take (i + 1) = ns.take i ++ [nm] := take_snoc hnm
    have li : (ns.take i).length = i := by
      rw [List.length_take]
      have := (List.getElem?_eq_some_iff.mp hnm).1
      omega
    obtain ⟨p, q, rfl, hp⟩ := hv
    have hf2 := kT1.keep0 hf1
    have lac : acc.length < sizeLine := by
      refine Nat.lt_of_le_of_lt (m := 100000) ?_ (by decide)
      rw [Pd.len hac]
      exact Nat.le_trans (hearRows_len) (by rw [List.length_take]; omega)
    refine ⟨_, rfl, p, _, _, _, rfl, rfl, SqT.of hp, at2, rfl, _, rfl, ?_⟩
    by_cases e1 : h.hears = ""
    · rw [decide_eq_true (show V.str h.hears = V.str "" by rw [e1])]
      refine iteT (iteT ?_)
      have er : hearRow hs z i nm = some (h.rank, (i : Int), nm) := by
        unfold hearRow
        rw [hh]
        exact if_pos (.inl e1)
      refine ⟨_, rfl, .inl ⟨rfl, _, SqL.of hf2⟩, _, rfl, p, _, _, _, rfl, rfl, SqT.of hp, at1, _, rfl, _, rfl, (by show 3 ≤ sizeLine; decide), fun t ht => ?_⟩
      have k3 : Kp [] (upd H1 T1 (.tup [V.int ((i : Nat) : Int), V.str nm])) (upd _ t (.tup [.int h.rank, .int (i : Int), .str nm])) := (Kp.refl _ _).new ht
      have hf3 := k3.keep0 hf2
      have nt : t ≠ f := fun e => by rw [e, hf2] at ht; cases ht
      refine ⟨f, _, _, rfl, rfl, hf3, lac, (kT.trans k3).lst (.inr hf) hf3, _, upd_same, ?_, _, _, _, rfl⟩
      have kk := (Kp.refl [f] _).lst (o := .lst (acc ++ [V.ref t])) (.inl (List.mem_singleton.mpr rfl)) hf3
      rw [en, hearRows_snoc, li, Nat.zero_add, er]
      refine Pd.append (Pd.mono (fun _ _ z => (TriR.tk (kT1.trans k3).tk z).tk kk.tk) hac) (.cons ⟨t, rfl, ?_⟩ .nil)
      rw [upd_ne nt]
      exact upd_same
    · rw [decide_eq_false (show ¬ V.str h.hears = V.str "" from fun q => e1 (V.str.inj q))]
      refine iteF ⟨_, rfl, p, _, _, _, rfl, rfl, SqT.of hp, at2, _, rfl, rfl, _, rfl, ?_⟩
      by_cases e2 : h.hears = z
      · rw [decide_eq_true (show V.str h.hears = V.str z by rw [e2])]
        refine iteT ?_
        have er : hearRow hs z i nm = some (h.rank, (i : Int), nm) := by
          unfold hearRow
          rw [hh]
          exact if_pos (.inr e2)
        refine ⟨_, rfl, .inl ⟨rfl, _, SqL.of hf2⟩, _, rfl, p, _, _, _, rfl, rfl, SqT.of hp, at1, _, rfl, _, rfl, (by show 3 ≤ sizeLine; decide), fun t ht => ?_⟩
        have k3 : Kp [] (upd H1 T1 (.tup [V.int ((i : Nat) : Int), V.str nm])) (upd _ t (.tup [.int h.rank, .int (i : Int), .str nm])) := (Kp.refl _ _).new ht
        have hf3 := k3.keep0 hf2
        have nt : t ≠ f := fun e => by rw [e, hf2] at ht; cases ht
        refine ⟨f, _, _, rfl, rfl, hf3, lac, (kT.trans k3).lst (.inr hf) hf3, _, upd_same, ?_, _, _, _, rfl⟩
        have kk := (Kp.refl [f] _).lst (o := .lst (acc ++ [V.ref t])) (.inl (List.mem_singleton.mpr rfl)) hf3
        rw [en, hearRows_snoc, li, Nat.zero_add, er]
        refine Pd.append (Pd.mono (fun _ _ z => (TriR.tk (kT1.trans k3).tk z).tk kk.tk) hac) (.cons ⟨t, rfl, ?_⟩ .nil)
        rw [upd_ne nt]
        exact upd_same
      · rw [decide_eq_false (show ¬ V.str h.hears = V.str z from fun q => e2 (V.str.inj q))]
        have er : hearRow hs z i nm = none := by
          unfold hearRow
          rw [hh]
          exact if_neg fun q => q.elim e1 e2
        refine iteF ⟨kT, _, hf2, ?_, _, _, _, rfl⟩
        rw [en, hearRows_snoc, li, Nat.zero_add, er]
        show Paired _ acc (_ ++ [])
        rw [List.append_nil]
        exact Pd.mono (fun _ _ z => TriR.tk kT1.tk z) hac
  · rintro σ H' ⟨kp, acc, hf1, hac, o4, o5, o6, rfl⟩
    rw [List.length_map, List.take_length] at hac
    walk_at "nf"
    refine lc_go ?_
    refine ⟨_, rfl, f, acc, _, rfl, SqL.of hf1, Pd.mono (fun _ _ z => by obtain ⟨p, e, h⟩ := z; exact ⟨p, e, SqT.of h⟩) hac, fun ys p hys hp => ?_⟩
    have kS : Kp [] H' (upd H' p (.lst ys)) := (Kp.refl _ _).new hp
    refine ⟨p, rfl, ⟨_, SqL.of upd_same⟩, ?_⟩
    refine lc_mp (Pd.mono (R := TriAt K H') (S := TriAt K (upd H' p (.lst ys))) (fun _ _ z => by obtain ⟨p, e, h⟩ := z; exact ⟨p, e, SqT.kp kS (by simp) h⟩) hys) ?_ (SqL.of upd_same) (fun t => V.str t.2.2) (fun x => rfl) ?_ ?_
    · rw [List.length_mergeSort]
      exact Nat.lt_of_le_of_lt hearRows_len (Nat.lt_of_le_of_lt hns (by decide))
    · rintro v d H2 Q' hd ⟨p2, rfl, hp2⟩ k2 q
      exact ⟨_, rfl, p2, _, _, _, rfl, rfl, SqT.kp k2 (by simp) hp2, at2, q _ (Kp.refl _ _)⟩
    · intro D H2 hD k2 hD2
      refine k _ _ (kp.dom _ (upd_none hD).2) (kp.trans (kS.trans k2)) ?_
      rw [hD2]
      simp [hearersM]
end
end Ev
namespace Ev
open PySem L2
/-! ### data of any depth: what == reads -/
def okD (n : Nat) (d : PyData) : Prop := d.canLay0 = true ∧ d.depth ≤ n
theorem okD.mono {n m : Nat} {d : PyData} (h : okD n d) (l : n ≤ m) : okD m d := ⟨h.1, Nat.le_trans h.2 l⟩
theorem okD.sh {n : Nat} {d : PyData} (h : okD n d) (l : n ≤ 64 := by decide) : SeqAt.shaped d = true := by
  show (d.canLay0 && decide (d.depth ≤ 64)) = true
  rw [Bool.and_eq_true]
  exact ⟨h.1, decide_eq_true (Nat.le_trans h.2 l)⟩
theorem okD.rfl {n : Nat} {d : PyData} (h : okD n d) : PyData.eqv d d = true := SeqAt.eqv_refl d h.1
def strOkT (x : Str) : Prop := PyData.strOk x = true
theorem ok_int (i : Int) : okD 0 (.int i) := by simp [okD, PyData.canLay0, PyData.depth]
theorem ok_non : okD 0 .none := by simp [okD, PyData.canLay0, PyData.depth]
theorem ok_bl (b : Bool) : okD 0 (.bool b) := by simp [okD, PyData.canLay0, PyData.depth]
theorem ok_str {x : Str} (h : strOkT x) : okD 0 (.str x) := by
  refine ⟨?_, by simp [PyData.depth]⟩
  unfold PyData.canLay0
  exact h
theorem okAll {n : Nat} : ∀ {ds : List PyData}, (∀ d ∈ ds, okD n d) → PyData.canLayAll0 ds = true ∧ PyData.depthAll ds ≤ n
  | [], _ => ⟨by simp [PyData.canLayAll0], by simp [PyData.depthAll]⟩
  | d :: ds, h => by
    obtain ⟨h1, h2⟩ := okAll (ds := ds) fun x hx => h x (List.mem_cons_of_mem _ hx)
    obtain ⟨h3, h4⟩ := h d (List.mem_cons_self ..)
    constructor
    · rw [PyData.canLayAll0, h3, h1]
      all_goals rfl
    · simp only [PyData.depthAll]
      omega
theorem ok_lst {n : Nat} {ds : List PyData} (h : ∀ d ∈ ds, okD n d) : okD (n + 1) (.list ds) := by
  obtain ⟨h1, h2⟩ := okAll h
  refine ⟨by rw [PyData.canLay0]; exact h1, ?_⟩
  simp only [PyData.depth]
  omega
theorem ok_tup {n : Nat} {ds : List PyData} (h : ∀ d ∈ ds, okD n d) : okD (n + 1) (.tuple ds) := by
  obtain ⟨h1, h2⟩ := okAll h
  refine ⟨by rw [PyData.canLay0]; exact h1, ?_⟩
  simp only [PyData.depth]
  omega
theorem ok_cons {n : Nat} {d : PyData} {ds : List PyData} (h : okD n d) (t : ∀ x ∈ ds, okD n x) : ∀ x ∈ d :: ds, okD n x := fun x hx => (List.mem_cons.mp hx).elim (fun e => e ▸ h) (t x)
theorem ok_nil {n : Nat} : ∀ x ∈ ([] : List PyData), okD n x := fun _ h => nomatch h
section
variable {K : PySem.W.Frag} {H : Hp}
theorem dp_all {α : Type} {R : V → α → Prop} {f : α → PyData} (h : ∀ v d, R v d → Dp K H v (f d)) : ∀ {xs : List V} {ds : List α}, Paired R xs ds → DpAll K H xs (ds.map f)
  | _, _, .nil => .nil
  | _, _, .cons r t => .cons (h _ _ r) (dp_all h t)
theorem dp_lst {α : Type} {R : V → α → Prop} {f : α → PyData} (h : ∀ v d, R v d → Dp K H v (f d)) {a : Addr} {xs : List V} {ds : List α} (ha : H a = some (.lst xs)) (p : Paired R xs ds) : Dp K H (.ref a) (.list (ds.map f)) := .lst (SqL.of ha) (dp_all h p)
theorem dp_map {α : Type} {g : α → V} {f : α → PyData} (h : ∀ d, Dp K H (g d) (f d)) : ∀ ds : List α, DpAll K H (ds.map g) (ds.map f)
  | [] => .nil
  | d :: ds => .cons (h d) (dp_map h ds)
theorem dp_lmap {α : Type} {g : α → V} {f : α → PyData} (h : ∀ d, Dp K H (g d) (f d)) {a : Addr} {ds : List α} (ha : H a = some (.lst (ds.map g))) : Dp K H (.ref a) (.list (ds.map f)) := .lst (SqL.of ha) (dp_map h ds)
theorem dp_ints {a : Addr} {ns : List Nat} (ha : H a = some (.lst (ns.map nV))) : Dp K H (.ref a) (.list (ns.map fun (n : Nat) => .int (n : Int))) := dp_lmap (fun n => .int _) ha
theorem dp_strs {a : Addr} {ns : List Str} (ha : H a = some (.lst (ns.map V.str))) : Dp K H (.ref a) (.list (ns.map .str)) := dp_lmap (fun n => .str _) ha
theorem neF {p : Prop} [Decidable p] (h : p) : (!decide p) = false := by simp [h]
theorem Pd.last {α : Type} {R : V → α → Prop} {xs : List V} {ds : List α} {d : α} (p : Paired R xs ds) (h : ds.getLast? = some d) : ∃ v, xs.getLast? = some v ∧ R v d := by
  rw [List.getLast?_eq_getElem?] at h
  have l := Pd.len p
  have hl : ds.length - 1 < ds.length := (List.getElem?_eq_some_iff.mp h).1
  have hx : xs.length - 1 < xs.length := by omega
  obtain ⟨d', e, r⟩ := Pd.at p (List.getElem?_eq_getElem hx)
  rw [l, h] at e
  cases e
  exact ⟨_, by rw [List.getLast?_eq_getElem?]; exact List.getElem?_eq_getElem hx, r⟩
theorem dp_on (o : Option Nat) : Dp K H (onV o) (match o with | none => .none | some n => .int (n : Int)) := by
  cases o
  · exact .non
  · exact .int _
end
theorem ok_ints (ns : List Nat) : okD 1 (.list (ns.map fun (n : Nat) => .int (n : Int))) := ok_lst fun d hd => by
  obtain ⟨n, _, rfl⟩ := List.mem_map.mp hd
  exact ok_int _
theorem ok_intsT (ns : List Nat) : okD 1 (.tuple (ns.map fun (n : Nat) => .int (n : Int))) := ok_tup fun d hd => by
  obtain ⟨n, _, rfl⟩ := List.mem_map.mp hd
  exact ok_int _
theorem ok_strs {ns : List Str} (h : ∀ x ∈ ns, strOkT x) : okD 1 (.list (ns.map .str)) := ok_lst fun d hd => by
  obtain ⟨n, q, rfl⟩ := List.mem_map.mp hd
  exact ok_str (h n q)
/-! ### rows and events -/
def Row.restD : Row → List PyData
  | .send n => [.int n] | .begin n t => [.int n, .int t] | .call n x => [.int n, .str x] | .make m n => [.int m, .int n] | .cancel n ns => [.int n, .tuple (ns.map fun (n : Nat) => .int (n : Int))]
  | .join n x => [.int n, .str x] | .leave n x => [.int n, .str x] | .hush n => [.int n] | .fin n => [.int n]
def Row.dat (r : Row) : PyData := .tuple (.str r.tag :: r.restD)
/-- the texts of a row are texts -/
def Row.txt : Row → Prop
  | .call _ x => strOkT x | .join _ x => strOkT x | .leave _ x => strOkT x | _ => True
theorem row_dp {K : PySem.W.Frag} {H : Hp} {v : V} {r : Row} (h : RowAt H v r) : Dp K H v r.dat := by
  obtain ⟨p, q, rfl, h1, h2⟩ := h
  refine .tup (SqT.of h1) (.cons (.str _) ?_)
  cases r <;> simp only [Row.rest, Row.restD, nV] <;> first | exact .cons (.int _) .nil | exact .cons (.int _) (.cons (.int _) .nil) | exact .cons (.int _) (.cons (.str _) .nil) | skip
  exact .cons (.int _) (.cons (.tup (SqT.of h2) (dp_map (fun n => .int _) _)) .nil)
theorem tag_ok (r : Row) : strOkT r.tag := by cases r <;> simp only [Row.tag] <;> unfold strOkT <;> decide +kernel
theorem row_ok {r : Row} (h : r.txt) : okD 2 r.dat := by
  refine ok_tup (ok_cons ((ok_str (tag_ok r)).mono (by decide)) ?_)
  cases r with
  | send n => exact ok_cons ((ok_int _).mono (by decide)) ok_nil
  | hush n => exact ok_cons ((ok_int _).mono (by decide)) ok_nil
  | fin n => exact ok_cons ((ok_int _).mono (by decide)) ok_nil
  | begin n t => exact ok_cons ((ok_int _).mono (by decide)) (ok_cons ((ok_int _).mono (by decide)) ok_nil)
  | make n t => exact ok_cons ((ok_int _).mono (by decide)) (ok_cons ((ok_int _).mono (by decide)) ok_nil)
  | call n x => exact ok_cons ((ok_int _).mono (by decide)) (ok_cons ((ok_str h).mono (by decide)) ok_nil)
  | join n x => exact ok_cons ((ok_int _).mono (by decide)) (ok_cons ((ok_str h).mono (by decide)) ok_nil)
  | leave n x => exact ok_cons ((ok_int _).mono (by decide)) (ok_cons ((ok_str h).mono (by decide)) ok_nil)
  | cancel n ns => exact ok_cons ((ok_int _).mono (by decide)) (ok_cons (ok_intsT ns) ok_nil)
theorem rows_dp {K : PySem.W.Frag} {H : Hp} {a : Addr} {rs : List Row} (h : LstAt RowAt H a rs) : Dp K H (.ref a) (.list (rs.map Row.dat)) := by
  obtain ⟨xs, ha, hx⟩ := h
  exact dp_lst (fun _ _ q => row_dp q) ha hx
theorem rows_ok {rs : List Row} (h : ∀ r ∈ rs, r.txt) : okD 3 (.list (rs.map Row.dat)) := ok_lst fun d hd => by
  obtain ⟨r, q, rfl⟩ := List.mem_map.mp hd
  exact row_ok (h r q)
def onD : Option Nat → PyData | none => .none | some n => .int (n : Int)
def Evt.dat (e : Evt) : PyData := .tuple [.str e.word, onD e.maker, .str e.road.str, .int e.due]
theorem onD_ok (o : Option Nat) : okD 0 (onD o) := by
  cases o
  · exact ok_non
  · exact ok_int _
theorem onD_dp {K : PySem.W.Frag} {H : Hp} (o : Option Nat) : Dp K H (onV o) (onD o) := by
  cases o
  · exact .non
  · exact .int _
theorem evt_dp {K : PySem.W.Frag} {H : Hp} {v : V} {e : Evt} (h : EvtAt H v e) : Dp K H v e.dat := by
  obtain ⟨p, rfl, h1⟩ := h
  exact .tup (SqT.of h1) (.cons (.str _) (.cons (onD_dp _) (.cons (.str _) (.cons (.int _) .nil))))
theorem road_ok (r : Road) : strOkT r.str := by cases r <;> simp only [Road.str] <;> unfold strOkT <;> decide +kernel
theorem evt_ok {e : Evt} (h : strOkT e.word) : okD 1 e.dat :=
  ok_tup (ok_cons (ok_str h) (ok_cons (onD_ok _) (ok_cons (ok_str (road_ok _)) (ok_cons (ok_int _) ok_nil))))
theorem evts_dp {K : PySem.W.Frag} {H : Hp} {a : Addr} {es : List Evt} (h : LstAt EvtAt H a es) : Dp K H (.ref a) (.list (es.map Evt.dat)) := by
  obtain ⟨xs, ha, hx⟩ := h
  exact dp_lst (fun _ _ q => evt_dp q) ha hx
theorem evts_ok {es : List Evt} (h : ∀ e ∈ es, strOkT e.word) : okD 2 (.list (es.map Evt.dat)) := ok_lst fun d hd => by
  obtain ⟨r, q, rfl⟩ := List.mem_map.mp hd
  exact evt_ok (h r q)
end Ev
namespace Ev
open PySem L2
/-! ### texts of letters -/
def ofL (cs : List Nat) : Str := ⟨cs.toArray⟩
theorem ofL_list (cs : List Nat) : (ofL cs).cps.toList = cs := rfl
theorem ofL_len (cs : List Nat) : (ofL cs).length = cs.length := rfl
theorem str_list (x : Str) : ofL x.cps.toList = x := rfl
theorem str_eq {x y : Str} (h : x.cps.toList = y.cps.toList) : x = y := by
  rw [← str_list x, ← str_list y, h]
theorem app_list (x y : Str) : (x ++ y).cps.toList = x.cps.toList ++ y.cps.toList := by
  show (x.cps ++ y.cps).toList = _
  simp
def abc : Str := "abcdefghijklmnopqrstuvwxyz"
theorem abc_nat : ∀ n < 26, abc.cps.toList[n]? = some (97 + n) := by decide +kernel
theorem abc_len : abc.length = 26 := by decide +kernel
theorem abc_at {i : Int} (h0 : 0 ≤ i) (h : i < 26) : atI abc.cps.toList i = some (97 + i.toNat) := by
  obtain ⟨n, rfl⟩ := Int.eq_ofNat_of_zero_le h0
  exact atI_nat (abc_nat n (by omega))
theorem joinL_nil : ∀ cs : List Nat, TL.joinL [] (cs.map fun c => [c]) = cs
  | [] => rfl
  | [c] => rfl
  | c :: d :: r => by
    have ih := joinL_nil (d :: r)
    show [c] ++ ([] ++ TL.joinL [] ((d :: r).map fun c => [c])) = _
    rw [ih]
    rfl
theorem join_letters (cs : List Nat) : Txt.join "" (cs.map fun c => (⟨#[c]⟩ : Str)) = ofL cs := by
  have e := TL.tl_join ("" : Str) (cs.map fun c => (⟨#[c]⟩ : Str))
  have e0 : TL.tl ("" : Str) = [] := by decide +kernel
  have e1 : (cs.map fun c => (⟨#[c]⟩ : Str)).map TL.tl = cs.map fun c => [c] := by
    rw [List.map_map]
    rfl
  rw [e0, e1, joinL_nil] at e
  have e2 := (congrArg TL.tl (TL.join_eq ("" : Str) (cs.map fun c => (⟨#[c]⟩ : Str)))).trans e
  exact str_eq e2
theorem sum_ones : ∀ cs : List Nat, ((cs.map fun c => (⟨#[c]⟩ : Str)).map fun x => x.length).sum = cs.length
  | [] => rfl
  | c :: cs => by
    rw [List.map_cons, List.map_cons, List.sum_cons, sum_ones cs, List.length_cons]
    show 1 + cs.length = cs.length + 1
    omega
theorem okT_letters {cs : List Nat} (h : ∀ c ∈ cs, 97 ≤ c ∧ c ≤ 122) : strOkT (ofL cs) := by
  unfold strOkT PyData.strOk
  rw [← Array.all_toList, List.all_eq_true]
  intro c hc
  have := h c hc
  simp
  omega
end Ev
namespace Ev
open PySem L2
/-! ### the order of triples -/
theorem triLt (a b : Tri) : PySem.W.dataLt (triD a) (triD b) = if a.1 = b.1 then (if a.2.1 = b.2.1 then PyProof.Rows.lexLt PyProof.Rows.itemOrd (PySem.W.keyToksAll [.str a.2.2]) (PySem.W.keyToksAll [.str b.2.2]) else decide (a.2.1 < b.2.1)) else decide (a.1 < b.1) := by
  unfold triD
  rw [PySem.W.dataLt_tuple, PySem.W.dataLt_cons (by simp [PySem.W.alike]), PySem.W.dataLt_cons (by simp [PySem.W.alike]), PySem.W.dataLt_int, PySem.W.dataLt_int]
  simp only [PyData.eqv, beq_iff_eq]
theorem tri_lt {a b : Tri} (h : a.1 < b.1 ∨ (a.1 = b.1 ∧ a.2.1 < b.2.1)) : triLe a b = true ∧ triLe b a = false := by
  constructor
  · show (!PySem.W.dataLt (triD b) (triD a)) = true
    rw [triLt]
    by_cases h1 : b.1 = a.1
    · rw [if_pos h1, if_neg (show ¬ b.2.1 = a.2.1 by omega), decide_eq_false (by omega)]; rfl
    · rw [if_neg h1, decide_eq_false (by omega)]; rfl
  · show (!PySem.W.dataLt (triD a) (triD b)) = false
    rw [triLt]
    by_cases h1 : a.1 = b.1
    · rw [if_pos h1, if_neg (show ¬ a.2.1 = b.2.1 by omega), decide_eq_true (by omega)]; rfl
    · rw [if_neg h1, decide_eq_true (by omega)]; rfl
theorem tri_rfl (a : Tri) : triLe a a = true := by
  show (!PySem.W.dataLt (triD a) (triD a)) = true
  rw [triLt, if_pos rfl, if_pos rfl, PyProof.Rows.lex_irrefl]
  rfl
end Ev
namespace Ev
open PySem L2
section
variable {P : Program} {w : World} {K : PySem.W.Frag} {mg : Str → Option Value} {base : Heap}
def sp_ltoldAt (K : PySem.W.Frag) : Sp := fun vs H Q _ => ∃ (a : Addr) (ns : List Int) (i : Nat), vs = [.ref a, nV i] ∧ SqL K H a (ns.map V.int) ∧ Q (.int (ns.getD i 0)) H
theorem ok_ltoldAt (T : Tx K mg) : FnOk P w K mg base CX0 1 T.f_ltoldAt T.d_ltoldAt ["_law_script", "_law_place_here"] (sp_ltoldAt K) := by
  refine T.F_ltoldAt.ok sc_ltoldAt (by walk_at "len") (fun cdv A outer s H vs Q E hr h => ?_)
  obtain ⟨a, ns, i, rfl, ha, k⟩ := h
  refine ⟨_, (pss_cons (ps_if (pt_cmpR op_ge (pv 1) (pe_callB (kLen K) (by rfl) T.z_len PySem.boot_len (pa_cons (pv 0) pa_nil)) (nomark _))
        (pss_one (ps_ret pe_int))
        pss_nil)
    (pss_one (ps_ret (pe_ix (kIxL K) (pv 0) (pv 1) (fun _ _ => rfl))))), ?_⟩
  refine ⟨_, rfl, _, rfl, a, _, rfl, .inl ha, _, _, rfl, rfl, _, rfl, ite2 (fun hc => ?_) (fun hc => ?_)⟩
  · have e : ns.getD i 0 = 0 := by
      have h1 := of_decide_eq_true hc
      rw [List.length_map] at h1
      rw [List.getD_eq_getElem?_getD, List.getElem?_eq_none (by omega)]
      rfl
    rw [e] at k
    exact k
  · have h1 : ¬ _ := fun q => hc (decide_eq_true q)
    rw [List.length_map] at h1
    have h2 : i < ns.length := by omega
    refine ⟨_, rfl, _, rfl, a, _, _, V.int (ns.getD i 0), rfl, rfl, ha, atI_nat ?_, k⟩
    rw [List.getElem?_map, List.getElem?_eq_getElem h2, List.getD_eq_getElem?_getD, List.getElem?_eq_getElem h2]
    rfl
end
end Ev
namespace Ev
open PySem L2
section
variable {P : Program} {w : World} {K : PySem.W.Frag} {mg : Str → Option Value} {base : Heap}
def primes7 : List Int := [10007, 20011, 30011, 40009, 50021, 60013, 70001]
def mixM (cell k many : Int) : Int := (cell + 31 * k) * 48271 % (primes7.getD (k % 7).toNat 1) % many
theorem mixM_lo {cell k many : Int} (h : 0 < many) : 0 ≤ mixM cell k many := Int.emod_nonneg _ (by omega)
theorem mixM_hi {cell k many : Int} (h : 0 < many) : mixM cell k many < many := Int.emod_lt_of_pos _ h
theorem primes_at (k : Int) : ∃ p : Int, 0 < p ∧ primes7.getD (k % 7).toNat 1 = p ∧ atI (primes7.map V.int) (k % 7) = some (V.int p) := by
  have h0 : 0 ≤ k % 7 := Int.emod_nonneg _ (by decide)
  have h7 : k % 7 < 7 := Int.emod_lt_of_pos _ (by decide)
  generalize k % 7 = j at h0 h7 ⊢
  obtain ⟨n, rfl⟩ := Int.eq_ofNat_of_zero_le h0
  have hn : n < 7 := by omega
  refine ⟨primes7.getD n 1, ?_, rfl, atI_nat ?_⟩
  · have : ∀ n < 7, 0 < primes7.getD n 1 := by decide
    exact this n hn
  · rw [List.getElem?_map, List.getD_eq_getElem?_getD, List.getElem?_eq_getElem (show n < primes7.length from hn)]
    rfl
def sp_lmixed (K : PySem.W.Frag) : Sp := fun vs H Q _ => ∃ (cell k many : Int), vs = [.int cell, .int k, .int many] ∧ 0 < many ∧ ∀ H', Kp [] H H' → Q (.int (mixM cell k many)) H'
theorem ok_lmixed (T : Tx K mg) : FnOk P w K mg base CX0 1 T.f_lmixed T.d_lmixed ["_law_cell", "_law_k", "_law_many"] (sp_lmixed K) := by
  refine T.F_lmixed.ok sc_lmixed (by walk_at "len") (fun cdv A outer s H vs Q E hr h => ?_)
  obtain ⟨cell, j, many, rfl, hm, k⟩ := h
  refine ⟨_, (pss_cons (ps_set (i := 3) sc_lmixed.nd rfl (Or.inl rfl) (pe_lst (pa_cons pe_int (pa_cons pe_int (pa_cons pe_int (pa_cons pe_int (pa_cons pe_int (pa_cons pe_int (pa_cons pe_int pa_nil)))))))))
    (pss_one (ps_ret (pe_op op_mod (pe_op op_mod (pe_op op_mul (pe_op op_add (pv 0) (pe_op op_mul pe_int (pv 1))) pe_int) (pe_ix (kIxL K) (pv 3) (pe_op op_mod (pv 1) pe_int) (fun _ _ => rfl))) (pv 2))))), ?_⟩
  obtain ⟨p, p0, ep, ea⟩ := primes_at j
  refine ⟨by show 7 ≤ sizeLine; decide, fun a ha => ?_⟩
  refine ⟨_, rfl, _, rfl, _, _, rfl, rfl, .inl (by decide), _, _, rfl, rfl, _, _, rfl, rfl, .inr (by decide), _, rfl, _, rfl, _, _, rfl, rfl, (by show (0 : Int) < 7; decide), a, _, _, V.int p, rfl, rfl, SqL.of upd_same, ea, _, _, rfl, rfl, p0, _, rfl, _, _, rfl, rfl, hm, ?_⟩
  have e : mixM cell j many = (cell + 31 * j) * 48271 % p % many := by rw [← ep]; rfl
  show Q (V.int ((cell + 31 * j) * 48271 % p % many)) _
  rw [← e]
  exact k _ ((Kp.refl _ _).new ha)
end
end Ev
namespace Ev
open PySem L2
/-! ### words of the law's own -/
theorem ofL_app (a b : List Nat) : ofL a ++ ofL b = ofL (a ++ b) := str_eq (by rw [app_list]; rfl)
theorem cutS_to (cs : List Nat) {k : Nat} (h : k ≤ cs.length) : cutS (ofL cs) none (some (k : Int)) = ofL (cs.take k) := by
  refine str_eq ?_
  show ((cs.drop (HT.sIx cs.length 0 none)).take (HT.sIx cs.length cs.length (some (k : Int)) - HT.sIx cs.length 0 none)) = cs.take k
  rw [HT.sIx_none, HT.sIx_nat, Nat.min_eq_left h]
  rfl
theorem cutS_from (cs : List Nat) {k : Nat} (h : k ≤ cs.length) : cutS (ofL cs) (some (k : Int)) none = ofL (cs.drop k) := by
  refine str_eq ?_
  show ((cs.drop (HT.sIx cs.length 0 (some (k : Int)))).take (HT.sIx cs.length cs.length none - HT.sIx cs.length 0 (some (k : Int)))) = cs.drop k
  rw [HT.sIx_none, HT.sIx_nat, Nat.min_eq_left h]
  exact List.take_of_length_le (by simp)
def isLet (cs : List Nat) : Prop := ∀ c ∈ cs, 97 ≤ c ∧ c ≤ 122
theorem isLet_sub {a b : List Nat} (s : ∀ c ∈ a, c ∈ b) (h : isLet b) : isLet a := fun c hc => h c (s c hc)
theorem isLet_app {a b : List Nat} (ha : isLet a) (hb : isLet b) : isLet (a ++ b) := fun c hc => (List.mem_append.mp hc).elim (ha c) (hb c)
end Ev
namespace Ev
open PySem L2
/-! ### those that hear, in order -/
theorem handlerOf_mem2 {hs : List Hnd} {x : Str} {h : Hnd} (e : handlerOf hs x = some h) : h ∈ hs ∧ h.name = x := by
  unfold handlerOf at e
  exact ⟨List.mem_of_find?_eq_some e, of_decide_eq_true (List.find?_some (p := fun h : Hnd => decide (h.name = x)) e)⟩
theorem handlerOf_of2 {hs : List Hnd} (nd : (hs.map Hnd.name).Nodup) {h : Hnd} (hm : h ∈ hs) : handlerOf hs h.name = some h := by
  cases e : handlerOf hs h.name with
  | none =>
    unfold handlerOf at e
    have := List.find?_eq_none.mp e h hm
    simp at this
  | some g =>
    obtain ⟨h1, h2⟩ := handlerOf_mem2 e
    obtain ⟨i, hi⟩ := List.getElem?_of_mem hm
    obtain ⟨j, hj⟩ := List.getElem?_of_mem h1
    have e : i = j := nd_ix nd (show (hs.map Hnd.name)[i]? = some h.name by rw [List.getElem?_map, hi]; rfl) (show (hs.map Hnd.name)[j]? = some h.name by rw [List.getElem?_map, hj]; show some g.name = _; rw [h2])
    subst e
    rw [hi] at hj
    cases hj
    rfl
def hearsOk (z : Str) (h : Hnd) : Bool := decide (h.hears = "" ∨ h.hears = z)
theorem hearRows_mem {hs : List Hnd} {z : Str} : ∀ {l : List Str} {i : Nat} {t : Tri}, t ∈ hearRows hs z i l → ∃ (m : Nat) (h : Hnd), l[m]? = some t.2.2 ∧ t.2.1 = ((i + m : Nat) : Int) ∧ handlerOf hs t.2.2 = some h ∧ t.1 = h.rank ∧ (h.hears = "" ∨ h.hears = z)
  | [], _, _, h => by simp [hearRows] at h
  | x :: l, i, t, h => by
    rw [hearRows] at h
    rcases List.mem_append.mp h with q | q
    · unfold hearRow at q
      cases e : handlerOf hs x with
      | none => rw [e] at q; simp at q
      | some hh =>
        rw [e] at q
        simp only [Option.bind_some] at q
        split at q
        · rename_i hc
          simp at q
          subst q
          exact ⟨0, hh, rfl, rfl, e, rfl, hc⟩
        · simp at q
    · obtain ⟨m, hh, h1, h2, h3⟩ := hearRows_mem q
      exact ⟨m + 1, hh, h1, by rw [h2]; congr 1; omega, h3⟩
theorem hearRows_up {hs : List Hnd} {z : Str} : ∀ {l : List Str} {i : Nat}, (hearRows hs z i l).Pairwise fun a b => a.2.1 < b.2.1
  | [], _ => .nil
  | x :: l, i => by
    rw [hearRows]
    refine List.pairwise_append.mpr ⟨?_, hearRows_up, fun a ha b hb => ?_⟩
    · cases hearRow hs z i x <;> simp
    · obtain ⟨m, h, h1, h2, _⟩ := hearRows_mem hb
      have : a.2.1 = (i : Int) := by
        unfold hearRow at ha
        cases e : handlerOf hs x with
        | none => rw [e] at ha; simp at ha
        | some hh =>
          rw [e] at ha
          simp only [Option.bind_some] at ha
          split at ha
          · simp at ha; subst ha; rfl
          · simp at ha
      omega
def lexT (a b : Tri) : Prop := a.1 < b.1 ∨ (a.1 = b.1 ∧ a.2.1 < b.2.1)
theorem tri_pair {l : List Tri} (h : l.Pairwise fun a b => a.2.1 < b.2.1) : ∀ a ∈ l, ∀ b ∈ l, a = b ∨ a.2.1 ≠ b.2.1 := by
  induction l with
  | nil => exact fun _ h => nomatch h
  | cons x l ih =>
    obtain ⟨p1, p2⟩ := List.pairwise_cons.mp h
    intro a ha b hb
    rcases List.mem_cons.mp ha with ea | ha
    · rcases List.mem_cons.mp hb with eb | hb
      · exact .inl (ea.trans eb.symm)
      · have := p1 b hb; rw [ea]; exact .inr (by omega)
    · rcases List.mem_cons.mp hb with eb | hb
      · have := p1 a ha; rw [eb]; exact .inr (by omega)
      · exact ih p2 a ha b hb
def leP2 (a b : Int × Int) : Bool := decide (a.1 < b.1 ∨ (a.1 = b.1 ∧ a.2 ≤ b.2))
/-- the sorted rows rise -/
theorem sorted_up (hs : List Hnd) (z : Str) (l : List Str) : ((hearRows hs z 0 l).mergeSort triLe).Pairwise lexT := by
  have up : (hearRows hs z 0 l).Pairwise fun a b => a.2.1 < b.2.1 := hearRows_up
  have tp := tri_pair up
  have e := List.map_mergeSort (r := triLe) (s := leP2) (f := fun t : Tri => (t.1, t.2.1)) (l := hearRows hs z 0 l) fun a ha b hb => by
    show triLe a b = decide (a.1 < b.1 ∨ (a.1 = b.1 ∧ a.2.1 ≤ b.2.1))
    rcases tp a ha b hb with e | n
    · subst e
      rw [tri_rfl]
      exact (decide_eq_true (by omega)).symm
    · by_cases h1 : a.1 < b.1 ∨ (a.1 = b.1 ∧ a.2.1 < b.2.1)
      · rw [(tri_lt h1).1]
        exact (decide_eq_true (by omega)).symm
      · rw [(tri_lt (a := b) (b := a) (by omega)).2]
        exact (decide_eq_false (by omega)).symm
  have p1 : (((hearRows hs z 0 l).mergeSort triLe).map fun t : Tri => (t.1, t.2.1)).Pairwise fun a b => leP2 a b = true := by
    rw [e]
    refine List.pairwise_mergeSort (fun a b c h1 h2 => ?_) (fun a b => ?_) _
    · unfold leP2 at *
      have h1 := of_decide_eq_true h1
      have h2 := of_decide_eq_true h2
      exact decide_eq_true (by omega)
    · unfold leP2
      by_cases q : a.1 < b.1 ∨ (a.1 = b.1 ∧ a.2 ≤ b.2)
      · rw [decide_eq_true q]; rfl
      · rw [decide_eq_true (show b.1 < a.1 ∨ (b.1 = a.1 ∧ b.2 ≤ a.2) by omega)]; simp
  have p2 : ((hearRows hs z 0 l).mergeSort triLe).Pairwise fun a b => a.2.1 ≠ b.2.1 := by
    have n : ((hearRows hs z 0 l).map fun t : Tri => t.2.1).Nodup := (List.pairwise_map.mpr up).imp fun h => by omega
    have n2 := (((List.mergeSort_perm (hearRows hs z 0 l) triLe).map fun t : Tri => t.2.1).nodup_iff).mpr n
    exact List.pairwise_map.mp n2
  refine (List.Pairwise.and (List.pairwise_map.mp p1) p2).imp fun {a b} h => ?_
  have h1 := of_decide_eq_true h.1
  have h2 := h.2
  unfold lexT
  simp only at h1
  omega
theorem sorted_mem {hs : List Hnd} {z : Str} {l : List Str} {t : Tri} (h : t ∈ (hearRows hs z 0 l).mergeSort triLe) : ∃ (m : Nat) (hh : Hnd), l[m]? = some t.2.2 ∧ t.2.1 = (m : Int) ∧ handlerOf hs t.2.2 = some hh ∧ t.1 = hh.rank ∧ (hh.hears = "" ∨ hh.hears = z) := by
  obtain ⟨m, hh, h1, h2, h3⟩ := hearRows_mem ((List.mergeSort_perm _ _).mem_iff.mp h)
  exact ⟨m, hh, h1, by rw [h2, Nat.zero_add], h3⟩
theorem hearRows_count {hs : List Hnd} {z : Str} : ∀ {l : List Str} {i : Nat}, (hearRows hs z i l).length = (l.filter fun x => ((handlerOf hs x).map (hearsOk z)).getD false).length
  | [], _ => rfl
  | x :: l, i => by
    rw [hearRows, List.length_append, hearRows_count, List.filter_cons]
    unfold hearRow
    cases e : handlerOf hs x with
    | none => simp
    | some h =>
      by_cases q : h.hears = "" ∨ h.hears = z
      · have : hearsOk z h = true := decide_eq_true q
        simp [q, this]
        omega
      · have : hearsOk z h = false := decide_eq_false q
        simp [q, this]
/-- so many are found as hear -/
theorem found_len {hs : List Hnd} (nd : (hs.map Hnd.name).Nodup) {z : Str} {ns : List Str} {p : Hnd → Bool} (pm : ns.Perm ((hs.filter p).map Hnd.name)) : (hearersM hs ns z).length = (hs.filter fun h => decide (h.name ∈ ns) && decide (h.hears ∈ (["", z] : List Str))).length := by
  unfold hearersM
  rw [List.length_map, List.length_mergeSort, hearRows_count, (pm.filter _).length_eq, List.filter_map, List.length_map, List.filter_filter]
  congr 1
  refine List.filter_congr fun h hh => ?_
  have h1 : decide (h.name ∈ ns) = p h := by
    cases e : p h with
    | true => exact decide_eq_true (pm.mem_iff.mpr (List.mem_map.mpr ⟨h, List.mem_filter.mpr ⟨hh, e⟩, rfl⟩))
    | false =>
      refine decide_eq_false fun q => ?_
      obtain ⟨g, hg, eg⟩ := List.mem_map.mp (pm.mem_iff.mp q)
      obtain ⟨g1, g2⟩ := List.mem_filter.mp hg
      have e1 := handlerOf_of2 nd g1
      rw [eg, handlerOf_of2 nd hh] at e1
      cases e1
      rw [e] at g2
      cases g2
  rw [h1]
  show (((handlerOf hs h.name).map (hearsOk z)).getD false && p h) = _
  rw [handlerOf_of2 nd hh, Bool.and_comm]
  congr 1
  show decide (h.hears = "" ∨ h.hears = z) = _
  exact decide_eq_decide.mpr (by simp)
end Ev
namespace Ev
open PySem L2
section
variable {P : Program} {w : World} {K : PySem.W.Frag} {mg : Str → Option Value} {base : Heap}
theorem pickStr (ws : List Str) {i : Int} (h0 : 0 ≤ i) (h1 : i < ws.length) : ∃ x ∈ ws, atI (ws.map V.str) i = some (V.str x) := by
  obtain ⟨n, rfl⟩ := Int.eq_ofNat_of_zero_le h0
  have hn : n < ws.length := by omega
  refine ⟨ws[n], List.getElem_mem hn, atI_nat ?_⟩
  rw [List.getElem?_map, List.getElem?_eq_getElem hn]
  rfl
theorem seq_cut {t u : TS} {D : Ends} {σ : L2.St} {H : Hp} (P : L2.St → Hp → Prop) (h2 : ∀ σ' H', P σ' H' → u D σ' H') (h1 : ∀ N : L2.St → Hp → Prop, (∀ σ' H', P σ' H' → N σ' H') → t { D with nx := N } σ H) : tSeq t u D σ H := h1 _ h2
def hear4 : List Str := ["", "bell", "bull", "bellbellbell"]
theorem hear4_ok : ∀ x ∈ hear4, strOkT x := by
  unfold strOkT
  decide +kernel
/-- a name: a tail with two letters in it -/
def tailL (b : Int) : List Nat := (List.range (b / 26 % 11).toNat).map fun (i : Nat) => 97 + ((b + 3 * (i : Int)) % 26).toNat
def cutK (b : Int) : Nat := (b / 286 % ((tailL b).length + 1 : Int)).toNat
def midL (b : Int) (j : Nat) : List Nat := [97 + (((j : Int) + b) % 26).toNat, 97 + j / 26]
def nmL (b : Int) (j : Nat) : List Nat := (tailL b).take (cutK b) ++ midL b j ++ (tailL b).drop (cutK b)
def nmM (b : Int) (j : Nat) : Str := ofL (nmL b j)
theorem tailL_len (b : Int) : (tailL b).length = (b / 26 % 11).toNat := by unfold tailL; rw [List.length_map, List.length_range]
theorem cutK_le (b : Int) : (cutK b : Int) = b / 286 % ((tailL b).length + 1 : Int) ∧ cutK b ≤ (tailL b).length := by
  have h0 : 0 ≤ b / 286 % ((tailL b).length + 1 : Int) := Int.emod_nonneg _ (by omega)
  have h1 : b / 286 % ((tailL b).length + 1 : Int) < ((tailL b).length + 1 : Int) := Int.emod_lt_of_pos _ (by omega)
  unfold cutK
  omega
theorem tailL_let (b : Int) : isLet (tailL b) := fun x hx => by
  obtain ⟨i, _, rfl⟩ := List.mem_map.mp hx
  have h0 : 0 ≤ (b + 3 * (i : Int)) % 26 := Int.emod_nonneg _ (by decide)
  have h1 : (b + 3 * (i : Int)) % 26 < 26 := Int.emod_lt_of_pos _ (by decide)
  omega
theorem nmL_let (b : Int) {j : Nat} (hj : j < 600) : isLet (nmL b j) := by
  refine isLet_app (isLet_app (isLet_sub (fun c hc => List.mem_of_mem_take hc) (tailL_let b)) fun c hc => ?_) (isLet_sub (fun c hc => List.mem_of_mem_drop hc) (tailL_let b))
  have h0 : 0 ≤ ((j : Int) + b) % 26 := Int.emod_nonneg _ (by decide)
  have h1 : ((j : Int) + b) % 26 < 26 := Int.emod_lt_of_pos _ (by decide)
  simp only [midL, List.mem_cons, List.not_mem_nil, or_false] at hc
  omega
theorem nmM_inj {b : Int} {i j : Nat} (h : nmM b i = nmM b j) : i = j := by
  have h : nmL b i = nmL b j := congrArg (fun x : Str => x.cps.toList) h
  unfold nmL at h
  have h := List.append_cancel_right h
  have h := List.append_cancel_left h
  unfold midL at h
  simp only [List.cons.injEq, and_true] at h
  have h0 : 0 ≤ ((i : Int) + b) % 26 := Int.emod_nonneg _ (by decide)
  have h1 : 0 ≤ ((j : Int) + b) % 26 := Int.emod_nonneg _ (by decide)
  omega
theorem nmL_len (b : Int) (j : Nat) : (nmL b j).length ≤ 12 := by
  have h1 := tailL_len b
  have h2 : 0 ≤ b / 26 % 11 := Int.emod_nonneg _ (by decide)
  have h3 : b / 26 % 11 < 11 := Int.emod_lt_of_pos _ (by decide)
  unfold nmL midL
  rw [List.length_append, List.length_append, List.length_take, List.length_drop]
  show min _ _ + 2 + _ ≤ 12
  omega
theorem abc_at' {i : Nat} (h : i < 26) : atI abc.cps.toList (i : Int) = some (97 + i) := atI_nat (abc_nat i h)
def sp_lnameBy : Sp := fun vs H Q _ => ∃ (b : Int) (j : Nat), vs = [.int b, nV j] ∧ j < 600 ∧ ∀ H', Kp [] H H' → Q (.str (nmM b j)) H'
theorem ok_lnameBy (T : Tx K mg) : FnOk P w K mg base CX0 1 T.f_lnameBy T.d_lnameBy ["_law_cell", "_law_k"] (sp_lnameBy) := by
  refine T.F_lnameBy.ok sc_lnameBy (by walk_at "len") (fun cdv A outer s H vs Q E hr h => ?_)
  obtain ⟨b, j, rfl, hj, k⟩ := h
  refine ⟨_, (pss_cons (ps_set (i := 2) sc_lnameBy.nd rfl (Or.inr rfl) pe_str)
    (pss_cons (ps_set (i := 4) sc_lnameBy.nd rfl (Or.inl rfl) (pe_join pe_str (pe_lc (own := [("_law_at", 3)]) (g := gName 3) (tt := tYes) rfl sc_lnameBy.nd (pi_range1 rfl T.z_range (pa_cons (pe_op op_mod (pe_op op_fdiv (pv 0) pe_int) pe_int) pa_nil)) (blkOk_by (own := [("_law_at", 3)]) (N := nm_lnameBy) (sc := defScope s_lnameBy) (by decide +kernel)) (fun _ _ _ _ _ => (pg_name (i := 3) sc_lnameBy.nd rfl (Or.inl rfl))) (fun _ _ _ _ _ => pts_nil) (fun _ _ _ _ _ => (pe_ix ix_str (pv 2) (pe_op op_mod (pe_op op_add (pv 0) (pe_op op_mul pe_int (pv 3))) pe_int) (fun _ _ => rfl))))))
    (pss_cons (ps_set (i := 3) sc_lnameBy.nd rfl (Or.inl rfl) (pe_op op_mod (pe_op op_fdiv (pv 0) pe_int) (pe_op op_add (pe_callB call_len_str (by rfl) T.z_len PySem.boot_len (pa_cons (pv 4) pa_nil)) pe_int)))
    (pss_cons (ps_set (i := 5) sc_lnameBy.nd rfl (Or.inl rfl) (pe_op op_add_str (pe_ix ix_str (pv 2) (pe_op op_mod (pe_op op_add (pv 1) (pv 0)) pe_int) (fun _ _ => rfl)) (pe_ix ix_str (pv 2) (pe_op op_fdiv (pv 1) pe_int) (fun _ _ => rfl))))
    (pss_one (ps_ret (pe_op op_add_str (pe_op op_add_str (pe_slice sl_str (pv 4) po_none (po_some (pv 3))) (pv 5)) (pe_slice sl_str (pv 4) (po_some (pv 3)) po_none)))))))), ?_⟩
  have s0 : 0 ≤ b / 26 % 11 := Int.emod_nonneg _ (by decide)
  have s1 : b / 26 % 11 < 11 := Int.emod_lt_of_pos _ (by decide)
  have al : abc.length ≤ sizeLine := Nat.le_trans (Nat.le_of_eq abc_len) (by decide)
  have cl : ∀ n : Nat, n ≤ 40 → n ≤ sizeLine := fun n h => Nat.le_trans h (by decide)
  walk_at "nf"
  refine ⟨⟨_, rfl⟩, ?_⟩
  refine lc_go ?_
  refine ⟨_, rfl, _, _, rfl, rfl, ⟨by decide, by decide⟩, _, _, rfl, rfl, (by show (0 : Int) < 11; decide), _, rfl, (by omega), (by omega), ?_⟩
  let ix : Nat → Int := fun i => (b + 3 * (i : Int)) % 26
  have i0 : ∀ i, 0 ≤ ix i := fun i => Int.emod_nonneg _ (by decide)
  have i1 : ∀ i, ix i < 26 := fun i => Int.emod_lt_of_pos _ (by decide)
  refine lc_rmp (fun i => V.str ⟨#[97 + (ix i).toNat]⟩) (Nat.lt_of_le_of_lt (show (b / 26 % 11).toNat ≤ 12 by omega) (by decide)) (fun x => rfl) ?_ ?_
  · intro i H' Q' hi kp q
    rw [Int.zero_add]
    exact ⟨_, rfl, _, rfl, _, rfl, _, _, rfl, rfl, .inl (by decide), _, _, rfl, rfl, _, _, rfl, rfl, (by show (0 : Int) < 26; decide), _, _, _, rfl, rfl, al, abc_at (i0 i) (i1 i), q _ (Kp.refl _ _)⟩
  · intro D H' hD kp e
    have en : (List.range (b / 26 % 11).toNat).map (fun i => V.str ⟨#[97 + (ix i).toNat]⟩) = ((tailL b).map fun c => (⟨#[c]⟩ : Str)).map V.str := by
      unfold tailL
      rw [List.map_map, List.map_map]
      rfl
    have e : H' D = some (.lst ((List.range (b / 26 % 11).toNat).map (fun i => V.str ⟨#[97 + (ix i).toNat]⟩))) := e
    rw [en] at e
    have lc := tailL_len b
    refine ⟨"", D, _, rfl, rfl, .inl (SqL.of e), ?_, ?_⟩
    · rw [sum_ones]
      have e8 : ("" : Str).length = 0 := by decide +kernel
      rw [e8]
      omega
    · rw [join_letters]
      obtain ⟨c1, c2⟩ := cutK_le b
      refine ⟨_, rfl, _, _, rfl, rfl, ⟨by decide, by decide⟩, _, rfl, _, rfl, cl _ (by rw [ofL_len]; omega), _, _, rfl, rfl, _, _, rfl, rfl, (by show (0 : Int) < (((ofL (tailL b)).length : Nat) : Int) + 1; omega), ?_⟩
      dsimp only
      rw [show (b / 286 % ((((ofL (tailL b)).length : Nat) : Int) + 1)) = ((cutK b : Nat) : Int) from c1.symm]
      have j0 : 0 ≤ ((j : Int) + b) % 26 := Int.emod_nonneg _ (by decide)
      have j1 : ((j : Int) + b) % 26 < 26 := Int.emod_lt_of_pos _ (by decide)
      have e2 : (j : Int) / 26 = ((j / 26 : Nat) : Int) := by omega
      refine ⟨_, rfl, _, rfl, _, rfl, _, _, rfl, rfl, _, _, rfl, rfl, (by show (0 : Int) < 26; decide), _, _, _, rfl, rfl, al, abc_at j0 j1, ?_⟩
      refine ⟨_, rfl, _, rfl, _, _, rfl, rfl, ⟨by decide, by decide⟩, _, _, _, rfl, rfl, al, (by rw [e2]; exact abc_at' (by omega)), _, _, rfl, rfl, (by show 2 ≤ sizeLine; decide), ?_⟩
      have tl := nmL_len b j
      unfold nmL midL at tl
      rw [List.length_append, List.length_append] at tl
      refine ⟨_, rfl, _, rfl, _, rfl, _, rfl, cl _ (by rw [ofL_len]; omega), _, rfl, _, _, rfl, rfl, ?_, _, rfl, _, rfl, _, rfl, _, rfl, cl _ (by rw [ofL_len]; omega), _, _, rfl, rfl, ?_, ?_⟩
      · rw [cutS_to (tailL b) c2, ofL_len]
        exact cl _ (by show _ + 2 ≤ 40; have : [97 + (((j : Int) + b) % 26).toNat, 97 + j / 26].length = 2 := rfl; omega)
      · rw [cutS_to (tailL b) c2, cutS_from (tailL b) c2]
        show (ofL ((tailL b).take (cutK b)) ++ ofL [97 + (((j : Int) + b) % 26).toNat, 97 + j / 26]).length + (ofL ((tailL b).drop (cutK b))).length ≤ _
        rw [ofL_app, ofL_len, ofL_len, List.length_append]
        exact cl _ (by omega)
      · rw [cutS_to (tailL b) c2, cutS_from (tailL b) c2]
        show Q (.str ((ofL ((tailL b).take (cutK b)) ++ ofL (midL b j)) ++ ofL ((tailL b).drop (cutK b)))) _
        rw [ofL_app, ofL_app]
        exact k _ kp
theorem hush_ok : strOkT ("hush" : Str) := by
  unfold strOkT
  decide +kernel
/-- a handler handed in with the one deed hush -/
def HndL (H : Hp) (v : V) (h : Hnd) : Prop := ∃ p q t, v = .ref p ∧ H p = some (.tup [.str h.name, .int h.rank, .str h.hears, .bl h.once, .ref q]) ∧ H q = some (.lst [.ref t]) ∧ H t = some (.tup [.str "hush"])
theorem HndL.kp {H H' : Hp} (k : Kp [] H H') {v : V} {h : Hnd} (x : HndL H v h) : HndL H' v h := by
  obtain ⟨p, q, t, e, h1, h2, h3⟩ := x
  exact ⟨p, q, t, e, k.tk _ _ h1, k.keep0 h2, k.tk _ _ h3⟩
theorem HndL.t {H : Hp} {v : V} {h : Hnd} (x : HndL H v h) : HndT H v h := by
  obtain ⟨p, q, t, e, h1, _⟩ := x
  exact ⟨p, _, e, h1⟩
def HndX2 (D : Addr) (H : Hp) (v : V) (h : Hnd) : Prop := ∃ p q t, v = .ref p ∧ q ≠ D ∧ H p = some (.tup [.str h.name, .int h.rank, .str h.hears, .bl h.once, .ref q]) ∧ H q = some (.lst [.ref t]) ∧ H t = some (.tup [.str "hush"])
theorem HndX2.kp {D : Addr} {H H' : Hp} (k : Kp [D] H H') {v : V} {h : Hnd} (x : HndX2 D H v h) : HndX2 D H' v h := by
  obtain ⟨p, q, t, e, n, h1, h2, h3⟩ := x
  exact ⟨p, q, t, e, n, k.tk _ _ h1, k.keep _ _ (by simpa using n) h2, k.tk _ _ h3⟩
theorem HndX2.l {D : Addr} {H : Hp} {v : V} {h : Hnd} (x : HndX2 D H v h) : HndL H v h := by
  obtain ⟨p, q, t, e, n, h1, h2, h3⟩ := x
  exact ⟨p, q, t, e, h1, h2, h3⟩
structure GoodH (b : Int) (j : Nat) (h : Hnd) : Prop where
  nm : h.name = nmM b j
  hr : strOkT h.hears
def sp_lhandlerBy (K : PySem.W.Frag) : Sp := fun vs H Q _ => ∃ (cell b : Int) (j : Nat), vs = [.int cell, .int b, nV j] ∧ j < 600 ∧ ∀ v h H', Kp [] H H' → (∀ D o, H D = some o → HndX2 D H' v h) → GoodH b j h → Q v H'
theorem ok_lhandlerBy (T : Tx K mg) : FnOk P w K mg base CX0 2 T.f_lhandlerBy T.d_lhandlerBy ["_law_cell", "_law_base", "_law_k"] (sp_lhandlerBy K) := by
  refine T.F_lhandlerBy.ok sc_lhandlerBy (by walk_at "len") (fun cdv A outer s H vs Q E hr h => ?_)
  obtain ⟨cell, b, j, rfl, hj, k⟩ := h
  refine ⟨_, (pss_cons (ps_set (i := 3) sc_lhandlerBy.nd rfl (Or.inl rfl) (pe_op op_sub (pe_call (ok_lmixed T) (hr.mono (by decide)) rfl T.g_lmixed T.F_lmixed.kp T.b_lmixed .nil pass0 (pa_cons (pv 0) (pa_cons pe_int (pa_cons pe_int pa_nil)))) pe_int))
    (pss_cons (ps_if (pt_cmpR op_eq (pe_call (ok_lmixed T) (hr.mono (by decide)) rfl T.g_lmixed T.F_lmixed.kp T.b_lmixed .nil pass0 (pa_cons (pv 0) (pa_cons pe_int (pa_cons pe_int pa_nil)))) pe_int (nomark _))
        (pss_one (ps_set (i := 3) sc_lhandlerBy.nd rfl (Or.inl rfl) (pv 0)))
        pss_nil)
    (pss_cons (ps_set (i := 4) sc_lhandlerBy.nd rfl (Or.inl rfl) (pe_ix (kIxL K) (pe_lst (pa_cons pe_str (pa_cons pe_str (pa_cons pe_str (pa_cons pe_str pa_nil))))) (pe_call (ok_lmixed T) (hr.mono (by decide)) rfl T.g_lmixed T.F_lmixed.kp T.b_lmixed .nil pass0 (pa_cons (pv 0) (pa_cons pe_int (pa_cons pe_int pa_nil)))) (fun _ _ => rfl)))
    (pss_one (ps_ret (pe_tup (pa_cons (pe_call (ok_lnameBy T) (hr.mono (by decide)) rfl T.g_lnameBy T.F_lnameBy.kp T.b_lnameBy .nil pass0 (pa_cons (pv 1) (pa_cons (pv 2) pa_nil))) (pa_cons (pv 3) (pa_cons (pv 4) (pa_cons (pe_cmpR op_eq (pe_call (ok_lmixed T) (hr.mono (by decide)) rfl T.g_lmixed T.F_lmixed.kp T.b_lmixed .nil pass0 (pa_cons (pv 0) (pa_cons pe_int (pa_cons pe_int pa_nil)))) pe_int (nomark _)) (pa_cons (pe_lst (pa_cons (pe_tup (pa_cons pe_str pa_nil)) pa_nil)) pa_nil))))))))))), ?_⟩
  refine seq_go (asg_go ?_)
  refine ⟨_, rfl, _, _, _, rfl, (by decide), fun H2 k2 => ⟨_, _, rfl, rfl, ?_⟩⟩
  dsimp only [gName]
  refine seq_cut (fun σ' H' => ∃ rk : Int, Kp [] H H' ∧ σ' = [some (.int cell), some (.int b), some (nV j), some (.int rk), none]) ?_ ?_
  rotate_left
  · intro N hN
    refine ⟨_, rfl, _, _, _, rfl, (by decide), fun H3 k3 => ⟨rfl, _, rfl, ite2 (fun hq => ?_) (fun hq => ?_)⟩⟩
    · exact ⟨_, rfl, hN _ _ ⟨_, k2.trans k3, rfl⟩⟩
    · exact hN _ _ ⟨_, k2.trans k3, rfl⟩
  rintro σ' H4 ⟨rk, k14, rfl⟩
  refine seq_go (asg_go ?_)
  refine ⟨(by show 4 ≤ sizeLine; decide), fun l0 hl0 => ?_⟩
  have i1 := (Kp.refl [] H4).new (o := .lst (hear4.map V.str)) hl0
  have gl : upd H4 l0 (.lst (hear4.map V.str)) l0 = some (.lst (hear4.map V.str)) := upd_same
  change Kp [] H4 (upd H4 l0 (.lst [V.str "", V.str "bell", V.str "bull", V.str "bellbellbell"])) at i1
  change upd H4 l0 (.lst [V.str "", V.str "bell", V.str "bull", V.str "bellbellbell"]) l0 = _ at gl
  generalize upd H4 l0 (.lst [V.str "", V.str "bell", V.str "bull", V.str "bellbellbell"]) = H5 at i1 gl ⊢
  refine ⟨_, rfl, _, _, _, rfl, (by decide), fun H6 k6 => ?_⟩
  obtain ⟨z, hzm, ez⟩ := pickStr hear4 (i := mixM cell 3 4) (mixM_lo (by decide)) (mixM_hi (by decide))
  have hz := hear4_ok z hzm
  refine ⟨l0, _, _, _, rfl, rfl, SqL.of (k6.keep0 gl), ez, ?_⟩
  have k16 := (k14.trans i1).trans k6
  refine ⟨_, rfl, _, rfl, b, j, rfl, hj, fun H7 k7 => ⟨_, rfl, _, rfl, _, rfl, _, _, _, rfl, (by decide), fun H8 k8 => ⟨rfl, (by show 1 ≤ sizeLine; decide), fun t0 ht0 => ⟨(by show 1 ≤ sizeLine; decide), fun D hD => ⟨(by show 5 ≤ sizeLine; decide), fun t ht => ?_⟩⟩⟩⟩⟩
  have k18 := (k16.trans k7).trans k8
  generalize (decide (V.int (mixM cell 4 2) = V.int 0)) = once at ht ⊢
  have kt0 := (Kp.refl [] H8).new (o := .tup [.str "hush"]) ht0
  have et0 : upd H8 t0 (.tup [.str "hush"]) t0 = some (.tup [.str "hush"]) := upd_same
  generalize upd H8 t0 (.tup [.str "hush"]) = H9 at kt0 et0 hD ht ⊢
  have kD := (Kp.refl [] H9).new (o := .lst [.ref t0]) hD
  have eD : upd H9 D (.lst [.ref t0]) D = some (.lst [.ref t0]) := upd_same
  generalize upd H9 D (.lst [.ref t0]) = H10 at kD eD ht ⊢
  have kt := (Kp.refl [] H10).new (o := .tup [.str (nmM b j), .int rk, .str z, .bl once, .ref D]) ht
  exact k _ ⟨nmM b j, rk, z, once, [.hush]⟩ _ (((k18.trans kt0).trans kD).trans kt) (fun D' o' e' => ⟨t, D, t0, rfl, (fun q => by rw [q, (k18.trans kt0).keep0 e'] at hD; cases hD), upd_same, kt.keep0 eD, kt.tk _ _ (kD.tk _ _ et0)⟩) ⟨rfl, hz⟩
/-! ### the place of a name -/
def sp_lplace : Sp := fun vs H Q _ => ∃ (a : Addr) (x : Str) (ns : List Str) (i : Nat), vs = [.str x, .ref a] ∧ H a = some (.lst (ns.map V.str)) ∧ ns.length ≤ 1000 ∧ ns.Nodup ∧ ns[i]? = some x ∧ Q (nV i) H
theorem ok_lplace (T : Tx K mg) : FnOk P w K mg base CX0 1 T.f_lplace T.d_lplace ["_law_name", "_law_names"] (sp_lplace) := by
  refine T.F_lplace.ok sc_lplace (by walk_at "len") (fun cdv A outer s H vs Q E hr h => ?_)
  obtain ⟨a, x, ns, i, rfl, ha, hl, nd, hi, k⟩ := h
  refine ⟨_, (pss_cons (ps_for PassesOwn.never rfl (pi_range1 rfl T.z_range (pa_cons (pe_callB (kLen K) (by rfl) T.z_len PySem.boot_len (pa_cons (pv 1) pa_nil)) pa_nil)) (pg_name (i := 2) sc_lplace.nd rfl (Or.inl rfl))
        (pss_one (ps_if (pt_cmpR op_eq (pe_ix (kIxL K) (pv 1) (pv 2) (fun _ _ => rfl)) (pv 0) (nomark _))
            (pss_one (ps_ret (pv 2)))
            pss_nil)))
    (pss_one (ps_ret (pe_un un_neg pe_int)))), ?_⟩
  refine seq_go (for_go ?_)
  refine ⟨_, rfl, a, _, rfl, .inl (SqL.of ha), _, rfl, (by rw [List.length_map]; omega), (by rw [List.length_map]; show (ns.length : Int) < _; omega), ?_⟩
  refine for_range (fun m σ' H' => H' = H ∧ m ≤ i ∧ ∃ o, σ' = [some (.str x), some (.ref a), o]) ⟨rfl, Nat.zero_le _, _, rfl⟩ ?_ ?_
  · rintro m σ' H' hm ⟨rfl, hmi, o, rfl⟩
    have hm2 : m < ns.length := by
      rw [List.length_map] at hm
      omega
    rw [Int.zero_add]
    have ex : ns[m]? = some ns[m] := List.getElem?_eq_getElem hm2
    refine ⟨_, rfl, _, rfl, a, _, _, V.str ns[m], rfl, rfl, SqL.of ha, atI_nat (by rw [List.getElem?_map, ex]; rfl), _, rfl, rfl, _, rfl, ?_⟩
    by_cases e : ns[m] = x
    · rw [decide_eq_true (by rw [e])]
      have : m = i := nd_ix nd (by rw [ex, e]) hi
      subst this
      exact iteT ⟨_, rfl, k⟩
    · rw [decide_eq_false (fun q => e (V.str.inj q))]
      refine iteF ⟨rfl, ?_, _, rfl⟩
      have : m ≠ i := fun q => by
        subst q
        rw [ex] at hi
        exact e (Option.some.inj hi)
      omega
  · rintro σ' H' ⟨rfl, hmi, o, rfl⟩
    have := (List.getElem?_eq_some_iff.mp hi).1
    rw [List.length_map] at hmi
    omega
end
end Ev
namespace Ev
open PySem L2
section
variable {P : Program} {w : World} {K : PySem.W.Frag} {mg : Str → Option Value} {base : Heap}
theorem le2F {a b c d : Int} (h : c < a ∨ (c = a ∧ d < b)) : Ob.lexAt (fun j => decide ([a, b].getD j 0 = [c, d].getD j 0)) (fun j => decide ([a, b].getD j 0 ≤ [c, d].getD j 0)) (decide ([a, b].length ≤ [c, d].length)) 0 (min [a, b].length [c, d].length) = false := by
  show (if decide (a = c) = true then (if decide (b = d) = true then _ else decide (b ≤ d)) else decide (a ≤ c)) = false
  by_cases e : a = c
  · rw [if_pos (decide_eq_true e), if_neg (by rw [decide_eq_false (show ¬ b = d by omega)]; decide)]
    exact decide_eq_false (by omega)
  · rw [if_neg (by rw [decide_eq_false e]; decide)]
    exact decide_eq_false (by omega)
def LastV (H : Hp) (v : V) (o : Option Tri) : Prop := match o with
  | none => v = .non
  | some t => ∃ q, v = .ref q ∧ H q = some (.tup [.int t.1, .int t.2.1])
theorem LastV.kp {H H' : Hp} (k : Kp [] H H') {v : V} {o : Option Tri} (h : LastV H v o) : LastV H' v o := by
  cases o with
  | none => exact h
  | some t =>
    obtain ⟨q, e, h⟩ := h
    exact ⟨q, e, k.tk _ _ h⟩
def sp_lgood : Sp := fun vs H Q _ => ∃ (f p b : Addr) (z : Str) (hs : List Hnd) (ns : List Str), vs = [.ref f, .ref p, .ref b, .str z] ∧ H f = some (.lst ((hearersM hs ns z).map V.str)) ∧ LstAt HndT H p hs ∧ H b = some (.lst (ns.map V.str)) ∧ hs.length ≤ 40 ∧ ns.length ≤ 1000 ∧
  (hs.map Hnd.name).Nodup ∧ ns.Nodup ∧ ∀ H', Kp [] H H' → Q (.bl true) H'
theorem ok_lgood (T : Tx K mg) : FnOk P w K mg base CX0 2 T.f_lgood T.d_lgood ["_law_found", "_law_handlers", "_law_names", "_law_word"] (sp_lgood) := by
  refine T.F_lgood.ok sc_lgood (by walk_at "len") (fun cdv A outer s H vs Q E hr h => ?_)
  obtain ⟨f, p, b, z, hs, ns, rfl, hf, ⟨xs, hp, pd⟩, hb, h40, hl, nd, ndn, k⟩ := h
  refine ⟨_, (pss_cons (ps_set (i := 4) sc_lgood.nd rfl (Or.inl rfl) pe_non)
    (pss_cons (ps_for PassesOwn.never rfl (pi_list (pv 0)) (pg_name (i := 5) sc_lgood.nd rfl (Or.inl rfl))
        (pss_cons (ps_set (i := 6) sc_lgood.nd rfl (Or.inl rfl) (pe_call (ok_lplace T) (hr.mono (by decide)) rfl T.g_lplace T.F_lplace.kp T.b_lplace .nil pass0 (pa_cons (pv 5) (pa_cons (pv 2) pa_nil))))
        (pss_cons (ps_if (PW.pt (pw_or (pt_not (pt_val (pe_callB (kIsi K) (by rfl) T.z_isinstance (by decide +kernel) (pa_cons (pv 5) (pa_cons (pe_bltn (v := .ty "str") (by rfl) T.z_str (by decide +kernel) rfl) pa_nil))))) (pw_or1 (pt_cmpR op_lt (pv 6) pe_int (nomark _)))))
            (pss_one (ps_ret pe_bl))
            pss_nil)
        (pss_cons (ps_set (i := 7) sc_lgood.nd rfl (Or.inl rfl) (pe_ix (kIxL K) (pv 1) (pe_call (ok_lplace T) (hr.mono (by decide)) rfl T.g_lplace T.F_lplace.kp T.b_lplace .nil pass0 (pa_cons (pv 5) (pa_cons (pe_lc (own := [("_law_other", 8)]) (g := gName 8) (tt := tYes) rfl sc_lgood.nd (pi_list (pv 1)) (blkOk_by (own := [("_law_other", 8)]) (N := nm_lgood) (sc := defScope s_lgood) (by decide +kernel)) (fun _ _ _ _ _ => (pg_name (i := 8) sc_lgood.nd rfl (Or.inl rfl))) (fun _ _ _ _ _ => pts_nil) (fun _ _ _ _ _ => (pe_ix (kIxT K) (pv 8) pe_int (fun _ _ => rfl)))) pa_nil))) (fun _ _ => rfl)))
        (pss_cons (ps_if (PW.pt (pw_and (pt_cmpR op_ne (pe_ix (kIxT K) (pv 7) pe_int (fun _ _ => rfl)) pe_str (nomark _)) (pw_and1 (pt_cmpR op_ne (pe_ix (kIxT K) (pv 7) pe_int (fun _ _ => rfl)) (pv 3) (nomark _)))))
            (pss_one (ps_ret pe_bl))
            pss_nil)
        (pss_cons (ps_if (PW.pt (pw_and (pt_cmpR op_notN (pv 4) pe_non (nomark _)) (pw_and1 (pt_cmpR (kLeT K hr.units0) (pe_tup (pa_cons (pe_ix (kIxT K) (pv 7) pe_int (fun _ _ => rfl)) (pa_cons (pv 6) pa_nil))) (pv 4) (nomark _)))))
            (pss_one (ps_ret pe_bl))
            pss_nil)
        (pss_one (ps_set (i := 4) sc_lgood.nd rfl (Or.inl rfl) (pe_tup (pa_cons (pe_ix (kIxT K) (pv 7) pe_int (fun _ _ => rfl)) (pa_cons (pv 6) pa_nil)))))))))))
    (pss_one (ps_ret pe_bl)))), ?_⟩
  refine seq_go (asg_go ?_)
  dsimp only [gName, L2.tC]
  refine seq_go (for_go ?_)
  refine ⟨_, rfl, f, rfl, ⟨_, SqL.of hf⟩, ?_⟩
  have ef : (hearersM hs ns z).map V.str = ((hearRows hs z 0 ns).mergeSort triLe).map fun t => V.str t.2.2 := by
    unfold hearersM
    rw [List.map_map]
    rfl
  rw [ef] at hf
  have pw := sorted_up hs z ns
  have mem := fun t (h : t ∈ (hearRows hs z 0 ns).mergeSort triLe) => sorted_mem h
  generalize (hearRows hs z 0 ns).mergeSort triLe = ts at hf pw mem ⊢
  refine for_pd (Pd.map (f := fun t : Tri => V.str t.2.2) (R := fun v t => v = V.str t.2.2) fun _ _ => rfl) (fun pre σ H' => Kp [] H H' ∧ ∃ o4 o5 o6 o7, LastV H' o4 pre.getLast? ∧ σ = [some (.ref f), some (.ref p), some (.ref b), some (.str z), some o4, o5, o6, o7, none]) ⟨Kp.refl _ _, _, _, _, _, rfl, rfl⟩ (fun pre σ H' q => SqL.of (q.1.keep0 hf)) ?_ ?_
  · rintro pre v t post σ H1 ed rfl ⟨k1, o4, o5, o6, o7, lv, rfl⟩
    obtain ⟨m, h, e1, e2, e3, e4, e5⟩ := mem t (by rw [ed]; simp)
    have hm := (List.getElem?_eq_some_iff.mp e1).1
    obtain ⟨hh1, hh2⟩ := handlerOf_mem2 e3
    obtain ⟨i, hi⟩ := List.getElem?_of_mem hh1
    refine ⟨_, rfl, _, rfl, b, t.2.2, ns, m, rfl, k1.keep0 hb, hl, ndn, e1, ?_⟩
    dsimp only [gName]
    refine seq_cut (fun σ' H' => H' = H1 ∧ σ' = [some (.ref f), some (.ref p), some (.ref b), some (.str z), some o4, some (.str t.2.2), some (nV m), o7, none]) ?_ ?_
    rotate_left
    · intro N hN
      refine ⟨_, rfl, _, _, _, _, _, rfl, .ty _, isS, kit_ty (r := true) (by decide +kernel), _, rfl, iteF' rfl ?_⟩
      refine ⟨_, rfl, _, _, rfl, rfl, _, rfl, ?_⟩
      rw [decide_eq_false (show ¬ ((m : Nat) : Int) < 0 by omega)]
      exact iteF (hN _ _ ⟨rfl, rfl⟩)
    rintro σ' H2 ⟨rfl, rfl⟩
    refine seq_go (asg_go ?_)
    -- the handler
    have hp1 := k1.keep0 hp
    have pd1 : Paired (HndT H2) xs hs := Pd.mono (fun _ _ z => hndTStb _ _ _ _ k1.tk z) pd
    refine ⟨_, rfl, _, rfl, ?_⟩
    dsimp only [L2.tCons, L2.tNil]
    refine lc_go ?_
    refine ⟨_, rfl, p, rfl, ⟨_, SqL.of hp1⟩, ?_⟩
    refine lc_mp pd1 (Nat.lt_of_le_of_lt h40 (by decide)) (SqL.of hp1) (fun h => V.str h.name) (fun x => rfl) ?_ ?_
    · rintro v h H' Q' hh r kp q
      obtain ⟨p2, q2, rfl, h1⟩ := hndTStb _ _ _ _ kp.tk r
      exact ⟨_, rfl, p2, _, _, _, rfl, rfl, SqT.of h1, at0, q _ (Kp.refl _ _)⟩
    intro D H3 hD k2 hD3
    have en : hs.map (fun h => V.str h.name) = (hs.map Hnd.name).map V.str := by simp
    rw [en] at hD3
    obtain ⟨vh, ev, rv⟩ := Pd.at' pd1 hi
    obtain ⟨ph, qh, rfl, hph⟩ := hndTStb _ _ _ _ k2.tk rv
    have hx : (hs.map Hnd.name)[i]? = some t.2.2 := by
      rw [List.getElem?_map, hi]
      exact congrArg some hh2
    refine ⟨D, t.2.2, hs.map Hnd.name, i, rfl, hD3, by rw [List.length_map]; omega, nd, hx, p, _, _, .ref ph, rfl, rfl, SqL.of (k2.keep0 hp1), atI_nat ev, ?_⟩
    have k12 := k1.trans k2
    dsimp only [gName]
    refine seq_cut (fun σ' H' => H' = H3 ∧ σ' = [some (.ref f), some (.ref p), some (.ref b), some (.str z), some o4, some (.str t.2.2), some (nV m), some (.ref ph), none]) ?_ ?_
    rotate_left
    · intro N hN
      refine ⟨_, rfl, ph, _, _, _, rfl, rfl, SqT.of hph, at2, rfl, _, rfl, ?_⟩
      by_cases e6 : h.hears = ""
      · rw [neF (show V.str h.hears = V.str "" by rw [e6])]
        exact iteF' rfl (iteF (hN _ _ ⟨rfl, rfl⟩))
      · have e7 : h.hears = z := e5.resolve_left e6
        rw [show (!decide (V.str h.hears = V.str "")) = true by rw [decide_eq_false (fun q => e6 (V.str.inj q))]; rfl]
        refine iteT' rfl ?_
        refine ⟨_, rfl, ph, _, _, _, rfl, rfl, SqT.of hph, at2, _, rfl, rfl, _, rfl, ?_⟩
        rw [neF (show V.str h.hears = V.str z by rw [e7])]
        exact iteF (hN _ _ ⟨rfl, rfl⟩)
    rintro σ' H4 ⟨rfl, rfl⟩
    refine seq_cut (fun σ' H' => Kp [] H4 H' ∧ σ' = [some (.ref f), some (.ref p), some (.ref b), some (.str z), some o4, some (.str t.2.2), some (nV m), some (.ref ph), none]) ?_ ?_
    rotate_left
    · intro N hN
      refine ⟨_, rfl, rfl, _, rfl, ?_⟩
      cases hl : pre.getLast? with
      | none =>
        rw [hl] at lv
        have lv : o4 = .non := lv
        rw [neF lv]
        exact iteF' rfl (iteF (hN _ _ ⟨Kp.refl _ _, rfl⟩))
      | some t' =>
        rw [hl] at lv
        obtain ⟨q4, rfl, hq4⟩ := lv.kp k2
        rw [show (!decide (V.ref q4 = V.non)) = true by rw [decide_eq_false (fun q => nomatch q)]; rfl]
        refine iteT' rfl ?_
        have lt : lexT t' t := by
          obtain ⟨pre', rfl⟩ := List.getLast?_eq_some_iff.mp hl
          rw [ed, List.append_assoc] at pw
          have := (List.pairwise_append.mp pw).2.1
          exact (List.pairwise_cons.mp this).1 t (List.mem_cons_self ..)
        refine ⟨_, rfl, ph, _, _, _, rfl, rfl, SqT.of hph, at1, _, rfl, (by show 2 ≤ sizeLine; decide), fun t5 ht5 => ?_⟩
        have k5 := (Kp.refl [] H4).new (o := .tup [.int h.rank, nV m]) ht5
        have g5 : upd H4 t5 (.tup [.int h.rank, nV m]) t5 = some (.tup [.int h.rank, nV m]) := upd_same
        generalize upd H4 t5 (.tup [.int h.rank, nV m]) = H5 at k5 g5 ⊢
        refine ⟨_, rfl, t5, q4, [h.rank, (m : Int)], [t'.1, t'.2.1], rfl, rfl, SqT.of g5, SqT.of (k5.tk _ _ hq4), _, rfl, ?_⟩
        rw [le2F (a := h.rank) (b := (m : Int)) (c := t'.1) (d := t'.2.1) (by unfold lexT at lt; omega)]
        exact iteF (hN _ _ ⟨k5, rfl⟩)
    rintro σ' H5 ⟨k5, rfl⟩
    have hph5 := k5.tk _ _ hph
    refine ⟨_, rfl, ph, _, _, _, rfl, rfl, SqT.of hph5, at1, _, rfl, (by show 2 ≤ sizeLine; decide), fun t6 ht6 => ?_⟩
    have k6 := (Kp.refl [] H5).new (o := .tup [.int h.rank, nV m]) ht6
    refine ⟨(k12.trans k5).trans k6, _, _, _, _, ?_, rfl⟩
    rw [List.getLast?_concat]
    exact ⟨t6, rfl, by rw [e4, e2]; exact upd_same⟩
  · rintro σ H1 ⟨k1, o4, o5, o6, o7, lv, rfl⟩
    exact k _ k1
end
end Ev
namespace Ev
open PySem L2
theorem notB {b : Bool} (h : b = true) : (!b) = false := by rw [h]; rfl
def hDat (h : Hnd) : PyData := .tuple [.str h.name, .int h.rank, .str h.hears, .bool h.once, .list [.tuple [.str "hush"]]]
theorem hnd_dp {K : PySem.W.Frag} {H : Hp} {v : V} {h : Hnd} (x : HndL H v h) : Dp K H v (hDat h) := by
  obtain ⟨p, q, t, rfl, h1, h2, h3⟩ := x
  exact .tup (SqT.of h1) (.cons (.str _) (.cons (.int _) (.cons (.str _) (.cons (.bl _) (.cons (.lst (SqL.of h2) (.cons (.tup (SqT.of h3) (.cons (.str _) .nil)) .nil)) .nil)))))
theorem hnd_ok {h : Hnd} (h1 : strOkT h.name) (h2 : strOkT h.hears) : okD 3 (hDat h) :=
  ok_tup (ok_cons ((ok_str h1).mono (by decide)) (ok_cons ((ok_int _).mono (by decide)) (ok_cons ((ok_str h2).mono (by decide)) (ok_cons ((ok_bl _).mono (by decide)) (ok_cons (ok_lst (ok_cons (ok_tup (ok_cons (ok_str hush_ok) ok_nil)) ok_nil)) ok_nil)))))
theorem pd_pick {α β : Type} {R : V → α → Prop} {G : β → α → Prop} : ∀ {xs : List V} {is : List β}, Paired (fun v i => ∃ d, R v d ∧ G i d) xs is → ∃ ds, Paired R xs ds ∧ ds.length = is.length ∧ ∀ (j : Nat) (i : β) (d : α), is[j]? = some i → ds[j]? = some d → G i d
  | _, _, .nil => ⟨[], .nil, rfl, fun j i d h => by simp at h⟩
  | _, _, .cons r t => by
    obtain ⟨d, r1, g1⟩ := r
    obtain ⟨ds, p, l, g⟩ := pd_pick t
    refine ⟨d :: ds, .cons r1 p, by simp [l], fun j i e h1 h2 => ?_⟩
    cases j with
    | zero =>
      simp at h1 h2
      rw [← h1, ← h2]; exact g1
    | succ j => exact g j i e (by simpa using h1) (by simpa using h2)
def bells4 : List Str := ["bell", "bull", "bellbellbell", "bel"]
section
variable {P : Program} {w : World} {K : PySem.W.Frag} {mg : Str → Option Value} {base : Heap}
def sp_law (K : PySem.W.Frag) : Sp := fun vs H Q _ => ∃ (a : Addr) (ns : List Int), vs = [.ref a] ∧ SqL K H a (ns.map V.int) ∧ ns.length ≤ 63 ∧ ∀ H', Q (.bl true) H'
theorem ok_law (T : Tx K mg) : FnOk P w K mg base CX0 3 T.f_law T.d_law ["_law_script"] (sp_law K) := by
  refine T.F_law.ok sc_law (by walk_at "len") (fun cdv A outer s H vs Q E hr h => ?_)
  obtain ⟨a, ns, rfl, hS, hlen, k⟩ := h
  refine ⟨_, (pss_cons (ps_set (i := 1) sc_law.nd rfl (Or.inr rfl) (pe_call (ok_ltoldAt T) (hr.mono (by decide)) rfl T.g_ltoldAt T.F_ltoldAt.kp T.b_ltoldAt .nil pass0 (pa_cons (pv 0) (pa_cons pe_int pa_nil))))
    (pss_cons (ps_set (i := 2) sc_law.nd rfl (Or.inl rfl) (pe_op op_add pe_int (pe_op op_mod (pv 1) pe_int)))
    (pss_cons (ps_if (pt_cmpR op_eq (pe_op op_mod (pe_op op_fdiv (pv 1) pe_int) pe_int) pe_int (nomark _))
        (pss_one (ps_set (i := 2) sc_law.nd rfl (Or.inl rfl) pe_int))
        pss_nil)
    (pss_cons (ps_setLc (i := 3) (own := [("_law_k", 10)]) (g := gName 10) (tt := tYes) rfl sc_law.nd rfl rfl (sw_true rfl rfl rfl (by decide +kernel)) (pi_range1 rfl T.z_range (pa_cons (pv 2) pa_nil)) (blkOk_by (own := [("_law_k", 10)]) (N := nm_law) (sc := defScope s_law) (by decide +kernel)) (fun _ _ _ _ _ => (pg_name (i := 10) sc_law.nd rfl (Or.inl rfl))) (fun _ _ _ _ _ => pts_nil) (fun _ _ _ _ _ => (pe_call (ok_lhandlerBy T) (hr.mono (by decide)) rfl T.g_lhandlerBy T.F_lhandlerBy.kp T.b_lhandlerBy .nil pass0 (pa_cons (pe_op op_add (pe_call (ok_ltoldAt T) (hr.mono (by decide)) rfl T.g_ltoldAt T.F_ltoldAt.kp T.b_ltoldAt .nil pass0 (pa_cons (pv 0) (pa_cons (pe_op op_add pe_int (pv 10)) pa_nil))) (pe_op op_mul pe_int (pv 10))) (pa_cons (pv 1) (pa_cons (pv 10) pa_nil))))))
    (pss_cons (ps_set (i := 4) sc_law.nd rfl (Or.inr rfl) (pe_lc (own := [("_law_one", 11)]) (g := gName 11) rfl sc_law.nd (pi_list (pv 3)) (blkOk_by (own := [("_law_one", 11)]) (N := nm_law) (sc := defScope s_law) (by decide +kernel)) (fun _ _ _ _ _ => (pg_name (i := 11) sc_law.nd rfl (Or.inl rfl))) (fun _ _ _ _ _ => pts_one (pt_cmpR op_gt (pe_call (ok_lmixed T) (hr.mono (by decide)) rfl T.g_lmixed T.F_lmixed.kp T.b_lmixed .nil pass0 (pa_cons (pe_call (ok_ltoldAt T) (hr.mono (by decide)) rfl T.g_ltoldAt T.F_ltoldAt.kp T.b_ltoldAt .nil pass0 (pa_cons (pv 0) (pa_cons pe_int pa_nil))) (pa_cons (pe_op op_add (pe_callB call_len_str (by rfl) T.z_len PySem.boot_len (pa_cons (pe_ix (kIxT K) (pv 11) pe_int (fun _ _ => rfl)) pa_nil)) (pe_callB call_abs (by rfl) T.z_abs (by decide +kernel) (pa_cons (pe_ix (kIxT K) (pv 11) pe_int (fun _ _ => rfl)) pa_nil))) (pa_cons pe_int pa_nil)))) pe_int (nomark _))) (fun _ _ _ _ _ => (pe_ix (kIxT K) (pv 11) pe_int (fun _ _ => rfl)))))
    (pss_cons (ps_if (pt_cmpR op_eq (pe_op op_mod (pe_call (ok_ltoldAt T) (hr.mono (by decide)) rfl T.g_ltoldAt T.F_ltoldAt.kp T.b_ltoldAt .nil pass0 (pa_cons (pv 0) (pa_cons pe_int pa_nil))) pe_int) pe_int (nomark _))
        (pss_one (ps_expr (pe_bm0 PySem.F.plainAttrs_list PySem.F.slot_list_reverse PySem.F.type_list_reverse mt_reverse (pv 4))))
        pss_nil)
    (pss_cons (ps_set (i := 5) sc_law.nd rfl (Or.inr rfl) (pe_ix (kIxL K) (pe_lst (pa_cons pe_str (pa_cons pe_str (pa_cons pe_str (pa_cons pe_str pa_nil))))) (pe_op op_mod (pe_call (ok_ltoldAt T) (hr.mono (by decide)) rfl T.g_ltoldAt T.F_ltoldAt.kp T.b_ltoldAt .nil pass0 (pa_cons (pv 0) (pa_cons pe_int pa_nil))) pe_int) (fun _ _ => rfl)))
    (pss_cons (ps_set (i := 6) sc_law.nd rfl (Or.inl rfl) (pe_callTy (kList K) (by rfl) T.z_list (by decide +kernel) (pa_cons (pv 3) pa_nil)))
    (pss_cons (ps_set (i := 7) sc_law.nd rfl (Or.inl rfl) (pe_callTy (kList K) (by rfl) T.z_list (by decide +kernel) (pa_cons (pv 4) pa_nil)))
    (pss_cons (ps_set (i := 8) sc_law.nd rfl (Or.inl rfl) (pe_call (ok_hearers T) (hr.mono (by decide)) rfl T.g_hearers T.F_hearers.kp T.b_hearers .nil pass0 (pa_cons (pv 6) (pa_cons (pv 7) (pa_cons (pv 5) pa_nil)))))
    (pss_cons (ps_if (PW.pt (pw_or (pt_not (pt_val (pe_callB (kIsi K) (by rfl) T.z_isinstance (by decide +kernel) (pa_cons (pv 8) (pa_cons (pe_bltn (v := .ty "list") (by rfl) T.z_list (by decide +kernel) rfl) pa_nil))))) (pw_or (pt_cmpR (kNeD K hr.units) (pv 6) (pv 3) (nomark _)) (pw_or1 (pt_cmpR (kNeD K hr.units) (pv 7) (pv 4) (nomark _))))))
        (pss_one (ps_ret pe_bl))
        pss_nil)
    (pss_cons (ps_setLc (i := 9) (own := [("_law_one", 11)]) (g := gName 11) rfl sc_law.nd rfl rfl (sw_true rfl rfl rfl (by decide +kernel)) (pi_list (pv 3)) (blkOk_by (own := [("_law_one", 11)]) (N := nm_law) (sc := defScope s_law) (by decide +kernel)) (fun _ _ _ _ _ => (pg_name (i := 11) sc_law.nd rfl (Or.inl rfl))) (fun _ _ _ _ _ => pts_one (PW.pt (pw_and (pt_cmpR (kIn K) (pe_ix (kIxT K) (pv 11) pe_int (fun _ _ => rfl)) (pv 4) rfl) (pw_and1 (pt_cmpR (kIn K) (pe_ix (kIxT K) (pv 11) pe_int (fun _ _ => rfl)) (pe_tup (pa_cons pe_str (pa_cons (pv 5) pa_nil))) rfl))))) (fun _ _ _ _ _ => (pe_ix (kIxT K) (pv 11) pe_int (fun _ _ => rfl))))
    (pss_one (ps_ret (pe_and (pe_cmpR op_eq (pe_callB (kLen K) (by rfl) T.z_len PySem.boot_len (pa_cons (pv 8) pa_nil)) (pe_callB (kLen K) (by rfl) T.z_len PySem.boot_len (pa_cons (pv 9) pa_nil)) (nomark _)) (pe_one (pe_call (ok_lgood T) (hr.mono (by decide)) rfl T.g_lgood T.F_lgood.kp T.b_lgood .nil pass0 (pa_cons (pv 8) (pa_cons (pv 3) (pa_cons (pv 4) (pa_cons (pv 5) pa_nil))))))))))))))))))))), ?_⟩
  refine ⟨_, rfl, a, ns, 0, rfl, hS, ?_⟩
  generalize ns.getD 0 0 = b
  dsimp only [gName]
  refine seq_go (asg_go ?_)
  refine ⟨_, rfl, _, _, rfl, rfl, (by show (0 : Int) < 8; decide), _, _, rfl, rfl, ?_⟩
  dsimp only [gName]
  refine seq_cut (fun σ' H' => ∃ c : Nat, c ≤ 40 ∧ H' = H ∧ σ' = [some (.ref a), some (.int b), some (nV c), none, none, none, none, none, none, none, none, none]) ?_ ?_
  rotate_left
  · intro N hN
    refine ⟨_, rfl, _, _, rfl, rfl, ⟨by decide, by decide⟩, _, _, rfl, rfl, (by show (0 : Int) < 6; decide), rfl, _, rfl, ite2 (fun hq => ?_) (fun hq => ?_)⟩
    · exact hN _ _ ⟨40, by decide, rfl, rfl⟩
    · have q0 : 0 ≤ b % 8 := Int.emod_nonneg _ (by decide)
      have q1 : b % 8 < 8 := Int.emod_lt_of_pos _ (by decide)
      obtain ⟨m, em, hm⟩ : ∃ m : Nat, 1 + b % 8 = (m : Int) ∧ m ≤ 8 := ⟨(1 + b % 8).toNat, by omega, by omega⟩
      refine hN _ _ ⟨m, by omega, rfl, ?_⟩
      rw [em]
      rfl
  rintro σ' H0 ⟨c, hc40, rfl, rfl⟩
  -- the handlers
  refine seq_go (asg_go (lc_go ?_))
  refine ⟨_, rfl, _, rfl, (by show _ ≤ (c : Int); omega), (by show (c : Int) < _; omega), ?_⟩
  refine lc_rg (fun D H v (i : Nat) => ∃ h, HndX2 D H v h ∧ GoodH b i h) id (Nat.lt_of_le_of_lt (show ((c : Int)).toNat ≤ 40 by omega) (by decide)) (fun x => rfl) (fun D H H' v d kk ⟨h, h1, h2⟩ => ⟨h, h1.kp kk, h2⟩) ?_ ?_
  · intro D ac j H9 Q' hj hD hD9 k9 q
    rw [Int.zero_add]
    refine ⟨_, rfl, _, rfl, _, _, rfl, rfl, a, ns, 3 + j, rfl, SqL.kp k9 (by simp) hS, _, rfl, _, _, rfl, rfl, .inl (by decide), _, _, rfl, rfl, _, rfl, _, rfl, _, b, j, rfl, by omega, fun v h H10 k10 hx gh => q v H10 k10 ⟨h, hx _ _ hD9, gh⟩⟩
  intro p H1 xs hp k1 hp1 pdx
  obtain ⟨hs, pdh, lhs, gh⟩ := pd_pick (R := HndX2 p H1) (G := fun i h => GoodH b i h) pdx
  have lhs : hs.length = c := by
    rw [lhs, List.length_map, List.length_range]
    omega
  have gh : ∀ j h, hs[j]? = some h → GoodH b j h := fun j h e => gh j j h (by
    have hj : j < c := by rw [← lhs]; exact (List.getElem?_eq_some_iff.mp e).1
    rw [List.getElem?_map, List.getElem?_range (by omega)]
    rfl) e
  have pdL : Paired (HndL H1) xs hs := Pd.mono (fun _ _ z => z.l) pdh
  have h40 : hs.length ≤ 40 := by omega
  have nd : (hs.map Hnd.name).Nodup := by
    refine List.pairwise_iff_getElem.mpr fun i j hi hj hij q => ?_
    rw [List.length_map] at hi hj
    rw [List.getElem_map, List.getElem_map] at q
    rw [(gh i _ (List.getElem?_eq_getElem hi)).nm, (gh j _ (List.getElem?_eq_getElem hj)).nm] at q
    have := nmM_inj q
    omega
  have okn : ∀ h ∈ hs, h.name.length ≤ 12 ∧ strOkT h.name ∧ strOkT h.hears := fun h hh => by
    obtain ⟨j, hj⟩ := List.getElem?_of_mem hh
    have g := gh j h hj
    have hjl : j < 40 := Nat.lt_of_lt_of_le (List.getElem?_eq_some_iff.mp hj).1 h40
    rw [g.nm]
    exact ⟨by unfold nmM; rw [ofL_len]; exact nmL_len b j, okT_letters (nmL_let b (by omega)), g.hr⟩
  dsimp only [gName]
  -- names
  refine seq_go (asg_go (lc_go ?_))
  refine ⟨_, rfl, p, rfl, ⟨_, SqL.of hp1⟩, ?_⟩
  refine lc_fm pdL (Nat.lt_of_le_of_lt h40 (by decide)) (SqL.of hp1) (fun h => V.str h.name) (fun h => decide (0 < mixM (ns.getD 1 0) (h.name.length + (if h.rank < 0 then -h.rank else h.rank)) 4)) (fun x => rfl) ?_ ?_ ?_
  · rintro v h H' Q' hh r kp q
    obtain ⟨p2, q2, t2, rfl, h1, _, _⟩ := r.kp kp
    refine ⟨_, rfl, a, ns, 1, rfl, SqL.kp (k1.trans kp) (by simp) hS, _, rfl, p2, _, _, _, rfl, rfl, SqT.of h1, at0, _, rfl, Nat.le_trans (okn h hh).1 (by decide), _, rfl, p2, _, _, _, rfl, rfl, SqT.of h1, at1, _, rfl, _, _, rfl, rfl, _, _, _, rfl, (by decide), fun H5 k5 => ⟨_, _, rfl, rfl, _, rfl, q H5 k5⟩⟩
  · rintro v h H' Q' hh r hp0 kp q
    obtain ⟨p2, q2, t2, rfl, h1, _, _⟩ := r.kp kp
    exact ⟨_, rfl, p2, _, _, _, rfl, rfl, SqT.of h1, at0, q _ (Kp.refl _ _)⟩
  intro D H2 hD k2 hD2
  generalize hpr : (fun h : Hnd => decide (0 < mixM (ns.getD 1 0) (h.name.length + (if h.rank < 0 then -h.rank else h.rank)) 4)) = pr at hD2
  have en : (hs.filter pr).map (fun h => V.str h.name) = ((hs.filter pr).map Hnd.name).map V.str := by simp
  rw [en] at hD2
  have nDp : D ≠ p := fun e => by rw [e, hp1] at hD; cases hD
  dsimp only [gName]
  refine seq_cut (fun σ' H' => ∃ nn : List Str, Kp [D] H2 H' ∧ H' D = some (.lst (nn.map V.str)) ∧ nn.Perm ((hs.filter pr).map Hnd.name) ∧ σ' = [some (.ref a), some (.int b), some (nV c), some (.ref p), some (.ref D), none, none, none, none, none, none, none]) ?_ ?_
  rotate_left
  · intro N hN
    refine ⟨_, rfl, a, ns, 1, rfl, SqL.kp (k1.trans k2) (by simp) hS, _, _, rfl, rfl, (by show (0 : Int) < 2; decide), rfl, _, rfl, ite2 (fun hq => ?_) (fun hq => ?_)⟩
    · refine ⟨_, rfl, .inl ⟨rfl, _, SqL.of hD2⟩, D, _, rfl, rfl, hD2, ?_⟩
      refine hN _ _ ⟨((hs.filter pr).map Hnd.name).reverse, (Kp.refl _ _).lst (.inl (by simp)) hD2, by rw [List.map_reverse]; exact upd_same, List.reverse_perm _, rfl⟩
    · exact hN _ _ ⟨_, Kp.refl _ _, hD2, List.Perm.refl _, rfl⟩
  rintro σ' H3 ⟨nn, k3, hD3, pm, rfl⟩
  have k13 : Kp [] H1 H3 := (k2.transM k3 fun x hx => .inr (by rw [List.mem_singleton.mp hx]; exact hD)).mono (by simp)
  have nnd : nn.Nodup := pm.nodup_iff.mpr (nd.sublist ((List.filter_sublist).map _))
  have nin : ∀ x ∈ nn, ∃ h, handlerOf hs x = some h := fun x hx => by
    obtain ⟨h, hh, rfl⟩ := List.mem_map.mp (pm.mem_iff.mp hx)
    exact ⟨h, handlerOf_of2 nd (List.mem_filter.mp hh).1⟩
  have nok : ∀ x ∈ nn, strOkT x := fun x hx => by
    obtain ⟨h, hh, rfl⟩ := List.mem_map.mp (pm.mem_iff.mp hx)
    exact (okn h (List.mem_filter.mp hh).1).2.1
  have nlen : nn.length ≤ 40 := by
    rw [pm.length_eq, List.length_map]
    exact Nat.le_trans (List.length_filter_le _ _) h40
  have hp3 := k13.keep0 hp1
  have pd3 : Paired (HndL H3) xs hs := Pd.mono (fun _ _ z => z.kp k13) pdL
  -- the word
  refine seq_go (asg_go ?_)
  refine ⟨(by show 4 ≤ sizeLine; decide), fun m5 hm5 => ?_⟩
  obtain ⟨z, hzm, ez⟩ := pickStr bells4 (i := ns.getD 2 0 % 4) (Int.emod_nonneg _ (by decide)) (Int.emod_lt_of_pos _ (by decide))
  have ky5 := (Kp.refl [] H3).new (o := .lst (bells4.map V.str)) hm5
  have ey5 : upd H3 m5 (.lst (bells4.map V.str)) m5 = some (.lst (bells4.map V.str)) := upd_same
  change Kp [] H3 (upd H3 m5 (.lst [V.str "bell", V.str "bull", V.str "bellbellbell", V.str "bel"])) at ky5
  change upd H3 m5 (.lst [V.str "bell", V.str "bull", V.str "bellbellbell", V.str "bel"]) m5 = _ at ey5
  generalize upd H3 m5 (.lst [V.str "bell", V.str "bull", V.str "bellbellbell", V.str "bel"]) = H4 at ky5 ey5 ⊢
  refine ⟨_, rfl, a, ns, 2, rfl, SqL.kp ((k1.trans k13).trans ky5) (by simp) hS, _, _, rfl, rfl, (by show (0 : Int) < 4; decide), m5, _, _, _, rfl, rfl, SqL.of ey5, ez, ?_⟩
  dsimp only [gName]
  have hp4 := ky5.keep0 hp3
  have hD4 := ky5.keep0 hD3
  -- the copies
  refine seq_go (asg_go ?_)
  refine ⟨_, rfl, p, _, rfl, .inl (SqL.of hp4), fun l1 hl1 => ?_⟩
  have j1 := (Kp.refl [] H4).new (o := .lst xs) hl1
  have e1 : upd H4 l1 (.lst xs) l1 = some (.lst xs) := upd_same
  generalize upd H4 l1 (.lst xs) = H5 at j1 e1 ⊢
  dsimp only [gName]
  refine seq_go (asg_go ?_)
  refine ⟨_, rfl, D, _, rfl, .inl (SqL.of (j1.keep0 hD4)), fun l2 hl2 => ?_⟩
  have j2 := (Kp.refl [] H5).new (o := .lst (nn.map V.str)) hl2
  have e2 : upd H5 l2 (.lst (nn.map V.str)) l2 = some (.lst (nn.map V.str)) := upd_same
  generalize upd H5 l2 (.lst (nn.map V.str)) = H6 at j2 e2 ⊢
  dsimp only [gName]
  have k36 := (ky5.trans j1).trans j2
  have pd6 : Paired (HndL H6) xs hs := Pd.mono (fun _ _ z => z.kp k36) pd3
  refine seq_go (asg_go ?_)
  refine ⟨_, rfl, _, rfl, _, rfl, l1, l2, z, hs, nn, rfl, ⟨xs, j2.keep0 e1, Pd.mono (fun _ _ z => z.t) pd6⟩, e2, by omega, nin, fun f H7 hf k7 hf7 => ?_⟩
  dsimp only [gName]
  have k37 := k36.trans k7
  have hp7 := k37.keep0 hp3
  have hD7 := k37.keep0 hD3
  have pd7 : Paired (HndL H7) xs hs := Pd.mono (fun _ _ z => z.kp k37) pd3
  have okh : okD 4 (.list (hs.map hDat)) := ok_lst fun d hd => by
    obtain ⟨h, hh, rfl⟩ := List.mem_map.mp hd
    exact hnd_ok (okn h hh).2.1 (okn h hh).2.2
  have oks := ok_strs nok
  refine seq_cut (fun σ' H' => H' = H7 ∧ σ' = [some (.ref a), some (.int b), some (nV c), some (.ref p), some (.ref D), some (.str z), some (.ref l1), some (.ref l2), some (.ref f), none, none, none]) ?_ ?_
  rotate_left
  · intro N hN
    refine ⟨_, rfl, _, _, _, _, _, rfl, .ty _, isL hf7, kit_ty (r := true) (by decide +kernel), _, rfl, iteF' rfl ?_⟩
    refine ⟨_, rfl, _, rfl, _, _, dp_lst (f := hDat) (fun _ _ z => hnd_dp z) ((j2.trans k7).keep0 e1) pd7, dp_lst (f := hDat) (fun _ _ z => hnd_dp z) hp7 pd7, okh.sh, okh.sh, _, rfl, iteF' (notB okh.rfl) ?_⟩
    refine ⟨_, rfl, _, rfl, _, _, dp_strs (k7.keep0 e2), dp_strs hD7, oks.sh, oks.sh, _, rfl, iteF' (notB oks.rfl) ?_⟩
    exact hN _ _ ⟨rfl, rfl⟩
  rintro σ' H8 ⟨rfl, rfl⟩
  -- those that hear
  refine seq_go (asg_go (lc_go ?_))
  refine ⟨_, rfl, p, rfl, ⟨_, SqL.of hp7⟩, ?_⟩
  refine lc_fm pd7 (Nat.lt_of_le_of_lt h40 (by decide)) (SqL.of hp7) (fun h => V.str h.name) (fun h => decide (h.name ∈ nn) && decide (h.hears ∈ (["", z] : List Str))) (fun x => rfl) ?_ ?_ ?_
  · rintro v h H' Q' hh r kp q
    obtain ⟨p2, q2, t2, rfl, h1, _, _⟩ := r.kp kp
    refine ⟨_, rfl, p2, _, _, _, rfl, rfl, SqT.of h1, at0, _, rfl, D, _, rfl, .inl (SqL.of (kp.keep0 hD7)), rfl, flat_strs nn, _, rfl, ?_⟩
    rw [if_neg Bool.false_ne_true, inV_strs]
    cases hn : decide (h.name ∈ nn) with
    | false =>
      have := q H' (Kp.refl _ _)
      rw [hn] at this
      exact iteF' rfl this
    | true =>
      refine iteT' rfl ?_
      refine ⟨_, rfl, p2, _, _, _, rfl, rfl, SqT.of h1, at2, _, rfl, (by show 2 ≤ sizeLine; decide), fun t3 ht3 => ?_⟩
      have i3 := (Kp.refl [] H').new (o := .tup [.str "", .str z]) ht3
      refine ⟨t3, _, rfl, .inr (SqT.of upd_same), rfl, flat_strs ["", z], _, rfl, ?_⟩
      have ei : inV (V.str h.hears) [V.str "", V.str z] = decide (h.hears ∈ (["", z] : List Str)) := inV_strs h.hears ["", z]
      rw [if_neg Bool.false_ne_true, ei]
      have := q _ i3
      rw [hn, Bool.true_and] at this
      exact this
  · rintro v h H' Q' hh r hc kp q
    obtain ⟨p2, q2, t2, rfl, h1, _, _⟩ := r.kp kp
    exact ⟨_, rfl, p2, _, _, _, rfl, rfl, SqT.of h1, at0, q _ (Kp.refl _ _)⟩
  intro D2 H9 hD2 k9 hD9
  have fl := found_len nd (z := z) pm
  have hf9 := k9.keep0 hf7
  dsimp only [gName]
  refine ⟨_, rfl, f, _, rfl, .inl (SqL.of hf9), _, rfl, D2, _, rfl, .inl (SqL.of hD9), rfl, ?_⟩
  have el : V.int (((hearersM hs nn z).map V.str).length : Int) = V.int ((((hs.filter (fun h => decide (h.name ∈ nn) && decide (h.hears ∈ (["", z] : List Str)))).map fun h => V.str h.name).length : Nat) : Int) := by
    rw [List.length_map, List.length_map, fl]
  rw [decide_eq_true el]
  refine ⟨_, rfl, iteT ?_⟩
  refine ⟨_, rfl, _, rfl, _, rfl, _, rfl, f, p, D, z, hs, nn, rfl, hf9, ⟨xs, k9.keep0 hp7, Pd.mono (fun _ _ z => (z.kp k9).t) pd7⟩, k9.keep0 hD7, h40, by omega, nd, nnd, fun H' k' => ?_⟩
  exact k _
end
end Ev
namespace Ev
open PySem L2
theorem all_mk {K : PySem.W.Frag} {h : Heap} {mg : Str → Option Value} {fa : Addr} (X : K.In h) (G : h.Ns mainGlobals mg) (hfa : mg "law" = some (.ref fa))
    {C_LoomError C_Stranger f_handlerOf f_hearers f_ltoldAt f_lmixed f_lnameBy f_lhandlerBy f_lplace f_lgood f_law : Addr}
    {od1 an1 : Option Addr} {sl1 : Array (Option Value)} {oc1 kV1 dc1 pm1 cd1 ct1 : Value}
    {od2 an2 : Option Addr} {sl2 : Array (Option Value)} {oc2 kV2 dc2 pm2 cd2 ct2 : Value}
    {od3 an3 : Option Addr} {sl3 : Array (Option Value)} {oc3 kV3 dc3 pm3 cd3 ct3 : Value}
    {od4 an4 : Option Addr} {sl4 : Array (Option Value)} {oc4 kV4 dc4 pm4 cd4 ct4 : Value}
    {od5 an5 : Option Addr} {sl5 : Array (Option Value)} {oc5 kV5 dc5 pm5 cd5 ct5 : Value}
    {od6 an6 : Option Addr} {sl6 : Array (Option Value)} {oc6 kV6 dc6 pm6 cd6 ct6 : Value}
    {od7 an7 : Option Addr} {sl7 : Array (Option Value)} {oc7 kV7 dc7 pm7 cd7 ct7 : Value}
    {od8 an8 : Option Addr} {sl8 : Array (Option Value)} {oc8 kV8 dc8 pm8 cd8 ct8 : Value}
    {od9 an9 : Option Addr} {sl9 : Array (Option Value)} {oc9 kV9 dc9 pm9 cd9 ct9 : Value}
    (aC_LoomError : PySem.W.nsIn K mainGlobals "LoomError" = some (some (.ref C_LoomError)))
    (x_LoomError : PySem.W.excIn K C_LoomError [.type "ValueError", .type "Exception", .type "BaseException", .type "object"] "ValueError.__new__" = true)
    (k_LoomError : PySem.W.keepIn K (.ref C_LoomError) = true)
    (sb_LoomError : PySem.W.subIn K (.ref C_LoomError) (.type "BaseException") = some true)
    (ty_LoomError : PySem.W.typeIn K (.ref C_LoomError) = some (.type "type"))
    (aC_Stranger : PySem.W.nsIn K mainGlobals "Stranger" = some (some (.ref C_Stranger)))
    (x_Stranger : PySem.W.excIn K C_Stranger [.type "ValueError", .type "Exception", .type "BaseException", .type "object"] "ValueError.__new__" = true)
    (k_Stranger : PySem.W.keepIn K (.ref C_Stranger) = true)
    (sb_Stranger : PySem.W.subIn K (.ref C_Stranger) (.type "BaseException") = some true)
    (ty_Stranger : PySem.W.typeIn K (.ref C_Stranger) = some (.type "type"))
    (a1 : PySem.W.nsIn K mainGlobals "handler_of" = some (some (.ref f_handlerOf)))
    (l1 : K.lookup f_handlerOf = some ⟨oc1, od1, .func (PySem.W.fnOf "handler_of" "handler_of" (defArgs s_handlerOf) (defBody s_handlerOf) (defScope s_handlerOf) .none kV1 dc1 pm1 an1 cd1 ct1), sl1⟩)
    (c1 : PySem.W.codeIn K cd1 "handler_of" = true)
    (k1 : PySem.W.keepIn K (.ref f_handlerOf) = true)
    (a2 : PySem.W.nsIn K mainGlobals "hearers" = some (some (.ref f_hearers)))
    (l2 : K.lookup f_hearers = some ⟨oc2, od2, .func (PySem.W.fnOf "hearers" "hearers" (defArgs s_hearers) (defBody s_hearers) (defScope s_hearers) .none kV2 dc2 pm2 an2 cd2 ct2), sl2⟩)
    (c2 : PySem.W.codeIn K cd2 "hearers" = true)
    (k2 : PySem.W.keepIn K (.ref f_hearers) = true)
    (a3 : PySem.W.nsIn K mainGlobals "_law_told_at" = some (some (.ref f_ltoldAt)))
    (l3 : K.lookup f_ltoldAt = some ⟨oc3, od3, .func (PySem.W.fnOf "_law_told_at" "_law_told_at" (defArgs s_ltoldAt) (defBody s_ltoldAt) (defScope s_ltoldAt) .none kV3 dc3 pm3 an3 cd3 ct3), sl3⟩)
    (c3 : PySem.W.codeIn K cd3 "_law_told_at" = true)
    (k3 : PySem.W.keepIn K (.ref f_ltoldAt) = true)
    (a4 : PySem.W.nsIn K mainGlobals "_law_mixed" = some (some (.ref f_lmixed)))
    (l4 : K.lookup f_lmixed = some ⟨oc4, od4, .func (PySem.W.fnOf "_law_mixed" "_law_mixed" (defArgs s_lmixed) (defBody s_lmixed) (defScope s_lmixed) .none kV4 dc4 pm4 an4 cd4 ct4), sl4⟩)
    (c4 : PySem.W.codeIn K cd4 "_law_mixed" = true)
    (k4 : PySem.W.keepIn K (.ref f_lmixed) = true)
    (a5 : PySem.W.nsIn K mainGlobals "_law_name_by" = some (some (.ref f_lnameBy)))
    (l5 : K.lookup f_lnameBy = some ⟨oc5, od5, .func (PySem.W.fnOf "_law_name_by" "_law_name_by" (defArgs s_lnameBy) (defBody s_lnameBy) (defScope s_lnameBy) .none kV5 dc5 pm5 an5 cd5 ct5), sl5⟩)
    (c5 : PySem.W.codeIn K cd5 "_law_name_by" = true)
    (k5 : PySem.W.keepIn K (.ref f_lnameBy) = true)
    (a6 : PySem.W.nsIn K mainGlobals "_law_handler_by" = some (some (.ref f_lhandlerBy)))
    (l6 : K.lookup f_lhandlerBy = some ⟨oc6, od6, .func (PySem.W.fnOf "_law_handler_by" "_law_handler_by" (defArgs s_lhandlerBy) (defBody s_lhandlerBy) (defScope s_lhandlerBy) .none kV6 dc6 pm6 an6 cd6 ct6), sl6⟩)
    (c6 : PySem.W.codeIn K cd6 "_law_handler_by" = true)
    (k6 : PySem.W.keepIn K (.ref f_lhandlerBy) = true)
    (a7 : PySem.W.nsIn K mainGlobals "_law_place" = some (some (.ref f_lplace)))
    (l7 : K.lookup f_lplace = some ⟨oc7, od7, .func (PySem.W.fnOf "_law_place" "_law_place" (defArgs s_lplace) (defBody s_lplace) (defScope s_lplace) .none kV7 dc7 pm7 an7 cd7 ct7), sl7⟩)
    (c7 : PySem.W.codeIn K cd7 "_law_place" = true)
    (k7 : PySem.W.keepIn K (.ref f_lplace) = true)
    (a8 : PySem.W.nsIn K mainGlobals "_law_good" = some (some (.ref f_lgood)))
    (l8 : K.lookup f_lgood = some ⟨oc8, od8, .func (PySem.W.fnOf "_law_good" "_law_good" (defArgs s_lgood) (defBody s_lgood) (defScope s_lgood) .none kV8 dc8 pm8 an8 cd8 ct8), sl8⟩)
    (c8 : PySem.W.codeIn K cd8 "_law_good" = true)
    (k8 : PySem.W.keepIn K (.ref f_lgood) = true)
    (a9 : PySem.W.nsIn K mainGlobals "law" = some (some (.ref f_law)))
    (l9 : K.lookup f_law = some ⟨oc9, od9, .func (PySem.W.fnOf "law" "law" (defArgs s_law) (defBody s_law) (defScope s_law) .none kV9 dc9 pm9 an9 cd9 ct9), sl9⟩)
    (c9 : PySem.W.codeIn K cd9 "law" = true)
    (k9 : PySem.W.keepIn K (.ref f_law) = true)
    (z_enumerate : PySem.W.nsIn K mainGlobals "enumerate" = some none)
    (z_sorted : PySem.W.nsIn K mainGlobals "sorted" = some none)
    (z_len : PySem.W.nsIn K mainGlobals "len" = some none)
    (z_range : PySem.W.nsIn K mainGlobals "range" = some none)
    (z_isinstance : PySem.W.nsIn K mainGlobals "isinstance" = some none)
    (z_str : PySem.W.nsIn K mainGlobals "str" = some none)
    (z_list : PySem.W.nsIn K mainGlobals "list" = some none)
    (z_abs : PySem.W.nsIn K mainGlobals "abs" = some none)
    : ∃ T : Tx K mg, fa = T.f_law ∧ ∀ (s : Shared) (v : Value), BindsTo s T.d_law ⟨[v], []⟩ [("_law_script", v)] := by
  have F1 := fun_mk (st := s_handlerOf) l1 c1 k1
  have b1 := F1.binds (ps := ["handlers", "name"]) fun _ _ _ _ _ _ us hl => match us, hl with | [_, _], _ => rfl
  have F2 := fun_mk (st := s_hearers) l2 c2 k2
  have b2 := F2.binds (ps := ["handlers", "names", "word"]) fun _ _ _ _ _ _ us hl => match us, hl with | [_, _, _], _ => rfl
  have F3 := fun_mk (st := s_ltoldAt) l3 c3 k3
  have b3 := F3.binds (ps := ["_law_script", "_law_place_here"]) fun _ _ _ _ _ _ us hl => match us, hl with | [_, _], _ => rfl
  have F4 := fun_mk (st := s_lmixed) l4 c4 k4
  have b4 := F4.binds (ps := ["_law_cell", "_law_k", "_law_many"]) fun _ _ _ _ _ _ us hl => match us, hl with | [_, _, _], _ => rfl
  have F5 := fun_mk (st := s_lnameBy) l5 c5 k5
  have b5 := F5.binds (ps := ["_law_cell", "_law_k"]) fun _ _ _ _ _ _ us hl => match us, hl with | [_, _], _ => rfl
  have F6 := fun_mk (st := s_lhandlerBy) l6 c6 k6
  have b6 := F6.binds (ps := ["_law_cell", "_law_base", "_law_k"]) fun _ _ _ _ _ _ us hl => match us, hl with | [_, _, _], _ => rfl
  have F7 := fun_mk (st := s_lplace) l7 c7 k7
  have b7 := F7.binds (ps := ["_law_name", "_law_names"]) fun _ _ _ _ _ _ us hl => match us, hl with | [_, _], _ => rfl
  have F8 := fun_mk (st := s_lgood) l8 c8 k8
  have b8 := F8.binds (ps := ["_law_found", "_law_handlers", "_law_names", "_law_word"]) fun _ _ _ _ _ _ us hl => match us, hl with | [_, _, _, _], _ => rfl
  have F9 := fun_mk (st := s_law) l9 c9 k9
  have b9 := F9.binds (ps := ["_law_script"]) fun _ _ _ _ _ _ us hl => match us, hl with | [_], _ => rfl
  have e : fa = f_law := by
    have e0 := hfa.symm.trans (PySem.W.mg_of X G a9)
    cases e0
    rfl
  exact ⟨{
    c_LoomError := C_LoomError
    g_LoomError := PySem.W.mg_of X G aC_LoomError
    x_LoomError := x_LoomError
    k_LoomError := k_LoomError
    sb_LoomError := sb_LoomError
    ty_LoomError := ty_LoomError
    c_Stranger := C_Stranger
    g_Stranger := PySem.W.mg_of X G aC_Stranger
    x_Stranger := x_Stranger
    k_Stranger := k_Stranger
    sb_Stranger := sb_Stranger
    ty_Stranger := ty_Stranger
    f_handlerOf := f_handlerOf
    d_handlerOf := PySem.W.fnOf "handler_of" "handler_of" (defArgs s_handlerOf) (defBody s_handlerOf) (defScope s_handlerOf) .none kV1 dc1 pm1 an1 cd1 ct1
    F_handlerOf := F1
    b_handlerOf := b1
    g_handlerOf := PySem.W.mg_of X G a1
    f_hearers := f_hearers
    d_hearers := PySem.W.fnOf "hearers" "hearers" (defArgs s_hearers) (defBody s_hearers) (defScope s_hearers) .none kV2 dc2 pm2 an2 cd2 ct2
    F_hearers := F2
    b_hearers := b2
    g_hearers := PySem.W.mg_of X G a2
    f_ltoldAt := f_ltoldAt
    d_ltoldAt := PySem.W.fnOf "_law_told_at" "_law_told_at" (defArgs s_ltoldAt) (defBody s_ltoldAt) (defScope s_ltoldAt) .none kV3 dc3 pm3 an3 cd3 ct3
    F_ltoldAt := F3
    b_ltoldAt := b3
    g_ltoldAt := PySem.W.mg_of X G a3
    f_lmixed := f_lmixed
    d_lmixed := PySem.W.fnOf "_law_mixed" "_law_mixed" (defArgs s_lmixed) (defBody s_lmixed) (defScope s_lmixed) .none kV4 dc4 pm4 an4 cd4 ct4
    F_lmixed := F4
    b_lmixed := b4
    g_lmixed := PySem.W.mg_of X G a4
    f_lnameBy := f_lnameBy
    d_lnameBy := PySem.W.fnOf "_law_name_by" "_law_name_by" (defArgs s_lnameBy) (defBody s_lnameBy) (defScope s_lnameBy) .none kV5 dc5 pm5 an5 cd5 ct5
    F_lnameBy := F5
    b_lnameBy := b5
    g_lnameBy := PySem.W.mg_of X G a5
    f_lhandlerBy := f_lhandlerBy
    d_lhandlerBy := PySem.W.fnOf "_law_handler_by" "_law_handler_by" (defArgs s_lhandlerBy) (defBody s_lhandlerBy) (defScope s_lhandlerBy) .none kV6 dc6 pm6 an6 cd6 ct6
    F_lhandlerBy := F6
    b_lhandlerBy := b6
    g_lhandlerBy := PySem.W.mg_of X G a6
    f_lplace := f_lplace
    d_lplace := PySem.W.fnOf "_law_place" "_law_place" (defArgs s_lplace) (defBody s_lplace) (defScope s_lplace) .none kV7 dc7 pm7 an7 cd7 ct7
    F_lplace := F7
    b_lplace := b7
    g_lplace := PySem.W.mg_of X G a7
    f_lgood := f_lgood
    d_lgood := PySem.W.fnOf "_law_good" "_law_good" (defArgs s_lgood) (defBody s_lgood) (defScope s_lgood) .none kV8 dc8 pm8 an8 cd8 ct8
    F_lgood := F8
    b_lgood := b8
    g_lgood := PySem.W.mg_of X G a8
    f_law := f_law
    d_law := PySem.W.fnOf "law" "law" (defArgs s_law) (defBody s_law) (defScope s_law) .none kV9 dc9 pm9 an9 cd9 ct9
    F_law := F9
    b_law := b9
    g_law := PySem.W.mg_of X G a9
    z_enumerate := PySem.W.mg_none_of X G z_enumerate
    z_sorted := PySem.W.mg_none_of X G z_sorted
    z_len := PySem.W.mg_none_of X G z_len
    z_range := PySem.W.mg_none_of X G z_range
    z_isinstance := PySem.W.mg_none_of X G z_isinstance
    z_str := PySem.W.mg_none_of X G z_str
    z_list := PySem.W.mg_none_of X G z_list
    z_abs := PySem.W.mg_none_of X G z_abs
    }, e, fun s v => .of_eq rfl⟩
theorem walk {l : PySem.W.OpenLaw} {q : Program} {loose : List Str} {XP : (Str → Option Value) → Heap → Prop} {YP : World → Heap → Prop} {d : DefRec} {K : Params → PySem.W.Frag} (hn : l.most = some 63) (hdf : d.params.defaults = [])
    (hY : ∀ (w : World) (h : Heap), YP w h → (K w.params).In h)
    (F : ∀ (w : World) (mg : Str → Option Value) (fa : Addr) (h : Heap), (K w.params).In h → h.Ns mainGlobals mg → mg d.name = some (.ref fa) →
      ∃ T : Tx (K w.params) mg, fa = T.f_law ∧ ∀ (s : Shared) (v : Value), BindsTo s T.d_law ⟨[v], []⟩ [("_law_script", v)]) :
    PySem.W.WalkO q loose XP YP l.row.toRowW d [] (fun f vs => PySem.call f vs) := by
  refine L2.walk_of (n := 63) (k := 3) (x := "_law_script") (CX := fun _ => CX0) (sp := fun w => sp_law (K w.params)) hn (by decide) hdf ⟨rfl, by decide, by decide⟩ hY (fun w mg fa h KX G hmg => ?_) (fun _ _ a ns hl _ hS => ⟨a, ns, rfl, hS, hl, fun _ => rfl⟩) fun _ _ _ _ _ z => z
  obtain ⟨T, e, b⟩ := F w mg fa h KX G hmg
  subst e
  exact ⟨T.d_law, b, fun base _ _ => ok_law T⟩
end Ev
open PySem PySem.W PyProof.Rows in
theorem PySem.Challenge.cw_eventloom_k02_hearers_holds : PySem.Challenge.rw_eventloom_k02_hearers.Holds := by
  w_on; o_law; k_head; (case hw => w_witness2)
  k_fill
  refine Ev.walk (l := PySem.Challenge.rw_eventloom_k02_hearers) rfl rfl (fun w h Y => PySem.W.kIn_of Y) ?F
  case F =>
    intro w mg fa h KX G hmg
    refine' Ev.all_mk KX G hmg ?aC_LoomError ?x_LoomError ?k_LoomError ?sb_LoomError ?ty_LoomError ?aC_Stranger ?x_Stranger ?k_Stranger ?sb_Stranger ?ty_Stranger ?a1 ?l1 ?c1 ?k1 ?a2 ?l2 ?c2 ?k2 ?a3 ?l3 ?c3 ?k3 ?a4 ?l4 ?c4 ?k4 ?a5 ?l5 ?c5 ?k5 ?a6 ?l6 ?c6 ?k6 ?a7 ?l7 ?c7 ?k7 ?a8 ?l8 ?c8 ?k8 ?a9 ?l9 ?c9 ?k9 ?z_enumerate ?z_sorted ?z_len ?z_range ?z_isinstance ?z_str ?z_list ?z_abs
    (case aC_LoomError => k_is)
    (case x_LoomError => k_exc)
    (case k_LoomError => k_is)
    (case sb_LoomError => k_is)
    (case ty_LoomError => k_is)
    (case aC_Stranger => k_is)
    (case x_Stranger => k_exc)
    (case k_Stranger => k_is)
    (case sb_Stranger => k_is)
    (case ty_Stranger => k_is)
    (case a1 => k_is)
    (case l1 => k_is)
    (case c1 => k_is)
    (case k1 => k_is)
    (case a2 => k_is)
    (case l2 => k_is)
    (case c2 => k_is)
    (case k2 => k_is)
    (case a3 => k_is)
    (case l3 => k_is)
    (case c3 => k_is)
    (case k3 => k_is)
    (case a4 => k_is)
    (case l4 => k_is)
    (case c4 => k_is)
    (case k4 => k_is)
    (case a5 => k_is)
    (case l5 => k_is)
    (case c5 => k_is)
    (case k5 => k_is)
    (case a6 => k_is)
    (case l6 => k_is)
    (case c6 => k_is)
    (case k6 => k_is)
    (case a7 => k_is)
    (case l7 => k_is)
    (case c7 => k_is)
    (case k7 => k_is)
    (case a8 => k_is)
    (case l8 => k_is)
    (case c8 => k_is)
    (case k8 => k_is)
    (case a9 => k_is)
    (case l9 => k_is)
    (case c9 => k_is)
    (case k9 => k_is)
    (case z_enumerate => k_is)
    (case z_sorted => k_is)
    (case z_len => k_is)
    (case z_range => k_is)
    (case z_isinstance => k_is)
    (case z_str => k_is)
    (case z_list => k_is)
    (case z_abs => k_is)
