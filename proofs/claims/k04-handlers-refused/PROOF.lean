import PyProof.Rows.All
import Wide.All
import OpenK.AllK
import Wide.FinOn
import HandS.ForMost
import HandS.More
import HandS.IsInst
import HandS.Conv
import HandS.Deep
import HandS.TupAny
import HandS.TupLe
import HandS.SortInts
import HandS.SortRule
import HandS.Style
import HandS.Flow
import HandS.Wide
import HandS.Exc
import HandS.ExcOwn
import HandS.WordsExc
import HandS.TryOnly
import HandS.SetFor
import HandS.Walk
import KE.SortData
import HandS.HotCalls
import HandS.ExcIs
import KE.DataFind
import PyProof.NeKinds
import PySem.Challenge.RW_eventloom_k04_handlers_refused
set_option Elab.async false
set_option linter.all false
set_option maxRecDepth 100000
set_option maxHeartbeats 4000000
local macro_rules | `(tactic| walk_at "len") => `(tactic| (intro vs H Q E h; first
  | (obtain ⟨e, _⟩ := h; rw [e]; rfl) | (obtain ⟨_, e, _⟩ := h; rw [e]; rfl) | (obtain ⟨_, _, e, _⟩ := h; rw [e]; rfl) | (obtain ⟨_, _, _, e, _⟩ := h; rw [e]; rfl)
  | (obtain ⟨_, _, _, _, e, _⟩ := h; rw [e]; rfl) | (obtain ⟨_, _, _, _, _, e, _⟩ := h; rw [e]; rfl) | (obtain ⟨_, _, _, _, _, _, e, _⟩ := h; rw [e]; rfl)
  | (obtain ⟨_, _, _, _, _, _, _, e, _⟩ := h; rw [e]; rfl) | (obtain ⟨_, _, _, _, _, _, _, _, e, _⟩ := h; rw [e]; rfl) | (obtain ⟨_, _, _, _, _, _, _, _, _, e, _⟩ := h; rw [e]; rfl) | (obtain ⟨_, _, _, _, _, _, _, _, _, _, e, _⟩ := h; rw [e]; rfl) | (obtain ⟨_, _, _, _, _, _, _, _, _, _, _, e, _⟩ := h; rw [e]; rfl) | (obtain ⟨_, _, _, _, _, _, _, _, _, _, _, _, e, _⟩ := h; rw [e]; rfl) | (obtain ⟨_, _, _, _, _, _, _, _, _, _, _, _, _, e, _⟩ := h; rw [e]; rfl) | (obtain ⟨_, _, _, _, _, _, _, _, _, _, _, _, _, _, e, _⟩ := h; rw [e]; rfl)))
local macro_rules | `(tactic| walk_at "nf") => `(tactic| dsimp only [L2.tNext, L2.tSeq, L2.tRet, L2.tAsg, L2.tDrop, L2.tCB, L2.tCons, L2.tNil, L2.tOp, L2.gName, L2.sFld])
local macro_rules | `(tactic| walk_at "go") => `(tactic| repeat (first | refine ⟨_, rfl, ?_⟩ | refine ⟨_, _, rfl, rfl, ?_⟩ | refine ⟨rfl, ?_⟩))
namespace Ev
open PySem L2
/-! ### heaps: what an operation keeps -/
structure Kp (M : List Addr) (H H' : Hp) : Prop where
  keep : ∀ a o, a ∉ M → H a = some o → H' a = some o
  dom : ∀ a, H' a = none → H a = none
  tup : ∀ a xs, H a = some (.tup xs) → H' a = some (.tup xs)
theorem Kp.refl (M : List Addr) (H : Hp) : Kp M H H := ⟨fun _ _ _ h => h, fun _ h => h, fun _ _ h => h⟩
theorem Kp.trans {M : List Addr} {H H1 H2 : Hp} (a : Kp M H H1) (b : Kp M H1 H2) : Kp M H H2 :=
  ⟨fun p o n h => b.keep p o n (a.keep p o n h), fun p h => a.dom p (b.dom p h), fun p xs h => b.tup p xs (a.tup p xs h)⟩
theorem Kp.transM {M M1 : List Addr} {H H1 H2 : Hp} (a : Kp M H H1) (b : Kp M1 H1 H2) (s : ∀ p, p ∈ M1 → p ∈ M ∨ H p = none) : Kp M H H2 :=
  ⟨fun p o n h => b.keep p o (fun z => (s p z).elim n fun q => by rw [q] at h; cases h) (a.keep p o n h), fun p h => a.dom p (b.dom p h), fun p xs h => b.tup p xs (a.tup p xs h)⟩
theorem Kp.mono {M M1 : List Addr} {H H1 : Hp} (a : Kp M1 H H1) (s : ∀ p, p ∈ M1 → p ∈ M ∨ H p = none) : Kp M H H1 := (Kp.refl M H).transM a s
theorem Kp.keep0 {H H' : Hp} (k : Kp [] H H') {a : Addr} {o : HO} (h : H a = some o) : H' a = some o := k.keep a o (by simp) h
theorem upd_none {H : Hp} {p a : Addr} {o : HO} (h : upd H p o a = none) : a ≠ p ∧ H a = none := by
  unfold upd at h
  split at h
  · cases h
  · exact ⟨by assumption, h⟩
theorem Kp.step {M : List Addr} {H H1 : Hp} {p : Addr} {o : HO} (k : Kp M H H1) (hm : p ∈ M ∨ H p = none) (ht : ∀ xs, H1 p ≠ some (.tup xs)) : Kp M H (upd H1 p o) := by
  refine ⟨fun a u n h => ?_, fun a h => k.dom a (upd_none h).2, fun a xs h => ?_⟩
  · have ne : a ≠ p := by
      rintro rfl
      rcases hm with q | q
      · exact n q
      · rw [q] at h; cases h
    rw [upd_ne ne]; exact k.keep a u n h
  · have ne : a ≠ p := by
      rintro rfl
      exact ht xs (k.tup _ _ h)
    rw [upd_ne ne]; exact k.tup a xs h
theorem Kp.new {M : List Addr} {H H1 : Hp} {p : Addr} {o : HO} (k : Kp M H H1) (h : H1 p = none) : Kp M H (upd H1 p o) :=
  k.step (.inr (k.dom p h)) fun xs q => by rw [h] at q; cases q
theorem Kp.lst {M : List Addr} {H H1 : Hp} {p : Addr} {o : HO} {ys : List V} (k : Kp M H H1) (hm : p ∈ M ∨ H p = none) (h : H1 p = some (.lst ys)) : Kp M H (upd H1 p o) :=
  k.step hm fun xs q => by rw [h] at q; cases q
theorem Kp.ins {M : List Addr} {H H1 : Hp} {p C dx : Addr} {o : HO} {fs : List (Str × V)} (k : Kp M H H1) (hm : p ∈ M ∨ H p = none) (h : H1 p = some (.ins C dx fs)) : Kp M H (upd H1 p o) :=
  k.step hm fun xs q => by rw [h] at q; cases q
theorem Kp.dk {M : List Addr} {H H1 : Hp} {p : Addr} {o : HO} {kvs : List (Key × V)} (k : Kp M H H1) (hm : p ∈ M ∨ H p = none) (h : H1 p = some (.dK kvs)) : Kp M H (upd H1 p o) :=
  k.step hm fun xs q => by rw [h] at q; cases q
theorem Kp.ne {M : List Addr} {H H' : Hp} (k : Kp M H H') {a p : Addr} {o : HO} (h : H a = some o) (hp : H' p = none) : a ≠ p := fun e => by
  subst e
  rw [k.dom _ hp] at h
  cases h
theorem SqL.kp {K : PySem.W.Frag} {M : List Addr} {H H' : Hp} {a : Addr} {xs : List V} (k : Kp M H H') (n : a ∉ M) (h : SqL K H a xs) : SqL K H' a xs := by
  rcases h with (h | ⟨o, h⟩) | h
  · exact .inl (.inl (k.keep _ _ n h))
  · exact .inl (.inr ⟨o, k.keep _ _ n h⟩)
  · exact .inr h
theorem SqT.kp {K : PySem.W.Frag} {M : List Addr} {H H' : Hp} {a : Addr} {xs : List V} (k : Kp M H H') (n : a ∉ M) (h : SqT K H a xs) : SqT K H' a xs := by
  rcases h with (h | ⟨o, h⟩) | h
  · exact .inl (.inl (k.keep _ _ n h))
  · exact .inl (.inr ⟨o, k.keep _ _ n h⟩)
  · exact .inr h
theorem SqT.of {K : PySem.W.Frag} {H : Hp} {a : Addr} {xs : List V} (h : H a = some (.tup xs)) : SqT K H a xs := .inl (.inl h)
theorem at0 {α : Type} {x : α} {l : List α} : atI (x :: l) 0 = some x := atI_nat (j := 0) rfl
theorem at1 {α : Type} {x y : α} {l : List α} : atI (x :: y :: l) 1 = some y := atI_nat (j := 1) rfl
theorem at2 {α : Type} {x y z : α} {l : List α} : atI (x :: y :: z :: l) 2 = some z := atI_nat (j := 2) rfl
theorem at3 {α : Type} {x y z u : α} {l : List α} : atI (x :: y :: z :: u :: l) 3 = some u := atI_nat (j := 3) rfl
theorem at4 {α : Type} {x y z u v : α} {l : List α} : atI (x :: y :: z :: u :: v :: l) 4 = some v := atI_nat (j := 4) rfl
theorem atLast {α : Type} {l : List α} {v : α} (h : l.getLast? = some v) : atI l (-1) = some v := by
  obtain ⟨r, rfl⟩ := List.getLast?_eq_some_iff.mp h
  exact atI_last r v
/-! ### fields by their place -/
theorem look_ix : ∀ {l : List (Str × V)} {i : Nat} {k : Str} {v : V}, (l.map Prod.fst).Nodup → l[i]? = some (k, v) → l.lookup k = some v
  | [], _, _, _, _, h => by simp at h
  | (a, b) :: l, 0, k, v, _, h => by
    have e : (a, b) = (k, v) := Option.some.inj h
    cases e
    simp [List.lookup]
  | (a, b) :: l, i + 1, k, v, nd, h => by
    have h' : l[i]? = some (k, v) := h
    have nd' := List.nodup_cons.mp (show (a :: l.map Prod.fst).Nodup from nd)
    have ne : k ≠ a := fun e => nd'.1 (by rw [← e]; exact List.mem_map.mpr ⟨_, List.mem_of_getElem? h', rfl⟩)
    have nb : (k == a) = false := by simpa using ne
    rw [List.lookup, nb]
    exact look_ix nd'.2 h'
theorem put_ix : ∀ {l : List (Str × V)} {i : Nat} {k : Str} {u v : V}, (l.map Prod.fst).Nodup → l[i]? = some (k, u) → putF k v l = l.set i (k, v)
  | [], _, _, _, _, _, h => by simp at h
  | (a, b) :: l, 0, k, u, v, _, h => by
    have e : (a, b) = (k, u) := Option.some.inj h
    cases e
    show (if a = a then _ else _) = _
    rw [if_pos rfl]
    rfl
  | (a, b) :: l, i + 1, k, u, v, nd, h => by
    have h' : l[i]? = some (k, u) := h
    have nd' := List.nodup_cons.mp (show (a :: l.map Prod.fst).Nodup from nd)
    have ne : ¬ a = k := fun e => nd'.1 (by rw [e]; exact List.mem_map.mpr ⟨_, List.mem_of_getElem? h', rfl⟩)
    show (if a = k then _ else (a, b) :: putF k v l) = _
    rw [if_neg ne, put_ix nd'.2 h']
    rfl
theorem put_new : ∀ {l : List (Str × V)} {k : Str} {v : V}, k ∉ l.map Prod.fst → putF k v l = l ++ [(k, v)]
  | [], _, _, _ => rfl
  | (a, b) :: l, k, v, h => by
    have h1 : k ∉ a :: l.map Prod.fst := h
    have ne : ¬ a = k := fun e => h1 (by rw [e]; exact List.mem_cons_self)
    show (if a = k then _ else (a, b) :: putF k v l) = _
    rw [if_neg ne, put_new fun z => h1 (List.mem_cons_of_mem _ z)]
    rfl
theorem look_no : ∀ {l : List (Str × V)} {k : Str}, k ∉ l.map Prod.fst → l.lookup k = none
  | [], _, _ => rfl
  | (a, b) :: l, k, h => by
    have h1 : k ∉ a :: l.map Prod.fst := h
    have ne : (k == a) = false := by simpa using fun e : k = a => h1 (by rw [e]; exact List.mem_cons_self)
    rw [List.lookup, ne]
    exact look_no fun z => h1 (List.mem_cons_of_mem _ z)
/-! ### pairs of lists -/
theorem Pd.len {α : Type} {R : V → α → Prop} : ∀ {xs : List V} {ds : List α}, Paired R xs ds → xs.length = ds.length
  | _, _, .nil => rfl
  | _, _, .cons _ t => by simp [Pd.len t]
theorem Pd.at {α : Type} {R : V → α → Prop} : ∀ {xs : List V} {ds : List α} {i : Nat} {x : V}, Paired R xs ds → xs[i]? = some x → ∃ d, ds[i]? = some d ∧ R x d
  | _, _, _, _, .nil, e => by simp at e
  | _, _, 0, _, .cons r _, e => by simp at e; subst e; exact ⟨_, rfl, r⟩
  | _, _, i + 1, x, .cons _ t, e => by
    obtain ⟨d, h1, h2⟩ := Pd.at (i := i) t (by simpa using e)
    exact ⟨d, by simpa using h1, h2⟩
theorem Pd.at' {α : Type} {R : V → α → Prop} : ∀ {xs : List V} {ds : List α} {i : Nat} {d : α}, Paired R xs ds → ds[i]? = some d → ∃ x, xs[i]? = some x ∧ R x d
  | _, _, _, _, .nil, e => by simp at e
  | _, _, 0, _, .cons r _, e => by simp at e; subst e; exact ⟨_, rfl, r⟩
  | _, _, i + 1, x, .cons _ t, e => by
    obtain ⟨d, h1, h2⟩ := Pd.at' (i := i) t (by simpa using e)
    exact ⟨d, by simpa using h1, h2⟩
theorem Pd.mono {α : Type} {R S : V → α → Prop} (f : ∀ x d, R x d → S x d) : ∀ {xs : List V} {ds : List α}, Paired R xs ds → Paired S xs ds
  | _, _, .nil => .nil
  | _, _, .cons r t => .cons (f _ _ r) (Pd.mono f t)
theorem Pd.map {α : Type} {R : V → α → Prop} {f : α → V} : ∀ {ds : List α}, (∀ d, d ∈ ds → R (f d) d) → Paired R (ds.map f) ds
  | [], _ => .nil
  | d :: ds, h => .cons (h d List.mem_cons_self) (Pd.map fun e he => h e (List.mem_cons_of_mem _ he))
theorem Pd.append {α : Type} {R : V → α → Prop} : ∀ {xs ys : List V} {ds es : List α}, Paired R xs ds → Paired R ys es → Paired R (xs ++ ys) (ds ++ es)
  | _, _, _, _, .nil, s => s
  | _, _, _, _, .cons r t, s => .cons r (Pd.append t s)
theorem Pd.take {α : Type} {R : V → α → Prop} : ∀ {xs : List V} {ds : List α} (n : Nat), Paired R xs ds → Paired R (xs.take n) (ds.take n)
  | _, _, 0, _ => .nil
  | _, _, _ + 1, .nil => .nil
  | _, _, n + 1, .cons r t => .cons r (Pd.take n t)
theorem Pd.drop {α : Type} {R : V → α → Prop} : ∀ {xs : List V} {ds : List α} (n : Nat), Paired R xs ds → Paired R (xs.drop n) (ds.drop n)
  | _, _, 0, r => r
  | _, _, _ + 1, .nil => .nil
  | _, _, n + 1, .cons _ t => Pd.drop n t
theorem Pd.eqmap {α : Type} {f : α → V} : ∀ {xs : List V} {ds : List α}, Paired (fun x d => x = f d) xs ds → xs = ds.map f
  | _, _, .nil => rfl
  | _, _, .cons r t => by rw [r, Pd.eqmap t]; rfl
theorem take_snoc {α : Type} {l : List α} {i : Nat} {d : α} (h : l[i]? = some d) : l.take (i + 1) = l.take i ++ [d] := by
  rw [List.take_add_one, h]; rfl
theorem split_at {α : Type} {l : List α} {i : Nat} {d : α} (h : l[i]? = some d) : l = l.take i ++ d :: l.drop (i + 1) := by
  obtain ⟨hi, e⟩ := List.getElem?_eq_some_iff.mp h
  have q := List.take_append_drop i l
  rw [List.drop_eq_getElem_cons hi, e] at q
  exact q.symm
/-! ### loops over a list whose items read as data -/
section
variable {K : PySem.W.Frag} {a : Addr} {xs : List V} {g : TG} {tb : TS} {D : Ends} {σ : St} {H : Hp} {α : Type} {R : V → α → Prop} {ds : List α}
theorem for_pd (hx : Paired R xs ds) (Pv : List α → St → Hp → Prop) (h0 : Pv [] σ H) (hl : ∀ pre σ H, Pv pre σ H → SqL K H a xs)
    (hs : ∀ pre x d post σ H, ds = pre ++ d :: post → R x d → Pv pre σ H → g x σ H fun σ2 H2 => tb { D with nx := Pv (pre ++ [d]), ct := Pv (pre ++ [d]), bk := D.nx } σ2 H2)
    (hd : ∀ σ H, Pv ds σ H → D.nx σ H) : tFor (fun _ H R => R (Itl K a) H) g tb D σ H :=
  for_list (fun i σ H => Pv (ds.take i) σ H) (by simpa using h0) (fun i σ H _ p => hl _ σ H p)
    (fun i x σ H e p => by
      obtain ⟨d, e1, r⟩ := Pd.at hx e
      have q := hs (ds.take i) x d (ds.drop (i + 1)) σ H (split_at e1) r p
      rw [← take_snoc e1] at q
      exact q)
    (fun σ H p => hd σ H (by rw [Pd.len hx, List.take_length] at p; exact p))
theorem for_pdT (hx : Paired R xs ds) (Pv : List α → St → Hp → Prop) (h0 : Pv [] σ H) (hl : ∀ pre σ H, Pv pre σ H → SqT K H a xs)
    (hs : ∀ pre x d post σ H, ds = pre ++ d :: post → R x d → Pv pre σ H → g x σ H fun σ2 H2 => tb { D with nx := Pv (pre ++ [d]), ct := Pv (pre ++ [d]), bk := D.nx } σ2 H2)
    (hd : ∀ σ H, Pv ds σ H → D.nx σ H) : tFor (fun _ H R => R (Itt K a) H) g tb D σ H :=
  for_tup (fun i σ H => Pv (ds.take i) σ H) (by simpa using h0) (fun i σ H _ p => hl _ σ H p)
    (fun i x σ H e p => by
      obtain ⟨d, e1, r⟩ := Pd.at hx e
      have q := hs (ds.take i) x d (ds.drop (i + 1)) σ H (split_at e1) r p
      rw [← take_snoc e1] at q
      exact q)
    (fun σ H p => hd σ H (by rw [Pd.len hx, List.take_length] at p; exact p))
variable {tt : TT} {te : TE} {vs : List Nat} {Q : VK}
/-- a comprehension: at D the list acc, of which I pre acc holds -/
theorem lc_pd (hx : Paired R xs ds) (hz : ds.length < sizeLine) (Pv : Addr → List α → List V → Hp → Prop) (h0 : ∀ D, H D = none → Pv D [] [] (upd H D (.lst [])))
    (hl : ∀ D pre acc H', H D = none → H' D = some (.lst acc) → Pv D pre acc H' → SqL K H' a xs)
    (hs : ∀ D pre acc x d post H' (Yes : V → Hp → Prop) (No : Hp → Prop), H D = none → ds = pre ++ d :: post → R x d → H' D = some (.lst acc) → Pv D pre acc H' →
      (∀ y H4, H4 D = some (.lst acc) → Pv D (pre ++ [d]) (acc ++ [y]) (upd H4 D (.lst (acc ++ [y]))) → Yes y H4) → (∀ H3, H3 D = some (.lst acc) → Pv D (pre ++ [d]) acc H3 → No H3) →
      g x (wipe σ vs) H' fun σ2 H2 => wipe σ2 vs = wipe σ vs ∧ tt σ2 H2 fun b H3 => if b = true then te σ2 H3 Yes else No H3)
    (hd : ∀ D acc H', H D = none → H' D = some (.lst acc) → Pv D ds acc H' → Q (.ref D) H') : tLc (fun _ H R => R (Itl K a) H) g tt te vs σ H Q := fun D hD =>
  lc_list (fun i H' => ∃ acc, H' D = some (.lst acc) ∧ acc.length ≤ i ∧ Pv D (ds.take i) acc H') ⟨[], upd_same, Nat.le_refl _, by simpa using h0 D hD⟩ (fun i H' _ ⟨acc, e, _, p⟩ => hl D _ acc H' hD e p)
    (fun i x H' e ⟨acc, e2, hi, p⟩ => by
      obtain ⟨d, e1, r⟩ := Pd.at hx e
      have hlt : i < ds.length := (List.getElem?_eq_some_iff.mp e1).1
      have q := fun Yes No => hs D (ds.take i) acc x d (ds.drop (i + 1)) H' Yes No hD (split_at e1) r e2 p
      rw [← take_snoc e1] at q
      exact q _ _ (fun y H4 z1 z2 => ⟨acc, z1, Nat.lt_of_le_of_lt hi (Nat.lt_trans hlt hz), acc ++ [y], upd_same, by simp; exact hi, z2⟩) fun H3 z1 z2 => ⟨acc, z1, Nat.le_succ_of_le hi, z2⟩)
    (fun H' ⟨acc, e, _, p⟩ => hd D acc H' hD e (by rw [Pd.len hx, List.take_length] at p; exact p))
/-- .. over a tuple -/
theorem lc_pdT (hx : Paired R xs ds) (hz : ds.length < sizeLine) (Pv : Addr → List α → List V → Hp → Prop) (h0 : ∀ D, H D = none → Pv D [] [] (upd H D (.lst [])))
    (hl : ∀ D pre acc H', H D = none → H' D = some (.lst acc) → Pv D pre acc H' → SqT K H' a xs)
    (hs : ∀ D pre acc x d post H' (Yes : V → Hp → Prop) (No : Hp → Prop), H D = none → ds = pre ++ d :: post → R x d → H' D = some (.lst acc) → Pv D pre acc H' →
      (∀ y H4, H4 D = some (.lst acc) → Pv D (pre ++ [d]) (acc ++ [y]) (upd H4 D (.lst (acc ++ [y]))) → Yes y H4) → (∀ H3, H3 D = some (.lst acc) → Pv D (pre ++ [d]) acc H3 → No H3) →
      g x (wipe σ vs) H' fun σ2 H2 => wipe σ2 vs = wipe σ vs ∧ tt σ2 H2 fun b H3 => if b = true then te σ2 H3 Yes else No H3)
    (hd : ∀ D acc H', H D = none → H' D = some (.lst acc) → Pv D ds acc H' → Q (.ref D) H') : tLc (fun _ H R => R (Itt K a) H) g tt te vs σ H Q := fun D hD =>
  lc_tup (fun i H' => ∃ acc, H' D = some (.lst acc) ∧ acc.length ≤ i ∧ Pv D (ds.take i) acc H') ⟨[], upd_same, Nat.le_refl _, by simpa using h0 D hD⟩ (fun i H' _ ⟨acc, e, _, p⟩ => hl D _ acc H' hD e p)
    (fun i x H' e ⟨acc, e2, hi, p⟩ => by
      obtain ⟨d, e1, r⟩ := Pd.at hx e
      have hlt : i < ds.length := (List.getElem?_eq_some_iff.mp e1).1
      have q := fun Yes No => hs D (ds.take i) acc x d (ds.drop (i + 1)) H' Yes No hD (split_at e1) r e2 p
      rw [← take_snoc e1] at q
      exact q _ _ (fun y H4 z1 z2 => ⟨acc, z1, Nat.lt_of_le_of_lt hi (Nat.lt_trans hlt hz), acc ++ [y], upd_same, by simp; exact hi, z2⟩) fun H3 z1 z2 => ⟨acc, z1, Nat.le_succ_of_le hi, z2⟩)
    (fun H' ⟨acc, e, _, p⟩ => hd D acc H' hD e (by rw [Pd.len hx, List.take_length] at p; exact p))
end
/-! ### a comprehension that maps what passes a test -/
section
variable {K : PySem.W.Frag} {a : Addr} {xs : List V} {tt : TT} {te : TE} {σ : St} {H : Hp} {α : Type} {R : V → α → Prop} {ds : List α} {vs : List Nat} {Q : VK} {i : Nat}
theorem lc_fm (hx : Paired R xs ds) (hz : ds.length < sizeLine) (ha : SqL K H a xs) (f : α → V) (p : α → Bool) (hw : ∀ x, wipe ((wipe σ vs).set i (some x)) vs = wipe σ vs)
    (ht : ∀ x d H' (Q : Bool → Hp → Prop), d ∈ ds → R x d → Kp [] H H' → (∀ H'', Kp [] H' H'' → Q (p d) H'') → tt ((wipe σ vs).set i (some x)) H' Q)
    (he : ∀ x d H' (Q : VK), d ∈ ds → R x d → p d = true → Kp [] H H' → (∀ H'', Kp [] H' H'' → Q (f d) H'') → te ((wipe σ vs).set i (some x)) H' Q)
    (k : ∀ D H', H D = none → Kp [] H H' → H' D = some (.lst ((ds.filter p).map f)) → Q (.ref D) H') : tLc (fun _ H R => R (Itl K a) H) (gName i) tt te vs σ H Q := by
  refine lc_pd hx hz (fun D pre acc H' => Kp [] H H' ∧ acc = (pre.filter p).map f) (fun D hD => ⟨(Kp.refl _ _).new hD, rfl⟩) (fun D pre acc H' hD e q => SqL.kp q.1 (by simp) ha) ?_ (fun D acc H' hD e q => k D H' hD q.1 (q.2 ▸ e))
  rintro D pre acc x d post H' Yes No hD ed r e ⟨kp, rfl⟩ yes no
  have hd : d ∈ ds := by rw [ed]; simp
  refine ⟨hw x, ht x d H' _ hd r kp fun H2 k2 => ?_⟩
  cases hp : p d with
  | true =>
    rw [if_pos rfl]
    refine he x d H2 _ hd r hp (kp.trans k2) fun H3 k3 => ?_
    have e3 := (k2.trans k3).keep0 e
    exact yes _ _ e3 ⟨((kp.trans k2).trans k3).lst (.inr hD) e3, by simp [List.filter_append, hp]⟩
  | false =>
    rw [if_neg Bool.false_ne_true]
    exact no _ (k2.keep0 e) ⟨kp.trans k2, by simp [List.filter_append, hp]⟩
theorem lc_mp (hx : Paired R xs ds) (hz : ds.length < sizeLine) (ha : SqL K H a xs) (f : α → V) (hw : ∀ x, wipe ((wipe σ vs).set i (some x)) vs = wipe σ vs)
    (he : ∀ x d H' (Q : VK), d ∈ ds → R x d → Kp [] H H' → (∀ H'', Kp [] H' H'' → Q (f d) H'') → te ((wipe σ vs).set i (some x)) H' Q)
    (k : ∀ D H', H D = none → Kp [] H H' → H' D = some (.lst (ds.map f)) → Q (.ref D) H') : tLc (fun _ H R => R (Itl K a) H) (gName i) tYes te vs σ H Q :=
  lc_fm hx hz ha f (fun _ => true) hw (fun x d H' Q _ _ _ q => q H' (Kp.refl _ _)) (fun x d H' Q h1 h2 _ h3 q => he x d H' Q h1 h2 h3 q) fun D H' hD kp e => k D H' hD kp (by
    have e2 : ds.filter (fun _ => true) = ds := List.filter_eq_self.mpr fun _ _ => rfl
    rw [e2] at e
    exact e)
end
/-! ### one step of a reading, named -/
section
variable {σ : L2.St} {H : Hp} {D : Ends} {Q : VK} {te ta : TE} {tr : TA} {t u tb : TS} {wi : TI} {g : TG} {tt : TT} {vs : List Nat}
theorem next_go (h : D.nx σ H) : tNext D σ H := h
theorem ret_go (h : te σ H D.rt) : tRet te D σ H := h
theorem seq_go (h : t { D with nx := u D } σ H) : tSeq t u D σ H := h
theorem asg_go (h : te σ H fun x H1 => g x σ H1 D.nx) : tAsg te g D σ H := h
theorem drop_go (h : te σ H fun _ H1 => D.nx σ H1) : tDrop te D σ H := h
theorem cb_go {r : List V → Hp → VK → Prop} (h : tr σ H fun vs H1 => r vs H1 Q) : tCB r tr σ H Q := h
theorem cons_go {Q : List V → Hp → Prop} (h : ta σ H fun x H1 => tr σ H1 fun xs H2 => Q (x :: xs) H2) : tCons ta tr σ H Q := h
theorem op_go {r : R2} (h : te σ H fun x H1 => ta σ H1 fun y H2 => r x y H2 Q) : tOp r te ta σ H Q := h
theorem for_go (h : wi σ H fun J H1 => tFor (fun _ H R => R J H) g tb D σ H1) : tFor wi g tb D σ H := h
theorem lc_go (h : wi σ H fun J H1 => tLc (fun _ H R => R J H) g tt te vs σ H1 Q) : tLc wi g tt te vs σ H Q := h
theorem if_go {c : TT} {A B : TS} (h : c σ H fun b H1 => if b = true then A D σ H1 else B D σ H1) : tIfS c A B D σ H := h
theorem if_else {c : Prop} [Decidable c] {A B : Prop} (h1 : c → A) (h2 : ¬ c → B) : if decide c = true then A else B := by
  by_cases h : c
  · rw [decide_eq_true h, if_pos rfl]; exact h1 h
  · rw [decide_eq_false h, if_neg Bool.false_ne_true]; exact h2 h
end
/-! ### the layer's rules with K said -/
section
variable {X : Cx}
def rLn (K : PySem.W.Frag) : List V → Hp → VK → Prop := fun xs H Q => ∃ p ys, xs = [.ref p] ∧ (SqL K H p ys ∨ SqT K H p ys) ∧ Q (.int ys.length) H
def rLs (K : PySem.W.Frag) : List V → Hp → VK → Prop := fun xs H Q => ∃ p ys, xs = [.ref p] ∧ (SqL K H p ys ∨ SqT K H p ys) ∧ ∀ l, H l = none → Q (.ref l) (upd H l (.lst ys))
def rIns : V → List V → Hp → VK → Prop := fun x vs H Q => ∃ (l : Addr) (xs : List V) (i : Int) (y : V), x = .ref l ∧ vs = [.int i, y] ∧ H l = some (.lst xs) ∧
  xs.length < sizeLine ∧ 0 ≤ i ∧ i < 2 ^ 63 ∧ Q .non (upd H l (.lst (xs.take i.toNat ++ [y] ++ xs.drop i.toNat)))
theorem kInsert : MtR X "list.insert" rIns := mt_insert
def rTp (K : PySem.W.Frag) : List V → Hp → VK → Prop := fun xs H Q => ∃ p ys, xs = [.ref p] ∧ ((SqL K H p ys ∧ ∀ l, H l = none → Q (.ref l) (upd H l (.tup ys))) ∨ (SqT K H p ys ∧ Q (.ref p) H))
theorem kLen (K : PySem.W.Frag) (h : X.K = K := by rfl) : CallR X (.builtin "len") (rLn K) := by subst h; exact call_len_seq
theorem kList (K : PySem.W.Frag) (h : X.K = K := by rfl) : CallR X (.type "list") (rLs K) := by subst h; exact call_list_of
theorem kTuple (K : PySem.W.Frag) (h : X.K = K := by rfl) : CallR X (.type "tuple") (rTp K) := by subst h; exact call_tuple_of
theorem kAll (K : PySem.W.Frag) (h : X.K = K := by rfl) (hc : X.calm = true := by rfl) : CallR X (.builtin "all") (rAll K) := by subst h; exact cr_all hc
theorem kAny (K : PySem.W.Frag) (h : X.K = K := by rfl) (hc : X.calm = true := by rfl) : CallR X (.builtin "any") (rAny K) := by subst h; exact cr_any hc
theorem kSum (K : PySem.W.Frag) (h : X.K = K := by rfl) (hc : X.calm = true := by rfl) : CallR X (.builtin "sum") (rSum K) := by subst h; exact cr_sum hc
theorem kMax (K : PySem.W.Frag) (h : X.K = K := by rfl) (hc : X.calm = true := by rfl) : CallR X (.builtin "max") (rMax K) := by subst h; exact cr_max hc
theorem kIsi (K : PySem.W.Frag) (h : X.K = K := by rfl) : CallR X (.builtin "isinstance") (rIsi K) := by subst h; exact call_isi
theorem kIsiT (K : PySem.W.Frag) (h : X.K = K := by rfl) : CallR X (.builtin "isinstance") (rIsiT K) := by subst h; exact call_isiT
theorem kSortI (K : PySem.W.Frag) (h : X.K = K := by rfl) : CallR X (.builtin "sorted") (rSortedI K) := by subst h; exact cr_sortedI
theorem kSortP (K : PySem.W.Frag) (h : X.K = K := by rfl) : CallR X (.builtin "sorted") (rSortedPO K) := by subst h; exact cr_sortedPO
theorem kIxL (K : PySem.W.Frag) (h : X.K = K := by rfl) : IxR X (rIxL K) := by subst h; exact ix_list
theorem kIxT (K : PySem.W.Frag) (h : X.K = K := by rfl) : IxR X (rIxT K) := by subst h; exact ix_tup
theorem kSlL (K : PySem.W.Frag) (h : X.K = K := by rfl) : SlR X (rSlL K) := by subst h; exact sl_list
theorem kSlA (K : PySem.W.Frag) (h : X.K = K := by rfl) : SlR X (rSlA K) := by subst h; exact sl_tupA
theorem kIn (K : PySem.W.Frag) (h : X.K = K := by rfl) : OpR X (compareOp .In) (rIn K false) := by subst h; exact op_in_seq
theorem kNotIn (K : PySem.W.Frag) (h : X.K = K := by rfl) : OpR X (compareOp .NotIn) (rIn K true) := by subst h; exact op_notIn_seq
theorem kInD (K : PySem.W.Frag) (hu : X.A.units + 65 < cLine) (h : X.K = K := by rfl) : OpR X (compareOp .In) (rInD K) := by subst h; exact op_inD hu
theorem kNotInD (K : PySem.W.Frag) (hu : X.A.units + 65 < cLine) (h : X.K = K := by rfl) : OpR X (compareOp .NotIn) (rNotInD K) := by subst h; exact op_notInD hu
theorem kEqD (K : PySem.W.Frag) (hu : X.A.units + 64 < cLine) (h : X.K = K := by rfl) : OpR X (compareOp .Eq) (rEqD K) := by subst h; exact op_eqD hu
theorem kNeD (K : PySem.W.Frag) (hu : X.A.units + 64 < cLine) (h : X.K = K := by rfl) : OpR X (compareOp .NotEq) (rNeD K) := by subst h; exact op_neD hu
theorem kLtT (K : PySem.W.Frag) (hu : X.A.units < cLine) (h : X.K = K := by rfl) : OpR X (compareOp .Lt) (rLtT K) := by subst h; exact op_ltT hu
theorem kLeT (K : PySem.W.Frag) (hu : X.A.units < cLine) (h : X.K = K := by rfl) : OpR X (compareOp .LtE) (rLeT K) := by subst h; exact op_leT hu
theorem kCatA (K : PySem.W.Frag) (h : X.K = K := by rfl) : OpR X (binaryOp .Add) (rCatA K) := by subst h; exact op_catA
theorem kFld (K : PySem.W.Frag) {e : Expr} {f : Str} {pos : Pos} {ta : TE} (he : PE X e ta) (h : X.K = K := by rfl) (hb : attributeBase e f X.env (eval e X.env) = eval e X.env := by rfl) : PE X (.Attribute e f pos) (tFld K ta f) := by subst h; exact pe_fld he hb
/-! ### sorted of triples: a rank, a place, a name -/
abbrev Tri := Int × Int × Str
def triD (t : Tri) : PyData := .tuple [.int t.1, .int t.2.1, .str t.2.2]
def triLe : Tri → Tri → Bool := PySem.W.dataLe false triD
def TriAt (K : PySem.W.Frag) (H : Hp) (v : V) (t : Tri) : Prop := ∃ p, v = .ref p ∧ SqT K H p [.int t.1, .int t.2.1, .str t.2.2]
def rSort3 (K : PySem.W.Frag) : List V → Hp → VK → Prop := fun vs H Q => ∃ (a : Addr) (xs : List V) (ts : List Tri), vs = [V.ref a] ∧ SqL K H a xs ∧ Paired (TriAt K H) xs ts ∧
  ∀ ys p, Paired (TriAt K H) ys (ts.mergeSort triLe) → H p = none → Q (.ref p) (upd H p (.lst ys))
theorem TriAt.dp {K : PySem.W.Frag} {H : Hp} {v : V} {t : Tri} (h : TriAt K H v t) : Dp K H v (triD t) := by
  obtain ⟨p, rfl, h⟩ := h
  exact .tup h (.cons (.int _) (.cons (.int _) (.cons (.str _) .nil)))
theorem tri_alike (t u : Tri) : PySem.W.alike (triD t) (triD u) = true := by simp [triD, PySem.W.alike, PySem.W.alikeAll]
theorem tri_depth (t : Tri) : (triD t).depth = 1 := by simp [triD, PyData.depth, PyData.depthAll]
theorem each_of {xs : List V} {its : List Value} {ts : List Tri} {K : PySem.W.Frag} {H : Hp} : ∀ {xs : List V} {its : List Value} {ts : List Tri}, Vals xs its → Paired (TriAt K H) xs ts →
    PySem.W.EachIs (fun u (b : V × Tri) => RelV b.1 u ∧ TriAt K H b.1 b.2) its (xs.zip ts)
  | _, _, _, .nil, .nil => .nil
  | _, _, _, .cons r q, .cons r' q' => .cons ⟨r, r'⟩ (each_of (xs := []) (its := []) (ts := []) q q')
theorem each_vals {K : PySem.W.Frag} {H : Hp} : ∀ {its : List Value} {bs : List (V × Tri)}, PySem.W.EachIs (fun u (b : V × Tri) => RelV b.1 u ∧ TriAt K H b.1 b.2) its bs → Vals (bs.map Prod.fst) its ∧ Paired (TriAt K H) (bs.map Prod.fst) (bs.map Prod.snd)
  | _, _, .nil => ⟨.nil, .nil⟩
  | _, _, .cons r q => ⟨.cons r.1 (each_vals q).1, .cons r.2 (each_vals q).2⟩
theorem zip_snd {α β : Type} {R : α → β → Prop} : ∀ {xs : List α} {ts : List β}, Paired R xs ts → (xs.zip ts).map Prod.snd = ts
  | _, _, .nil => rfl
  | _, _, .cons _ q => by simp [zip_snd q]
theorem kSort3 (K : PySem.W.Frag) (hu : X.A.units + 64 < cLine) (h : X.K = K := by rfl) : CallR X (.builtin "sorted") (rSort3 K) := by
  subst h
  intro pins s σ H vs us Q I r h
  obtain ⟨a, xs, ts, rfl, hs, hx, q⟩ := h
  obtain ⟨its, rv, hl, hz⟩ := I.list hs
  obtain ⟨u, rfl, ru⟩ := vals1 r
  obtain rfl : u = Value.ref a := ru
  have e := each_of (xs := []) (its := []) (ts := []) rv hx
  have hlen : (xs.zip ts).length = its.length := by
    rw [List.length_zip, ← Pd.len hx, Nat.min_self, rv.length]
  refine PySem.W.sorted_data (enc := fun b : V × Tri => triD b.2) (R := fun u (b : V × Tri) => RelV b.1 u ∧ TriAt X.K H b.1 b.2) hl.isList e (e.mono fun u b hb => ?_) (PySem.W.AllAlike.of fun b b' => tri_alike _ _) (PySem.W.Sortable.tuples fun b => ⟨_, _, rfl⟩) ?_ ?_ ?_
  · exact Dp.reads I _ _ _ hb.2.dp hb.1
  · rw [hlen, ← rv.length]; exact hz
  · intro b _
    rw [tri_depth]
    omega
  · intro out ho eo
    obtain ⟨c, hc⟩ := PyProof.Rows.sortedAll_at s.heap its out.toArray
    obtain ⟨v1, v2⟩ := each_vals eo
    have e2 : ((xs.zip ts).mergeSort (PySem.W.dataLe false fun b : V × Tri => triD b.2)).map Prod.snd = ts.mergeSort triLe := by
      have m := List.map_mergeSort (f := Prod.snd) (r := PySem.W.dataLe false fun b : V × Tri => triD b.2) (s := triLe) (l := xs.zip ts) (fun _ _ _ _ => rfl)
      rw [m, zip_snd hx]
    rw [e2] at v2
    have hn : H (s.heap.objs.size + 1) = none := I.hok.fresh (Nat.le_succ _)
    refine ⟨.ref (s.heap.objs.size + 1), upd H (s.heap.objs.size + 1) (.lst (((xs.zip ts).mergeSort (PySem.W.dataLe false fun b : V × Tri => triD b.2)).map Prod.fst)), I.laid (t' := s.toks) (fun b o z => PyProof.Rows.sortedAll_old z) (Nat.le_succ _) ⟨?_, out, c, v1, hc⟩, rfl, q _ _ v2 hn⟩
    rw [v1.length, ho, hlen, ← rv.length]
    exact hz
/-- pairs of whole numbers, greater, or not less -/
def rGtP (K : PySem.W.Frag) : R2 := fun x y H Q => ∃ (a b : Addr) (i j k l : Int), x = .ref a ∧ y = .ref b ∧ SqT K H a [.int i, .int j] ∧ SqT K H b [.int k, .int l] ∧ Q (.bl (decide (k < i ∨ (i = k ∧ l < j)))) H
def rGeP (K : PySem.W.Frag) : R2 := fun x y H Q => ∃ (a b : Addr) (i j k l : Int), x = .ref a ∧ y = .ref b ∧ SqT K H a [.int i, .int j] ∧ SqT K H b [.int k, .int l] ∧ Q (.bl (decide (k < i ∨ (i = k ∧ l ≤ j)))) H
theorem eqInt {A : Around} {s : Shared} {i k : Int} {t u : Tok} : SeqAt.EqAt A s (.int i t) (.int k u) (decide (i = k)) := by
  have z : (i == k) = decide (i = k) := by
    by_cases q : i = k
    · rw [decide_eq_true q]; exact beq_iff_eq.mpr q
    · rw [decide_eq_false q]; exact beq_eq_false_iff_ne.mpr q
  rw [← z]
  exact SeqAt.EqAt.int_int _ _ _ _
theorem pairInts {xs : List Value} {i j : Int} (r : Vals [V.int i, V.int j] xs) : ∃ t u, xs = [.int i t, .int j u] := by
  cases r with
  | cons r1 r =>
    cases r with
    | cons r2 r =>
      cases r
      obtain ⟨t, rfl⟩ := r1
      obtain ⟨u, rfl⟩ := r2
      exact ⟨t, u, rfl⟩
def two (p q : Bool) : Nat → Bool
  | 0 => p
  | _ => q
theorem kGtP (K : PySem.W.Frag) (hu : X.A.units < cLine) (h : X.K = K := by rfl) : OpR X (compareOp .Gt) (rGtP K) := by
  subst h
  intro pins s σ H x y v u Q I rx ry h
  obtain ⟨a, b, i, j, k, l, rfl, rfl, ha, hb, q⟩ := h
  cases rx; cases ry
  obtain ⟨xs, r1, p1, _⟩ := I.tuple ha
  obtain ⟨ys, r2, p2, _⟩ := I.tuple hb
  obtain ⟨t1, u1, rfl⟩ := pairInts r1
  obtain ⟨t2, u2, rfl⟩ := pairInts r2
  have R := Ob.RcOp.tuples_gt (A := X.A) (s := s) (e := two (decide (i = k)) (decide (j = l))) (r := two (decide (i > k)) (decide (j > l))) p1 p2 hu
    (fun m h1 h2 => match m, h1, h2 with | 0, _, _ => eqInt | 1, _, _ => eqInt | m + 2, h1, _ => absurd h1 (by simp)) (fun m h1 h2 _ => match m, h1, h2 with | 0, _, _ => Ob.RcOp.gt_int _ _ _ _ | 1, _, _ => Ob.RcOp.gt_int _ _ _ _ | m + 2, h1, _ => absurd h1 (by simp))
  have e : Ob.lexAt (two (decide (i = k)) (decide (j = l))) (two (decide (i > k)) (decide (j > l))) (decide (([Value.int i t1, .int j u1] : List Value).toArray.size > ([Value.int k t2, .int l u2] : List Value).toArray.size)) 0
      (min ([Value.int i t1, .int j u1] : List Value).toArray.size ([Value.int k t2, .int l u2] : List Value).toArray.size) = decide (k < i ∨ (i = k ∧ l < j)) := by
    show (if decide (i = k) = true then (if decide (j = l) = true then decide (2 > 2) else decide (j > l)) else decide (i > k)) = _
    by_cases e1 : i = k <;> by_cases e2 : j = l <;> simp [e1, e2]
    all_goals omega
  rw [e] at R
  exact R X.prog X.w X.xe (EP X pins σ Q) ⟨.bl _, H, I, rfl, q⟩
theorem kGeP (K : PySem.W.Frag) (hu : X.A.units < cLine) (h : X.K = K := by rfl) : OpR X (compareOp .GtE) (rGeP K) := by
  subst h
  intro pins s σ H x y v u Q I rx ry h
  obtain ⟨a, b, i, j, k, l, rfl, rfl, ha, hb, q⟩ := h
  cases rx; cases ry
  obtain ⟨xs, r1, p1, _⟩ := I.tuple ha
  obtain ⟨ys, r2, p2, _⟩ := I.tuple hb
  obtain ⟨t1, u1, rfl⟩ := pairInts r1
  obtain ⟨t2, u2, rfl⟩ := pairInts r2
  have R := Ob.RcOp.tuples_ge (A := X.A) (s := s) (e := two (decide (i = k)) (decide (j = l))) (r := two (decide (i ≥ k)) (decide (j ≥ l))) p1 p2 hu
    (fun m h1 h2 => match m, h1, h2 with | 0, _, _ => eqInt | 1, _, _ => eqInt | m + 2, h1, _ => absurd h1 (by simp)) (fun m h1 h2 _ => match m, h1, h2 with | 0, _, _ => Ob.RcOp.ge_int _ _ _ _ | 1, _, _ => Ob.RcOp.ge_int _ _ _ _ | m + 2, h1, _ => absurd h1 (by simp))
  have e : Ob.lexAt (two (decide (i = k)) (decide (j = l))) (two (decide (i ≥ k)) (decide (j ≥ l))) (decide (([Value.int i t1, .int j u1] : List Value).toArray.size ≥ ([Value.int k t2, .int l u2] : List Value).toArray.size)) 0
      (min ([Value.int i t1, .int j u1] : List Value).toArray.size ([Value.int k t2, .int l u2] : List Value).toArray.size) = decide (k < i ∨ (i = k ∧ l ≤ j)) := by
    show (if decide (i = k) = true then (if decide (j = l) = true then decide (2 ≥ 2) else decide (j ≥ l)) else decide (i ≥ k)) = _
    by_cases e1 : i = k <;> by_cases e2 : j = l <;> simp [e1, e2]
    all_goals omega
  rw [e] at R
  exact R X.prog X.w X.xe (EP X pins σ Q) ⟨.bl _, H, I, rfl, q⟩
/-- a text, n times -/
def repS (z : Str) (n : Nat) : Str := ⟨(List.replicate n z.cps).foldl (· ++ ·) #[]⟩
theorem fold_cat : ∀ (l : List (Array Nat)) (a : Array Nat), (l.foldl (· ++ ·) a).toList = a.toList ++ (l.map Array.toList).flatten
  | [], a => by simp
  | b :: l, a => by
    rw [List.foldl_cons, fold_cat l (a ++ b)]
    simp
theorem repS_list (z : Str) (n : Nat) : (repS z n).cps.toList = (List.replicate n z.cps.toList).flatten := by
  unfold repS
  rw [fold_cat]
  simp
theorem str_ext {x y : Str} (h : x.cps.toList = y.cps.toList) : x = y := by
  cases x; cases y
  congr
  exact Array.toList_inj.mp h
theorem str_len (x : Str) : x.length = x.cps.toList.length := by
  show x.cps.size = _
  simp
theorem repS_len (z : Str) (n : Nat) : (repS z n).length = n * z.length := by
  rw [str_len, repS_list, str_len]
  simp
def rMulS : R2 := fun x y H Q => ∃ (z : Str) (n : Int), x = .str z ∧ y = .int n ∧ 0 ≤ n ∧ n ≤ 4000 ∧ z.length ≤ 4000 ∧ Q (.str (repS z n.toNat)) H
theorem kMulS : OpR X (binaryOp .Mult) rMulS := by
  intro pins s σ H x y v u Q I rx ry h
  obtain ⟨z, n, rfl, rfl, h0, h1, hz, q⟩ := h
  obtain ⟨t, rfl⟩ := rx
  obtain ⟨t', rfl⟩ := ry
  have big : ∀ m : Nat, m ≤ 16000000 → Builtin.Str.tooLong m = false := fun m hm => by
    unfold Builtin.Str.tooLong
    rw [sizeLine_eq]
    exact decide_eq_false (by omega)
  have hp : z.length * n.toNat ≤ 4000 * 4000 := Nat.mul_le_mul hz (by omega)
  refine P.mul_str (by rw [decide_eq_false (by omega), decide_eq_false (by omega)]; rfl) (fun hn _ hh => ?_) (fun _ _ => big _ (by omega)) ?_
  · have e1 : (4000 : Int) ≤ (2 ^ 63 - 1) / n := Int.le_ediv_of_mul_le (by omega) (by omega)
    omega
  · by_cases hn : n < 1
    · have e : n = 0 := by omega
      subst e
      rw [if_pos hn]
      exact ⟨by decide, .str _, H, I.tok _, ⟨_, rfl⟩, q⟩
    · rw [if_neg hn]
      by_cases h2 : (n == 1 || z.length == 0) = true
      · rw [if_pos h2]
        have e : repS z n.toNat = z := by
          refine str_ext ?_
          rw [repS_list]
          rcases Bool.or_eq_true_iff.mp h2 with h | h
          · have h : n = 1 := by simpa using h
            subst h
            simp
          · have h : z.length = 0 := by simpa using h
            rw [str_len] at h
            have h : z.cps.toList = [] := List.eq_nil_of_length_eq_zero h
            rw [h]
            simp
        rw [e] at q
        exact ⟨.str z, H, I, ⟨_, rfl⟩, q⟩
      · rw [if_neg h2]
        refine ⟨?_, .str _, H, I.tok _, ⟨_, rfl⟩, q⟩
        have e := repS_len z n.toNat
        unfold repS at e
        rw [e, sizeLine_eq, Nat.mul_comm]
        omega
def tTruth (K : PySem.W.Frag) (ta : TE) : TT := fun σ H Q => ta σ H fun x H' => ∃ k, TruV K x H' k ∧ Q k H'
theorem kTruth (K : PySem.W.Frag) {e : Expr} {ta : TE} (he : PE X e ta) (h : X.K = K := by rfl) (hb : ∀ whole, isTrue e X.env whole = (do let v ← whole; standAt e.pos; holding [v] (truthy v)) := by intro _; rfl) : PT X e (tTruth K ta) := by subst h; exact pt_truth he hb
theorem kTup (K : PySem.W.Frag) {es : List Expr} {k n : Nat} {t : TGs} {pos : Pos} (g : PGs X es t) (h : X.K = K := by rfl) (hc : X.calm = true := by rfl)
    (hn : (assignEach es X.env).length = n := by rfl) (hst : (assignEach es X.env).findIdx? (·.1) = none := by rfl) : PG X (.Tuple es k pos) (gTup K n t) := by subst h; exact pg_tup hc g hn hst
end
section
variable {K : PySem.W.Frag}
theorem iteT' {c : Bool} {A B : Prop} (e : c = true) (h : A) : if c = true then A else B := by rw [if_pos e]; exact h
theorem iteF' {c : Bool} {A B : Prop} (e : c = false) (h : B) : if c = true then A else B := by rw [if_neg (by rw [e]; decide)]; exact h
theorem tYes_go {σ : L2.St} {H : Hp} {Q : Bool → Hp → Prop} (h : Q true H) : tYes σ H Q := h
theorem isI {H : Hp} {i : Int} : TyX K H (.int i) (.type "int") := .base (.int _)
theorem isS {H : Hp} {x : Str} : TyX K H (.str x) (.type "str") := .base (.str _)
theorem isB {H : Hp} {x : Bool} : TyX K H (.bl x) (.type "bool") := .base (.bl _)
theorem isT {H : Hp} {p : Addr} {xs : List V} (h : H p = some (.tup xs)) : TyX K H (.ref p) (.type "tuple") := .base (.tup h)
theorem isL {H : Hp} {p : Addr} {xs : List V} (h : H p = some (.lst xs)) : TyX K H (.ref p) (.type "list") := .base (.lst h)
end
theorem flat_strs (l : List Str) : (l.map V.str).all flatV = true := by simp [flatV]
theorem inV_strs (x : Str) (l : List Str) : inV (V.str x) (l.map V.str) = decide (x ∈ l) := by
  unfold inV
  induction l with
  | nil => simp
  | cons y l ih =>
    rw [List.map_cons, List.any_cons, ih]
    have e : eqV (V.str y) (V.str x) = decide (y = x) := by
      show (y == x) = decide (y = x)
      rw [Bool.eq_iff_iff]
      simp
    rw [e]
    by_cases h : y = x <;> simp [h, eq_comm]
    by_cases h2 : x = y
    · exact absurd h2.symm h
    · simp [h2]
theorem nodup_len {α : Type} [DecidableEq α] : ∀ {l m : List α}, l.Nodup → (∀ x ∈ l, x ∈ m) → l.length ≤ m.length
  | [], _, _, _ => Nat.zero_le _
  | x :: l, m, nd, h => by
    have nd' := List.nodup_cons.mp nd
    have hx : x ∈ m := h x List.mem_cons_self
    have ih := nodup_len (l := l) (m := m.erase x) nd'.2 fun y hy => (List.mem_erase_of_ne (fun e => nd'.1 (by rw [← e]; exact hy))).mpr (h y (List.mem_cons_of_mem _ hy))
    rw [List.length_erase_of_mem hx] at ih
    have : 0 < m.length := List.length_pos_of_mem hx
    simp
    omega
/-! ### a comprehension over a range -/
section
variable {tt : TT} {te : TE} {σ : L2.St} {H : Hp} {vs : List Nat} {Q : VK} {j : Nat}
theorem range_snoc {β : Type} (f : Nat → β) (i : Nat) : (List.range (i + 1)).map f = (List.range i).map f ++ [f i] := by
  rw [List.range_succ, List.map_append]
  rfl
/-- no test; the items by S, which the list that is made at D may be part of -/
theorem lc_rg {lo : Int} {n : Nat} {β : Type} (S : Addr → Hp → V → β → Prop) (f : Nat → β) (hz : n < sizeLine) (hw : ∀ x, wipe ((wipe σ vs).set j (some x)) vs = wipe σ vs) (st : ∀ D H H' v d, Kp [D] H H' → S D H v d → S D H' v d)
    (he : ∀ D acc i H' (Q : VK), i < n → H D = none → H' D = some (.lst acc) → Kp [] H H' → (∀ v H'', Kp [] H' H'' → S D H'' v (f i) → Q v H'') → te ((wipe σ vs).set j (some (.int (lo + (i : Nat))))) H' Q)
    (k : ∀ D H' xs, H D = none → Kp [] H H' → H' D = some (.lst xs) → Paired (S D H') xs ((List.range n).map f) → Q (.ref D) H') : tLc (fun _ H R => R (Itr lo n) H) (gName j) tYes te vs σ H Q := fun D hD =>
  lc_range (fun i H' => ∃ acc, H' D = some (.lst acc) ∧ acc.length = i ∧ Kp [] H H' ∧ Paired (S D H') acc ((List.range i).map f)) ⟨[], upd_same, rfl, (Kp.refl _ _).new hD, .nil⟩
    (fun i H' hi ⟨acc, e, hl, kp, pd⟩ => by
      refine ⟨hw _, tYes_go (iteT (he D acc i H' _ hi hD e kp fun v H2 k2 s2 => ?_))⟩
      have e2 := k2.keep0 e
      have kd : Kp [D] H2 (upd H2 D (.lst (acc ++ [v]))) := (Kp.refl _ _).lst (.inl (by simp)) e2
      have k2d : Kp [D] H' H2 := k2.mono (by simp)
      refine ⟨acc, e2, by omega, acc ++ [v], upd_same, by simp [hl], (kp.trans k2).lst (.inr hD) e2, ?_⟩
      rw [range_snoc]
      exact Pd.append (Pd.mono (fun _ _ z => st _ _ _ _ _ kd (st _ _ _ _ _ k2d z)) pd) (.cons (st _ _ _ _ _ kd s2) .nil))
    (fun H' ⟨acc, e, hl, kp, pd⟩ => k D H' acc hD kp e pd)
/-- .. whose items are plain -/
theorem lc_rmp {lo : Int} {n : Nat} (f : Nat → V) (hz : n < sizeLine) (hw : ∀ x, wipe ((wipe σ vs).set j (some x)) vs = wipe σ vs)
    (he : ∀ i H' (Q : VK), i < n → Kp [] H H' → (∀ H'', Kp [] H' H'' → Q (f i) H'') → te ((wipe σ vs).set j (some (.int (lo + (i : Nat))))) H' Q)
    (k : ∀ D H', H D = none → Kp [] H H' → H' D = some (.lst ((List.range n).map f)) → Q (.ref D) H') : tLc (fun _ H R => R (Itr lo n) H) (gName j) tYes te vs σ H Q :=
  lc_rg (fun _ _ v d => v = d) f hz hw (fun _ _ _ _ _ _ e => e) (fun D acc i H' Q hi _ _ kp q => he i H' Q hi kp fun H2 k2 => q _ H2 k2 rfl)
    fun D H' xs hD kp e pd => k D H' hD kp (by
      have e2 := Pd.eqmap (f := fun v => v) pd
      rw [List.map_id'] at e2
      rw [e, e2])
end
end Ev
namespace Ev
open PySem L2
/-! ### the data of a loom -/
inductive Row where
  | send (n : Nat) | begin (n : Nat) (t : Int) | call (n : Nat) (x : Str) | make (m n : Nat) | cancel (n : Nat) (ns : List Nat)
  | join (n : Nat) (x : Str) | leave (n : Nat) (x : Str) | hush (n : Nat) | fin (n : Nat)
  deriving DecidableEq
def nV (n : Nat) : V := .int (n : Int)
def Row.tag : Row → Str
  | .send _ => "send" | .begin _ _ => "begin" | .call _ _ => "call" | .make _ _ => "make" | .cancel _ _ => "cancel"
  | .join _ _ => "join" | .leave _ _ => "leave" | .hush _ => "hush" | .fin _ => "end"
/-- what stands behind the tag; q: where a cancel's numbers stand -/
def Row.rest (q : Addr) : Row → List V
  | .send n => [nV n] | .begin n t => [nV n, .int t] | .call n x => [nV n, .str x] | .make m n => [nV m, nV n] | .cancel n _ => [nV n, .ref q]
  | .join n x => [nV n, .str x] | .leave n x => [nV n, .str x] | .hush n => [nV n] | .fin n => [nV n]
def Row.more (H : Hp) (q : Addr) : Row → Prop
  | .cancel _ ns => H q = some (.tup (ns.map nV))
  | _ => True
def RowAt (H : Hp) (v : V) (r : Row) : Prop := ∃ p q, v = .ref p ∧ H p = some (.tup (.str r.tag :: r.rest q)) ∧ r.more H q
theorem RowAt.kp {M : List Addr} {H H' : Hp} (k : Kp M H H') {v : V} {r : Row} (h : RowAt H v r) : RowAt H' v r := by
  obtain ⟨p, q, e, h1, h2⟩ := h
  refine ⟨p, q, e, k.tup _ _ h1, ?_⟩
  cases r <;> first | trivial | exact k.tup _ _ h2
def Row.isSend : Row → Bool | .send _ => true | _ => false
theorem Row.isSend_tag : ∀ r : Row, decide (V.str r.tag = V.str "send") = r.isSend
  | .send _ => (by decide +kernel : decide (V.str "send" = V.str "send") = true)
  | .begin _ _ => (by decide +kernel : decide (V.str "begin" = V.str "send") = false)
  | .call _ _ => (by decide +kernel : decide (V.str "call" = V.str "send") = false)
  | .make _ _ => (by decide +kernel : decide (V.str "make" = V.str "send") = false)
  | .cancel _ _ => (by decide +kernel : decide (V.str "cancel" = V.str "send") = false)
  | .join _ _ => (by decide +kernel : decide (V.str "join" = V.str "send") = false)
  | .leave _ _ => (by decide +kernel : decide (V.str "leave" = V.str "send") = false)
  | .hush _ => (by decide +kernel : decide (V.str "hush" = V.str "send") = false)
  | .fin _ => (by decide +kernel : decide (V.str "end" = V.str "send") = false)
def Row.isBegin : Row → Bool | .begin _ _ => true | _ => false
theorem Row.isBegin_tag : ∀ r : Row, decide (V.str r.tag = V.str "begin") = r.isBegin
  | .send _ => (by decide +kernel : decide (V.str "send" = V.str "begin") = false)
  | .begin _ _ => (by decide +kernel : decide (V.str "begin" = V.str "begin") = true)
  | .call _ _ => (by decide +kernel : decide (V.str "call" = V.str "begin") = false)
  | .make _ _ => (by decide +kernel : decide (V.str "make" = V.str "begin") = false)
  | .cancel _ _ => (by decide +kernel : decide (V.str "cancel" = V.str "begin") = false)
  | .join _ _ => (by decide +kernel : decide (V.str "join" = V.str "begin") = false)
  | .leave _ _ => (by decide +kernel : decide (V.str "leave" = V.str "begin") = false)
  | .hush _ => (by decide +kernel : decide (V.str "hush" = V.str "begin") = false)
  | .fin _ => (by decide +kernel : decide (V.str "end" = V.str "begin") = false)
def Row.isCall : Row → Bool | .call _ _ => true | _ => false
theorem Row.isCall_tag : ∀ r : Row, decide (V.str r.tag = V.str "call") = r.isCall
  | .send _ => (by decide +kernel : decide (V.str "send" = V.str "call") = false)
  | .begin _ _ => (by decide +kernel : decide (V.str "begin" = V.str "call") = false)
  | .call _ _ => (by decide +kernel : decide (V.str "call" = V.str "call") = true)
  | .make _ _ => (by decide +kernel : decide (V.str "make" = V.str "call") = false)
  | .cancel _ _ => (by decide +kernel : decide (V.str "cancel" = V.str "call") = false)
  | .join _ _ => (by decide +kernel : decide (V.str "join" = V.str "call") = false)
  | .leave _ _ => (by decide +kernel : decide (V.str "leave" = V.str "call") = false)
  | .hush _ => (by decide +kernel : decide (V.str "hush" = V.str "call") = false)
  | .fin _ => (by decide +kernel : decide (V.str "end" = V.str "call") = false)
def Row.isMake : Row → Bool | .make _ _ => true | _ => false
theorem Row.isMake_tag : ∀ r : Row, decide (V.str r.tag = V.str "make") = r.isMake
  | .send _ => (by decide +kernel : decide (V.str "send" = V.str "make") = false)
  | .begin _ _ => (by decide +kernel : decide (V.str "begin" = V.str "make") = false)
  | .call _ _ => (by decide +kernel : decide (V.str "call" = V.str "make") = false)
  | .make _ _ => (by decide +kernel : decide (V.str "make" = V.str "make") = true)
  | .cancel _ _ => (by decide +kernel : decide (V.str "cancel" = V.str "make") = false)
  | .join _ _ => (by decide +kernel : decide (V.str "join" = V.str "make") = false)
  | .leave _ _ => (by decide +kernel : decide (V.str "leave" = V.str "make") = false)
  | .hush _ => (by decide +kernel : decide (V.str "hush" = V.str "make") = false)
  | .fin _ => (by decide +kernel : decide (V.str "end" = V.str "make") = false)
def Row.isCancel : Row → Bool | .cancel _ _ => true | _ => false
theorem Row.isCancel_tag : ∀ r : Row, decide (V.str r.tag = V.str "cancel") = r.isCancel
  | .send _ => (by decide +kernel : decide (V.str "send" = V.str "cancel") = false)
  | .begin _ _ => (by decide +kernel : decide (V.str "begin" = V.str "cancel") = false)
  | .call _ _ => (by decide +kernel : decide (V.str "call" = V.str "cancel") = false)
  | .make _ _ => (by decide +kernel : decide (V.str "make" = V.str "cancel") = false)
  | .cancel _ _ => (by decide +kernel : decide (V.str "cancel" = V.str "cancel") = true)
  | .join _ _ => (by decide +kernel : decide (V.str "join" = V.str "cancel") = false)
  | .leave _ _ => (by decide +kernel : decide (V.str "leave" = V.str "cancel") = false)
  | .hush _ => (by decide +kernel : decide (V.str "hush" = V.str "cancel") = false)
  | .fin _ => (by decide +kernel : decide (V.str "end" = V.str "cancel") = false)
def Row.isJoin : Row → Bool | .join _ _ => true | _ => false
theorem Row.isJoin_tag : ∀ r : Row, decide (V.str r.tag = V.str "join") = r.isJoin
  | .send _ => (by decide +kernel : decide (V.str "send" = V.str "join") = false)
  | .begin _ _ => (by decide +kernel : decide (V.str "begin" = V.str "join") = false)
  | .call _ _ => (by decide +kernel : decide (V.str "call" = V.str "join") = false)
  | .make _ _ => (by decide +kernel : decide (V.str "make" = V.str "join") = false)
  | .cancel _ _ => (by decide +kernel : decide (V.str "cancel" = V.str "join") = false)
  | .join _ _ => (by decide +kernel : decide (V.str "join" = V.str "join") = true)
  | .leave _ _ => (by decide +kernel : decide (V.str "leave" = V.str "join") = false)
  | .hush _ => (by decide +kernel : decide (V.str "hush" = V.str "join") = false)
  | .fin _ => (by decide +kernel : decide (V.str "end" = V.str "join") = false)
def Row.isLeave : Row → Bool | .leave _ _ => true | _ => false
theorem Row.isLeave_tag : ∀ r : Row, decide (V.str r.tag = V.str "leave") = r.isLeave
  | .send _ => (by decide +kernel : decide (V.str "send" = V.str "leave") = false)
  | .begin _ _ => (by decide +kernel : decide (V.str "begin" = V.str "leave") = false)
  | .call _ _ => (by decide +kernel : decide (V.str "call" = V.str "leave") = false)
  | .make _ _ => (by decide +kernel : decide (V.str "make" = V.str "leave") = false)
  | .cancel _ _ => (by decide +kernel : decide (V.str "cancel" = V.str "leave") = false)
  | .join _ _ => (by decide +kernel : decide (V.str "join" = V.str "leave") = false)
  | .leave _ _ => (by decide +kernel : decide (V.str "leave" = V.str "leave") = true)
  | .hush _ => (by decide +kernel : decide (V.str "hush" = V.str "leave") = false)
  | .fin _ => (by decide +kernel : decide (V.str "end" = V.str "leave") = false)
def Row.isHush : Row → Bool | .hush _ => true | _ => false
theorem Row.isHush_tag : ∀ r : Row, decide (V.str r.tag = V.str "hush") = r.isHush
  | .send _ => (by decide +kernel : decide (V.str "send" = V.str "hush") = false)
  | .begin _ _ => (by decide +kernel : decide (V.str "begin" = V.str "hush") = false)
  | .call _ _ => (by decide +kernel : decide (V.str "call" = V.str "hush") = false)
  | .make _ _ => (by decide +kernel : decide (V.str "make" = V.str "hush") = false)
  | .cancel _ _ => (by decide +kernel : decide (V.str "cancel" = V.str "hush") = false)
  | .join _ _ => (by decide +kernel : decide (V.str "join" = V.str "hush") = false)
  | .leave _ _ => (by decide +kernel : decide (V.str "leave" = V.str "hush") = false)
  | .hush _ => (by decide +kernel : decide (V.str "hush" = V.str "hush") = true)
  | .fin _ => (by decide +kernel : decide (V.str "end" = V.str "hush") = false)
def Row.isFin : Row → Bool | .fin _ => true | _ => false
theorem Row.isFin_tag : ∀ r : Row, decide (V.str r.tag = V.str "end") = r.isFin
  | .send _ => (by decide +kernel : decide (V.str "send" = V.str "end") = false)
  | .begin _ _ => (by decide +kernel : decide (V.str "begin" = V.str "end") = false)
  | .call _ _ => (by decide +kernel : decide (V.str "call" = V.str "end") = false)
  | .make _ _ => (by decide +kernel : decide (V.str "make" = V.str "end") = false)
  | .cancel _ _ => (by decide +kernel : decide (V.str "cancel" = V.str "end") = false)
  | .join _ _ => (by decide +kernel : decide (V.str "join" = V.str "end") = false)
  | .leave _ _ => (by decide +kernel : decide (V.str "leave" = V.str "end") = false)
  | .hush _ => (by decide +kernel : decide (V.str "hush" = V.str "end") = false)
  | .fin _ => (by decide +kernel : decide (V.str "end" = V.str "end") = true)
end Ev
namespace Ev
open PySem L2
/-! ### the loom's data -/
inductive Deed where
  | now (w : Str) | soon (w : Str) | wait (n : Int) (w : Str) | cancel (w : Str) | join (x : Str) | leave (x : Str) | hush
  deriving DecidableEq
def Deed.vals : Deed → List V
  | .now w => [.str "now", .str w] | .soon w => [.str "soon", .str w] | .wait n w => [.str "wait", .int n, .str w] | .cancel w => [.str "cancel", .str w]
  | .join x => [.str "join", .str x] | .leave x => [.str "leave", .str x] | .hush => [.str "hush"]
structure Hnd where
  name : Str
  rank : Int
  hears : Str
  once : Bool
  deeds : List Deed
inductive Road where
  | now | soon | wait
  deriving DecidableEq
def Road.str : Road → Str
  | .now => "now" | .soon => "soon" | .wait => "wait"
structure Evt where
  word : Str
  maker : Option Nat
  road : Road
  due : Int
  deriving DecidableEq
def onV : Option Nat → V
  | none => .non
  | some n => nV n
def Evt.vals (e : Evt) : List V := [.str e.word, onV e.maker, .str e.road.str, .int e.due]
structure Frm where
  number : Nat
  called : List (Str × Nat)
  deeds : List Deed
  place : Nat
structure LoomS where
  hs : List Hnd
  time : Int
  events : List Evt
  log : List Row
  frames : List Frm
  fresh : Option Nat
  soon : List Nat
  rows : List (Int × Nat)
  stood : Nat
  stands : List (Str × Nat)
/-! ### where it stands -/
def TK (H H' : Hp) : Prop := ∀ a xs, H a = some (.tup xs) → H' a = some (.tup xs)
def DeedAt (H : Hp) (v : V) (d : Deed) : Prop := ∃ p, v = .ref p ∧ H p = some (.tup d.vals)
def HndAt (H : Hp) (v : V) (h : Hnd) : Prop := ∃ p q ds, v = .ref p ∧ H p = some (.tup [.str h.name, .int h.rank, .str h.hears, .bl h.once, .ref q]) ∧ H q = some (.tup ds) ∧ Paired (DeedAt H) ds h.deeds
def CallAt (H : Hp) (v : V) (c : Str × Nat) : Prop := ∃ p, v = .ref p ∧ H p = some (.tup [.str c.1, nV c.2])
def EvtAt (H : Hp) (v : V) (e : Evt) : Prop := ∃ p, v = .ref p ∧ H p = some (.tup e.vals)
def RwAt (H : Hp) (v : V) (r : Int × Nat) : Prop := ∃ p, v = .ref p ∧ H p = some (.tup [.int r.1, nV r.2])
theorem DeedAt.tk {H H' : Hp} (k : TK H H') {v : V} {d : Deed} (h : DeedAt H v d) : DeedAt H' v d := by
  obtain ⟨p, e, h1⟩ := h
  exact ⟨p, e, k _ _ h1⟩
theorem HndAt.tk {H H' : Hp} (k : TK H H') {v : V} {d : Hnd} (h : HndAt H v d) : HndAt H' v d := by
  obtain ⟨p, q, ds, e, h1, h2, h3⟩ := h
  exact ⟨p, q, ds, e, k _ _ h1, k _ _ h2, Pd.mono (fun _ _ => DeedAt.tk k) h3⟩
theorem CallAt.tk {H H' : Hp} (k : TK H H') {v : V} {d : Str × Nat} (h : CallAt H v d) : CallAt H' v d := by
  obtain ⟨p, e, h1⟩ := h
  exact ⟨p, e, k _ _ h1⟩
theorem EvtAt.tk {H H' : Hp} (k : TK H H') {v : V} {d : Evt} (h : EvtAt H v d) : EvtAt H' v d := by
  obtain ⟨p, e, h1⟩ := h
  exact ⟨p, e, k _ _ h1⟩
theorem RwAt.tk {H H' : Hp} (k : TK H H') {v : V} {d : Int × Nat} (h : RwAt H v d) : RwAt H' v d := by
  obtain ⟨p, e, h1⟩ := h
  exact ⟨p, e, k _ _ h1⟩
theorem RowAt.tk {H H' : Hp} (k : TK H H') {v : V} {r : Row} (h : RowAt H v r) : RowAt H' v r := by
  obtain ⟨p, q, e, h1, h2⟩ := h
  refine ⟨p, q, e, k _ _ h1, ?_⟩
  cases r <;> first | trivial | exact k _ _ h2
def Stb {α : Type} (R : Hp → V → α → Prop) : Prop := ∀ H H' v d, TK H H' → R H v d → R H' v d
theorem deedStb : Stb DeedAt := fun _ _ _ _ k h => DeedAt.tk k h
theorem hndStb : Stb HndAt := fun _ _ _ _ k h => HndAt.tk k h
theorem callStb : Stb CallAt := fun _ _ _ _ k h => CallAt.tk k h
theorem evtStb : Stb EvtAt := fun _ _ _ _ k h => EvtAt.tk k h
theorem rwStb : Stb RwAt := fun _ _ _ _ k h => RwAt.tk k h
theorem rowStb : Stb RowAt := fun _ _ _ _ k h => RowAt.tk k h
/-- at c a list of data -/
def LstAt {α : Type} (R : Hp → V → α → Prop) (H : Hp) (c : Addr) (ds : List α) : Prop := ∃ xs, H c = some (.lst xs) ∧ Paired (R H) xs ds
theorem LstAt.tr {α : Type} {R : Hp → V → α → Prop} (f : Stb R) {H H' : Hp} {c : Addr} {ds : List α} (k : TK H H') (e : H' c = H c) (h : LstAt R H c ds) : LstAt R H' c ds := by
  obtain ⟨xs, h1, h2⟩ := h
  exact ⟨xs, by rw [e]; exact h1, Pd.mono (fun _ _ => f _ _ _ _ k) h2⟩
theorem LstAt.put {α : Type} {R : Hp → V → α → Prop} (f : Stb R) {H : Hp} {c : Addr} {ds : List α} {xs : List V} (k : TK H (upd H c (.lst xs))) (h2 : Paired (R H) xs ds) : LstAt R (upd H c (.lst xs)) c ds :=
  ⟨xs, upd_same, Pd.mono (fun _ _ => f _ _ _ _ k) h2⟩
structure FrA where
  fa : Addr
  dx : Addr
  lc : Addr
def frmFs (f : Frm) (lc dq : Addr) : List (Str × V) := [("number", nV f.number), ("called", .ref lc), ("deeds", .ref dq), ("place", nV f.place)]
def DdsAt (H : Hp) (q : Addr) (ds : List Deed) : Prop := ∃ xs, H q = some (.tup xs) ∧ Paired (DeedAt H) xs ds
theorem DdsAt.tk {H H' : Hp} (k : TK H H') {q : Addr} {ds : List Deed} (h : DdsAt H q ds) : DdsAt H' q ds := by
  obtain ⟨xs, h1, h2⟩ := h
  exact ⟨xs, k _ _ h1, Pd.mono (fun _ _ => DeedAt.tk k) h2⟩
def FrmAt (CF : Addr) (H : Hp) (A : FrA) (f : Frm) : Prop :=
  ∃ dq, H A.fa = some (.ins CF A.dx (frmFs f A.lc dq)) ∧ LstAt CallAt H A.lc f.called ∧ DdsAt H dq f.deeds
theorem FrmAt.tr {CF : Addr} {H H' : Hp} (k : TK H H') {A : FrA} {f : Frm} (e1 : H' A.fa = H A.fa) (e2 : H' A.lc = H A.lc) (h : FrmAt CF H A f) : FrmAt CF H' A f := by
  obtain ⟨dq, h1, h2, h3⟩ := h
  exact ⟨dq, by rw [e1]; exact h1, h2.tr callStb k e2, h3.tk k⟩
structure LoomA where
  p : Addr
  dx : Addr
  hl : Addr
  ev : Addr
  lg : Addr
  fr : Addr
  sd : Addr
  wa : Addr
  wdx : Addr
  fo : Addr
  rw : Addr
  frs : List FrA
def frCells (l : List FrA) : List Addr := l.flatMap fun f => [f.fa, f.lc]
def LoomA.cells (A : LoomA) : List Addr := [A.p, A.hl, A.ev, A.lg, A.fr, A.sd, A.wa, A.fo, A.rw] ++ frCells A.frs
def loomFs (A : LoomA) (s : LoomS) : List (Str × V) :=
  [("handlers", .ref A.hl), ("time", .int s.time), ("events", .ref A.ev), ("log", .ref A.lg), ("frames", .ref A.fr), ("fresh", onV s.fresh), ("line", .ref A.wa), ("stood", nV s.stood), ("standings", .ref A.sd)]
def waitFs (A : LoomA) : List (Str × V) := [("first_ones", .ref A.fo), ("rows", .ref A.rw)]
def sdK (l : List (Str × Nat)) : List (Key × V) := l.map fun c => (Sum.inr c.1, nV c.2)
structure Cs where
  L : Addr
  W : Addr
  F : Addr
/-- the frames' records stand -/
inductive FrsAt (CF : Addr) (H : Hp) : List FrA → List Frm → Prop
  | nil : FrsAt CF H [] []
  | cons {A : FrA} {f : Frm} {As : List FrA} {fs : List Frm} : FrmAt CF H A f → FrsAt CF H As fs → FrsAt CF H (A :: As) (f :: fs)
structure LoomAt (C : Cs) (H : Hp) (A : LoomA) (s : LoomS) : Prop where
  nd : A.cells.Nodup
  p : H A.p = some (.ins C.L A.dx (loomFs A s))
  hl : LstAt HndAt H A.hl s.hs
  ev : LstAt EvtAt H A.ev s.events
  lg : LstAt RowAt H A.lg s.log
  fr : H A.fr = some (.lst (A.frs.map fun f => .ref f.fa))
  frs : FrsAt C.F H A.frs s.frames
  sd : H A.sd = some (.dK (sdK s.stands))
  wa : H A.wa = some (.ins C.W A.wdx (waitFs A))
  fo : H A.fo = some (.lst (s.soon.map nV))
  rw : LstAt RwAt H A.rw s.rows
theorem FrsAt.tr {CF : Addr} {H H' : Hp} (k : TK H H') : ∀ {As : List FrA} {fs : List Frm}, (∀ a ∈ frCells As, H' a = H a) → FrsAt CF H As fs → FrsAt CF H' As fs
  | _, _, _, .nil => .nil
  | A :: As, _, e, .cons h t => .cons (h.tr k (e _ (by simp [frCells])) (e _ (by simp [frCells]))) (FrsAt.tr k (fun a ha => e a (by
      unfold frCells at ha ⊢
      rw [List.flatMap_cons]
      exact List.mem_append.mpr (.inr ha))) t)
theorem FrsAt.snoc {CF : Addr} {H : Hp} {A : FrA} {f : Frm} : ∀ {As : List FrA} {fs : List Frm}, FrsAt CF H As fs → FrmAt CF H A f → FrsAt CF H (As ++ [A]) (fs ++ [f])
  | _, _, .nil, h => .cons h .nil
  | _, _, .cons g t, h => .cons g (FrsAt.snoc t h)
theorem FrsAt.len {CF : Addr} {H : Hp} : ∀ {As : List FrA} {fs : List Frm}, FrsAt CF H As fs → As.length = fs.length
  | _, _, .nil => rfl
  | _, _, .cons _ t => by simp [FrsAt.len t]
theorem FrsAt.unsnoc {CF : Addr} {H : Hp} {f : Frm} : ∀ {As : List FrA} {fs : List Frm}, FrsAt CF H As (fs ++ [f]) → ∃ Bs B, As = Bs ++ [B] ∧ FrsAt CF H Bs fs ∧ FrmAt CF H B f
  | _, [], .cons h .nil => ⟨[], _, rfl, .nil, h⟩
  | _, g :: fs, .cons h t => by
    obtain ⟨Bs, B, e, t1, t2⟩ := FrsAt.unsnoc (fs := fs) t
    exact ⟨_ :: Bs, B, by rw [e]; rfl, .cons h t1, t2⟩
theorem frCells_app (l m : List FrA) : frCells (l ++ m) = frCells l ++ frCells m := by simp [frCells]
theorem nd_ne {α : Type} {l : List α} (nd : l.Nodup) (i j : Nat) {a b : α} (h : i ≠ j) (ha : l[i]? = some a) (hb : l[j]? = some b) : a ≠ b := fun e => by
  subst e
  exact h (nd_ix nd ha hb)
theorem nd_neR {α : Type} {l m : List α} (nd : (l ++ m).Nodup) {a b : α} (ha : a ∈ l) (hb : b ∈ m) : a ≠ b := fun e => by
  subst e
  exact (List.nodup_append.mp nd).2.2 a ha a hb rfl
theorem TK.upd {H : Hp} {c : Addr} {o : HO} (h : ∀ xs, H c ≠ some (.tup xs)) : TK H (upd H c o) := fun a xs e => by
  by_cases q : a = c
  · subst q; exact absurd e (h xs)
  · rw [upd_ne q]; exact e
theorem Kp.tk {M : List Addr} {H H' : Hp} (k : Kp M H H') : TK H H' := k.tup
section
variable {C : Cs} {H H' : Hp} {A : LoomA} {s : LoomS}
theorem LoomAt.notup (L : LoomAt C H A s) : ∀ a ∈ A.cells, ∀ xs, H a ≠ some (.tup xs) := by
  have key : ∀ {As : List FrA} {fs : List Frm}, FrsAt C.F H As fs → ∀ a ∈ frCells As, ∀ xs, H a ≠ some (.tup xs) := by
    intro As fs h
    induction h with
    | nil => intro a ha; simp [frCells] at ha
    | cons h t ih =>
      intro a ha xs e
      obtain ⟨dq, h1, ⟨ys, h2, _⟩, _⟩ := h
      unfold frCells at ha
      rw [List.flatMap_cons] at ha
      rcases List.mem_append.mp ha with ha | ha
      · simp at ha
        rcases ha with rfl | rfl
        · rw [h1] at e; cases e
        · rw [h2] at e; cases e
      · exact ih a ha xs e
  intro a ha xs e
  unfold LoomA.cells at ha
  rcases List.mem_append.mp ha with ha | ha
  · obtain ⟨_, hl, _⟩ := L.hl
    obtain ⟨_, ev, _⟩ := L.ev
    obtain ⟨_, lg, _⟩ := L.lg
    obtain ⟨_, rw_, _⟩ := L.rw
    simp at ha
    rcases ha with rfl | rfl | rfl | rfl | rfl | rfl | rfl | rfl | rfl
    · rw [L.p] at e; cases e
    · rw [hl] at e; cases e
    · rw [ev] at e; cases e
    · rw [lg] at e; cases e
    · rw [L.fr] at e; cases e
    · rw [L.sd] at e; cases e
    · rw [L.wa] at e; cases e
    · rw [L.fo] at e; cases e
    · rw [rw_] at e; cases e
  · exact key L.frs a ha xs e
/-- what stands elsewhere may change -/
theorem LoomAt.tr (L : LoomAt C H A s) (k : TK H H') (e : ∀ a ∈ A.cells, H' a = H a) : LoomAt C H' A s where
  nd := L.nd
  p := by rw [e A.p (by simp [LoomA.cells])]; exact L.p
  hl := L.hl.tr hndStb k (e A.hl (by simp [LoomA.cells]))
  ev := L.ev.tr evtStb k (e A.ev (by simp [LoomA.cells]))
  lg := L.lg.tr rowStb k (e A.lg (by simp [LoomA.cells]))
  fr := by rw [e A.fr (by simp [LoomA.cells])]; exact L.fr
  frs := L.frs.tr k fun a ha => e a (List.mem_append.mpr (.inr ha))
  sd := by rw [e A.sd (by simp [LoomA.cells])]; exact L.sd
  wa := by rw [e A.wa (by simp [LoomA.cells])]; exact L.wa
  fo := by rw [e A.fo (by simp [LoomA.cells])]; exact L.fo
  rw := L.rw.tr rwStb k (e A.rw (by simp [LoomA.cells]))
theorem LoomAt.has (L : LoomAt C H A s) : ∀ a ∈ A.cells, ∃ o, H a = some o := by
  have key : ∀ {As : List FrA} {fs : List Frm}, FrsAt C.F H As fs → ∀ a ∈ frCells As, ∃ o, H a = .some o := by
    intro As fs h
    induction h with
    | nil => intro a ha; simp [frCells] at ha
    | cons h t ih =>
      intro a ha
      obtain ⟨dq, h1, ⟨ys, h2, _⟩, _⟩ := h
      unfold frCells at ha
      rw [List.flatMap_cons] at ha
      rcases List.mem_append.mp ha with ha | ha
      · simp at ha
        rcases ha with rfl | rfl
        · exact ⟨_, h1⟩
        · exact ⟨_, h2⟩
      · exact ih a ha
  intro a ha
  unfold LoomA.cells at ha
  rcases List.mem_append.mp ha with ha | ha
  · obtain ⟨_, hl, _⟩ := L.hl
    obtain ⟨_, ev, _⟩ := L.ev
    obtain ⟨_, lg, _⟩ := L.lg
    obtain ⟨_, rw_, _⟩ := L.rw
    simp at ha
    rcases ha with rfl | rfl | rfl | rfl | rfl | rfl | rfl | rfl | rfl
    · exact ⟨_, L.p⟩
    · exact ⟨_, hl⟩
    · exact ⟨_, ev⟩
    · exact ⟨_, lg⟩
    · exact ⟨_, L.fr⟩
    · exact ⟨_, L.sd⟩
    · exact ⟨_, L.wa⟩
    · exact ⟨_, L.fo⟩
    · exact ⟨_, rw_⟩
  · exact key L.frs a ha
theorem LoomAt.kp {M : List Addr} (L : LoomAt C H A s) (k : Kp M H H') (n : ∀ a ∈ A.cells, a ∉ M) : LoomAt C H' A s :=
  L.tr k.tk fun a ha => by
    obtain ⟨o, e⟩ := L.has a ha
    rw [e, k.keep _ _ (n a ha) e]
theorem LoomAt.new (L : LoomAt C H A s) {p : Addr} {o : HO} (h : H p = none) : LoomAt C (upd H p o) A s :=
  L.kp ((Kp.refl [] H).new h) (by simp)
end
/-! ### single changes -/
structure Went (C : Cs) (H : Hp) (A : LoomA) (H' : Hp) (A' : LoomA) (s' : LoomS) : Prop where
  l : LoomAt C H' A' s'
  kp : Kp A.cells H H'
  sub : ∀ a ∈ A'.cells, a ∈ A.cells ∨ H a = none
  p : A'.p = A.p
section
variable {C : Cs} {H H1 H' : Hp} {A A1 A2 : LoomA} {s s1 s2 : LoomS}
theorem Went.refl (L : LoomAt C H A s) : Went C H A H A s := ⟨L, Kp.refl _ _, fun _ h => .inl h, rfl⟩
theorem Went.trans (W : Went C H A H1 A1 s1) (V : Went C H1 A1 H' A2 s2) : Went C H A H' A2 s2 :=
  ⟨V.l, W.kp.transM V.kp W.sub, fun a h => (V.sub a h).elim (W.sub a) fun q => .inr (W.kp.dom a q), V.p.trans W.p⟩
theorem Went.new (W : Went C H A H1 A1 s1) {p : Addr} {o : HO} (h : H1 p = none) : Went C H A (upd H1 p o) A1 s1 :=
  ⟨W.l.new h, W.kp.new h, W.sub, W.p⟩
theorem Went.kp0 (W : Went C H A H1 A1 s1) (k : Kp [] H1 H') : Went C H A H' A1 s1 :=
  ⟨W.l.kp k (by simp), W.kp.transM k (by simp), W.sub, W.p⟩
/-- one cell changed, the places as before -/
theorem LoomAt.step (L : LoomAt C H A s) {c : Addr} (hc : c ∈ A.cells) (o : HO) : Kp A.cells H (upd H c o) ∧ TK H (upd H c o) := by
  have k := (Kp.refl A.cells H).step (o := o) (.inl hc) (L.notup c hc)
  exact ⟨k, k.tk⟩
theorem at_c {l m : List Addr} {a : Addr} {i : Nat} (h : l[i]? = some a) : a ∈ l ++ m := List.mem_append.mpr (.inl (List.mem_of_getElem? h))
def LoomA.fix (A : LoomA) : List Addr := [A.p, A.hl, A.ev, A.lg, A.fr, A.sd, A.wa, A.fo, A.rw]
theorem LoomAt.ne (L : LoomAt C H A s) (i j : Nat) (h : i ≠ j) {a b : Addr} (ha : A.fix[i]? = some a) (hb : A.fix[j]? = some b) : a ≠ b :=
  nd_ne (List.nodup_append.mp (show (A.fix ++ frCells A.frs).Nodup from L.nd)).1 i j h ha hb
theorem LoomAt.neR (L : LoomAt C H A s) {i : Nat} {a b : Addr} (ha : A.fix[i]? = some a) (hb : b ∈ frCells A.frs) : b ≠ a := fun e =>
  nd_neR (show (A.fix ++ frCells A.frs).Nodup from L.nd) (List.mem_of_getElem? ha) hb e.symm
theorem LoomAt.setP (L : LoomAt C H A s) (s' : LoomS) (e1 : s'.hs = s.hs) (e2 : s'.events = s.events) (e3 : s'.log = s.log) (e4 : s'.frames = s.frames) (e5 : s'.soon = s.soon) (e6 : s'.rows = s.rows) (e7 : s'.stands = s.stands) :
    Went C H A (upd H A.p (.ins C.L A.dx (loomFs A s'))) A s' := by
  obtain ⟨k, tk⟩ := L.step (c := A.p) (at_c (i := 0) rfl) (.ins C.L A.dx (loomFs A s'))
  refine ⟨⟨L.nd, upd_same, ?_, ?_, ?_, ?_, ?_, ?_, ?_, ?_, ?_⟩, k, fun _ h => .inl h, rfl⟩
  · rw [e1]; exact L.hl.tr hndStb tk (upd_ne (L.ne 1 0 (by decide) rfl rfl))
  · rw [e2]; exact L.ev.tr evtStb tk (upd_ne (L.ne 2 0 (by decide) rfl rfl))
  · rw [e3]; exact L.lg.tr rowStb tk (upd_ne (L.ne 3 0 (by decide) rfl rfl))
  · rw [upd_ne (L.ne 4 0 (by decide) rfl rfl)]; exact L.fr
  · rw [e4]; exact L.frs.tr tk fun a ha => upd_ne (L.neR (i := 0) rfl ha)
  · rw [e7, upd_ne (L.ne 5 0 (by decide) rfl rfl)]; exact L.sd
  · rw [upd_ne (L.ne 6 0 (by decide) rfl rfl)]; exact L.wa
  · rw [e5, upd_ne (L.ne 7 0 (by decide) rfl rfl)]; exact L.fo
  · rw [e6]; exact L.rw.tr rwStb tk (upd_ne (L.ne 8 0 (by decide) rfl rfl))
theorem LoomAt.setEv (L : LoomAt C H A s) {xs : List V} {es : List Evt} (h : Paired (EvtAt H) xs es) : Went C H A (upd H A.ev (.lst xs)) A { s with events := es } := by
  obtain ⟨k, tk⟩ := L.step (c := A.ev) (at_c (i := 2) rfl) (.lst xs)
  refine ⟨⟨L.nd, ?_, ?_, ?_, ?_, ?_, ?_, ?_, ?_, ?_, ?_⟩, k, fun _ h => .inl h, rfl⟩
  · rw [upd_ne (L.ne 0 2 (by decide) rfl rfl)]; exact L.p
  · exact L.hl.tr hndStb tk (upd_ne (L.ne 1 2 (by decide) rfl rfl))
  · exact LstAt.put evtStb tk h
  · exact L.lg.tr rowStb tk (upd_ne (L.ne 3 2 (by decide) rfl rfl))
  · rw [upd_ne (L.ne 4 2 (by decide) rfl rfl)]; exact L.fr
  · exact L.frs.tr tk fun a ha => upd_ne (L.neR (i := 2) rfl ha)
  · rw [upd_ne (L.ne 5 2 (by decide) rfl rfl)]; exact L.sd
  · rw [upd_ne (L.ne 6 2 (by decide) rfl rfl)]; exact L.wa
  · rw [upd_ne (L.ne 7 2 (by decide) rfl rfl)]; exact L.fo
  · exact L.rw.tr rwStb tk (upd_ne (L.ne 8 2 (by decide) rfl rfl))
theorem LoomAt.setLg (L : LoomAt C H A s) {xs : List V} {es : List Row} (h : Paired (RowAt H) xs es) : Went C H A (upd H A.lg (.lst xs)) A { s with log := es } := by
  obtain ⟨k, tk⟩ := L.step (c := A.lg) (at_c (i := 3) rfl) (.lst xs)
  refine ⟨⟨L.nd, ?_, ?_, ?_, ?_, ?_, ?_, ?_, ?_, ?_, ?_⟩, k, fun _ h => .inl h, rfl⟩
  · rw [upd_ne (L.ne 0 3 (by decide) rfl rfl)]; exact L.p
  · exact L.hl.tr hndStb tk (upd_ne (L.ne 1 3 (by decide) rfl rfl))
  · exact L.ev.tr evtStb tk (upd_ne (L.ne 2 3 (by decide) rfl rfl))
  · exact LstAt.put rowStb tk h
  · rw [upd_ne (L.ne 4 3 (by decide) rfl rfl)]; exact L.fr
  · exact L.frs.tr tk fun a ha => upd_ne (L.neR (i := 3) rfl ha)
  · rw [upd_ne (L.ne 5 3 (by decide) rfl rfl)]; exact L.sd
  · rw [upd_ne (L.ne 6 3 (by decide) rfl rfl)]; exact L.wa
  · rw [upd_ne (L.ne 7 3 (by decide) rfl rfl)]; exact L.fo
  · exact L.rw.tr rwStb tk (upd_ne (L.ne 8 3 (by decide) rfl rfl))
theorem LoomAt.setSd (L : LoomAt C H A s) (l : List (Str × Nat)) : Went C H A (upd H A.sd (.dK (sdK l))) A { s with stands := l } := by
  obtain ⟨k, tk⟩ := L.step (c := A.sd) (at_c (i := 5) rfl) (.dK (sdK l))
  refine ⟨⟨L.nd, ?_, ?_, ?_, ?_, ?_, ?_, ?_, ?_, ?_, ?_⟩, k, fun _ h => .inl h, rfl⟩
  · rw [upd_ne (L.ne 0 5 (by decide) rfl rfl)]; exact L.p
  · exact L.hl.tr hndStb tk (upd_ne (L.ne 1 5 (by decide) rfl rfl))
  · exact L.ev.tr evtStb tk (upd_ne (L.ne 2 5 (by decide) rfl rfl))
  · exact L.lg.tr rowStb tk (upd_ne (L.ne 3 5 (by decide) rfl rfl))
  · rw [upd_ne (L.ne 4 5 (by decide) rfl rfl)]; exact L.fr
  · exact L.frs.tr tk fun a ha => upd_ne (L.neR (i := 5) rfl ha)
  · exact upd_same
  · rw [upd_ne (L.ne 6 5 (by decide) rfl rfl)]; exact L.wa
  · rw [upd_ne (L.ne 7 5 (by decide) rfl rfl)]; exact L.fo
  · exact L.rw.tr rwStb tk (upd_ne (L.ne 8 5 (by decide) rfl rfl))
theorem LoomAt.setFo (L : LoomAt C H A s) (l : List Nat) : Went C H A (upd H A.fo (.lst (l.map nV))) A { s with soon := l } := by
  obtain ⟨k, tk⟩ := L.step (c := A.fo) (at_c (i := 7) rfl) (.lst (l.map nV))
  refine ⟨⟨L.nd, ?_, ?_, ?_, ?_, ?_, ?_, ?_, ?_, ?_, ?_⟩, k, fun _ h => .inl h, rfl⟩
  · rw [upd_ne (L.ne 0 7 (by decide) rfl rfl)]; exact L.p
  · exact L.hl.tr hndStb tk (upd_ne (L.ne 1 7 (by decide) rfl rfl))
  · exact L.ev.tr evtStb tk (upd_ne (L.ne 2 7 (by decide) rfl rfl))
  · exact L.lg.tr rowStb tk (upd_ne (L.ne 3 7 (by decide) rfl rfl))
  · rw [upd_ne (L.ne 4 7 (by decide) rfl rfl)]; exact L.fr
  · exact L.frs.tr tk fun a ha => upd_ne (L.neR (i := 7) rfl ha)
  · rw [upd_ne (L.ne 5 7 (by decide) rfl rfl)]; exact L.sd
  · rw [upd_ne (L.ne 6 7 (by decide) rfl rfl)]; exact L.wa
  · exact upd_same
  · exact L.rw.tr rwStb tk (upd_ne (L.ne 8 7 (by decide) rfl rfl))
theorem LoomAt.setRw (L : LoomAt C H A s) {xs : List V} {es : List (Int × Nat)} (h : Paired (RwAt H) xs es) : Went C H A (upd H A.rw (.lst xs)) A { s with rows := es } := by
  obtain ⟨k, tk⟩ := L.step (c := A.rw) (at_c (i := 8) rfl) (.lst xs)
  refine ⟨⟨L.nd, ?_, ?_, ?_, ?_, ?_, ?_, ?_, ?_, ?_, ?_⟩, k, fun _ h => .inl h, rfl⟩
  · rw [upd_ne (L.ne 0 8 (by decide) rfl rfl)]; exact L.p
  · exact L.hl.tr hndStb tk (upd_ne (L.ne 1 8 (by decide) rfl rfl))
  · exact L.ev.tr evtStb tk (upd_ne (L.ne 2 8 (by decide) rfl rfl))
  · exact L.lg.tr rowStb tk (upd_ne (L.ne 3 8 (by decide) rfl rfl))
  · rw [upd_ne (L.ne 4 8 (by decide) rfl rfl)]; exact L.fr
  · exact L.frs.tr tk fun a ha => upd_ne (L.neR (i := 8) rfl ha)
  · rw [upd_ne (L.ne 5 8 (by decide) rfl rfl)]; exact L.sd
  · rw [upd_ne (L.ne 6 8 (by decide) rfl rfl)]; exact L.wa
  · rw [upd_ne (L.ne 7 8 (by decide) rfl rfl)]; exact L.fo
  · exact LstAt.put rwStb tk h
theorem nodup_set {α : Type} : ∀ {l : List α} {i : Nat} {d : α}, l.Nodup → d ∉ l → (l.set i d).Nodup
  | [], _, _, _, _ => by simp
  | a :: l, 0, d, nd, h => List.nodup_cons.mpr ⟨fun q => h (List.mem_cons_of_mem _ q), (List.nodup_cons.mp nd).2⟩
  | a :: l, i + 1, d, nd, h => by
    refine List.nodup_cons.mpr ⟨fun q => ?_, nodup_set (List.nodup_cons.mp nd).2 fun q => h (List.mem_cons_of_mem _ q)⟩
    rcases List.mem_or_eq_of_mem_set q with q | q
    · exact (List.nodup_cons.mp nd).1 q
    · exact h (by rw [q]; exact List.mem_cons_self)
/-- places that change: a list of fixed places with one of them new -/
theorem nd_new {A : LoomA} {B : LoomA} {d : Addr} (nd : A.cells.Nodup) (hd : d ∉ A.cells) (i : Nat) (hi : i < 9) (e : B.fix = A.fix.set i d) (ef : B.frs = A.frs) : B.cells.Nodup := by
  have nd' : (A.fix ++ frCells A.frs).Nodup := nd
  have hd' : d ∉ A.fix ++ frCells A.frs := hd
  obtain ⟨n1, n2, n3⟩ := List.nodup_append.mp nd'
  show (B.fix ++ frCells B.frs).Nodup
  rw [e, ef]
  have hs : ∀ x, x ∈ A.fix.set i d → x = d ∨ x ∈ A.fix := fun x hx => (List.mem_or_eq_of_mem_set hx).symm
  refine List.nodup_append.mpr ⟨?_, n2, fun a ha b hb q => ?_⟩
  · exact nodup_set n1 fun q => hd' (List.mem_append.mpr (.inl q))
  · rcases hs a ha with r | r
    · subst r; subst q; exact hd' (List.mem_append.mpr (.inr hb))
    · exact n3 a r b hb q
theorem mem_new {A B : LoomA} {d : Addr} (i : Nat) (e : B.fix = A.fix.set i d) (ef : B.frs = A.frs) : ∀ a ∈ B.cells, a ∈ A.cells ∨ a = d := by
  intro a ha
  have ha' : a ∈ B.fix ++ frCells B.frs := ha
  rw [e, ef] at ha'
  rcases List.mem_append.mp ha' with h | h
  · rcases List.mem_or_eq_of_mem_set h with h | h
    · exact .inl (List.mem_append.mpr (.inl h))
    · exact .inr h
  · exact .inl (List.mem_append.mpr (.inr h))
theorem LoomAt.fresh (L : LoomAt C H A s) {d : Addr} (h : H d = none) : d ∉ A.cells := fun q => by
  obtain ⟨o, e⟩ := L.has d q
  rw [h] at e; cases e
variable {H0 : Hp} {A0 : LoomA}
/-- the instance, a wait's instance or a frame's record is written: what else stands, stands -/
theorem LoomAt.others (L : LoomAt C H A s) {c : Addr} (hc : c ∈ A.cells) (o : HO) : ∀ a, a ∈ A.cells → a ≠ c → upd H c o a = H a := fun a _ n => upd_ne n
theorem Went.newSd (W : Went C H0 A0 H A s) {d : Addr} (l : List (Str × Nat)) (z : H0 d = none) (n : d ∉ A.cells) (h : H d = some (.dK (sdK l))) :
    Went C H0 A0 (upd H A.p (.ins C.L A.dx (loomFs { A with sd := d } { s with stands := l }))) { A with sd := d } { s with stands := l } := by
  have L := W.l
  obtain ⟨k, tk⟩ := L.step (c := A.p) (at_c (i := 0) rfl) (.ins C.L A.dx (loomFs { A with sd := d } { s with stands := l }))
  have np : d ≠ A.p := fun e => n (by rw [e]; exact at_c (i := 0) rfl)
  refine ⟨⟨nd_new (A := A) (d := d) L.nd n 5 (by decide) rfl rfl, upd_same, ?_, ?_, ?_, ?_, ?_, ?_, ?_, ?_, ?_⟩, W.kp.transM k W.sub, fun a ha => ?_, W.p⟩
  · exact L.hl.tr hndStb tk (upd_ne (L.ne 1 0 (by decide) rfl rfl))
  · exact L.ev.tr evtStb tk (upd_ne (L.ne 2 0 (by decide) rfl rfl))
  · exact L.lg.tr rowStb tk (upd_ne (L.ne 3 0 (by decide) rfl rfl))
  · rw [upd_ne (L.ne 4 0 (by decide) rfl rfl)]; exact L.fr
  · exact L.frs.tr tk fun a ha => upd_ne (L.neR (i := 0) rfl ha)
  · exact (upd_ne np).trans h
  · rw [upd_ne (L.ne 6 0 (by decide) rfl rfl)]; exact L.wa
  · rw [upd_ne (L.ne 7 0 (by decide) rfl rfl)]; exact L.fo
  · exact L.rw.tr rwStb tk (upd_ne (L.ne 8 0 (by decide) rfl rfl))
  · rcases mem_new (A := A) (B := { A with sd := d }) (d := d) 5 rfl rfl a ha with q | q
    · exact W.sub a q
    · exact .inr (by rw [q]; exact z)
theorem Went.newFo (W : Went C H0 A0 H A s) {d : Addr} (l : List Nat) (z : H0 d = none) (n : d ∉ A.cells) (h : H d = some (.lst (l.map nV))) :
    Went C H0 A0 (upd H A.wa (.ins C.W A.wdx (waitFs { A with fo := d }))) { A with fo := d } { s with soon := l } := by
  have L := W.l
  obtain ⟨k, tk⟩ := L.step (c := A.wa) (at_c (i := 6) rfl) (.ins C.W A.wdx (waitFs { A with fo := d }))
  have np : d ≠ A.wa := fun e => n (by rw [e]; exact at_c (i := 6) rfl)
  refine ⟨⟨nd_new (A := A) (d := d) L.nd n 7 (by decide) rfl rfl, ?_, ?_, ?_, ?_, ?_, ?_, ?_, upd_same, ?_, ?_⟩, W.kp.transM k W.sub, fun a ha => ?_, W.p⟩
  · rw [upd_ne (L.ne 0 6 (by decide) rfl rfl)]; exact L.p
  · exact L.hl.tr hndStb tk (upd_ne (L.ne 1 6 (by decide) rfl rfl))
  · exact L.ev.tr evtStb tk (upd_ne (L.ne 2 6 (by decide) rfl rfl))
  · exact L.lg.tr rowStb tk (upd_ne (L.ne 3 6 (by decide) rfl rfl))
  · rw [upd_ne (L.ne 4 6 (by decide) rfl rfl)]; exact L.fr
  · exact L.frs.tr tk fun a ha => upd_ne (L.neR (i := 6) rfl ha)
  · rw [upd_ne (L.ne 5 6 (by decide) rfl rfl)]; exact L.sd
  · exact (upd_ne np).trans h
  · exact L.rw.tr rwStb tk (upd_ne (L.ne 8 6 (by decide) rfl rfl))
  · rcases mem_new (A := A) (B := { A with fo := d }) (d := d) 7 rfl rfl a ha with q | q
    · exact W.sub a q
    · exact .inr (by rw [q]; exact z)
theorem Went.newRw (W : Went C H0 A0 H A s) {d : Addr} (l : List (Int × Nat)) (z : H0 d = none) (n : d ∉ A.cells) (h : LstAt RwAt H d l) :
    Went C H0 A0 (upd H A.wa (.ins C.W A.wdx (waitFs { A with rw := d }))) { A with rw := d } { s with rows := l } := by
  have L := W.l
  obtain ⟨k, tk⟩ := L.step (c := A.wa) (at_c (i := 6) rfl) (.ins C.W A.wdx (waitFs { A with rw := d }))
  have np : d ≠ A.wa := fun e => n (by rw [e]; exact at_c (i := 6) rfl)
  refine ⟨⟨nd_new (A := A) (d := d) L.nd n 8 (by decide) rfl rfl, ?_, ?_, ?_, ?_, ?_, ?_, ?_, upd_same, ?_, ?_⟩, W.kp.transM k W.sub, fun a ha => ?_, W.p⟩
  · rw [upd_ne (L.ne 0 6 (by decide) rfl rfl)]; exact L.p
  · exact L.hl.tr hndStb tk (upd_ne (L.ne 1 6 (by decide) rfl rfl))
  · exact L.ev.tr evtStb tk (upd_ne (L.ne 2 6 (by decide) rfl rfl))
  · exact L.lg.tr rowStb tk (upd_ne (L.ne 3 6 (by decide) rfl rfl))
  · rw [upd_ne (L.ne 4 6 (by decide) rfl rfl)]; exact L.fr
  · exact L.frs.tr tk fun a ha => upd_ne (L.neR (i := 6) rfl ha)
  · rw [upd_ne (L.ne 5 6 (by decide) rfl rfl)]; exact L.sd
  · rw [upd_ne (L.ne 7 6 (by decide) rfl rfl)]; exact L.fo
  · exact h.tr rwStb tk (upd_ne np)
  · rcases mem_new (A := A) (B := { A with rw := d }) (d := d) 8 rfl rfl a ha with q | q
    · exact W.sub a q
    · exact .inr (by rw [q]; exact z)
/-- the frames' list and what else stands when a list of the same cells stands at fr -/
theorem Went.pushFr (W : Went C H0 A0 H A s) {B : FrA} {f : Frm} (hB : FrmAt C.F H B f) (n1 : B.fa ∉ A.cells) (n2 : B.lc ∉ A.cells) (n3 : B.fa ≠ B.lc) (z1 : H0 B.fa = none) (z2 : H0 B.lc = none) :
    Went C H0 A0 (upd H A.fr (.lst ((A.frs ++ [B]).map fun f => V.ref f.fa))) { A with frs := A.frs ++ [B] } { s with frames := s.frames ++ [f] } := by
  have L := W.l
  obtain ⟨k, tk⟩ := L.step (c := A.fr) (at_c (i := 4) rfl) (.lst ((A.frs ++ [B]).map fun f => V.ref f.fa))
  have q1 : B.fa ≠ A.fr := fun e => n1 (by rw [e]; exact at_c (i := 4) rfl)
  have q2 : B.lc ≠ A.fr := fun e => n2 (by rw [e]; exact at_c (i := 4) rfl)
  have ec : LoomA.cells { A with frs := A.frs ++ [B] } = A.cells ++ [B.fa, B.lc] := by
    show A.fix ++ frCells (A.frs ++ [B]) = (A.fix ++ frCells A.frs) ++ [B.fa, B.lc]
    rw [frCells_app, List.append_assoc]
    rfl
  refine ⟨⟨?_, ?_, ?_, ?_, ?_, upd_same, ?_, ?_, ?_, ?_, ?_⟩, W.kp.transM k W.sub, fun a ha => ?_, W.p⟩
  · rw [ec]
    refine List.nodup_append.mpr ⟨L.nd, by simp [n3], fun a ha b hb e => ?_⟩
    subst e
    simp at hb
    rcases hb with rfl | rfl
    · exact n1 ha
    · exact n2 ha
  · rw [upd_ne (L.ne 0 4 (by decide) rfl rfl)]; exact L.p
  · exact L.hl.tr hndStb tk (upd_ne (L.ne 1 4 (by decide) rfl rfl))
  · exact L.ev.tr evtStb tk (upd_ne (L.ne 2 4 (by decide) rfl rfl))
  · exact L.lg.tr rowStb tk (upd_ne (L.ne 3 4 (by decide) rfl rfl))
  · exact (L.frs.tr tk fun a ha => upd_ne (L.neR (i := 4) rfl ha)).snoc (hB.tr tk (upd_ne q1) (upd_ne q2))
  · rw [upd_ne (L.ne 5 4 (by decide) rfl rfl)]; exact L.sd
  · rw [upd_ne (L.ne 6 4 (by decide) rfl rfl)]; exact L.wa
  · rw [upd_ne (L.ne 7 4 (by decide) rfl rfl)]; exact L.fo
  · exact L.rw.tr rwStb tk (upd_ne (L.ne 8 4 (by decide) rfl rfl))
  · rw [ec] at ha
    rcases List.mem_append.mp ha with q | q
    · exact W.sub a q
    · simp at q
      rcases q with rfl | rfl
      · exact .inr z1
      · exact .inr z2
theorem LoomAt.popFr (L : LoomAt C H A s) {Bs : List FrA} {B : FrA} {fs : List Frm} {f : Frm} (eA : A.frs = Bs ++ [B]) (es : s.frames = fs ++ [f]) :
    Went C H A (upd H A.fr (.lst (Bs.map fun f => V.ref f.fa))) { A with frs := Bs } { s with frames := fs } := by
  obtain ⟨k, tk⟩ := L.step (c := A.fr) (at_c (i := 4) rfl) (.lst (Bs.map fun f => V.ref f.fa))
  have ec : A.cells = (A.fix ++ frCells Bs) ++ [B.fa, B.lc] := by
    show A.fix ++ frCells A.frs = _
    rw [eA, frCells_app, List.append_assoc]
    rfl
  have fr0 := L.frs
  rw [eA, es] at fr0
  obtain ⟨Bs', B', eB, t1, t2⟩ := fr0.unsnoc
  obtain ⟨rfl, hh⟩ := List.append_inj' eB rfl
  refine ⟨⟨?_, ?_, ?_, ?_, ?_, upd_same, ?_, ?_, ?_, ?_, ?_⟩, k, fun a ha => .inl ?_, rfl⟩
  · have := L.nd
    rw [ec] at this
    exact (List.nodup_append.mp this).1
  · rw [upd_ne (L.ne 0 4 (by decide) rfl rfl)]; exact L.p
  · exact L.hl.tr hndStb tk (upd_ne (L.ne 1 4 (by decide) rfl rfl))
  · exact L.ev.tr evtStb tk (upd_ne (L.ne 2 4 (by decide) rfl rfl))
  · exact L.lg.tr rowStb tk (upd_ne (L.ne 3 4 (by decide) rfl rfl))
  · exact t1.tr tk fun a ha => upd_ne (L.neR (i := 4) rfl (by rw [eA, frCells_app]; exact List.mem_append.mpr (.inl ha)))
  · rw [upd_ne (L.ne 5 4 (by decide) rfl rfl)]; exact L.sd
  · rw [upd_ne (L.ne 6 4 (by decide) rfl rfl)]; exact L.wa
  · rw [upd_ne (L.ne 7 4 (by decide) rfl rfl)]; exact L.fo
  · exact L.rw.tr rwStb tk (upd_ne (L.ne 8 4 (by decide) rfl rfl))
  · rw [ec]
    exact List.mem_append.mpr (.inl ha)
/-- what is known of the innermost frame's record -/
theorem LoomAt.last (L : LoomAt C H A s) {fs : List Frm} {f : Frm} (es : s.frames = fs ++ [f]) : ∃ Bs B, A.frs = Bs ++ [B] ∧ FrsAt C.F H Bs fs ∧ FrmAt C.F H B f ∧ B.fa ∈ A.cells ∧ B.lc ∈ A.cells ∧ B.fa ≠ B.lc ∧
    (∀ a ∈ A.fix, a ≠ B.fa ∧ a ≠ B.lc) ∧ ∀ a ∈ frCells Bs, a ≠ B.fa ∧ a ≠ B.lc := by
  have fr0 := L.frs
  rw [es] at fr0
  obtain ⟨Bs, B, eB, t1, t2⟩ := fr0.unsnoc
  have nd : (A.fix ++ (frCells Bs ++ [B.fa, B.lc])).Nodup := by
    have h := L.nd
    have e : A.cells = A.fix ++ (frCells Bs ++ [B.fa, B.lc]) := by
      show A.fix ++ frCells A.frs = _
      rw [eB, frCells_app]
      rfl
    rw [e] at h
    exact h
  have m : ∀ a, a ∈ frCells Bs ++ [B.fa, B.lc] → a ∈ A.cells := fun a ha => by
    show a ∈ A.fix ++ frCells A.frs
    rw [eB, frCells_app]
    exact List.mem_append.mpr (.inr ha)
  obtain ⟨_, n2, n3⟩ := List.nodup_append.mp nd
  obtain ⟨_, n4, n5⟩ := List.nodup_append.mp n2
  refine ⟨Bs, B, eB, t1, t2, m _ (by simp), m _ (by simp), ?_, fun a ha => ⟨n3 a ha _ (by simp), n3 a ha _ (by simp)⟩, fun a ha => ⟨n5 a ha _ (by simp), n5 a ha _ (by simp)⟩⟩
  have := n4
  simp at this
  exact this
theorem LoomAt.setFrm (L : LoomAt C H A s) {Bs : List FrA} {B : FrA} {fs : List Frm} {f : Frm} (eA : A.frs = Bs ++ [B]) (es : s.frames = fs ++ [f]) (f' : Frm) {dq : Addr} (hc : f'.called = f.called) (hd : DdsAt H dq f'.deeds) :
    Went C H A (upd H B.fa (.ins C.F B.dx (frmFs f' B.lc dq))) A { s with frames := fs ++ [f'] } := by
  obtain ⟨Bs', B', eB, t1, t2, m1, m2, ne, nf, nb⟩ := L.last es
  rw [eA] at eB
  obtain ⟨rfl, hh⟩ := List.append_inj' eB rfl
  have hh : B = B' := by simpa using hh
  subst hh
  obtain ⟨k, tk⟩ := L.step m1 (.ins C.F B.dx (frmFs f' B.lc dq))
  obtain ⟨dq0, _, g2, _⟩ := t2
  have nx : ∀ {i a}, A.fix[i]? = some a → a ≠ B.fa := fun h => (nf _ (List.mem_of_getElem? h)).1
  refine ⟨⟨L.nd, ?_, ?_, ?_, ?_, ?_, ?_, ?_, ?_, ?_, ?_⟩, k, fun _ h => .inl h, rfl⟩
  · rw [upd_ne (nx (i := 0) rfl)]; exact L.p
  · exact L.hl.tr hndStb tk (upd_ne (nx (i := 1) rfl))
  · exact L.ev.tr evtStb tk (upd_ne (nx (i := 2) rfl))
  · exact L.lg.tr rowStb tk (upd_ne (nx (i := 3) rfl))
  · rw [upd_ne (nx (i := 4) rfl)]; exact L.fr
  · rw [eA]
    refine (t1.tr tk fun a ha => upd_ne (nb a ha).1).snoc ⟨dq, upd_same, ?_, hd.tk tk⟩
    rw [hc]
    exact g2.tr callStb tk (upd_ne (Ne.symm ne))
  · rw [upd_ne (nx (i := 5) rfl)]; exact L.sd
  · rw [upd_ne (nx (i := 6) rfl)]; exact L.wa
  · rw [upd_ne (nx (i := 7) rfl)]; exact L.fo
  · exact L.rw.tr rwStb tk (upd_ne (nx (i := 8) rfl))
theorem LoomAt.setLc (L : LoomAt C H A s) {Bs : List FrA} {B : FrA} {fs : List Frm} {f : Frm} (eA : A.frs = Bs ++ [B]) (es : s.frames = fs ++ [f]) {cs : List V} {l : List (Str × Nat)} (h : Paired (CallAt H) cs l) :
    Went C H A (upd H B.lc (.lst cs)) A { s with frames := fs ++ [{ f with called := l }] } := by
  obtain ⟨Bs', B', eB, t1, t2, m1, m2, ne, nf, nb⟩ := L.last es
  rw [eA] at eB
  obtain ⟨rfl, hh⟩ := List.append_inj' eB rfl
  have hh : B = B' := by simpa using hh
  subst hh
  obtain ⟨k, tk⟩ := L.step m2 (.lst cs)
  obtain ⟨dq0, g1, g2, g3⟩ := t2
  have nx : ∀ {i a}, A.fix[i]? = some a → a ≠ B.lc := fun h => (nf _ (List.mem_of_getElem? h)).2
  refine ⟨⟨L.nd, ?_, ?_, ?_, ?_, ?_, ?_, ?_, ?_, ?_, ?_⟩, k, fun _ h => .inl h, rfl⟩
  · rw [upd_ne (nx (i := 0) rfl)]; exact L.p
  · exact L.hl.tr hndStb tk (upd_ne (nx (i := 1) rfl))
  · exact L.ev.tr evtStb tk (upd_ne (nx (i := 2) rfl))
  · exact L.lg.tr rowStb tk (upd_ne (nx (i := 3) rfl))
  · rw [upd_ne (nx (i := 4) rfl)]; exact L.fr
  · rw [eA]
    exact (t1.tr tk fun a ha => upd_ne (nb a ha).2).snoc ⟨dq0, by rw [upd_ne ne]; exact g1, LstAt.put callStb tk h, g3.tk tk⟩
  · rw [upd_ne (nx (i := 5) rfl)]; exact L.sd
  · rw [upd_ne (nx (i := 6) rfl)]; exact L.wa
  · rw [upd_ne (nx (i := 7) rfl)]; exact L.fo
  · exact L.rw.tr rwStb tk (upd_ne (nx (i := 8) rfl))
/-- the innermost frame's list of those still to be called is a new, empty one -/
theorem Went.hush (W : Went C H0 A0 H A s) {Bs : List FrA} {B : FrA} {fs : List Frm} {f : Frm} (eA : A.frs = Bs ++ [B]) (es : s.frames = fs ++ [f]) {d dq : Addr} (z : H0 d = none) (n : d ∉ A.cells) (h : H d = some (.lst []))
    (hd : DdsAt H dq f.deeds) :
    Went C H0 A0 (upd H B.fa (.ins C.F B.dx (frmFs { f with called := [] } d dq))) { A with frs := Bs ++ [{ B with lc := d }] } { s with frames := fs ++ [{ f with called := [] }] } := by
  have L := W.l
  obtain ⟨Bs', B', eB, t1, t2, m1, m2, ne, nf, nb⟩ := L.last es
  rw [eA] at eB
  obtain ⟨rfl, hh⟩ := List.append_inj' eB rfl
  have hh : B = B' := by simpa using hh
  subst hh
  obtain ⟨k, tk⟩ := L.step m1 (.ins C.F B.dx (frmFs { f with called := [] } d dq))
  have nx : ∀ {i a}, A.fix[i]? = some a → a ≠ B.fa := fun h => (nf _ (List.mem_of_getElem? h)).1
  have ndf : d ≠ B.fa := fun e => n (by rw [e]; exact m1)
  have nd : (A.fix ++ (frCells Bs ++ [B.fa, B.lc])).Nodup := by
    have q := L.nd
    have e : A.cells = A.fix ++ (frCells Bs ++ [B.fa, B.lc]) := by
      show A.fix ++ frCells A.frs = _
      rw [eA, frCells_app]
      rfl
    rw [e] at q
    exact q
  have ec : LoomA.cells { A with frs := Bs ++ [{ B with lc := d }] } = A.fix ++ (frCells Bs ++ [B.fa, d]) := by
    show A.fix ++ frCells (Bs ++ [{ B with lc := d }]) = _
    rw [frCells_app]
    rfl
  have hm : ∀ a, a ∈ A.fix ∨ a ∈ frCells Bs ∨ a = B.fa → a ∈ A.cells := fun a ha => by
    show a ∈ A.fix ++ frCells A.frs
    rw [eA, frCells_app]
    rcases ha with q | q | q
    · exact List.mem_append.mpr (.inl q)
    · exact List.mem_append.mpr (.inr (List.mem_append.mpr (.inl q)))
    · exact List.mem_append.mpr (.inr (List.mem_append.mpr (.inr (by rw [q]; simp [frCells]))))
  refine ⟨⟨?_, ?_, ?_, ?_, ?_, ?_, ?_, ?_, ?_, ?_, ?_⟩, W.kp.transM k W.sub, fun a ha => ?_, W.p⟩
  · rw [ec]
    obtain ⟨n1, n2, n3⟩ := List.nodup_append.mp nd
    obtain ⟨n4, n5, n6⟩ := List.nodup_append.mp n2
    refine List.nodup_append.mpr ⟨n1, List.nodup_append.mpr ⟨n4, by simp; exact Ne.symm ndf, fun a ha b hb e => ?_⟩, fun a ha b hb e => ?_⟩
    · subst e
      simp at hb
      rcases hb with rfl | rfl
      · exact (nb _ ha).1 rfl
      · exact n (hm _ (.inr (.inl ha)))
    · subst e
      rcases List.mem_append.mp hb with hb | hb
      · exact n3 a ha a (List.mem_append.mpr (.inl hb)) rfl
      · simp at hb
        rcases hb with rfl | rfl
        · exact (nf _ ha).1 rfl
        · exact n (hm _ (.inl ha))
  · rw [upd_ne (nx (i := 0) rfl)]; exact L.p
  · exact L.hl.tr hndStb tk (upd_ne (nx (i := 1) rfl))
  · exact L.ev.tr evtStb tk (upd_ne (nx (i := 2) rfl))
  · exact L.lg.tr rowStb tk (upd_ne (nx (i := 3) rfl))
  · rw [upd_ne (nx (i := 4) rfl), L.fr, eA]
    simp
  · exact (t1.tr tk fun a ha => upd_ne (nb a ha).1).snoc ⟨dq, upd_same, ⟨[], by rw [upd_ne ndf]; exact h, .nil⟩, hd.tk tk⟩
  · rw [upd_ne (nx (i := 5) rfl)]; exact L.sd
  · rw [upd_ne (nx (i := 6) rfl)]; exact L.wa
  · rw [upd_ne (nx (i := 7) rfl)]; exact L.fo
  · exact L.rw.tr rwStb tk (upd_ne (nx (i := 8) rfl))
  · rw [ec] at ha
    rcases List.mem_append.mp ha with q | q
    · exact W.sub a (hm a (.inl q))
    · rcases List.mem_append.mp q with q | q
      · exact W.sub a (hm a (.inr (.inl q)))
      · simp at q
        rcases q with rfl | rfl
        · exact W.sub _ m1
        · exact .inr z
end
/-! ### fields -/
theorem loomFs_nd (A : LoomA) (s : LoomS) : ((loomFs A s).map Prod.fst).Nodup := by
  show (["handlers", "time", "events", "log", "frames", "fresh", "line", "stood", "standings"] : List Str).Nodup
  decide +kernel
theorem lf_handlers (A : LoomA) (s : LoomS) : (loomFs A s).lookup ("handlers" : Str) = some (.ref A.hl) := look_ix (loomFs_nd A s) (i := 0) rfl
theorem lf_time (A : LoomA) (s : LoomS) : (loomFs A s).lookup ("time" : Str) = some (.int s.time) := look_ix (loomFs_nd A s) (i := 1) rfl
theorem lf_events (A : LoomA) (s : LoomS) : (loomFs A s).lookup ("events" : Str) = some (.ref A.ev) := look_ix (loomFs_nd A s) (i := 2) rfl
theorem lf_log (A : LoomA) (s : LoomS) : (loomFs A s).lookup ("log" : Str) = some (.ref A.lg) := look_ix (loomFs_nd A s) (i := 3) rfl
theorem lf_frames (A : LoomA) (s : LoomS) : (loomFs A s).lookup ("frames" : Str) = some (.ref A.fr) := look_ix (loomFs_nd A s) (i := 4) rfl
theorem lf_fresh (A : LoomA) (s : LoomS) : (loomFs A s).lookup ("fresh" : Str) = some (onV s.fresh) := look_ix (loomFs_nd A s) (i := 5) rfl
theorem lf_line (A : LoomA) (s : LoomS) : (loomFs A s).lookup ("line" : Str) = some (.ref A.wa) := look_ix (loomFs_nd A s) (i := 6) rfl
theorem lf_stood (A : LoomA) (s : LoomS) : (loomFs A s).lookup ("stood" : Str) = some (nV s.stood) := look_ix (loomFs_nd A s) (i := 7) rfl
theorem lf_standings (A : LoomA) (s : LoomS) : (loomFs A s).lookup ("standings" : Str) = some (.ref A.sd) := look_ix (loomFs_nd A s) (i := 8) rfl
theorem lp_time (A : LoomA) (s : LoomS) (t : Int) : putF "time" (.int t) (loomFs A s) = loomFs A { s with time := t } := put_ix (loomFs_nd A s) (i := 1) rfl
theorem lp_fresh (A : LoomA) (s : LoomS) (o : Option Nat) : putF "fresh" (onV o) (loomFs A s) = loomFs A { s with fresh := o } := put_ix (loomFs_nd A s) (i := 5) rfl
theorem lp_stood (A : LoomA) (s : LoomS) (n : Nat) : putF "stood" (nV n) (loomFs A s) = loomFs A { s with stood := n } := put_ix (loomFs_nd A s) (i := 7) rfl
theorem lp_sd (A : LoomA) (s : LoomS) (d : Addr) (l : List (Str × Nat)) : putF "standings" (.ref d) (loomFs A s) = loomFs { A with sd := d } { s with stands := l } := put_ix (loomFs_nd A s) (i := 8) rfl
theorem frmFs_nd (f : Frm) (lc dq : Addr) : ((frmFs f lc dq).map Prod.fst).Nodup := by
  show (["number", "called", "deeds", "place"] : List Str).Nodup
  decide +kernel
theorem ff_number (f : Frm) (lc dq : Addr) : (frmFs f lc dq).lookup ("number" : Str) = some (nV f.number) := look_ix (frmFs_nd f lc dq) (i := 0) rfl
theorem ff_called (f : Frm) (lc dq : Addr) : (frmFs f lc dq).lookup ("called" : Str) = some (.ref lc) := look_ix (frmFs_nd f lc dq) (i := 1) rfl
theorem ff_deeds (f : Frm) (lc dq : Addr) : (frmFs f lc dq).lookup ("deeds" : Str) = some (.ref dq) := look_ix (frmFs_nd f lc dq) (i := 2) rfl
theorem ff_place (f : Frm) (lc dq : Addr) : (frmFs f lc dq).lookup ("place" : Str) = some (nV f.place) := look_ix (frmFs_nd f lc dq) (i := 3) rfl
theorem fp_place (f : Frm) (lc dq : Addr) (n : Nat) : putF "place" (nV n) (frmFs f lc dq) = frmFs { f with place := n } lc dq := put_ix (frmFs_nd f lc dq) (i := 3) rfl
theorem fp_deeds (f : Frm) (lc dq d : Addr) (l : List Deed) : putF "deeds" (.ref d) (frmFs f lc dq) = frmFs { f with deeds := l } lc d := put_ix (frmFs_nd f lc dq) (i := 2) rfl
theorem fp_called (f : Frm) (lc dq d : Addr) (l : List (Str × Nat)) : putF "called" (.ref d) (frmFs f lc dq) = frmFs { f with called := l } d dq := put_ix (frmFs_nd f lc dq) (i := 1) rfl
/-! ### those that wait -/
structure WtA where
  wa : Addr
  wdx : Addr
  fo : Addr
  rw : Addr
def WtA.cells (A : WtA) : List Addr := [A.wa, A.fo, A.rw]
def wFs (fo rw : Addr) : List (Str × V) := [("first_ones", .ref fo), ("rows", .ref rw)]
theorem wFs_nd (fo rw : Addr) : ((wFs fo rw).map Prod.fst).Nodup := by
  show (["first_ones", "rows"] : List Str).Nodup
  decide +kernel
theorem wFs_fo (fo rw : Addr) : (wFs fo rw).lookup ("first_ones" : Str) = some (.ref fo) := look_ix (wFs_nd fo rw) (i := 0) rfl
theorem wFs_rw (fo rw : Addr) : (wFs fo rw).lookup ("rows" : Str) = some (.ref rw) := look_ix (wFs_nd fo rw) (i := 1) rfl
theorem wFs_pfo (fo rw x : Addr) : putF "first_ones" (.ref x) (wFs fo rw) = wFs x rw := put_ix (wFs_nd fo rw) (i := 0) rfl
theorem wFs_prw (fo rw x : Addr) : putF "rows" (.ref x) (wFs fo rw) = wFs fo x := put_ix (wFs_nd fo rw) (i := 1) rfl
structure WaitsAt (W : Addr) (H : Hp) (A : WtA) (soon : List Nat) (rows : List (Int × Nat)) : Prop where
  n1 : A.wa ≠ A.fo
  n2 : A.wa ≠ A.rw
  n3 : A.fo ≠ A.rw
  wa : H A.wa = some (.ins W A.wdx (wFs A.fo A.rw))
  fo : H A.fo = some (.lst (soon.map nV))
  rw : LstAt RwAt H A.rw rows
/-- what a deed of those that wait leaves -/
structure WtPost (W : Addr) (H : Hp) (A : WtA) (H' : Hp) (A' : WtA) (soon : List Nat) (rows : List (Int × Nat)) : Prop where
  w : WaitsAt W H' A' soon rows
  kp : Kp A.cells H H'
  wa : A'.wa = A.wa
  wdx : A'.wdx = A.wdx
  fo : A'.fo = A.fo ∨ H A'.fo = none
  rw : A'.rw = A.rw ∨ H A'.rw = none
def LoomA.wt (A : LoomA) : WtA := ⟨A.wa, A.wdx, A.fo, A.rw⟩
theorem WaitsAt.kp {W : Addr} {H H' : Hp} {A : WtA} {soon : List Nat} {rows : List (Int × Nat)} (w : WaitsAt W H A soon rows) {M : List Addr} (k : Kp M H H') (n : ∀ a ∈ A.cells, a ∉ M) : WaitsAt W H' A soon rows := by
  obtain ⟨xs, h1, h2⟩ := w.rw
  refine ⟨w.n1, w.n2, w.n3, k.keep _ _ (n _ (by simp [WtA.cells])) w.wa, k.keep _ _ (n _ (by simp [WtA.cells])) w.fo, ⟨xs, k.keep _ _ (n _ (by simp [WtA.cells])) h1, Pd.mono (fun _ _ => rwStb _ _ _ _ k.tk) h2⟩⟩
section
variable {C : Cs} {H H' : Hp} {A : LoomA} {s : LoomS}
theorem LoomAt.waits (L : LoomAt C H A s) : WaitsAt C.W H A.wt s.soon s.rows :=
  ⟨L.ne 6 7 (by decide) rfl rfl, L.ne 6 8 (by decide) rfl rfl, L.ne 7 8 (by decide) rfl rfl, L.wa, L.fo, L.rw⟩
theorem LoomAt.wait (L : LoomAt C H A s) {A' : WtA} {soon : List Nat} {rows : List (Int × Nat)} (p : WtPost C.W H A.wt H' A' soon rows) : Went C H A H' { A with fo := A'.fo, rw := A'.rw } { s with soon := soon, rows := rows } := by
  have mem : ∀ a ∈ A.wt.cells, a ∈ A.cells := fun a ha => by
    simp [WtA.cells, LoomA.wt] at ha
    rcases ha with rfl | rfl | rfl <;> simp [LoomA.cells]
  have k : Kp A.cells H H' := p.kp.mono fun a ha => .inl (mem a ha)
  have tk := k.tk
  have same : ∀ {a : Addr} {i : Nat}, A.fix[i]? = some a → i ≠ 6 → i ≠ 7 → i ≠ 8 → H' a = H a := fun {a i} h h6 h7 h8 => by
    obtain ⟨o, e⟩ := L.has a (List.mem_append.mpr (.inl (List.mem_of_getElem? h)))
    rw [e, p.kp.keep a o (fun z => ?_) e]
    simp [WtA.cells, LoomA.wt] at z
    rcases z with z | z | z
    · exact L.ne i 6 h6 h rfl z
    · exact L.ne i 7 h7 h rfl z
    · exact L.ne i 8 h8 h rfl z
  have sameR : ∀ a ∈ frCells A.frs, H' a = H a := fun a ha => by
    obtain ⟨o, e⟩ := L.has a (List.mem_append.mpr (.inr ha))
    rw [e, p.kp.keep a o (fun z => ?_) e]
    simp [WtA.cells, LoomA.wt] at z
    rcases z with z | z | z
    · exact L.neR (i := 6) rfl ha z
    · exact L.neR (i := 7) rfl ha z
    · exact L.neR (i := 8) rfl ha z
  have nf : ∀ {d : Addr}, H d = none → d ∉ A.cells := fun h => L.fresh h
  have nd1 : LoomA.cells { A with fo := A'.fo } |>.Nodup := by
    rcases p.fo with e | e
    · rw [e]; exact L.nd
    · exact nd_new (A := A) (d := A'.fo) L.nd (nf e) 7 (by decide) rfl rfl
  have nd2 : LoomA.cells { A with fo := A'.fo, rw := A'.rw } |>.Nodup := by
    rcases p.rw with e | e
    · rw [e]; exact nd1
    · refine nd_new (A := { A with fo := A'.fo }) (d := A'.rw) nd1 (fun z => ?_) 8 (by decide) rfl rfl
      rcases mem_new (A := A) (B := { A with fo := A'.fo }) (d := A'.fo) 7 rfl rfl _ z with z | z
      · exact nf e z
      · exact p.w.n3 z.symm
  have ewa : A'.wa = A.wa := p.wa
  have ewd : A'.wdx = A.wdx := p.wdx
  refine ⟨⟨nd2, ?_, ?_, ?_, ?_, ?_, ?_, ?_, ?_, p.w.fo, p.w.rw⟩, k, fun a ha => ?_, rfl⟩
  · rw [same (i := 0) rfl (by decide) (by decide) (by decide)]; exact L.p
  · exact L.hl.tr hndStb tk (same (i := 1) rfl (by decide) (by decide) (by decide))
  · exact L.ev.tr evtStb tk (same (i := 2) rfl (by decide) (by decide) (by decide))
  · exact L.lg.tr rowStb tk (same (i := 3) rfl (by decide) (by decide) (by decide))
  · rw [same (i := 4) rfl (by decide) (by decide) (by decide)]; exact L.fr
  · exact L.frs.tr tk sameR
  · rw [same (i := 5) rfl (by decide) (by decide) (by decide)]; exact L.sd
  · have q := p.w.wa
    rw [ewa, ewd] at q
    exact q
  · rcases mem_new (A := { A with fo := A'.fo }) (B := { A with fo := A'.fo, rw := A'.rw }) (d := A'.rw) 8 rfl rfl a ha with z | z
    · rcases mem_new (A := A) (B := { A with fo := A'.fo }) (d := A'.fo) 7 rfl rfl a z with z | z
      · exact .inl z
      · subst z
        rcases p.fo with e | e
        · exact .inl (by rw [e]; simp [LoomA.cells, LoomA.wt])
        · exact .inr e
    · subst z
      rcases p.rw with e | e
      · exact .inl (by rw [e]; simp [LoomA.cells, LoomA.wt])
      · exact .inr e
end
/-! ### the waits' mirror -/
def rowGt (r q : Int × Nat) : Bool := decide (q.1 < r.1 ∨ (r.1 = q.1 ∧ q.2 < r.2))
/-- the place of q among the first k rows, from behind -/
def placeOf (rows : List (Int × Nat)) (q : Int × Nat) : Nat → Nat
  | 0 => 0
  | k + 1 => match rows[k]? with
    | some r => if rowGt r q then placeOf rows q k else k + 1
    | none => k + 1
def laterM (rows : List (Int × Nat)) (q : Int × Nat) : List (Int × Nat) := rows.take (placeOf rows q rows.length) ++ [q] ++ rows.drop (placeOf rows q rows.length)
theorem placeOf_le (rows : List (Int × Nat)) (q : Int × Nat) : ∀ k, placeOf rows q k ≤ k
  | 0 => Nat.le_refl _
  | k + 1 => by
    unfold placeOf
    split
    · split
      · exact Nat.le_succ_of_le (placeOf_le rows q k)
      · exact Nat.le_refl _
    · exact Nat.le_refl _
/-! ### the loom's mirror -/
def lk (l : List (Str × Nat)) (x : Str) : Option Nat := (l.find? fun c => decide (c.1 = x)).map Prod.snd
theorem lk_pos {c : Str × Nat} {l : List (Str × Nat)} {x : Str} (h : c.1 = x) : lk (c :: l) x = some c.2 := by
  unfold lk
  rw [List.find?_cons, decide_eq_true h]
  rfl
theorem lk_neg {c : Str × Nat} {l : List (Str × Nat)} {x : Str} (h : ¬ c.1 = x) : lk (c :: l) x = lk l x := by
  unfold lk
  rw [List.find?_cons, decide_eq_false h]
theorem sd_val : ∀ (l : List (Str × Nat)) (x : Str), valV (sdK l) (Sum.inr x) = (lk l x).map nV
  | [], _ => rfl
  | c :: l, x => by
    have ih := sd_val l x
    show valV ((Sum.inr c.1, nV c.2) :: sdK l) (Sum.inr x) = _
    by_cases h : c.1 = x
    · rw [lk_pos h, valV_pos (show (Sum.inr c.1 : Key) = Sum.inr x by rw [h])]
      rfl
    · rw [lk_neg h, valV_neg (show ¬ (Sum.inr c.1 : Key) = Sum.inr x from fun q => h (Sum.inr.inj q)), ih]
theorem lk_none {l : List (Str × Nat)} {x : Str} : lk l x = none ↔ x ∉ l.map Prod.fst := by
  unfold lk
  rw [Option.map_eq_none_iff, List.find?_eq_none]
  constructor
  · intro h q
    obtain ⟨c, hc, e⟩ := List.mem_map.mp q
    exact h c hc (decide_eq_true e)
  · intro h c hc q
    exact h (List.mem_map.mpr ⟨c, hc, of_decide_eq_true q⟩)
theorem sd_put {l : List (Str × Nat)} {x : Str} {n : Nat} (h : lk l x = none) : putK (sdK l) (Sum.inr x) (nV n) = sdK (l ++ [(x, n)]) := by
  unfold putK
  have e : ((sdK l).any fun kv => decide (kv.1 = Sum.inr x)) = false := by
    rw [List.any_eq_false]
    intro kv hkv q
    obtain ⟨c, hc, rfl⟩ := List.mem_map.mp hkv
    have q := of_decide_eq_true q
    exact lk_none.mp h (List.mem_map.mpr ⟨c, hc, Sum.inr.inj q⟩)
  rw [if_neg (by rw [e]; decide)]
  simp [sdK]
def LoomS.come (s : LoomS) (x : Str) : LoomS := if (lk s.stands x).isSome then s else { s with stood := s.stood + 1, stands := s.stands ++ [(x, s.stood + 1)] }
def LoomS.go (s : LoomS) (x : Str) : LoomS := { s with stands := s.stands.filter fun c => decide (c.1 ≠ x) }
def LoomS.sendM (s : LoomS) (z : Str) : LoomS :=
  { s with events := s.events ++ [⟨z, none, .wait, s.time⟩], rows := laterM s.rows (s.time, s.events.length), log := s.log ++ [.send s.events.length] }
/-- an event that a deed makes -/
def LoomS.mk1 (s : LoomS) (m : Nat) (z : Str) (r : Road) (t : Int) : LoomS := { s with events := s.events ++ [⟨z, some m, r, s.time + t⟩] }
def LoomS.logd (s : LoomS) (r : Row) : LoomS := { s with log := s.log ++ [r] }
/-- a deed of the innermost event n -/
def LoomS.doM (s : LoomS) (n : Nat) : Deed → LoomS
  | .now z => LoomS.logd { (s.mk1 n z .now 0) with fresh := some s.events.length } (.make n s.events.length)
  | .soon z => LoomS.logd { (s.mk1 n z .soon 0) with soon := s.soon ++ [s.events.length] } (.make n s.events.length)
  | .wait t z => LoomS.logd { (s.mk1 n z .wait t) with rows := laterM s.rows (s.time + t, s.events.length) } (.make n s.events.length)
  | .cancel z =>
    let ns := (s.soon ++ s.rows.map Prod.snd).filter fun k => decide ((s.events[k]?.map Evt.word) = some z)
    LoomS.logd { s with soon := s.soon.filter (fun k => !decide (k ∈ ns)), rows := s.rows.filter fun r => !decide (r.2 ∈ ns) } (.cancel n (ns.mergeSort fun a b => decide (a ≤ b)))
  | .join x => (s.come x).logd (.join n x)
  | .leave x => (s.go x).logd (.leave n x)
  | .hush => LoomS.logd { s with frames := s.frames.dropLast ++ (s.frames.getLast?.map fun f => { f with called := [] }).toList } (.hush n)
def loomNs : List Str := ["handlers", "time", "events", "log", "frames", "fresh", "line", "stood", "standings"]
theorem lf_no {A : LoomA} {s : LoomS} {m : Str} (h : m ∉ loomNs) : (loomFs A s).lookup m = none := look_no h
def wNs : List Str := ["first_ones", "rows"]
theorem wf_no {fo rw : Addr} {m : Str} (h : m ∉ wNs) : (wFs fo rw).lookup m = none := look_no h
theorem Went.to {C : Cs} {H H' : Hp} {A A' : LoomA} {s s' : LoomS} (W : Went C H A H' A' s) (e : s = s') : Went C H A H' A' s' := e ▸ W
theorem LoomAt.frm {C : Cs} {H : Hp} {A : LoomA} {s : LoomS} (L : LoomAt C H A s) {Bs : List FrA} {B : FrA} {fs : List Frm} {f : Frm} (eA : A.frs = Bs ++ [B]) (es : s.frames = fs ++ [f]) : FrmAt C.F H B f := by
  obtain ⟨Bs', B', eB, t1, t2, _⟩ := L.last es
  rw [eA] at eB
  obtain ⟨rfl, hh⟩ := List.append_inj' eB rfl
  have hh : B = B' := by simpa using hh
  subst hh
  exact t2
def LoomS.last (s : LoomS) (f : Frm) : LoomS := { s with frames := s.frames.dropLast ++ [f] }
theorem last_eq {s : LoomS} {fs : List Frm} {f f' : Frm} (es : s.frames = fs ++ [f]) : s.last f' = { s with frames := fs ++ [f'] } := by
  unfold LoomS.last
  rw [es, List.dropLast_concat]
/-- a handler is called for the innermost event -/
def LoomS.callM (s : LoomS) (f : Frm) (x : Str) (h : Hnd) : LoomS :=
  let s2 := (s.last { f with deeds := h.deeds, place := 0 }).logd (.call f.number x)
  if h.once then s2.go x else s2
def frmNs : List Str := ["number", "called", "deeds", "place"]
theorem ff_no {f : Frm} {lc dq : Addr} {m : Str} (h : m ∉ frmNs) : (frmFs f lc dq).lookup m = none := look_no h
end Ev
namespace Ev
open PySem PySem.Spec PyProof.Rows L2
/-! ### a def that is called while an exception of one's own is held -/
abbrev Pn := Addr × Obj
structure FnP (P : Program) (w : World) (K : PySem.W.Frag) (mg : Str → Option Value) (base : Heap) (CX : CXT) (k : Nat) (f : Addr) (fd : FuncData) (ps : List Str) (sp : Pn → Sp) : Prop where
  len : ∀ p vs H Q E, sp p vs H Q E → vs.length = ps.length
  run : ∀ (A : Around) (outer : List Env) (s : Shared) (H : Hp) (args : Args) (us : List Value) (vs : List V) (Q : VK) (E : XK) (p : Pn), L2H.RoomH k A → L2H.PinOk outer H s p → Env0 P w K mg base A outer s H → BindsTo s fd args (ps.zip us) → Vals vs us → sp p vs H Q E →
    codeAny (model P w) A (.call (.ref f) args) (CR CX outer P w H s Q E) s
theorem fn_ofP {CX : CXT} {P : Program} {w : World} {K : PySem.W.Frag} {mg : Str → Option Value} {base : Heap} {k : Nat} {f : Addr} {name qual : Str} {params : Arguments} {body : List Stmt} {scope : Scope} {dV kV doc pm cdv ct oc : Value} {an od : Option Addr}
    {osl : Array (Option Value)} {N ps : List Str} {sp : Pn → Sp} (lk : K.lookup f = some ⟨oc, od, .func (PySem.W.fnOf name qual params body scope dV kV doc pm an cdv ct), osl⟩) (hcd : PySem.W.codeIn K cdv qual = true) (S : FnScope N ps scope)
    (len : ∀ p vs H Q E, sp p vs H Q E → vs.length = ps.length)
    (hbody : ∀ (A : Around) (outer : List Env) (s : Shared) (H : Hp) (vs : List V) (Q : VK) (E : XK) (p : Pn), L2H.RoomH k (A.deeper (envOfC qual scope s.heap.objs.size f cdv)) → sp p vs H Q E →
      ∃ t, PSs (L2H.cxH CX P w K mg base N qual scope f cdv A outer s H E p) body t ∧ t { nx := fun _ H' => Q .non H', rt := Q } (L2.start N vs) H) :
    FnP P w K mg base CX (k + 1) f (PySem.W.fnOf name qual params body scope dV kV doc pm an cdv ct) ps sp := by
  refine ⟨len, fun A outer s H args us vs Q E p hr hpin e0 hb r hsp => ?_⟩
  have hl := len _ _ _ _ _ hsp
  have KX : K.In s.heap := e0.mod.kin.keeps fun b o e => (e0.bs b o e).1
  have lim : s.heap.NoLimit := e0.mod.nolimit.keeps fun b o e => (e0.bs b o e).1
  have hkind : ∀ y ∈ ps.zip us, scope.names.lookup y.1 = some .local ∨ (scope.names.lookup y.1 = some .cell ∧ ((cellsFrom (s.heap.objs.size + 1) scope.names []).lookup y.1).isSome = true) := fun ⟨n, v⟩ hy => by
    rcases S.par n (List.of_mem_zip hy).1 with q | q
    · exact .inl q
    · exact .inr ⟨q, PySem.W.cellsFrom_some _ _ _ (.inl q)⟩
  refine codeAny_call_function hr.depth (KX _ _ lk) rfl S.co S.gen rfl (PySem.W.codeRec_of KX hcd) (hb _ _ _ _ ?_)
  refine wpAny_newFunctionEnv_cells S.kind hkind fun env he s1 x => ?_
  subst he
  refine ⟨lim.keeps x.toInCall.keep, codeAny_func ?_⟩
  obtain ⟨t, ht, hq⟩ := hbody A outer s H vs Q E p (hr.deeper _) hsp
  have I : Inv (L2H.cxH CX P w K mg base N qual scope f cdv A outer s H E p) [] (L2.start N vs) H s1 := L2H.inv_startH S hpin e0 hl r x
  refine wpAny_mono (ht.run [] s1 (L2.start N vs) H _ I hq) (fun fl s' hs => ?_) fun e s' hs => hs
  have fin : ∀ {σ' : L2.St} {H' : Hp} {v : V} {u : Value}, Inv (L2H.cxH CX P w K mg base N qual scope f cdv A outer s H E p) [] σ' H' s' → RelV v u → Q v H' → CE outer P w H s Q u s' :=
    fun {σ' H' v u} J rv q => ⟨v, H', J.os, J.bare, J.base, J.hok, rv, q⟩
  cases fl with
  | ret u =>
    obtain ⟨v, σ', H', J, rv, q⟩ := hs
    exact fin J rv q
  | next =>
    obtain ⟨σ', H', J, q⟩ := hs
    exact fin (v := V.non) (u := Value.none) J rfl q
  | brk =>
    obtain ⟨_, _, _, q⟩ := hs
    exact False.elim q
  | cont =>
    obtain ⟨_, _, _, q⟩ := hs
    exact False.elim q
section
variable {P : Program} {w : World} {K : PySem.W.Frag} {mg : Str → Option Value} {base : Heap}
theorem okP {x qual : Str} {st : Stmt} {f : Addr} {fd : FuncData} {N ps : List Str} {k : Nat} {sp : Pn → Sp} (F : Fun K x qual st f fd) (S : FnScope N ps (defScope st)) (len : ∀ p vs H Q E, sp p vs H Q E → vs.length = ps.length)
    (hbody : ∀ (cdv : Value) (A : Around) (outer : List Env) (s : Shared) (H : Hp) (vs : List V) (Q : VK) (E : XK) (p : Pn), L2H.RoomH k (A.deeper (envOfC qual (defScope st) s.heap.objs.size f cdv)) → sp p vs H Q E →
      ∃ t, PSs (L2H.cxH CX0 P w K mg base N qual (defScope st) f cdv A outer s H E p).nox (defBody st) t ∧ t { nx := fun _ H' => Q .non H', rt := Q } (start N vs) H) : FnP P w K mg base CX0 (k + 1) f fd ps sp := by
  obtain ⟨oc, od, kV, doc, pm, an, cdv, ct, osl, rfl, lk, hcd⟩ := F.ex
  refine fn_ofP lk hcd S len fun A outer s H vs Q E p hr hsp => ?_
  obtain ⟨t, h, q⟩ := hbody cdv A outer s H vs Q E p hr hsp
  exact ⟨t, h.nox, q⟩
end
section
variable {X : Cx} {CX : CXT} {k : Nat} {f C : Addr} {fd : FuncData} {ps : List Str} {sp : Pn → Sp} {E : L2.St → XK} {x m : Str} {q pos apos : Pos} {e o : Expr} {es : List Expr} {ta : TE} {t : TA} {p : Pn}
/-- f(e), f called while the error at a is held -/
def tCallP (a : Addr) (cls : Value) (d : Option Addr) (sp : Pn → Sp) (E : L2.St → XK) (t : TA) : TE := fun σ H Q => t σ H fun vs H1 => ∀ p : Pn, p.1 = a → Zc cls d p.2 → (∃ vs, p.2.data = .fields vs) → sp p vs H1 Q (E σ)
theorem pe_callP {a : Addr} {cls : Value} {d : Option Addr} {oe : Obj} {pn : List Pn} (hz : Zc cls d oe) (hf : ∃ vs, oe.data = .fields vs) (F : FnP X.prog X.w X.K X.mg X.base CX k f fd ps sp) (hr : L2H.RoomH k (X.suite a ((a, oe) :: pn)).A) (hg : Gl X x) (hm : X.mg x = some (.ref f)) (hk : PySem.W.keepIn X.K (.ref f) = true) (hb : Binds X.K fd ps [])
    (hx : ∀ σ, PassesAt CX (X.suite a ((a, oe) :: pn)) σ (E σ))
    (ha : PA (X.suite a ((a, oe) :: pn)) (e :: es) t) (hdb : (x == ("__debug__" : Str)) = false := by decide) (he : starEach (e :: es) X.env = (false, eval e X.env) :: starEach es X.env := by rfl) (hpl : (backTo pos (starEach es X.env)).any (·.1) = false := by rfl) :
    PE (X.suite a ((a, oe) :: pn)) (.Call (.Name x q) (e :: es) [] pos) (tCallP a cls d sp E t) := by
  refine ⟨fun pins s σ H Q I h => ?_⟩
  refine wpAny_Call_Name_kw (ld_glob (X := X.suite a ((a, oe) :: pn)) I hg hm ?_ hdb)
  refine PySem.W.callWith_K (h₀ := X.base) I.ok.mod.kin hk (thn (ha.run pos pins s σ H _ I h) fun us s1 ⟨vs, H1, I1, r, q⟩ => ⟨I1.kIn, ?_⟩) he hpl
  have q := q (a, oe) rfl hz hf
  have hl : us.length = ps.length := by rw [← r.length]; exact F.len _ _ _ _ _ q
  have b := hb s1 us I1.kIn (by rw [List.append_nil]; exact hl)
  rw [List.append_nil] at b
  have P1 := I1.pin (a, oe) (List.mem_append_left _ List.mem_cons_self)
  have hpin : L2H.PinOk X.stack H1 s1 (a, oe) := ⟨P1.1, P1.2.1, fun hm => (List.mem_cons.mp (I1.stkSub a hm)).elim P1.2.2.1 P1.2.2.2.1, P1.2.2.2.2⟩
  refine wpAny_call (codeAny_mono (F.run (X.suite a ((a, oe) :: pn)).A X.stack s1 H1 ⟨us, []⟩ us vs Q (E σ) (a, oe) hr hpin I1.env0 b r q) fun r s' hq => ?_)
  cases r with
  | error e => exact hx σ pins H1 s1 e s' I1 hq
  | ok fl =>
    cases fl with
    | ret u => exact I1.after hq
    | next => exact False.elim hq
    | brk => exact False.elim hq
    | cont => exact False.elim hq
theorem passP {X : Cx} {σ : L2.St} {E : XK} : PassesAt CX0 X σ E := fun _ _ _ _ _ _ h => h.elim
end
/-! ### methods and makings that may raise, in a try -/
section
variable {X : Cx} {CX : CXT} {k : Nat} {f C : Addr} {fd : FuncData} {ps : List Str} {sp : Sp} {E : L2.St → XK} {x m : Str} {q pos apos : Pos} {e o : Expr} {es : List Expr} {ta : TE} {t : TA}
def tMethE (C : Addr) (m : Str) (sp : Sp) (E : L2.St → XK) (ta : TE) (t : TA) : TE := fun σ H Q => ta σ H fun x H1 => ∃ a dx fs, x = .ref a ∧ H1 a = some (.ins C dx fs) ∧ fs.lookup m = none ∧ t σ H1 fun vs H2 => sp (x :: vs) H2 Q (E σ)
theorem pe_methE {pl : Sem Bool} (he : PE X o ta) (c : Cls X.K C) (hm : Meth X.K C m f) (F : FnOk X.prog X.w X.K X.mg X.base CX k f fd ps sp) (hr : Room k X.A) (hb : Binds X.K fd ps []) (hx : ∀ σ, PassesAt CX X σ (E σ)) (ha : PA X (e :: es) t)
    (hst : starEach (e :: es) X.env = (false, eval e X.env) :: starEach es X.env := by rfl) (hpl : (backTo pos (starEach es X.env)).any (·.1) = false := by rfl)
    (ht : eval (.Call (.Attribute o m apos) (e :: es) [] pos) X.env = (do
      let ov ← eval o X.env
      standAt apos.atName
      let (f, first) ← holding [ov] (getMethod ov m pl)
      callWith pos f first (backTo pos (starEach (e :: es) X.env)) (backToKw pos (keywordEach [] X.env))) := by rfl) :
    PE X (.Call (.Attribute o m apos) (e :: es) [] pos) (tMethE C m sp E ta t) := by
  refine ⟨fun pins s σ H Q I h => ?_⟩
  refine PySem.W.methodCall_KW (pl := pl) (thn (he.run pins s σ H _ I h) fun u s1 ⟨x, H1, I1, rx, a, dx, fs, ex, ea, l, q⟩ => ?_) ht
  subst ex
  obtain rfl : u = Value.ref a := rx
  refine getmeth_ok I1 ea c hm l ?_
  refine PySem.W.callWith_K (first := [.ref a]) (h₀ := X.base) I.ok.mod.kin hm.kp (thn (ha.run pos pins s1 σ H1 _ I1 q) fun us s2 ⟨vs, H2, I2, r, q2⟩ => ⟨I2.kIn, ?_⟩) hst hpl
  exact run_fnS (us := .ref a :: us) (vs := .ref a :: vs) F hr hb (hx σ) I2 (.cons rfl r) q2
def tMakeS (C : Addr) (sp : Sp) (E : L2.St → XK) (t : TA) : TE := fun σ H Q => t σ H fun vs H1 => ∀ x dx, H1 x = none → H1 dx = none → dx ≠ x → sp (.ref x :: vs) (upd (upd H1 dx (.own x)) x (.ins C dx [])) (fun v H2 => v = .non ∧ Q (.ref x) H2) (E σ)
theorem pe_makeS (M : Mk X.K C f) (F : FnOk X.prog X.w X.K X.mg X.base CX k f fd ps sp) (hr : Room (k + 1) X.A) (hg : Gl X x) (hm : X.mg x = some (.ref C)) (hb : Binds X.K fd ps []) (hx : ∀ σ, PassesAt CX X σ (E σ))
    (ha : PA X (e :: es) t) (hdb : (x == ("__debug__" : Str)) = false := by decide) (he : starEach (e :: es) X.env = (false, eval e X.env) :: starEach es X.env := by rfl) (hpl : (backTo pos (starEach es X.env)).any (·.1) = false := by rfl) :
    PE X (.Call (.Name x q) (e :: es) [] pos) (tMakeS C sp E t) := by
  refine ⟨fun pins s σ H Q I h => ?_⟩
  refine wpAny_Call_Name_kw (ld_glob I hg hm ?_ hdb)
  refine PySem.W.callWith_K (h₀ := X.base) I.ok.mod.kin M.kp (thn (ha.run pos pins s σ H _ I h) fun us s1 ⟨vs, H1, I1, r, q⟩ => ⟨I1.kIn, ?_⟩) he hpl
  have hq := q (s1.heap.objs.size + 1) s1.heap.objs.size (I1.hok.fresh (Nat.le_succ _)) (I1.hok.fresh (Nat.le_refl _)) (Nat.ne_of_lt (Nat.lt_succ_self _))
  have I2 := Inv.made (C := C) I1
  have r2 : Vals (V.ref (s1.heap.objs.size + 1) :: vs) (Value.ref (s1.heap.objs.size + 1) :: us) := .cons rfl r
  have hl : (Value.ref (s1.heap.objs.size + 1) :: us).length = ps.length := by
    have e := r2.length
    rw [F.len _ _ _ _ hq] at e
    exact e.symm
  have b := hb _ (Value.ref (s1.heap.objs.size + 1) :: us) I2.kIn (by rw [List.append_nil]; exact hl)
  rw [List.append_nil] at b
  refine wpAny_call (make_map (f := f) I1.kIn M.makes M.init (beq_iff_eq.mp M.fn) (codeAny_mono (F.run _ X.stack _ _ ⟨Value.ref (s1.heap.objs.size + 1) :: us, []⟩ (Value.ref (s1.heap.objs.size + 1) :: us) _ _ (E σ) (hr.make C us [])
    (I2.env0.make C us []) b r2 hq) fun r s' hq' => ?_))
  cases r with
  | error e => exact hx σ pins _ _ e s' I2 hq'
  | ok fl =>
    cases fl with
    | ret u =>
      obtain ⟨v, H', I3, rv, ev, q3⟩ := I2.after hq'
      subst ev
      exact ⟨rv, ⟨V.ref (s1.heap.objs.size + 1), H', I3, rfl, q3⟩⟩
    | next => exact False.elim hq'
    | brk => exact False.elim hq'
    | cont => exact False.elim hq'
theorem roomS {k n : Nat} {A : Around} {x : Option Value} (r : Room n A) (h : k ≤ n) : L2H.RoomH k (A.mark x) := ⟨by have := r.dp; show A.depth + 3 * k + 5 < _; omega, by have := r.un; show A.units + 16 * k + 200 < _; omega⟩
theorem unP {k : Nat} {A : Around} (r : L2H.RoomH k A) : A.units + 64 < cLine := by
  have := r.un
  omega
/-- l.count(y), of flat data -/
def rCntD (K : PySem.W.Frag) : V → List V → Hp → VK → Prop := fun x vs H Q => ∃ (p : Addr) (xs : List V) (ds : List PyData) (y : V) (d : PyData), x = .ref p ∧ vs = [y] ∧ SqL K H p xs ∧ DpAll K H xs ds ∧ Dp K H y d ∧ PyData.plainAll ds = true ∧ d.plain = true ∧ PyData.depthAll ds ≤ 10 ∧
  Q (.int ((ds.countP fun z => PyData.eqv z d : Nat) : Int)) H
theorem kCntD {X : Cx} (K : PySem.W.Frag) (hu : X.A.units + 64 < cLine) (h : X.K = K := by rfl) : MtR X "list.count" (rCntD K) := by
  subst h
  intro pins s σ H x xs v us Q I rx rxs h
  obtain ⟨p, ys, ds, y, d, rfl, rfl, hs, hds, hd, pl, pd, dep, q⟩ := h
  cases rx
  obtain ⟨u, rfl, ru⟩ := rxs.one
  obtain ⟨its, rv, hl, hz⟩ := I.list hs
  obtain ⟨as, ra⟩ := Dp.readsAll I _ ys its hds rv
  obtain ⟨bs, rb⟩ := Dp.reads I _ _ _ hd ru
  refine SeqAt.count_list_data hl.isList (by simpa using ra) rb pl pd (by omega) ?_
  exact ⟨.int _, H, I.tok _, ⟨s.toks, rfl⟩, q⟩
end
/-- the held error is an instance of the class at D, which has no dict -/
def ErrAt (K : PySem.W.Frag) (D : Addr) (p : Pn) : Prop := ExcC K D ∧ Zc (.ref D) none p.2 ∧ ∃ vs, p.2.data = .fields vs
def rIsP (K : PySem.W.Frag) (p : Pn) : List V → Hp → VK → Prop := fun xs H Q => ∃ (D : Addr) (c : V) (cv : Value) (b : Bool), xs = [.ref p.1, c] ∧ ErrAt K D p ∧ ClsV c cv ∧ PySem.W.kitOne K (.ref D) cv = some b ∧ Q (.bl b) H
theorem kIsP {X : Cx} (K : PySem.W.Frag) {p : Pn} (hp : p ∈ X.pn) (h : X.K = K := by rfl) : CallR X (.builtin "isinstance") (rIsP K p) := by
  subst h
  intro pins s σ H xs us Q I r h
  obtain ⟨D, c, cv, b, rfl, ⟨C, hz, vs, hv⟩, hcv, e, q⟩ := h
  cases r with
  | cons rx rr =>
    cases rr with
    | cons rt rr =>
      cases rr
      cases rx
      have ec := hcv.eq rt
      subst ec
      obtain ⟨hget, _⟩ := I.pin p (List.mem_append.mpr (.inl hp))
      have J : PySem.W.InstAt s.heap p.1 p.2 D none := by
        obtain ⟨a, oc, od, oda, osl⟩ := p
        obtain ⟨h1, h2⟩ := hz
        dsimp only at h1 h2 hv hget ⊢
        subst h1 h2 hv
        exact ⟨hget, rfl, rfl, trivial⟩
      exact PySem.W.kia_one (PySem.W.handS_kitx_exc C.hg C.hk C.hs C.hd C.ha C.hn C.ht C.hm) I.kIn J e (fun z => nomatch z) fun tk => ⟨.bl b, H, I.kept (t' := tk) fun _ _ z => z, rfl, q⟩
theorem kit_sub {K : PySem.W.Frag} {C D : Addr} {b : Bool} (hs : PySem.W.subIn K (.ref C) (.ref C) = some true) (hd : PySem.W.hasDictIn K D = true) (ht : PySem.W.typeIn K (.ref D) = some (.type "type")) (h : PySem.W.subIn K (.ref C) (.ref D) = some b) : PySem.W.kitOne K (.ref C) (.ref D) = some b := by
  unfold PySem.W.kitOne
  by_cases e : ((Value.ref C : Value) == .ref D) = true
  · rw [if_pos e]
    have e2 : C = D := Value.ref.inj (beq_iff_eq.mp e)
    subst e2
    rw [hs] at h
    exact h
  · rw [if_neg e]
    obtain ⟨cd, hc, _⟩ := PySem.W.any_some hd
    have e2 : ((PySem.W.clsIn K D).isSome && PySem.W.typeIn K (.ref D) == some (.type "type")) = true := by rw [hc, ht] <;> rfl
    show (if ((PySem.W.clsIn K D).isSome && PySem.W.typeIn K (.ref D) == some (.type "type")) = true then PySem.W.subIn K (.ref C) (.ref D) else none) = some b
    rw [if_pos e2]
    exact h
theorem kit_val {K : PySem.W.Frag} {C : Addr} (h : PySem.W.subIn K (.ref C) (.type "ValueError") = some true) : PySem.W.kitOne K (.ref C) (.type "ValueError") = some true := by
  unfold PySem.W.kitOne
  by_cases e : ((Value.ref C : Value) == .type "ValueError") = true
  · exact absurd (beq_iff_eq.mp e) (by simp)
  · rw [if_neg e]
    show (if PySem.W.kitMeta "ValueError" = true then PySem.W.subIn K (.ref C) (.type "ValueError") else none) = _
    rw [if_pos (by decide +kernel)]
    exact h
end Ev
namespace Ev
open PySem PySem.Spec PyProof.Rows L2
theorem room65 {k : Nat} {A : Around} (r : Room k A) : A.units + 65 < cLine := by
  have := r.un
  omega
/-! ### a text is no dict; lists of the same items -/
theorem str_eq_decl_dict (b : Str) (u : Tok) (l : Addr) (o : Obj) (hd : ∃ es ep, o.data = .dict es ep) :
    Meets (Builtin.«str.__eq__» ⟨[.str b u, .ref l], []⟩) (fun _ R s => s.heap.get? l = some o ∧ R (.ok (.ret .notImplemented)) s) :=
  .of_wp fun prog w A R s h => by
    obtain ⟨es, ep, hd⟩ := hd
    obtain ⟨oc, od, oda, osl⟩ := o
    simp only at hd
    subst hd
    obtain ⟨hp, g, d, tk, os⟩ := s
    obtain ⟨hl, h⟩ := h
    wp_walk using PyProof.wpAny_loadPart' hl, wpAny_load hl
    exact ⟨_, rfl, h⟩
theorem dict_eq_decl_str (b : Str) (u : Tok) (l : Addr) (o : Obj) (hc : o.cls = .type "dict") (hd : ∃ es ep, o.data = .dict es ep) :
    Meets (Builtin.«dict.__eq__» ⟨[.ref l, .str b u], []⟩) (fun _ R s => s.heap.get? l = some o ∧ R (.ok (.ret .notImplemented)) s) :=
  .of_wp fun prog w A R s h => by
    obtain ⟨es, ep, hd⟩ := hd
    obtain ⟨oc, od, oda, osl⟩ := o
    simp only at hc hd
    subst hc hd
    obtain ⟨hp, g, d, tk, os⟩ := s
    obtain ⟨hl, h⟩ := h
    have f1 := PySem.F.sub_str_dict
    wp_walk using PyProof.wpAny_loadPart' hl
    exact ⟨_, rfl, h⟩
open PySem.SeqAt in
theorem rc_str_dict {A : Around} {s : Shared} {l : Addr} {o : Obj} (b : Str) (u : Tok) (ho : s.heap.get? l = some o) (hc : o.cls = .type "dict") (hd : ∃ es ep, o.data = .dict es ep) (hu : A.units < cLine) : RcAt A s (.str b u) (.ref l) false := fun prog w E Q h => by
  exact rc_eq_decline_or (k := false) (typeIs_str s b u) ⟨_, ho, hc⟩ (by decide) PySem.F.sub_dict_str PySem.F.slot_str_eq PySem.F.slot_dict_eq_refl
    (fun _ hq => call_meets PySem.F.slot_str_eq (typeIs_str s b u) PySem.F.entry_str_eq (PySem.F.args_str_eq_2 _ _) (str_eq_decl_dict b u l o hd) ⟨ho, hq⟩)
    (fun _ hq => call_meets PySem.F.slot_dict_eq_refl ⟨_, ho, hc⟩ PySem.F.entry_dict_eq (PySem.F.args_dict_eq_2 _ _) (dict_eq_decl_str b u l o hc hd) ⟨ho, hq⟩)
    (fun _ hq => wpAny_of_eq (rfl : isSame (.str b u) (.ref l) = pure false) hq) (.inr hu) h
theorem eq_str_dict {A : Around} {s : Shared} {l : Addr} {o : Obj} (b : Str) (u : Tok) (ho : s.heap.get? l = some o) (hc : o.cls = .type "dict") (hd : ∃ es ep, o.data = .dict es ep) (hu : A.units < cLine) : SeqAt.EqAt A s (.str b u) (.ref l) false := fun prog w E Q h => by
  unfold eqBool
  refine wpAny_holding ?_
  refine wpAny_ite_split (fun hab => absurd (eq_of_beq hab) nofun) (fun _ => ?_)
  exact wpAny_bind (rc_str_dict b u ho hc hd hu prog w E _ (wpAny_truthy_bool h))
/-- what is no text -/
inductive NotStr (K : PySem.W.Frag) (H : Hp) : V → Prop where
  | non : NotStr K H .non
  | bl (b : Bool) : NotStr K H (.bl b)
  | int (i : Int) : NotStr K H (.int i)
  | lst {a : Addr} {xs : List V} (h : SqL K H a xs) : NotStr K H (.ref a)
  | tup {a : Addr} {xs : List V} (h : SqT K H a xs) : NotStr K H (.ref a)
  | dct {a : Addr} {kvs : List (Key × V)} (h : H a = some (.dK kvs)) : NotStr K H (.ref a)
theorem NotStr.ne {X : Cx} {pins : List (Addr × Obj)} {σ : L2.St} {H : Hp} {s : Shared} (I : Inv X pins σ H s) {x : V} {u : Value} (n : NotStr X.K H x) (r : RelV x u) (hu : X.A.in1.units < cLine) (b : Str) (t : Tok) : SeqAt.EqAt X.A.in1 s (.str b t) u false := by
  cases n with
  | non => cases (show u = Value.none from r); exact SeqAt.EqAt.str_none b t
  | bl y => cases (show u = Value.bool y from r); exact SeqAt.EqAt.str_bool b t y
  | int i => obtain ⟨v, q⟩ := (show ∃ t, u = Value.int i t from r); cases q; exact SeqAt.EqAt.str_int b t i v
  | @lst a xs h =>
    cases (show u = Value.ref a from r)
    obtain ⟨its, r, pl, hz⟩ := I.list h
    exact SeqAt.EqAt.str_list b t pl.isList hu
  | @tup a xs h =>
    cases (show u = Value.ref a from r)
    obtain ⟨its, r, pl, hz⟩ := I.tuple h
    exact SeqAt.EqAt.str_tuple b t pl hu
  | @dct a kvs h =>
    cases (show u = Value.ref a from r)
    obtain ⟨_, _, vs, _, o, es, ep, h1, h2, h3, _⟩ := (show ObjOk X.prog X.w H s.heap a (.dK kvs) from I.hok a _ h)
    exact eq_str_dict b t h1 h2.1 ⟨es, ep, h3⟩ hu
theorem strs_of : ∀ {ns : List Str} {its : List Value}, Vals (ns.map V.str) its → ∀ y ∈ its, ∃ (b : Str) (t : Tok), y = .str b t
  | [], _, .nil, y, h => by cases h
  | n :: ns, _, .cons r q, y, h => by
    rcases List.mem_cons.mp h with e | e
    · obtain ⟨t, rfl⟩ := r
      exact ⟨n, t, e⟩
    · exact strs_of q y e
def rInS (K : PySem.W.Frag) (neg : Bool) : R2 := fun x y H Q => ∃ (p : Addr) (ns : List Str), y = .ref p ∧ SqL K H p (ns.map V.str) ∧ ((∃ z, x = .str z ∧ Q (.bl (if neg then !decide (z ∈ ns) else decide (z ∈ ns))) H) ∨ (NotStr K H x ∧ Q (.bl neg) H))
theorem kInS {X : Cx} (K : PySem.W.Frag) (hu : X.A.units + 65 < cLine) (h : X.K = K := by rfl) : OpR X (compareOp .In) (rInS K false) := by
  subst h
  intro pins s σ H x y v u Q I rx ry h
  obtain ⟨p, ns, rfl, hq, ⟨z, rfl, q⟩ | ⟨n, q⟩⟩ := h
  · refine op_in_seq pins s σ H _ _ _ _ Q I rx ry ⟨p, _, rfl, .inl hq, rfl, flat_strs _, ?_⟩
    rw [inV_strs]
    exact q
  · cases ry
    obtain ⟨its, r, pl, hz⟩ := I.list hq
    refine SeqAt.in_listAt (fun _ => false) pl.isList (fun w hw => ?_) ⟨.bl _, H, I, rfl, ?_⟩
    · obtain ⟨b, t, rfl⟩ := strs_of r w (by simpa using hw)
      exact n.ne I rx (by show X.A.units + 1 < cLine; omega) b t
    · have e : its.toArray.any (fun _ => false) = false := by simp
      rw [e]
      exact q
theorem kNotInS {X : Cx} (K : PySem.W.Frag) (hu : X.A.units + 65 < cLine) (h : X.K = K := by rfl) : OpR X (compareOp .NotIn) (rInS K true) := by
  subst h
  intro pins s σ H x y v u Q I rx ry h
  obtain ⟨p, ns, rfl, hq, ⟨z, rfl, q⟩ | ⟨n, q⟩⟩ := h
  · refine op_notIn_seq pins s σ H _ _ _ _ Q I rx ry ⟨p, _, rfl, .inl hq, rfl, flat_strs _, ?_⟩
    rw [inV_strs]
    exact q
  · cases ry
    obtain ⟨its, r, pl, hz⟩ := I.list hq
    refine SeqAt.notIn_listAt (fun _ => false) pl.isList (fun w hw => ?_) ⟨.bl _, H, I, rfl, ?_⟩
    · obtain ⟨b, t, rfl⟩ := strs_of r w (by simpa using hw)
      exact n.ne I rx (by show X.A.units + 1 < cLine; omega) b t
    · have e : its.toArray.any (fun _ => false) = false := by simp
      rw [e]
      exact q
/-- a value that is itself -/
def selfV : V → Bool
  | .flt _ => false | .byt _ => false | _ => true
theorem self_eq {A : Around} {s : Shared} {x : V} {u u' : Value} (h : selfV x = true) (r : RelV x u) (r' : RelV x u') : SeqAt.EqAt A s u u' true := by
  cases x with
  | non => cases (show u = Value.none from r); cases (show u' = Value.none from r'); exact SeqAt.EqAt.same _
  | bl b => cases (show u = Value.bool b from r); cases (show u' = Value.bool b from r'); exact SeqAt.EqAt.same _
  | int i =>
    obtain ⟨t, q⟩ := (show ∃ t, u = Value.int i t from r); cases q
    obtain ⟨t', q⟩ := (show ∃ t, u' = Value.int i t from r'); cases q
    have e := SeqAt.EqAt.int_int (A := A) (s := s) i t i t'
    rw [beq_self_eq_true] at e
    exact e
  | str z =>
    obtain ⟨t, q⟩ := (show ∃ t, u = Value.str z t from r); cases q
    obtain ⟨t', q⟩ := (show ∃ t, u' = Value.str z t from r'); cases q
    have e := SeqAt.EqAt.str_str (A := A) (s := s) z t z t'
    rw [beq_self_eq_true] at e
    exact e
  | byt b => cases h
  | flt b => cases h
  | ref a => cases (show u = Value.ref a from r); cases (show u' = Value.ref a from r'); exact SeqAt.EqAt.same _
  | ty n => cases (show u = Value.type n from r); cases (show u' = Value.type n from r'); exact SeqAt.EqAt.same _
/-- two lists of the same items -/
def rEqS (K : PySem.W.Frag) (b : Bool) : R2 := fun x y H Q => ∃ p q xs, x = .ref p ∧ y = .ref q ∧ SqL K H p xs ∧ SqL K H q xs ∧ xs.all selfV = true ∧ Q (.bl b) H
theorem self_items {A : Around} {s : Shared} {xs : List V} {is js : List Value} (r : Vals xs is) (r' : Vals xs js) (f : xs.all selfV = true) (j : Nat) (h1 : j < is.toArray.size) (h2 : j < js.toArray.size) : SeqAt.EqAt A s is.toArray[j] js.toArray[j] true := by
  have l1 : j < is.length := by simpa using h1
  have lx : j < xs.length := by rw [r.length]; exact l1
  obtain ⟨u, hu, ru⟩ := r.get (List.getElem?_eq_getElem lx)
  obtain ⟨u', hu', ru'⟩ := r'.get (List.getElem?_eq_getElem lx)
  have e1 : is.toArray[j] = u := by
    have := (List.getElem?_eq_some_iff.mp hu).2
    simpa using this
  have e2 : js.toArray[j] = u' := by
    have := (List.getElem?_eq_some_iff.mp hu').2
    simpa using this
  rw [e1, e2]
  exact self_eq (List.all_eq_true.mp f _ (List.getElem_mem lx)) ru ru'
theorem kEqS {X : Cx} (K : PySem.W.Frag) (hu : X.A.units + 65 < cLine) (h : X.K = K := by rfl) : OpR X (compareOp .Eq) (rEqS K true) := by
  subst h
  intro pins s σ H x y v u Q I rx ry h
  obtain ⟨p, q, xs, rfl, rfl, hp, hq, f, k⟩ := h
  cases rx
  cases ry
  obtain ⟨is, r, pl, hz⟩ := I.list hp
  obtain ⟨js, r', pl', hz'⟩ := I.list hq
  refine SeqAt.eq_listAt (e := fun _ => true) pl.isList pl'.isList (by rw [List.size_toArray, List.size_toArray, ← r.length, ← r'.length]) (by omega) (fun j h1 h2 => self_items r r' f j h1 h2) ⟨.bl _, H, I, ?_, k⟩
  show Value.bool ((List.range is.toArray.size).all fun _ => true) = Value.bool true
  simp
theorem kNeS {X : Cx} (K : PySem.W.Frag) (hu : X.A.units + 65 < cLine) (h : X.K = K := by rfl) : OpR X (compareOp .NotEq) (rEqS K false) := by
  subst h
  intro pins s σ H x y v u Q I rx ry h
  obtain ⟨p, q, xs, rfl, rfl, hp, hq, f, k⟩ := h
  cases rx
  cases ry
  obtain ⟨is, r, pl, hz⟩ := I.list hp
  obtain ⟨js, r', pl', hz'⟩ := I.list hq
  refine SeqAt.RcNeAt.lists (e := fun _ => true) pl.isList pl'.isList (by rw [List.size_toArray, List.size_toArray, ← r.length, ← r'.length]) (by omega) (fun j h1 h2 => self_items r r' f j h1 h2) X.prog X.w X.xe _ ⟨.bl _, H, I, ?_, k⟩
  show Value.bool (!(List.range is.toArray.size).all fun _ => true) = Value.bool false
  simp
/-- a method of a built-in type, with K said -/
theorem kBm {X : Cx} (K : PySem.W.Frag) {T : String} {name : Str} {id : String} {r : V → List V → Hp → VK → Prop} {o e : Expr} {es : List Expr} {to : TE} {t : TA} {apos cpos : Pos} (pa : PlainAttrs T) (slot : Slot T name id) (hty : typeOf (.builtin id) = pure (.type "method_descriptor")) (hm : MtR X id r) (ho : PE X o to) (ha : PA X (e :: es) t)
    (h : X.K = K := by rfl)
    (hbase : attributeBase o name X.env (eval o X.env) = eval o X.env := by rfl)
    (hfew : ((backTo cpos (starEach (e :: es) X.env)).all (fun x => !x.1) && (backToKw cpos (keywordEach [] X.env)).all (fun x => x.1.isSome)
      && decide ((e :: es).length + ([] : List Keyword).length + (if ([] : List Keyword).isEmpty then 0 else 1) < 30)) = true := by rfl)
    (hline : (apos.endLine == cpos.line) = true := by rfl) (hs : starEach (e :: es) X.env = (false, eval e X.env) :: starEach es X.env := by rfl) (hplain : (backTo cpos (starEach es X.env)).any (·.1) = false := by rfl) :
    PE X (.Call (.Attribute o name apos) (e :: es) [] cpos) (tBM K T r to t) := by
  subst h
  exact pe_bm pa slot hty hm ho ha hbase hfew hline hs hplain
theorem kIndex {X : Cx} (K : PySem.W.Frag) (h : X.K = K := by rfl) : MtR X "list.index" (rIndex K) := by
  subst h
  exact mt_index
end Ev
namespace Ev
open PySem L2
def top (i : Nat) : Stmt := PySem.Challenge.pw_eventloom_k04_handlers_refused.main.body.getD i (.Pass ⟨0, 0, 0, 0⟩)
abbrev s_Wall : Stmt := top 0
abbrev nm_Wall : List Str := ["k"]
theorem sc_Wall : FnScope nm_Wall ["k"] (defScope s_Wall) := ⟨rfl, rfl, rfl, by decide +kernel, rfl, by decide +kernel, by decide +kernel⟩
abbrev s_isWhole : Stmt := top 11
abbrev nm_isWhole : List Str := ["thing"]
theorem sc_isWhole : FnScope nm_isWhole ["thing"] (defScope s_isWhole) := ⟨rfl, rfl, rfl, by decide +kernel, rfl, by decide +kernel, by decide +kernel⟩
abbrev s_isWord : Stmt := top 12
abbrev nm_isWord : List Str := ["thing", "sign"]
theorem sc_isWord : FnScope nm_isWord ["thing"] (defScope s_isWord) := ⟨rfl, rfl, rfl, by decide +kernel, rfl, by decide +kernel, by decide +kernel⟩
abbrev s_needWord : Stmt := top 13
abbrev nm_needWord : List Str := ["thing"]
theorem sc_needWord : FnScope nm_needWord ["thing"] (defScope s_needWord) := ⟨rfl, rfl, rfl, by decide +kernel, rfl, by decide +kernel, by decide +kernel⟩
abbrev s_isDeed : Stmt := top 19
abbrev nm_isDeed : List Str := ["thing"]
theorem sc_isDeed : FnScope nm_isDeed ["thing"] (defScope s_isDeed) := ⟨rfl, rfl, rfl, by decide +kernel, rfl, by decide +kernel, by decide +kernel⟩
abbrev s_isHandler : Stmt := top 20
abbrev nm_isHandler : List Str := ["thing", "name", "rank", "hears", "once", "deeds", "deed"]
theorem sc_isHandler : FnScope nm_isHandler ["thing"] (defScope s_isHandler) := ⟨rfl, rfl, rfl, by decide +kernel, rfl, by decide +kernel, by decide +kernel⟩
abbrev s_needHandlers : Stmt := top 21
abbrev nm_needHandlers : List Str := ["handlers", "found", "one", "names", "deed", "other"]
theorem sc_needHandlers : FnScope nm_needHandlers ["handlers"] (defScope s_needHandlers) := ⟨rfl, rfl, rfl, by decide +kernel, rfl, by decide +kernel, by decide +kernel⟩
abbrev s_needNames : Stmt := top 22
abbrev nm_needNames : List Str := ["handlers", "names", "found", "known", "name", "one"]
theorem sc_needNames : FnScope nm_needNames ["handlers", "names"] (defScope s_needNames) := ⟨rfl, rfl, rfl, by decide +kernel, rfl, by decide +kernel, by decide +kernel⟩
abbrev s_WaitsInit : Stmt := inClass (top 24) 0
abbrev nm_WaitsInit : List Str := ["self"]
theorem sc_WaitsInit : FnScope nm_WaitsInit ["self"] (defScope s_WaitsInit) := ⟨rfl, rfl, rfl, by decide +kernel, rfl, by decide +kernel, by decide +kernel⟩
abbrev s_WaitsSooner : Stmt := inClass (top 24) 1
abbrev nm_WaitsSooner : List Str := ["self", "number"]
theorem sc_WaitsSooner : FnScope nm_WaitsSooner ["self", "number"] (defScope s_WaitsSooner) := ⟨rfl, rfl, rfl, by decide +kernel, rfl, by decide +kernel, by decide +kernel⟩
abbrev s_WaitsLater : Stmt := inClass (top 24) 2
abbrev nm_WaitsLater : List Str := ["self", "number", "due", "place"]
theorem sc_WaitsLater : FnScope nm_WaitsLater ["self", "number", "due"] (defScope s_WaitsLater) := ⟨rfl, rfl, rfl, by decide +kernel, rfl, by decide +kernel, by decide +kernel⟩
abbrev s_WaitsLineup : Stmt := inClass (top 24) 3
abbrev nm_WaitsLineup : List Str := ["self"]
theorem sc_WaitsLineup : FnScope nm_WaitsLineup ["self"] (defScope s_WaitsLineup) := ⟨rfl, rfl, rfl, by decide +kernel, rfl, by decide +kernel, by decide +kernel⟩
abbrev s_WaitsLead : Stmt := inClass (top 24) 4
abbrev nm_WaitsLead : List Str := ["self"]
theorem sc_WaitsLead : FnScope nm_WaitsLead ["self"] (defScope s_WaitsLead) := ⟨rfl, rfl, rfl, by decide +kernel, rfl, by decide +kernel, by decide +kernel⟩
abbrev s_WaitsDrop : Stmt := inClass (top 24) 5
abbrev nm_WaitsDrop : List Str := ["self", "numbers"]
theorem sc_WaitsDrop : FnScope nm_WaitsDrop ["self", "numbers"] (defScope s_WaitsDrop) := ⟨rfl, rfl, rfl, by decide +kernel, rfl, by decide +kernel, by decide +kernel⟩
abbrev s_LoomInit : Stmt := inClass (top 26) 0
abbrev nm_LoomInit : List Str := ["self", "handlers", "names", "name"]
theorem sc_LoomInit : FnScope nm_LoomInit ["self", "handlers", "names"] (defScope s_LoomInit) := ⟨rfl, rfl, rfl, by decide +kernel, rfl, by decide +kernel, by decide +kernel⟩
abbrev s_LoomCome : Stmt := inClass (top 26) 1
abbrev nm_LoomCome : List Str := ["self", "name"]
theorem sc_LoomCome : FnScope nm_LoomCome ["self", "name"] (defScope s_LoomCome) := ⟨rfl, rfl, rfl, by decide +kernel, rfl, by decide +kernel, by decide +kernel⟩
abbrev s_LoomGo : Stmt := inClass (top 26) 2
abbrev nm_LoomGo : List Str := ["self", "name"]
theorem sc_LoomGo : FnScope nm_LoomGo ["self", "name"] (defScope s_LoomGo) := ⟨rfl, rfl, rfl, by decide +kernel, rfl, by decide +kernel, by decide +kernel⟩
abbrev s_LoomMade : Stmt := inClass (top 26) 3
abbrev nm_LoomMade : List Str := ["self", "word", "maker", "road", "due"]
theorem sc_LoomMade : FnScope nm_LoomMade ["self", "word", "maker", "road", "due"] (defScope s_LoomMade) := ⟨rfl, rfl, rfl, by decide +kernel, rfl, by decide +kernel, by decide +kernel⟩
abbrev s_LoomSend : Stmt := inClass (top 26) 4
abbrev nm_LoomSend : List Str := ["self", "word", "number"]
theorem sc_LoomSend : FnScope nm_LoomSend ["self", "word"] (defScope s_LoomSend) := ⟨rfl, rfl, rfl, by decide +kernel, rfl, by decide +kernel, by decide +kernel⟩
abbrev s_LoomStep : Stmt := inClass (top 26) 5
abbrev nm_LoomStep : List Str := ["self"]
theorem sc_LoomStep : FnScope nm_LoomStep ["self"] (defScope s_LoomStep) := ⟨rfl, rfl, rfl, by decide +kernel, rfl, by decide +kernel, by decide +kernel⟩
abbrev s_LoomBegin : Stmt := inClass (top 26) 6
abbrev nm_LoomBegin : List Str := ["self", "number"]
theorem sc_LoomBegin : FnScope nm_LoomBegin ["self", "number"] (defScope s_LoomBegin) := ⟨rfl, rfl, rfl, by decide +kernel, rfl, by decide +kernel, by decide +kernel⟩
abbrev s_LoomGoOn : Stmt := inClass (top 26) 7
abbrev nm_LoomGoOn : List Str := ["self", "frame"]
theorem sc_LoomGoOn : FnScope nm_LoomGoOn ["self", "frame"] (defScope s_LoomGoOn) := ⟨rfl, rfl, rfl, by decide +kernel, rfl, by decide +kernel, by decide +kernel⟩
abbrev s_LoomCall : Stmt := inClass (top 26) 8
abbrev nm_LoomCall : List Str := ["self", "frame", "name"]
theorem sc_LoomCall : FnScope nm_LoomCall ["self", "frame", "name"] (defScope s_LoomCall) := ⟨rfl, rfl, rfl, by decide +kernel, rfl, by decide +kernel, by decide +kernel⟩
abbrev s_LoomDo : Stmt := inClass (top 26) 9
abbrev nm_LoomDo : List Str := ["self", "frame", "deed"]
theorem sc_LoomDo : FnScope nm_LoomDo ["self", "frame", "deed"] (defScope s_LoomDo) := ⟨rfl, rfl, rfl, by decide +kernel, rfl, by decide +kernel, by decide +kernel⟩
abbrev s_LoomMake : Stmt := inClass (top 26) 10
abbrev nm_LoomMake : List Str := ["self", "maker", "deed"]
theorem sc_LoomMake : FnScope nm_LoomMake ["self", "maker", "deed"] (defScope s_LoomMake) := ⟨rfl, rfl, rfl, by decide +kernel, rfl, by decide +kernel, by decide +kernel⟩
abbrev s_LoomRun : Stmt := inClass (top 26) 11
abbrev nm_LoomRun : List Str := ["self", "most"]
theorem sc_LoomRun : FnScope nm_LoomRun ["self", "most"] (defScope s_LoomRun) := ⟨rfl, rfl, rfl, by decide +kernel, rfl, by decide +kernel, by decide +kernel⟩
abbrev s_LoomWaiting : Stmt := inClass (top 26) 12
abbrev nm_LoomWaiting : List Str := ["self"]
theorem sc_LoomWaiting : FnScope nm_LoomWaiting ["self"] (defScope s_LoomWaiting) := ⟨rfl, rfl, rfl, by decide +kernel, rfl, by decide +kernel, by decide +kernel⟩
abbrev s_LoomAround : Stmt := inClass (top 26) 13
abbrev nm_LoomAround : List Str := ["self"]
theorem sc_LoomAround : FnScope nm_LoomAround ["self"] (defScope s_LoomAround) := ⟨rfl, rfl, rfl, by decide +kernel, rfl, by decide +kernel, by decide +kernel⟩
abbrev s_LoomStanding : Stmt := inClass (top 26) 14
abbrev nm_LoomStanding : List Str := ["self"]
theorem sc_LoomStanding : FnScope nm_LoomStanding ["self"] (defScope s_LoomStanding) := ⟨rfl, rfl, rfl, by decide +kernel, rfl, by decide +kernel, by decide +kernel⟩
abbrev s_LoomIdle : Stmt := inClass (top 26) 15
abbrev nm_LoomIdle : List Str := ["self"]
theorem sc_LoomIdle : FnScope nm_LoomIdle ["self"] (defScope s_LoomIdle) := ⟨rfl, rfl, rfl, by decide +kernel, rfl, by decide +kernel, by decide +kernel⟩
abbrev s_ltoldAt : Stmt := top 28
abbrev nm_ltoldAt : List Str := ["_law_script", "_law_place"]
theorem sc_ltoldAt : FnScope nm_ltoldAt ["_law_script", "_law_place"] (defScope s_ltoldAt) := ⟨rfl, rfl, rfl, by decide +kernel, rfl, by decide +kernel, by decide +kernel⟩
abbrev s_lmixed : Stmt := top 29
abbrev nm_lmixed : List Str := ["_law_cell", "_law_k", "_law_many", "_law_primes"]
theorem sc_lmixed : FnScope nm_lmixed ["_law_cell", "_law_k", "_law_many"] (defScope s_lmixed) := ⟨rfl, rfl, rfl, by decide +kernel, rfl, by decide +kernel, by decide +kernel⟩
abbrev s_lnameBy : Stmt := top 30
abbrev nm_lnameBy : List Str := ["_law_k", "_law_count", "_law_letters", "_law_two", "_law_ahead"]
theorem sc_lnameBy : FnScope nm_lnameBy ["_law_k", "_law_count"] (defScope s_lnameBy) := ⟨rfl, rfl, rfl, by decide +kernel, rfl, by decide +kernel, by decide +kernel⟩
abbrev s_ldeedBy : Stmt := top 31
abbrev nm_ldeedBy : List Str := ["_law_cell", "_law_k", "_law_count", "_law_ticks", "_law_name", "_law_some"]
theorem sc_ldeedBy : FnScope nm_ldeedBy ["_law_cell", "_law_k", "_law_count"] (defScope s_ldeedBy) := ⟨rfl, rfl, rfl, by decide +kernel, rfl, by decide +kernel, by decide +kernel⟩
abbrev s_lhandlerBy : Stmt := top 32
abbrev nm_lhandlerBy : List Str := ["_law_cell", "_law_k", "_law_count", "_law_size", "_law_deeds", "_law_rank", "_law_at"]
theorem sc_lhandlerBy : FnScope nm_lhandlerBy ["_law_cell", "_law_k", "_law_count"] (defScope s_lhandlerBy) := ⟨rfl, rfl, rfl, by decide +kernel, rfl, by decide +kernel, by decide +kernel⟩
abbrev s_ltwisted : Stmt := top 33
abbrev nm_ltwisted : List Str := ["_law_k", "_law_deed", "_law_way"]
theorem sc_ltwisted : FnScope nm_ltwisted ["_law_k"] (defScope s_ltwisted) := ⟨rfl, rfl, rfl, by decide +kernel, rfl, by decide +kernel, by decide +kernel⟩
abbrev s_lbadDeed : Stmt := top 34
abbrev nm_lbadDeed : List Str := ["_law_k", "_law_some"]
theorem sc_lbadDeed : FnScope nm_lbadDeed ["_law_k"] (defScope s_lbadDeed) := ⟨rfl, rfl, rfl, by decide +kernel, rfl, by decide +kernel, by decide +kernel⟩
abbrev s_lwrong : Stmt := top 35
abbrev nm_lwrong : List Str := ["_law_one", "_law_way", "_law_k", "_law_name", "_law_rank", "_law_hears", "_law_once", "_law_deeds"]
theorem sc_lwrong : FnScope nm_lwrong ["_law_one", "_law_way", "_law_k"] (defScope s_lwrong) := ⟨rfl, rfl, rfl, by decide +kernel, rfl, by decide +kernel, by decide +kernel⟩
abbrev s_lkind : Stmt := top 36
abbrev nm_lkind : List Str := ["_law_error", "_law_kinds_here"]
theorem sc_lkind : FnScope nm_lkind ["_law_error"] (defScope s_lkind) := ⟨rfl, rfl, rfl, by decide +kernel, rfl, by decide +kernel, by decide +kernel⟩
abbrev s_lrefused : Stmt := top 37
abbrev nm_lrefused : List Str := ["_law_handlers", "_law_way", "_law_error"]
theorem sc_lrefused : FnScope nm_lrefused ["_law_handlers", "_law_way"] (defScope s_lrefused) := ⟨rfl, rfl, rfl, by decide +kernel, rfl, by decide +kernel, by decide +kernel⟩
abbrev s_ldue : Stmt := top 38
abbrev nm_ldue : List Str := ["_law_handlers", "_law_wrong_here", "_law_place", "_law_strange", "_law_k"]
theorem sc_ldue : FnScope nm_ldue ["_law_handlers", "_law_wrong_here", "_law_place", "_law_strange"] (defScope s_ldue) := ⟨rfl, rfl, rfl, by decide +kernel, rfl, by decide +kernel, by decide +kernel⟩
abbrev s_lestranged : Stmt := top 39
abbrev nm_lestranged : List Str := ["_law_one", "_law_cell", "_law_name", "_law_rank", "_law_hears", "_law_once", "_law_deeds"]
theorem sc_lestranged : FnScope nm_lestranged ["_law_one", "_law_cell"] (defScope s_lestranged) := ⟨rfl, rfl, rfl, by decide +kernel, rfl, by decide +kernel, by decide +kernel⟩
abbrev s_lkinds : Stmt := top 40
abbrev nm_lkinds : List Str := ["_law_good", "_law_one"]
theorem sc_lkinds : FnScope nm_lkinds ["_law_good"] (defScope s_lkinds) := ⟨rfl, rfl, rfl, by decide +kernel, rfl, by decide +kernel, by decide +kernel⟩
abbrev s_lletBy : Stmt := top 41
abbrev nm_lletBy : List Str := ["_law_handlers", "_law_place", "_law_given", "_law_found", "_law_deed", "_law_one"]
theorem sc_lletBy : FnScope nm_lletBy ["_law_handlers", "_law_place"] (defScope s_lletBy) := ⟨rfl, rfl, rfl, by decide +kernel, rfl, by decide +kernel, by decide +kernel⟩
abbrev s_law : Stmt := top 42
abbrev nm_law : List Str := ["_law_script", "_law_base", "_law_count", "_law_handlers", "_law_place", "_law_far", "_law_strange", "_law_good", "_law_way", "_law_wrong_here", "_law_odd", "_law_one", "_law_due_here", "_law_given", "_law_k"]
theorem sc_law : FnScope nm_law ["_law_script"] (defScope s_law) := ⟨rfl, rfl, rfl, by decide +kernel, rfl, by decide +kernel, by decide +kernel⟩
structure Tx (K : PySem.W.Frag) (mg : Str → Option Value) where
  c_LoomError : Addr
  g_LoomError : mg "LoomError" = some (.ref c_LoomError)
  c_NoWord : Addr
  g_NoWord : mg "NoWord" = some (.ref c_NoWord)
  c_NoHandler : Addr
  g_NoHandler : mg "NoHandler" = some (.ref c_NoHandler)
  c_Twice : Addr
  g_Twice : mg "Twice" = some (.ref c_Twice)
  c_Stranger : Addr
  g_Stranger : mg "Stranger" = some (.ref c_Stranger)
  c_NoCount : Addr
  g_NoCount : mg "NoCount" = some (.ref c_NoCount)
  c_Waits : Addr
  g_Waits : mg "Waits" = some (.ref c_Waits)
  c_Loom : Addr
  g_Loom : mg "Loom" = some (.ref c_Loom)
  sg : PySem.W.specialIn K (.builtin "object.__class__") "__get__" = some (some (.builtin "getset_descriptor.__get__"))
  st : PySem.W.takesIn K (.builtin "object.__class__") = some true
  x_LoomError : PySem.W.excIn K c_LoomError [.type "ValueError", .type "Exception", .type "BaseException", .type "object"] "ValueError.__new__" = true
  k_LoomError : PySem.W.keepIn K (.ref c_LoomError) = true
  sb_LoomError : PySem.W.subIn K (.ref c_LoomError) (.type "BaseException") = some true
  ty_LoomError : PySem.W.typeIn K (.ref c_LoomError) = some (.type "type")
  hd_LoomError : PySem.W.hasDictIn K c_LoomError = true
  x_NoWord : PySem.W.excIn K c_NoWord [.type "ValueError", .type "Exception", .type "BaseException", .type "object"] "ValueError.__new__" = true
  k_NoWord : PySem.W.keepIn K (.ref c_NoWord) = true
  sb_NoWord : PySem.W.subIn K (.ref c_NoWord) (.type "BaseException") = some true
  ty_NoWord : PySem.W.typeIn K (.ref c_NoWord) = some (.type "type")
  hd_NoWord : PySem.W.hasDictIn K c_NoWord = true
  x_NoHandler : PySem.W.excIn K c_NoHandler [.type "ValueError", .type "Exception", .type "BaseException", .type "object"] "ValueError.__new__" = true
  k_NoHandler : PySem.W.keepIn K (.ref c_NoHandler) = true
  sb_NoHandler : PySem.W.subIn K (.ref c_NoHandler) (.type "BaseException") = some true
  ty_NoHandler : PySem.W.typeIn K (.ref c_NoHandler) = some (.type "type")
  hd_NoHandler : PySem.W.hasDictIn K c_NoHandler = true
  ga_NoHandler : PySem.W.findIn K (.ref c_NoHandler) "__getattribute__" = some (some (.builtin "BaseException.__getattribute__"))
  gt_NoHandler : PySem.W.findIn K (.ref c_NoHandler) "__getattr__" = some none
  cc_NoHandler : PySem.W.findIn K (.ref c_NoHandler) "__class__" = some (some (.builtin "object.__class__"))
  mo_NoHandler : PySem.W.mroIn K c_NoHandler (.type "object") = some true
  ve_NoHandler : PySem.W.subIn K (.ref c_NoHandler) (.type "ValueError") = some true
  su_NoHandler_LoomError : PySem.W.subIn K (.ref c_NoHandler) (.ref c_LoomError) = some true
  su_NoHandler_NoWord : PySem.W.subIn K (.ref c_NoHandler) (.ref c_NoWord) = some false
  su_NoHandler_NoHandler : PySem.W.subIn K (.ref c_NoHandler) (.ref c_NoHandler) = some true
  su_NoHandler_Twice : PySem.W.subIn K (.ref c_NoHandler) (.ref c_Twice) = some false
  su_NoHandler_Stranger : PySem.W.subIn K (.ref c_NoHandler) (.ref c_Stranger) = some false
  su_NoHandler_NoCount : PySem.W.subIn K (.ref c_NoHandler) (.ref c_NoCount) = some false
  x_Twice : PySem.W.excIn K c_Twice [.type "ValueError", .type "Exception", .type "BaseException", .type "object"] "ValueError.__new__" = true
  k_Twice : PySem.W.keepIn K (.ref c_Twice) = true
  sb_Twice : PySem.W.subIn K (.ref c_Twice) (.type "BaseException") = some true
  ty_Twice : PySem.W.typeIn K (.ref c_Twice) = some (.type "type")
  hd_Twice : PySem.W.hasDictIn K c_Twice = true
  ga_Twice : PySem.W.findIn K (.ref c_Twice) "__getattribute__" = some (some (.builtin "BaseException.__getattribute__"))
  gt_Twice : PySem.W.findIn K (.ref c_Twice) "__getattr__" = some none
  cc_Twice : PySem.W.findIn K (.ref c_Twice) "__class__" = some (some (.builtin "object.__class__"))
  mo_Twice : PySem.W.mroIn K c_Twice (.type "object") = some true
  ve_Twice : PySem.W.subIn K (.ref c_Twice) (.type "ValueError") = some true
  su_Twice_LoomError : PySem.W.subIn K (.ref c_Twice) (.ref c_LoomError) = some true
  su_Twice_NoWord : PySem.W.subIn K (.ref c_Twice) (.ref c_NoWord) = some false
  su_Twice_NoHandler : PySem.W.subIn K (.ref c_Twice) (.ref c_NoHandler) = some false
  su_Twice_Twice : PySem.W.subIn K (.ref c_Twice) (.ref c_Twice) = some true
  su_Twice_Stranger : PySem.W.subIn K (.ref c_Twice) (.ref c_Stranger) = some false
  su_Twice_NoCount : PySem.W.subIn K (.ref c_Twice) (.ref c_NoCount) = some false
  x_Stranger : PySem.W.excIn K c_Stranger [.type "ValueError", .type "Exception", .type "BaseException", .type "object"] "ValueError.__new__" = true
  k_Stranger : PySem.W.keepIn K (.ref c_Stranger) = true
  sb_Stranger : PySem.W.subIn K (.ref c_Stranger) (.type "BaseException") = some true
  ty_Stranger : PySem.W.typeIn K (.ref c_Stranger) = some (.type "type")
  hd_Stranger : PySem.W.hasDictIn K c_Stranger = true
  ga_Stranger : PySem.W.findIn K (.ref c_Stranger) "__getattribute__" = some (some (.builtin "BaseException.__getattribute__"))
  gt_Stranger : PySem.W.findIn K (.ref c_Stranger) "__getattr__" = some none
  cc_Stranger : PySem.W.findIn K (.ref c_Stranger) "__class__" = some (some (.builtin "object.__class__"))
  mo_Stranger : PySem.W.mroIn K c_Stranger (.type "object") = some true
  ve_Stranger : PySem.W.subIn K (.ref c_Stranger) (.type "ValueError") = some true
  su_Stranger_LoomError : PySem.W.subIn K (.ref c_Stranger) (.ref c_LoomError) = some true
  su_Stranger_NoWord : PySem.W.subIn K (.ref c_Stranger) (.ref c_NoWord) = some false
  su_Stranger_NoHandler : PySem.W.subIn K (.ref c_Stranger) (.ref c_NoHandler) = some false
  su_Stranger_Twice : PySem.W.subIn K (.ref c_Stranger) (.ref c_Twice) = some false
  su_Stranger_Stranger : PySem.W.subIn K (.ref c_Stranger) (.ref c_Stranger) = some true
  su_Stranger_NoCount : PySem.W.subIn K (.ref c_Stranger) (.ref c_NoCount) = some false
  x_NoCount : PySem.W.excIn K c_NoCount [.type "ValueError", .type "Exception", .type "BaseException", .type "object"] "ValueError.__new__" = true
  k_NoCount : PySem.W.keepIn K (.ref c_NoCount) = true
  sb_NoCount : PySem.W.subIn K (.ref c_NoCount) (.type "BaseException") = some true
  ty_NoCount : PySem.W.typeIn K (.ref c_NoCount) = some (.type "type")
  hd_NoCount : PySem.W.hasDictIn K c_NoCount = true
  cl_Waits : Cls K c_Waits
  n_Waits_first_ones : NoAttr K c_Waits "first_ones"
  n_Waits_rows : NoAttr K c_Waits "rows"
  cl_Loom : Cls K c_Loom
  n_Loom_handlers : NoAttr K c_Loom "handlers"
  n_Loom_time : NoAttr K c_Loom "time"
  n_Loom_events : NoAttr K c_Loom "events"
  n_Loom_log : NoAttr K c_Loom "log"
  n_Loom_frames : NoAttr K c_Loom "frames"
  n_Loom_fresh : NoAttr K c_Loom "fresh"
  n_Loom_line : NoAttr K c_Loom "line"
  n_Loom_stood : NoAttr K c_Loom "stood"
  n_Loom_standings : NoAttr K c_Loom "standings"
  f_Wall : Addr
  d_Wall : FuncData
  F_Wall : Fun K "_wall" "_wall" s_Wall f_Wall d_Wall
  b_Wall : Binds K d_Wall ["k"] []
  g_Wall : mg "_wall" = some (.ref f_Wall)
  f_isWhole : Addr
  d_isWhole : FuncData
  F_isWhole : Fun K "is_whole" "is_whole" s_isWhole f_isWhole d_isWhole
  b_isWhole : Binds K d_isWhole ["thing"] []
  g_isWhole : mg "is_whole" = some (.ref f_isWhole)
  f_isWord : Addr
  d_isWord : FuncData
  F_isWord : Fun K "is_word" "is_word" s_isWord f_isWord d_isWord
  b_isWord : Binds K d_isWord ["thing"] []
  g_isWord : mg "is_word" = some (.ref f_isWord)
  f_needWord : Addr
  d_needWord : FuncData
  F_needWord : Fun K "need_word" "need_word" s_needWord f_needWord d_needWord
  b_needWord : Binds K d_needWord ["thing"] []
  g_needWord : mg "need_word" = some (.ref f_needWord)
  f_isDeed : Addr
  d_isDeed : FuncData
  F_isDeed : Fun K "is_deed" "is_deed" s_isDeed f_isDeed d_isDeed
  b_isDeed : Binds K d_isDeed ["thing"] []
  g_isDeed : mg "is_deed" = some (.ref f_isDeed)
  f_isHandler : Addr
  d_isHandler : FuncData
  F_isHandler : Fun K "is_handler" "is_handler" s_isHandler f_isHandler d_isHandler
  b_isHandler : Binds K d_isHandler ["thing"] []
  g_isHandler : mg "is_handler" = some (.ref f_isHandler)
  f_needHandlers : Addr
  d_needHandlers : FuncData
  F_needHandlers : Fun K "need_handlers" "need_handlers" s_needHandlers f_needHandlers d_needHandlers
  b_needHandlers : Binds K d_needHandlers ["handlers"] []
  g_needHandlers : mg "need_handlers" = some (.ref f_needHandlers)
  f_needNames : Addr
  d_needNames : FuncData
  F_needNames : Fun K "need_names" "need_names" s_needNames f_needNames d_needNames
  b_needNames : Binds K d_needNames ["handlers", "names"] []
  g_needNames : mg "need_names" = some (.ref f_needNames)
  f_WaitsInit : Addr
  d_WaitsInit : FuncData
  F_WaitsInit : Fun K "__init__" "Waits.__init__" s_WaitsInit f_WaitsInit d_WaitsInit
  b_WaitsInit : Binds K d_WaitsInit ["self"] []
  mk_Waits : Mk K c_Waits f_WaitsInit
  f_WaitsSooner : Addr
  d_WaitsSooner : FuncData
  F_WaitsSooner : Fun K "sooner" "Waits.sooner" s_WaitsSooner f_WaitsSooner d_WaitsSooner
  b_WaitsSooner : Binds K d_WaitsSooner ["self", "number"] []
  m_WaitsSooner : Meth K c_Waits "sooner" f_WaitsSooner
  f_WaitsLater : Addr
  d_WaitsLater : FuncData
  F_WaitsLater : Fun K "later" "Waits.later" s_WaitsLater f_WaitsLater d_WaitsLater
  b_WaitsLater : Binds K d_WaitsLater ["self", "number", "due"] []
  m_WaitsLater : Meth K c_Waits "later" f_WaitsLater
  f_WaitsLineup : Addr
  d_WaitsLineup : FuncData
  F_WaitsLineup : Fun K "lineup" "Waits.lineup" s_WaitsLineup f_WaitsLineup d_WaitsLineup
  b_WaitsLineup : Binds K d_WaitsLineup ["self"] []
  m_WaitsLineup : Meth K c_Waits "lineup" f_WaitsLineup
  f_WaitsLead : Addr
  d_WaitsLead : FuncData
  F_WaitsLead : Fun K "lead" "Waits.lead" s_WaitsLead f_WaitsLead d_WaitsLead
  b_WaitsLead : Binds K d_WaitsLead ["self"] []
  m_WaitsLead : Meth K c_Waits "lead" f_WaitsLead
  f_WaitsDrop : Addr
  d_WaitsDrop : FuncData
  F_WaitsDrop : Fun K "drop" "Waits.drop" s_WaitsDrop f_WaitsDrop d_WaitsDrop
  b_WaitsDrop : Binds K d_WaitsDrop ["self", "numbers"] []
  m_WaitsDrop : Meth K c_Waits "drop" f_WaitsDrop
  f_LoomInit : Addr
  d_LoomInit : FuncData
  F_LoomInit : Fun K "__init__" "Loom.__init__" s_LoomInit f_LoomInit d_LoomInit
  b_LoomInit : Binds K d_LoomInit ["self", "handlers", "names"] []
  mk_Loom : Mk K c_Loom f_LoomInit
  f_LoomCome : Addr
  d_LoomCome : FuncData
  F_LoomCome : Fun K "come" "Loom.come" s_LoomCome f_LoomCome d_LoomCome
  b_LoomCome : Binds K d_LoomCome ["self", "name"] []
  m_LoomCome : Meth K c_Loom "come" f_LoomCome
  f_LoomGo : Addr
  d_LoomGo : FuncData
  F_LoomGo : Fun K "go" "Loom.go" s_LoomGo f_LoomGo d_LoomGo
  b_LoomGo : Binds K d_LoomGo ["self", "name"] []
  m_LoomGo : Meth K c_Loom "go" f_LoomGo
  f_LoomMade : Addr
  d_LoomMade : FuncData
  F_LoomMade : Fun K "made" "Loom.made" s_LoomMade f_LoomMade d_LoomMade
  b_LoomMade : Binds K d_LoomMade ["self", "word", "maker", "road", "due"] []
  m_LoomMade : Meth K c_Loom "made" f_LoomMade
  f_LoomSend : Addr
  d_LoomSend : FuncData
  F_LoomSend : Fun K "send" "Loom.send" s_LoomSend f_LoomSend d_LoomSend
  b_LoomSend : Binds K d_LoomSend ["self", "word"] []
  m_LoomSend : Meth K c_Loom "send" f_LoomSend
  f_LoomStep : Addr
  d_LoomStep : FuncData
  F_LoomStep : Fun K "step" "Loom.step" s_LoomStep f_LoomStep d_LoomStep
  b_LoomStep : Binds K d_LoomStep ["self"] []
  m_LoomStep : Meth K c_Loom "step" f_LoomStep
  f_LoomBegin : Addr
  d_LoomBegin : FuncData
  F_LoomBegin : Fun K "begin" "Loom.begin" s_LoomBegin f_LoomBegin d_LoomBegin
  b_LoomBegin : Binds K d_LoomBegin ["self", "number"] []
  m_LoomBegin : Meth K c_Loom "begin" f_LoomBegin
  f_LoomGoOn : Addr
  d_LoomGoOn : FuncData
  F_LoomGoOn : Fun K "go_on" "Loom.go_on" s_LoomGoOn f_LoomGoOn d_LoomGoOn
  b_LoomGoOn : Binds K d_LoomGoOn ["self", "frame"] []
  m_LoomGoOn : Meth K c_Loom "go_on" f_LoomGoOn
  f_LoomCall : Addr
  d_LoomCall : FuncData
  F_LoomCall : Fun K "call" "Loom.call" s_LoomCall f_LoomCall d_LoomCall
  b_LoomCall : Binds K d_LoomCall ["self", "frame", "name"] []
  m_LoomCall : Meth K c_Loom "call" f_LoomCall
  f_LoomDo : Addr
  d_LoomDo : FuncData
  F_LoomDo : Fun K "do" "Loom.do" s_LoomDo f_LoomDo d_LoomDo
  b_LoomDo : Binds K d_LoomDo ["self", "frame", "deed"] []
  m_LoomDo : Meth K c_Loom "do" f_LoomDo
  f_LoomMake : Addr
  d_LoomMake : FuncData
  F_LoomMake : Fun K "make" "Loom.make" s_LoomMake f_LoomMake d_LoomMake
  b_LoomMake : Binds K d_LoomMake ["self", "maker", "deed"] []
  m_LoomMake : Meth K c_Loom "make" f_LoomMake
  f_LoomRun : Addr
  d_LoomRun : FuncData
  F_LoomRun : Fun K "run" "Loom.run" s_LoomRun f_LoomRun d_LoomRun
  b_LoomRun : Binds K d_LoomRun ["self", "most"] []
  m_LoomRun : Meth K c_Loom "run" f_LoomRun
  f_LoomWaiting : Addr
  d_LoomWaiting : FuncData
  F_LoomWaiting : Fun K "waiting" "Loom.waiting" s_LoomWaiting f_LoomWaiting d_LoomWaiting
  b_LoomWaiting : Binds K d_LoomWaiting ["self"] []
  m_LoomWaiting : Meth K c_Loom "waiting" f_LoomWaiting
  f_LoomAround : Addr
  d_LoomAround : FuncData
  F_LoomAround : Fun K "around" "Loom.around" s_LoomAround f_LoomAround d_LoomAround
  b_LoomAround : Binds K d_LoomAround ["self"] []
  m_LoomAround : Meth K c_Loom "around" f_LoomAround
  f_LoomStanding : Addr
  d_LoomStanding : FuncData
  F_LoomStanding : Fun K "standing" "Loom.standing" s_LoomStanding f_LoomStanding d_LoomStanding
  b_LoomStanding : Binds K d_LoomStanding ["self"] []
  m_LoomStanding : Meth K c_Loom "standing" f_LoomStanding
  f_LoomIdle : Addr
  d_LoomIdle : FuncData
  F_LoomIdle : Fun K "idle" "Loom.idle" s_LoomIdle f_LoomIdle d_LoomIdle
  b_LoomIdle : Binds K d_LoomIdle ["self"] []
  m_LoomIdle : Meth K c_Loom "idle" f_LoomIdle
  f_ltoldAt : Addr
  d_ltoldAt : FuncData
  F_ltoldAt : Fun K "_law_told_at" "_law_told_at" s_ltoldAt f_ltoldAt d_ltoldAt
  b_ltoldAt : Binds K d_ltoldAt ["_law_script", "_law_place"] []
  g_ltoldAt : mg "_law_told_at" = some (.ref f_ltoldAt)
  f_lmixed : Addr
  d_lmixed : FuncData
  F_lmixed : Fun K "_law_mixed" "_law_mixed" s_lmixed f_lmixed d_lmixed
  b_lmixed : Binds K d_lmixed ["_law_cell", "_law_k", "_law_many"] []
  g_lmixed : mg "_law_mixed" = some (.ref f_lmixed)
  f_lnameBy : Addr
  d_lnameBy : FuncData
  F_lnameBy : Fun K "_law_name_by" "_law_name_by" s_lnameBy f_lnameBy d_lnameBy
  b_lnameBy : Binds K d_lnameBy ["_law_k", "_law_count"] []
  g_lnameBy : mg "_law_name_by" = some (.ref f_lnameBy)
  f_ldeedBy : Addr
  d_ldeedBy : FuncData
  F_ldeedBy : Fun K "_law_deed_by" "_law_deed_by" s_ldeedBy f_ldeedBy d_ldeedBy
  b_ldeedBy : Binds K d_ldeedBy ["_law_cell", "_law_k", "_law_count"] []
  g_ldeedBy : mg "_law_deed_by" = some (.ref f_ldeedBy)
  f_lhandlerBy : Addr
  d_lhandlerBy : FuncData
  F_lhandlerBy : Fun K "_law_handler_by" "_law_handler_by" s_lhandlerBy f_lhandlerBy d_lhandlerBy
  b_lhandlerBy : Binds K d_lhandlerBy ["_law_cell", "_law_k", "_law_count"] []
  g_lhandlerBy : mg "_law_handler_by" = some (.ref f_lhandlerBy)
  f_ltwisted : Addr
  d_ltwisted : FuncData
  F_ltwisted : Fun K "_law_twisted" "_law_twisted" s_ltwisted f_ltwisted d_ltwisted
  b_ltwisted : Binds K d_ltwisted ["_law_k"] []
  g_ltwisted : mg "_law_twisted" = some (.ref f_ltwisted)
  f_lbadDeed : Addr
  d_lbadDeed : FuncData
  F_lbadDeed : Fun K "_law_bad_deed" "_law_bad_deed" s_lbadDeed f_lbadDeed d_lbadDeed
  b_lbadDeed : Binds K d_lbadDeed ["_law_k"] []
  g_lbadDeed : mg "_law_bad_deed" = some (.ref f_lbadDeed)
  f_lwrong : Addr
  d_lwrong : FuncData
  F_lwrong : Fun K "_law_wrong" "_law_wrong" s_lwrong f_lwrong d_lwrong
  b_lwrong : Binds K d_lwrong ["_law_one", "_law_way", "_law_k"] []
  g_lwrong : mg "_law_wrong" = some (.ref f_lwrong)
  f_lkind : Addr
  d_lkind : FuncData
  F_lkind : Fun K "_law_kind" "_law_kind" s_lkind f_lkind d_lkind
  b_lkind : Binds K d_lkind ["_law_error"] []
  g_lkind : mg "_law_kind" = some (.ref f_lkind)
  f_lrefused : Addr
  d_lrefused : FuncData
  F_lrefused : Fun K "_law_refused" "_law_refused" s_lrefused f_lrefused d_lrefused
  b_lrefused : Binds K d_lrefused ["_law_handlers", "_law_way"] []
  g_lrefused : mg "_law_refused" = some (.ref f_lrefused)
  f_ldue : Addr
  d_ldue : FuncData
  F_ldue : Fun K "_law_due" "_law_due" s_ldue f_ldue d_ldue
  b_ldue : Binds K d_ldue ["_law_handlers", "_law_wrong_here", "_law_place", "_law_strange"] []
  g_ldue : mg "_law_due" = some (.ref f_ldue)
  f_lestranged : Addr
  d_lestranged : FuncData
  F_lestranged : Fun K "_law_estranged" "_law_estranged" s_lestranged f_lestranged d_lestranged
  b_lestranged : Binds K d_lestranged ["_law_one", "_law_cell"] []
  g_lestranged : mg "_law_estranged" = some (.ref f_lestranged)
  f_lkinds : Addr
  d_lkinds : FuncData
  F_lkinds : Fun K "_law_kinds" "_law_kinds" s_lkinds f_lkinds d_lkinds
  b_lkinds : Binds K d_lkinds ["_law_good"] []
  g_lkinds : mg "_law_kinds" = some (.ref f_lkinds)
  f_lletBy : Addr
  d_lletBy : FuncData
  F_lletBy : Fun K "_law_let_by" "_law_let_by" s_lletBy f_lletBy d_lletBy
  b_lletBy : Binds K d_lletBy ["_law_handlers", "_law_place"] []
  g_lletBy : mg "_law_let_by" = some (.ref f_lletBy)
  f_law : Addr
  d_law : FuncData
  F_law : Fun K "law" "law" s_law f_law d_law
  b_law : Binds K d_law ["_law_script"] []
  g_law : mg "law" = some (.ref f_law)
  z_isinstance : mg "isinstance" = none
  z_int : mg "int" = none
  z_bool : mg "bool" = none
  z_str : mg "str" = none
  z_len : mg "len" = none
  z_all : mg "all" = none
  z_tuple : mg "tuple" = none
  z_list : mg "list" = none
  z_range : mg "range" = none
  z_ValueError : mg "ValueError" = none
  u_LETTERS : Value
  g_LETTERS : mg "LETTERS" = some u_LETTERS
  r_LETTERS : RelV (.str "abcdefghijklmnopqrstuvwxyz") u_LETTERS
  u_MOST_SIGNS : Value
  g_MOST_SIGNS : mg "MOST_SIGNS" = some u_MOST_SIGNS
  r_MOST_SIGNS : RelV (.int 12) u_MOST_SIGNS
  u_MOST_HANDLERS : Value
  g_MOST_HANDLERS : mg "MOST_HANDLERS" = some u_MOST_HANDLERS
  r_MOST_HANDLERS : RelV (.int 40) u_MOST_HANDLERS
  u_MOST_DEEDS : Value
  g_MOST_DEEDS : mg "MOST_DEEDS" = some u_MOST_DEEDS
  r_MOST_DEEDS : RelV (.int 30) u_MOST_DEEDS
  u_MOST_TICKS : Value
  g_MOST_TICKS : mg "MOST_TICKS" = some u_MOST_TICKS
  r_MOST_TICKS : RelV (.int 1000000000) u_MOST_TICKS
  a_WORDED : Addr
  g_WORDED : mg "WORDED" = some (.ref a_WORDED)
  t_WORDED : ∀ H, SqT K H a_WORDED [.str "now", .str "soon", .str "cancel", .str "join", .str "leave"]
theorem Tx.err_NoHandler {K : PySem.W.Frag} {mg : Str → Option Value} (T : Tx K mg) : ExcC K T.c_NoHandler := ⟨T.ga_NoHandler, T.gt_NoHandler, T.sb_NoHandler, T.hd_NoHandler, T.cc_NoHandler, T.sg, T.st, T.mo_NoHandler⟩
theorem Tx.err_Twice {K : PySem.W.Frag} {mg : Str → Option Value} (T : Tx K mg) : ExcC K T.c_Twice := ⟨T.ga_Twice, T.gt_Twice, T.sb_Twice, T.hd_Twice, T.cc_Twice, T.sg, T.st, T.mo_Twice⟩
theorem Tx.err_Stranger {K : PySem.W.Frag} {mg : Str → Option Value} (T : Tx K mg) : ExcC K T.c_Stranger := ⟨T.ga_Stranger, T.gt_Stranger, T.sb_Stranger, T.hd_Stranger, T.cc_Stranger, T.sg, T.st, T.mo_Stranger⟩
end Ev
namespace Ev
open PySem L2
/-! ### which of the five refusals -/
section
variable {P : Program} {w : World} {K : PySem.W.Frag} {mg : Str → Option Value} {base : Heap}
/-- the error of the class at D is of the i-th kind alone -/
structure KindAt (T : Tx K mg) (D : Addr) (i : Nat) : Prop where
  lt : i < 5
  k0 : PySem.W.kitOne K (.ref D) (.ref T.c_NoWord) = some (decide (i = 0))
  k1 : PySem.W.kitOne K (.ref D) (.ref T.c_NoHandler) = some (decide (i = 1))
  k2 : PySem.W.kitOne K (.ref D) (.ref T.c_Twice) = some (decide (i = 2))
  k3 : PySem.W.kitOne K (.ref D) (.ref T.c_Stranger) = some (decide (i = 3))
  k4 : PySem.W.kitOne K (.ref D) (.ref T.c_NoCount) = some (decide (i = 4))
  kv : PySem.W.kitOne K (.ref D) (.type "ValueError") = some true
  ec : ExcC K D
  lo : PySem.W.exmOne K (.ref D) (.ref T.c_LoomError) = some true
def spp_lkind (T : Tx K mg) : Pn → Sp := fun p vs H Q _ => ∃ (D : Addr) (i : Nat), vs = [.ref p.1] ∧ KindAt T D i ∧ Zc (.ref D) none p.2 ∧ (∃ vs, p.2.data = .fields vs) ∧ ∀ H', Kp [] H H' → Q (.int (i : Nat)) H'
theorem bools_dp {H : Hp} : ∀ bs : List Bool, DpAll K H (bs.map V.bl) (bs.map PyData.bool)
  | [] => .nil
  | b :: bs => .cons (.bl b) (bools_dp bs)
theorem kinds_len {i : Nat} (h : i < 5) : [decide (i = 0), decide (i = 1), decide (i = 2), decide (i = 3), decide (i = 4)] = (List.range 5).map fun j => decide (i = j) := by
  rfl
theorem okp_lkind (T : Tx K mg) : FnP P w K mg base CX0 1 T.f_lkind T.d_lkind ["_law_error"] (spp_lkind T) := by
  refine okP T.F_lkind sc_lkind (fun p vs H Q E h => by obtain ⟨_, _, e, _⟩ := h; rw [e]; rfl) (fun cdv A outer s H vs Q E p hr h => ?_)
  obtain ⟨D, i, rfl, kd, hz, hf, k⟩ := h
  have er : ErrAt K D p := ⟨kd.ec, hz, hf⟩
  refine ⟨_, (pss_cons (ps_set (i := 1) sc_lkind.nd rfl (Or.inl rfl) (pe_lst (pa_cons (pe_callB (kIsP K List.mem_cons_self) (by rfl) T.z_isinstance (by decide +kernel) (pa_cons (pv 0) (pa_cons (pe_glob (v := .ref T.c_NoWord) rfl T.g_NoWord rfl) pa_nil))) (pa_cons (pe_callB (kIsP K List.mem_cons_self) (by rfl) T.z_isinstance (by decide +kernel) (pa_cons (pv 0) (pa_cons (pe_glob (v := .ref T.c_NoHandler) rfl T.g_NoHandler rfl) pa_nil))) (pa_cons (pe_callB (kIsP K List.mem_cons_self) (by rfl) T.z_isinstance (by decide +kernel) (pa_cons (pv 0) (pa_cons (pe_glob (v := .ref T.c_Twice) rfl T.g_Twice rfl) pa_nil))) pa_nil)))))
    (pss_cons (ps_set (i := 1) sc_lkind.nd rfl (Or.inl rfl) (pe_op op_cat (pv 1) (pe_lst (pa_cons (pe_callB (kIsP K List.mem_cons_self) (by rfl) T.z_isinstance (by decide +kernel) (pa_cons (pv 0) (pa_cons (pe_glob (v := .ref T.c_Stranger) rfl T.g_Stranger rfl) pa_nil))) (pa_cons (pe_callB (kIsP K List.mem_cons_self) (by rfl) T.z_isinstance (by decide +kernel) (pa_cons (pv 0) (pa_cons (pe_glob (v := .ref T.c_NoCount) rfl T.g_NoCount rfl) pa_nil))) pa_nil)))))
    (pss_cons (ps_if (PW.pt (pw_or (pt_cmpR op_ne (pe_bm PySem.F.plainAttrs_list PySem.F.slot_list_count PySem.F.type_list_count (kCntD K (unP hr)) (pv 1) (pa_cons pe_bl pa_nil)) pe_int (nomark _)) (pw_or1 (pt_not (pt_val (pe_callB (kIsP K List.mem_cons_self) (by rfl) T.z_isinstance (by decide +kernel) (pa_cons (pv 0) (pa_cons (pe_bltn (v := .ty "ValueError") (by rfl) T.z_ValueError (by decide +kernel) rfl) pa_nil))))))))
        (pss_one (ps_ret (pe_un un_neg pe_int)))
        pss_nil)
    (pss_one (ps_ret (pe_bm PySem.F.plainAttrs_list PySem.F.slot_list_index PySem.F.type_list_index mt_index (pv 1) (pa_cons pe_bl pa_nil))))))), ?_⟩
  refine ⟨_, rfl, D, _, _, _, rfl, er, .own _, kd.k0, _, rfl, D, _, _, _, rfl, er, .own _, kd.k1, _, rfl, D, _, _, _, rfl, er, .own _, kd.k2, (by show 3 ≤ sizeLine; decide), fun a ha => ?_⟩
  refine ⟨_, rfl, _, rfl, D, _, _, _, rfl, er, .own _, kd.k3, _, rfl, D, _, _, _, rfl, er, .own _, kd.k4, (by show 2 ≤ sizeLine; decide), fun b hb => ?_⟩
  have nab : a ≠ b := fun e => by rw [← e, upd_same] at hb; cases hb
  refine ⟨a, b, _, _, rfl, rfl, (by rw [upd_ne nab]; exact upd_same), upd_same, (by show 3 + 2 ≤ sizeLine; decide), fun c hc => ?_⟩
  have kp := (((Kp.refl [] H).new (o := .lst [.bl (decide (i = 0)), .bl (decide (i = 1)), .bl (decide (i = 2))]) ha).new (o := .lst [.bl (decide (i = 3)), .bl (decide (i = 4))]) hb).new (o := .lst ([.bl (decide (i = 0)), .bl (decide (i = 1)), .bl (decide (i = 2))] ++ [.bl (decide (i = 3)), .bl (decide (i = 4))])) hc
  generalize hH : upd (upd (upd H a _) b _) c _ = H3 at kp ⊢
  have hc3 : H3 c = some (.lst ([decide (i = 0), decide (i = 1), decide (i = 2), decide (i = 3), decide (i = 4)].map V.bl)) := by rw [← hH]; exact upd_same
  refine ⟨_, rfl, .inl ⟨rfl, _, SqL.of hc3⟩, c, _, _, _, _, rfl, rfl, SqL.of hc3, bools_dp _, .bl true, by rfl, by rfl, (by show _ ≤ 10; simp [PyData.depthAll, PyData.depth]), ?_⟩
  have lt := kd.lt
  have h5 : i = 0 ∨ i = 1 ∨ i = 2 ∨ i = 3 ∨ i = 4 := by omega
  refine ⟨rfl, _, rfl, iteF' ?_ ?_⟩
  · rcases h5 with rfl | rfl | rfl | rfl | rfl <;> rfl
  refine ⟨_, rfl, D, _, _, _, rfl, er, .ty _, kd.kv, _, rfl, iteF ?_⟩
  refine ⟨_, rfl, .inl ⟨rfl, _, SqL.of hc3⟩, c, _, _, i, V.bl true, rfl, rfl, SqL.of hc3, rfl, rfl, ?_, rfl, ?_, k _ kp⟩
  · rcases h5 with rfl | rfl | rfl | rfl | rfl <;> rfl
  · intro m z hm hz
    rcases h5 with rfl | rfl | rfl | rfl | rfl
    · omega
    all_goals
      have : m = 0 ∨ m = 1 ∨ m = 2 ∨ m = 3 := by omega
      rcases this with rfl | rfl | rfl | rfl <;> first | omega | (cases hz; rfl)
end
end Ev
namespace Ev
open PySem L2
/-! ### things that may be deeds -/
def letters : Str := "abcdefghijklmnopqrstuvwxyz"
def isWord (z : Str) : Bool := (decide (0 < z.length) && decide (z.length ≤ 12)) && z.cps.toList.all fun c => decide (c ∈ letters.cps.toList)
inductive A0 where
  | str (z : Str) | int (i : Int) | bl (b : Bool) | non | lst | dct
def A0.ty : A0 → String
  | .str _ => "str" | .int _ => "int" | .bl _ => "bool" | .non => "NoneType" | .lst => "list" | .dct => "dict"
def A0At (H : Hp) (v : V) : A0 → Prop
  | .str z => v = .str z ∧ z.length ≤ sizeLine
  | .int i => v = .int i | .bl b => v = .bl b | .non => v = .non
  | .lst => ∃ p xs, v = .ref p ∧ H p = some (.lst xs)
  | .dct => ∃ p kvs, v = .ref p ∧ H p = some (.dK kvs)
theorem A0At.ty {K : PySem.W.Frag} {H : Hp} {v : V} {a : A0} (h : A0At H v a) : TyX K H v (.type a.ty) := by
  cases a with
  | str z => rw [h.1]; exact isS
  | int i => rw [show v = .int i from h]; exact isI
  | bl b => rw [show v = .bl b from h]; exact isB
  | non => rw [show v = .non from h]; exact .base .non
  | lst => obtain ⟨p, xs, rfl, e⟩ := h; exact isL e
  | dct => obtain ⟨p, xs, rfl, e⟩ := h; exact .base (.dK e)
theorem A0At.kp {H H' : Hp} {v : V} {a : A0} (h : A0At H v a) (k : Kp [] H H') : A0At H' v a := by
  cases a with
  | str z => exact h
  | int i => exact h
  | bl b => exact h
  | non => exact h
  | lst => obtain ⟨p, xs, rfl, e⟩ := h; exact ⟨p, xs, rfl, k.keep0 e⟩
  | dct => obtain ⟨p, xs, rfl, e⟩ := h; exact ⟨p, xs, rfl, k.keep0 e⟩
def A0.word : A0 → Bool
  | .str z => isWord z | _ => false
def A0.whole : A0 → Bool
  | .int _ => true | _ => false
def A0.inR : A0 → Bool
  | .int i => decide (0 ≤ i) && decide (i ≤ 1000000000) | _ => false
def A0.isStr : A0 → Bool
  | .str _ => true | _ => false
def A0.isBl : A0 → Bool
  | .bl _ => true | _ => false
theorem A0.kStr : ∀ a : A0, kitB a.ty "str" = some a.isStr
  | .str _ => (by decide +kernel : kitB "str" "str" = some true)
  | .int _ => (by decide +kernel : kitB "int" "str" = some false)
  | .bl _ => (by decide +kernel : kitB "bool" "str" = some false)
  | .non => by decide +kernel
  | .lst => by decide +kernel
  | .dct => by decide +kernel
theorem A0.kBl : ∀ a : A0, kitB a.ty "bool" = some a.isBl
  | .str _ => (by decide +kernel : kitB "str" "bool" = some false)
  | .int _ => (by decide +kernel : kitB "int" "bool" = some false)
  | .bl _ => (by decide +kernel : kitB "bool" "bool" = some true)
  | .non => by decide +kernel
  | .lst => by decide +kernel
  | .dct => by decide +kernel
theorem A0.kInt : ∀ a : A0, ∃ b, kitB a.ty "int" = some b ∧ (b && !a.isBl) = a.whole
  | .str _ => ⟨false, (by decide +kernel : kitB "str" "int" = some false), rfl⟩
  | .int _ => ⟨true, (by decide +kernel : kitB "int" "int" = some true), rfl⟩
  | .bl _ => ⟨true, (by decide +kernel : kitB "bool" "int" = some true), rfl⟩
  | .non => ⟨false, by decide +kernel, rfl⟩
  | .lst => ⟨false, by decide +kernel, rfl⟩
  | .dct => ⟨false, by decide +kernel, rfl⟩
theorem A0.kTup : ∀ a : A0, kitB a.ty "tuple" = some false
  | .str _ => (by decide +kernel : kitB "str" "tuple" = some false)
  | .int _ => (by decide +kernel : kitB "int" "tuple" = some false)
  | .bl _ => (by decide +kernel : kitB "bool" "tuple" = some false)
  | .non => by decide +kernel
  | .lst => by decide +kernel
  | .dct => by decide +kernel
theorem A0At.wordS {K : PySem.W.Frag} {H : Hp} {v : V} {a : A0} (h : A0At H v a) {Q : VK} (k : ∀ H', Kp [] H H' → Q (.bl a.word) H') : (∃ z : Str, v = .str z ∧ z.length ≤ sizeLine ∧ ∀ H', Kp [] H H' → Q (.bl (isWord z)) H') ∨ (∃ t, TyX K H v (.type t) ∧ kitB t "str" = some false ∧ Q (.bl false) H) := by
  cases a with
  | str z => exact .inl ⟨z, h.1, h.2, k⟩
  | int i => exact .inr ⟨_, h.ty, A0.kStr _, k H (Kp.refl _ _)⟩
  | bl b => exact .inr ⟨_, h.ty, A0.kStr _, k H (Kp.refl _ _)⟩
  | non => exact .inr ⟨_, h.ty, A0.kStr _, k H (Kp.refl _ _)⟩
  | lst => exact .inr ⟨_, h.ty, A0.kStr _, k H (Kp.refl _ _)⟩
  | dct => exact .inr ⟨_, h.ty, A0.kStr _, k H (Kp.refl _ _)⟩
section
variable {P : Program} {w : World} {K : PySem.W.Frag} {mg : Str → Option Value} {base : Heap}
def sp_isWhole (K : PySem.W.Frag) : Sp := fun vs H Q _ => ∃ (v : V) (a : A0), vs = [v] ∧ A0At H v a ∧ Q (.bl a.whole) H
theorem ok_isWhole (T : Tx K mg) : FnOk P w K mg base CX0 1 T.f_isWhole T.d_isWhole ["thing"] (sp_isWhole K) := by
  refine T.F_isWhole.ok sc_isWhole (by walk_at "len") (fun cdv A outer s H vs Q E hr h => ?_)
  obtain ⟨v, a, rfl, ha, k⟩ := h
  refine ⟨_, (pss_one (ps_ret (pe_and (pe_callB (kIsi K) (by rfl) T.z_isinstance (by decide +kernel) (pa_cons (pv 0) (pa_cons (pe_bltn (v := .ty "int") (by rfl) T.z_int (by decide +kernel) rfl) pa_nil))) (pe_one (pe_not (pe_callB (kIsi K) (by rfl) T.z_isinstance (by decide +kernel) (pa_cons (pv 0) (pa_cons (pe_bltn (v := .ty "bool") (by rfl) T.z_bool (by decide +kernel) rfl) pa_nil)))))))), ?_⟩
  obtain ⟨b, kb1, kb2⟩ := A0.kInt a
  refine ⟨_, rfl, _, _, _, _, _, rfl, .ty _, ha.ty, kit_ty kb1, _, rfl, ?_⟩
  rw [← kb2] at k
  cases b with
  | false => exact iteF k
  | true => exact iteT ⟨_, rfl, _, _, _, _, _, rfl, .ty _, ha.ty, kit_ty (A0.kBl a), _, rfl, k⟩
def sp_isWord (K : PySem.W.Frag) : Sp := fun vs H Q _ => ∃ (v : V) (a : A0), vs = [v] ∧ A0At H v a ∧ ∀ H', Kp [] H H' → Q (.bl a.word) H'
theorem ok_isWord (T : Tx K mg) : FnOk P w K mg base CX0 1 T.f_isWord T.d_isWord ["thing"] (sp_isWord K) := by
  refine T.F_isWord.ok sc_isWord (by walk_at "len") (fun cdv A outer s H vs Q E hr h => ?_)
  obtain ⟨v, a0, rfl, ha, kk⟩ := h
  have h := ha.wordS (K := K) kk
  clear kk
  refine ⟨_, (pss_cons (ps_if (PW.pt (pw_or (pt_not (pt_val (pe_callB (kIsi K) (by rfl) T.z_isinstance (by decide +kernel) (pa_cons (pv 0) (pa_cons (pe_bltn (v := .ty "str") (by rfl) T.z_str (by decide +kernel) rfl) pa_nil))))) (pw_or1 (pt_not (pt_chain op_lt op_le pe_int (pe_callB call_len_str (by rfl) T.z_len PySem.boot_len (pa_cons (pv 0) pa_nil)) (pe_glob rfl T.g_MOST_SIGNS T.r_MOST_SIGNS))))))
        (pss_one (ps_ret pe_bl))
        pss_nil)
    (pss_one (ps_ret (pe_callB (kAll K) (by rfl) T.z_all (by decide +kernel) (pa_cons (pe_lc (own := [("sign", 1)]) (g := gName 1) (tt := tYes) rfl sc_isWord.nd (pi_str (pv 0)) (blkOk_by (own := [("sign", 1)]) (N := nm_isWord) (sc := defScope s_isWord) (by decide +kernel)) (fun _ _ _ _ _ => (pg_name (i := 1) sc_isWord.nd rfl (Or.inl rfl))) (fun _ _ _ _ _ => pts_nil) (fun _ _ _ _ _ => (pe_cmpR op_in_sign (pv 1) (pe_glob rfl T.g_LETTERS T.r_LETTERS) rfl))) pa_nil))))), ?_⟩
  rcases h with ⟨z, rfl, hz, k⟩ | ⟨t, ty, h2, k⟩
  · have bad : isWord z = false → Q (.bl false) H := fun e => by
      have q := k H (Kp.refl _ _)
      rw [e] at q
      exact q
    refine ⟨_, rfl, _, _, _, _, _, rfl, .ty _, isS, kit_ty (r := true) (by decide +kernel), _, rfl, ?_⟩
    refine iteF ⟨_, rfl, z, rfl, hz, _, _, rfl, rfl, _, rfl, ?_⟩
    refine ite2 (fun h0 => ?_) fun h0 => ?_
    · have h0 : 0 < z.length := by
        have := of_decide_eq_true h0
        omega
      refine ⟨_, _, rfl, rfl, _, rfl, ?_⟩
      by_cases h1 : ((z.length : Nat) : Int) ≤ 12
      · rw [decide_eq_true h1]
        refine iteF ⟨_, rfl, _, rfl, ?_⟩
        intro D hD
        refine lc_it (walk_str (z := z)) (fun i H' => Kp [] H H' ∧ H' D = some (.lst (((z.cps.toList.take i).map fun c => decide (c ∈ letters.cps.toList)).map V.bl))) ⟨(Kp.refl _ _).new hD, by simpa using upd_same⟩ (fun _ _ _ _ => trivial) ?_ ?_
        · rintro i x H1 H2 hi ⟨kp, hd⟩ ⟨rfl, c, hc, rfl⟩
          refine ⟨rfl, tYes_go (iteT ⟨_, rfl, c, _, rfl, rfl, _, hd, ?_, kp.lst (.inr hD) hd, ?_⟩)⟩
          · have : z.cps.size ≤ 12 := by
              have : z.length ≤ 12 := by omega
              exact this
            exact small1000 (by simp; omega)
          · have hc' : z.cps.toList[i]? = some c := by rw [Array.getElem?_toList]; exact hc
            rw [upd_same, take_snoc hc']
            simp [letters]
        · rintro H1 ⟨kp, hd⟩
          refine ⟨D, _, rfl, SqL.of hd, ?_⟩
          have e : isWord z = (((z.cps.toList.take z.cps.size).map fun c => decide (c ∈ letters.cps.toList)).all id) := by
            have e1 : z.cps.toList.take z.cps.size = z.cps.toList := List.take_of_length_le (by simp)
            rw [e1]
            unfold isWord
            rw [decide_eq_true h0, decide_eq_true (show z.length ≤ 12 by omega), List.all_map]
            rfl
          rw [← e]
          exact k _ kp
      · rw [decide_eq_false h1]
        refine iteT (bad ?_)
        unfold isWord
        rw [decide_eq_false (show ¬ z.length ≤ 12 by omega), Bool.and_false, Bool.false_and]
    · refine ⟨_, rfl, iteT (bad ?_)⟩
      have h0 : ¬ (0 < z.length) := fun q => h0 (decide_eq_true (by omega))
      unfold isWord
      rw [decide_eq_false h0, Bool.false_and, Bool.false_and]
  · exact ⟨_, rfl, _, _, _, _, _, rfl, .ty _, ty, kit_ty h2, _, rfl, iteT (iteT k)⟩
end
inductive A1 where
  | atom (a : A0) | tup (l : List A0)
def A1At (H : Hp) (v : V) : A1 → Prop
  | .atom a => A0At H v a
  | .tup l => ∃ p xs, v = .ref p ∧ H p = some (.tup xs) ∧ Paired (A0At H) xs l
theorem A1At.kp {H H' : Hp} {v : V} {a : A1} (h : A1At H v a) (k : Kp [] H H') : A1At H' v a := by
  cases a with
  | atom a => exact A0At.kp h k
  | tup l => obtain ⟨p, xs, e, h1, h2⟩ := h; exact ⟨p, xs, e, k.tk _ _ h1, Pd.mono (fun _ _ z => z.kp k) h2⟩
def worded : List Str := ["now", "soon", "cancel", "join", "leave"]
abbrev sHush : Str := "hush"
abbrev sWait : Str := "wait"
def waitM : List A0 → Bool
  | [n, z] => n.whole && (n.inR && z.word) | _ => false
def wordM : List A0 → Bool
  | [z] => z.word | _ => false
def deedM : A1 → Bool
  | .tup (.str t :: r) => if t = sHush then decide (r.length = 0) else if t = sWait then waitM r else decide (t ∈ worded) && wordM r
  | _ => false
section
variable {P : Program} {w : World} {K : PySem.W.Frag} {mg : Str → Option Value} {base : Heap}
def sp_isDeed (K : PySem.W.Frag) : Sp := fun vs H Q _ => ∃ (v : V) (d : A1), vs = [v] ∧ A1At H v d ∧ ∀ H', Kp [] H H' → Q (.bl (deedM d)) H'
theorem ok_isDeed (T : Tx K mg) : FnOk P w K mg base CX0 2 T.f_isDeed T.d_isDeed ["thing"] (sp_isDeed K) := by
  refine T.F_isDeed.ok sc_isDeed (by walk_at "len") (fun cdv A outer s H vs Q E hr h => ?_)
  obtain ⟨v, d, rfl, hd, k⟩ := h
  refine ⟨_, (pss_cons (ps_if (PW.pt (pw_or (pt_not (pt_val (pe_callB (kIsi K) (by rfl) T.z_isinstance (by decide +kernel) (pa_cons (pv 0) (pa_cons (pe_bltn (v := .ty "tuple") (by rfl) T.z_tuple (by decide +kernel) rfl) pa_nil))))) (pw_or (pt_cmpR op_eq (pe_callB (kLen K) (by rfl) T.z_len PySem.boot_len (pa_cons (pv 0) pa_nil)) pe_int (nomark _)) (pw_or1 (pt_not (pt_val (pe_callB (kIsi K) (by rfl) T.z_isinstance (by decide +kernel) (pa_cons (pe_ix (kIxT K) (pv 0) pe_int (fun _ _ => rfl)) (pa_cons (pe_bltn (v := .ty "str") (by rfl) T.z_str (by decide +kernel) rfl) pa_nil)))))))))
        (pss_one (ps_ret pe_bl))
        pss_nil)
    (pss_cons (ps_if (pt_cmpR op_eq (pe_ix (kIxT K) (pv 0) pe_int (fun _ _ => rfl)) pe_str (nomark _))
        (pss_one (ps_ret (pe_cmpR op_eq (pe_callB (kLen K) (by rfl) T.z_len PySem.boot_len (pa_cons (pv 0) pa_nil)) pe_int (nomark _))))
        pss_nil)
    (pss_cons (ps_if (pt_cmpR op_eq (pe_ix (kIxT K) (pv 0) pe_int (fun _ _ => rfl)) pe_str (nomark _))
        (pss_one (ps_ret (pe_and (pe_cmpR op_eq (pe_callB (kLen K) (by rfl) T.z_len PySem.boot_len (pa_cons (pv 0) pa_nil)) pe_int (nomark _)) (pe_and (pe_call (ok_isWhole T) (hr.mono (by decide)) rfl T.g_isWhole T.F_isWhole.kp T.b_isWhole .nil pass0 (pa_cons (pe_ix (kIxT K) (pv 0) pe_int (fun _ _ => rfl)) pa_nil)) (pe_and (pe_chain op_le op_le pe_int (pe_ix (kIxT K) (pv 0) pe_int (fun _ _ => rfl)) (pe_glob rfl T.g_MOST_TICKS T.r_MOST_TICKS)) (pe_one (pe_call (ok_isWord T) (hr.mono (by decide)) rfl T.g_isWord T.F_isWord.kp T.b_isWord .nil pass0 (pa_cons (pe_ix (kIxT K) (pv 0) pe_int (fun _ _ => rfl)) pa_nil))))))))
        pss_nil)
    (pss_one (ps_ret (pe_and (pe_cmpR (kIn K) (pe_ix (kIxT K) (pv 0) pe_int (fun _ _ => rfl)) (pe_glob (v := .ref T.a_WORDED) rfl T.g_WORDED rfl) rfl) (pe_and (pe_cmpR op_eq (pe_callB (kLen K) (by rfl) T.z_len PySem.boot_len (pa_cons (pv 0) pa_nil)) pe_int (nomark _)) (pe_one (pe_call (ok_isWord T) (hr.mono (by decide)) rfl T.g_isWord T.F_isWord.kp T.b_isWord .nil pass0 (pa_cons (pe_ix (kIxT K) (pv 0) pe_int (fun _ _ => rfl)) pa_nil)))))))))), ?_⟩
  have k0 : ∀ b, deedM d = b → Q (.bl b) H := fun b e => e ▸ k H (Kp.refl _ _)
  have k1 : ∀ b H', Kp [] H H' → deedM d = b → Q (.bl b) H' := fun b H' kp e => e ▸ k H' kp
  clear k
  cases d with
  | atom a => exact ⟨_, rfl, _, _, _, _, _, rfl, .ty _, hd.ty, kit_ty a.kTup, _, rfl, iteT (k0 _ rfl)⟩
  | tup l =>
    obtain ⟨p, xs, rfl, hp, pl⟩ := hd
    refine ⟨_, rfl, _, _, _, _, _, rfl, .ty _, isT hp, kit_ty (r := true) (by decide +kernel), _, rfl, iteF ?_⟩
    refine ⟨_, rfl, p, _, rfl, .inr (SqT.of hp), rfl, _, rfl, ?_⟩
    cases pl with
    | nil => exact iteT' rfl (k0 _ rfl)
    | cons hx pr =>
      rename_i x a xr r
      have lr : xr.length = r.length := Pd.len pr
      have ln : ∀ n : Nat, decide (V.int (((x :: xr).length : Nat) : Int) = V.int (((n + 1 : Nat) : Nat) : Int)) = decide (r.length = n) := fun n => by
        rw [List.length_cons, lr]
        by_cases e : r.length = n
        · rw [decide_eq_true e, e]
          exact decide_eq_true rfl
        · rw [decide_eq_false e]
          exact decide_eq_false fun q => e (by have := V.int.inj q; omega)
      refine iteF' (decide_eq_false fun q => by have := V.int.inj q; rw [List.length_cons] at this; omega) ?_
      refine ⟨_, rfl, p, _, _, _, rfl, rfl, SqT.of hp, at0, _, _, _, _, _, rfl, .ty _, hx.ty, kit_ty a.kStr, _, rfl, ?_⟩
      cases a with
      | int i => exact iteT (k0 _ rfl)
      | bl i => exact iteT (k0 _ rfl)
      | non => exact iteT (k0 _ rfl)
      | lst => exact iteT (k0 _ rfl)
      | dct => exact iteT (k0 _ rfl)
      | str t =>
        obtain ⟨rfl, ht⟩ := hx
        refine iteF ⟨_, rfl, p, _, _, _, rfl, rfl, SqT.of hp, at0, rfl, _, rfl, ?_⟩
        have sd : ∀ s : Str, decide (V.str t = V.str s) = decide (t = s) := fun s => by
          by_cases e : t = s
          · rw [decide_eq_true e, e]; exact decide_eq_true rfl
          · rw [decide_eq_false e]; exact decide_eq_false fun q => e (V.str.inj q)
        rw [sd]
        by_cases e1 : t = sHush
        · refine iteT' (decide_eq_true e1) ?_
          refine ⟨_, rfl, p, _, rfl, .inr (SqT.of hp), rfl, ?_⟩
          have e0 : deedM (.tup (.str t :: r)) = decide (V.int (((V.str t :: xr).length : Nat) : Int) = V.int 1) := by
            show (if t = sHush then _ else _) = _
            rw [if_pos e1]
            exact (ln 0).symm
          exact k0 _ e0
        · refine iteF' (decide_eq_false e1) ⟨_, rfl, p, _, _, _, rfl, rfl, SqT.of hp, at0, rfl, _, rfl, ?_⟩
          rw [sd]
          by_cases e2 : t = sWait
          · refine iteT' (decide_eq_true e2) ⟨_, rfl, p, _, rfl, .inr (SqT.of hp), rfl, _, rfl, ?_⟩
            have em : deedM (.tup (.str t :: r)) = waitM r := by
              show (if t = sHush then _ else _) = _
              rw [if_neg e1, if_pos e2]
            match r, xr, pr, em, k0, k1, ln, hp with
            | [n, z], [x1, x2], .cons h1 (.cons h2 .nil), em, k0, k1, ln, hp =>
              refine iteT' ((ln 2).trans rfl) ?_
              refine ⟨_, rfl, p, _, _, _, rfl, rfl, SqT.of hp, at1, _, _, rfl, h1, _, rfl, ?_⟩
              cases n with
              | int i =>
                obtain rfl : x1 = .int i := h1
                refine iteT ⟨_, rfl, p, _, _, _, rfl, rfl, SqT.of hp, at1, _, _, rfl, rfl, _, rfl, ?_⟩
                have em : deedM (.tup (.str t :: [.int i, z])) = ((decide (0 ≤ i) && decide (i ≤ 1000000000)) && z.word) := em
                by_cases q1 : 0 ≤ i
                · refine iteT' (decide_eq_true q1) ⟨_, _, rfl, rfl, _, rfl, ?_⟩
                  rw [decide_eq_true q1, Bool.true_and] at em
                  by_cases q2 : i ≤ 1000000000
                  · rw [decide_eq_true q2, Bool.true_and] at em
                    exact iteT' (decide_eq_true q2) ⟨_, rfl, p, _, _, _, rfl, rfl, SqT.of hp, at2, _, _, rfl, h2, fun H' kp => k1 _ H' kp em⟩
                  · rw [decide_eq_false q2, Bool.false_and] at em
                    exact iteF' (decide_eq_false q2) (k0 _ em)
                · rw [decide_eq_false q1, Bool.false_and, Bool.false_and] at em
                  exact iteF' (decide_eq_false q1) ⟨_, rfl, iteF (k0 _ em)⟩
              | _ => exact iteF (k0 _ em)
            | [], [], .nil, em, k0, k1, ln, hp => exact iteF' ((ln 2).trans rfl) (k0 _ em)
            | [_], [_], .cons _ .nil, em, k0, k1, ln, hp => exact iteF' ((ln 2).trans rfl) (k0 _ em)
            | _ :: _ :: _ :: _, _ :: _ :: _ :: _, .cons _ (.cons _ (.cons _ _)), em, k0, k1, ln, hp => exact iteF' ((ln 2).trans (decide_eq_false (by simp))) (k0 _ em)
          · refine iteF' (decide_eq_false e2) ⟨_, rfl, p, _, _, _, rfl, rfl, SqT.of hp, at0, _, _, rfl, .inr (T.t_WORDED H), rfl, rfl, _, rfl, ?_⟩
            have ew : inV (V.str t) [V.str "now", .str "soon", .str "cancel", .str "join", .str "leave"] = decide (t ∈ worded) := inV_strs t worded
            rw [if_neg Bool.false_ne_true, ew]
            have em : deedM (.tup (.str t :: r)) = (decide (t ∈ worded) && wordM r) := by
              show (if t = sHush then _ else _) = _
              rw [if_neg e1, if_neg e2]
            by_cases e3 : t ∈ worded
            · rw [decide_eq_true e3, Bool.true_and] at em
              refine iteT' (decide_eq_true e3) ⟨_, rfl, p, _, rfl, .inr (SqT.of hp), rfl, _, rfl, ?_⟩
              match r, xr, pr, em, k0, k1, ln, hp with
              | [z], [x1], .cons h1 .nil, em, k0, k1, ln, hp => exact iteT' ((ln 1).trans rfl) ⟨_, rfl, p, _, _, _, rfl, rfl, SqT.of hp, at1, _, _, rfl, h1, fun H' kp => k1 _ H' kp em⟩
              | [], [], .nil, em, k0, k1, ln, hp => exact iteF' ((ln 1).trans rfl) (k0 _ em)
              | _ :: _ :: _, _ :: _ :: _, .cons _ (.cons _ _), em, k0, k1, ln, hp => exact iteF' ((ln 1).trans (decide_eq_false (by simp))) (k0 _ em)
            · rw [decide_eq_false e3, Bool.false_and] at em
              exact iteF' (decide_eq_false e3) (k0 _ em)
/-! ### things that may be handlers -/
inductive DX where
  | atom (a : A0) | lst (l : List A1) | tup (l : List A1)
def A0.noLst : A0 → Bool
  | .lst => false | _ => true
def DXAt (H : Hp) (v : V) : DX → Prop
  | .atom a => A0At H v a ∧ a.noLst = true
  | .lst l => ∃ q ds, v = .ref q ∧ H q = some (.lst ds) ∧ Paired (A1At H) ds l
  | .tup l => ∃ q ds, v = .ref q ∧ H q = some (.tup ds) ∧ Paired (A1At H) ds l
theorem DXAt.kp {H H' : Hp} {v : V} {d : DX} (h : DXAt H v d) (k : Kp [] H H') : DXAt H' v d := by
  cases d with
  | atom a => exact ⟨h.1.kp k, h.2⟩
  | lst l => obtain ⟨q, ds, e, h1, h2⟩ := h; exact ⟨q, ds, e, k.keep0 h1, Pd.mono (fun _ _ z => z.kp k) h2⟩
  | tup l => obtain ⟨q, ds, e, h1, h2⟩ := h; exact ⟨q, ds, e, k.keep0 h1, Pd.mono (fun _ _ z => z.kp k) h2⟩
def dsOk (l : List A1) : Bool := decide (l.length ≤ 30) && l.all deedM
def DX.ok : DX → Bool
  | .atom _ => false | .lst l => dsOk l | .tup l => dsOk l
def A0.isE : A0 → Bool
  | .str z => decide (z = Str.empty) | _ => false
def hearM (h : A0) : Bool := h.word || h.isE
inductive A2 where
  | lst | four | five (n r h o : A0) (d : DX)
def A2At (H : Hp) (v : V) : A2 → Prop
  | .lst => ∃ p xs, v = .ref p ∧ H p = some (.lst xs)
  | .four => ∃ p xs, v = .ref p ∧ H p = some (.tup xs) ∧ xs.length = 4
  | .five n r h o d => ∃ p v1 v2 v3 v4 v5, v = .ref p ∧ H p = some (.tup [v1, v2, v3, v4, v5]) ∧ A0At H v1 n ∧ A0At H v2 r ∧ A0At H v3 h ∧ A0At H v4 o ∧ DXAt H v5 d
theorem A2At.kp {H H' : Hp} {v : V} {a : A2} (h : A2At H v a) (k : Kp [] H H') : A2At H' v a := by
  cases a with
  | lst => obtain ⟨p, xs, e, h1⟩ := h; exact ⟨p, xs, e, k.keep0 h1⟩
  | four => obtain ⟨p, xs, e, h1, h2⟩ := h; exact ⟨p, xs, e, k.keep0 h1, h2⟩
  | five n r h' o d =>
    obtain ⟨p, v1, v2, v3, v4, v5, e, h0, h1, h2, h3, h4, h5⟩ := h
    exact ⟨p, v1, v2, v3, v4, v5, e, k.keep0 h0, h1.kp k, h2.kp k, h3.kp k, h4.kp k, h5.kp k⟩
def handlerM : A2 → Bool
  | .five n r h o d => n.word && (r.whole && (o.isBl && (hearM h && d.ok)))
  | _ => false
theorem A0.kLst : ∀ a : A0, a.noLst = true → kitB a.ty "list" = some false
  | .str _, _ => (by decide +kernel : kitB "str" "list" = some false)
  | .int _, _ => (by decide +kernel : kitB "int" "list" = some false)
  | .bl _, _ => (by decide +kernel : kitB "bool" "list" = some false)
  | .non, _ => by decide +kernel
  | .dct, _ => by decide +kernel
theorem seq_cut {t u : TS} {D : Ends} {σ : L2.St} {H : Hp} (P : L2.St → Hp → Prop) (h2 : ∀ σ' H', P σ' H' → u D σ' H') (h1 : ∀ N : L2.St → Hp → Prop, (∀ σ' H', P σ' H' → N σ' H') → t { D with nx := N } σ H) : tSeq t u D σ H := h1 _ h2
def sp_isHandler (K : PySem.W.Frag) : Sp := fun vs H Q _ => ∃ (v : V) (h : A2), vs = [v] ∧ A2At H v h ∧ ∀ H', Kp [] H H' → Q (.bl (handlerM h)) H'
theorem ok_isHandler (T : Tx K mg) : FnOk P w K mg base CX0 3 T.f_isHandler T.d_isHandler ["thing"] (sp_isHandler K) := by
  refine T.F_isHandler.ok sc_isHandler (by walk_at "len") (fun cdv A outer s H vs Q E hr h => ?_)
  obtain ⟨v, d, rfl, hd, k⟩ := h
  have k1 : ∀ b H', Kp [] H H' → handlerM d = b → Q (.bl b) H' := fun b H' kp e => e ▸ k H' kp
  clear k
  have sd : ∀ (t s : Str), decide (V.str t = V.str s) = decide (t = s) := fun t s => by
    by_cases e : t = s
    · rw [decide_eq_true e, e]; exact decide_eq_true rfl
    · rw [decide_eq_false e]; exact decide_eq_false fun q => e (V.str.inj q)
  cases d with
  | lst =>
    obtain ⟨p, xs, rfl, hp⟩ := hd
    refine ⟨_, (pss_cons (ps_if (PW.pt (pw_or (pt_not (pt_val (pe_callB (kIsi K) (by rfl) T.z_isinstance (by decide +kernel) (pa_cons (pv 0) (pa_cons (pe_bltn (v := .ty "tuple") (by rfl) T.z_tuple (by decide +kernel) rfl) pa_nil))))) (pw_or1 (pt_cmpR op_ne (pe_callB (kLen K) (by rfl) T.z_len PySem.boot_len (pa_cons (pv 0) pa_nil)) pe_int (nomark _)))))
        (pss_one (ps_ret pe_bl))
        pss_nil)
    (pss_cons (ps_asg (pv 0) (kTup K (pgs_cons (pg_name (i := 1) sc_isHandler.nd rfl (Or.inl rfl)) (pgs_cons (pg_name (i := 2) sc_isHandler.nd rfl (Or.inl rfl)) (pgs_cons (pg_name (i := 3) sc_isHandler.nd rfl (Or.inl rfl)) (pgs_cons (pg_name (i := 4) sc_isHandler.nd rfl (Or.inl rfl)) (pgs_cons (pg_name (i := 5) sc_isHandler.nd rfl (Or.inl rfl)) pgs_nil)))))))
    (pss_cons (ps_if (PW.pt (pw_or (pt_not (pt_val (pe_call (ok_isWord T) (hr.mono (by decide)) rfl T.g_isWord T.F_isWord.kp T.b_isWord .nil pass0 (pa_cons (pv 1) pa_nil)))) (pw_or (pt_not (pt_val (pe_call (ok_isWhole T) (hr.mono (by decide)) rfl T.g_isWhole T.F_isWhole.kp T.b_isWhole .nil pass0 (pa_cons (pv 2) pa_nil)))) (pw_or1 (pt_not (pt_val (pe_callB (kIsi K) (by rfl) T.z_isinstance (by decide +kernel) (pa_cons (pv 4) (pa_cons (pe_bltn (v := .ty "bool") (by rfl) T.z_bool (by decide +kernel) rfl) pa_nil)))))))))
        (pss_one (ps_ret pe_bl))
        pss_nil)
    (pss_cons (ps_if (PW.pt (pw_and (pt_not (pt_val (pe_call (ok_isWord T) (hr.mono (by decide)) rfl T.g_isWord T.F_isWord.kp T.b_isWord .nil pass0 (pa_cons (pv 3) pa_nil)))) (pw_and1 (pt_not (PW.pt (pw_and (pt_val (pe_callB (kIsi K) (by rfl) T.z_isinstance (by decide +kernel) (pa_cons (pv 3) (pa_cons (pe_bltn (v := .ty "str") (by rfl) T.z_str (by decide +kernel) rfl) pa_nil)))) (pw_and1 (pt_cmpR op_eq (pv 3) pe_str (nomark _)))))))))
        (pss_one (ps_ret pe_bl))
        pss_nil)
    (pss_cons (ps_if (PW.pt (pw_or (pt_not (pt_val (pe_callB (kIsiT K) (by rfl) T.z_isinstance (by decide +kernel) (pa_cons (pv 5) (pa_cons (pe_tup (pa_cons (pe_bltn (v := .ty "list") (by rfl) T.z_list (by decide +kernel) rfl) (pa_cons (pe_bltn (v := .ty "tuple") (by rfl) T.z_tuple (by decide +kernel) rfl) pa_nil))) pa_nil))))) (pw_or1 (pt_cmpR op_gt (pe_callB (kLen K) (by rfl) T.z_len PySem.boot_len (pa_cons (pv 5) pa_nil)) (pe_glob rfl T.g_MOST_DEEDS T.r_MOST_DEEDS) (nomark _)))))
        (pss_one (ps_ret pe_bl))
        pss_nil)
    (pss_one (ps_ret (pe_callB (kAll K) (by rfl) T.z_all (by decide +kernel) (pa_cons (pe_lc (own := [("deed", 6)]) (g := gName 6) (tt := tYes) rfl sc_isHandler.nd (pi_list (pv 5)) (blkOk_by (own := [("deed", 6)]) (N := nm_isHandler) (sc := defScope s_isHandler) (by decide +kernel)) (fun _ _ _ _ _ => (pg_name (i := 6) sc_isHandler.nd rfl (Or.inl rfl))) (fun _ _ _ _ _ => pts_nil) (fun _ _ _ _ _ => (pe_call (ok_isDeed T) (hr.mono (by decide)) rfl T.g_isDeed T.F_isDeed.kp T.b_isDeed .nil pass0 (pa_cons (pv 6) pa_nil)))) pa_nil))))))))), ?_⟩
    exact ⟨_, rfl, _, _, _, _, _, rfl, .ty _, isL hp, kit_ty (r := false) (by decide +kernel), _, rfl, iteT (k1 _ _ (Kp.refl _ _) rfl)⟩
  | four =>
    obtain ⟨p, xs, rfl, hp, h4⟩ := hd
    refine ⟨_, (pss_cons (ps_if (PW.pt (pw_or (pt_not (pt_val (pe_callB (kIsi K) (by rfl) T.z_isinstance (by decide +kernel) (pa_cons (pv 0) (pa_cons (pe_bltn (v := .ty "tuple") (by rfl) T.z_tuple (by decide +kernel) rfl) pa_nil))))) (pw_or1 (pt_cmpR op_ne (pe_callB (kLen K) (by rfl) T.z_len PySem.boot_len (pa_cons (pv 0) pa_nil)) pe_int (nomark _)))))
        (pss_one (ps_ret pe_bl))
        pss_nil)
    (pss_cons (ps_asg (pv 0) (kTup K (pgs_cons (pg_name (i := 1) sc_isHandler.nd rfl (Or.inl rfl)) (pgs_cons (pg_name (i := 2) sc_isHandler.nd rfl (Or.inl rfl)) (pgs_cons (pg_name (i := 3) sc_isHandler.nd rfl (Or.inl rfl)) (pgs_cons (pg_name (i := 4) sc_isHandler.nd rfl (Or.inl rfl)) (pgs_cons (pg_name (i := 5) sc_isHandler.nd rfl (Or.inl rfl)) pgs_nil)))))))
    (pss_cons (ps_if (PW.pt (pw_or (pt_not (pt_val (pe_call (ok_isWord T) (hr.mono (by decide)) rfl T.g_isWord T.F_isWord.kp T.b_isWord .nil pass0 (pa_cons (pv 1) pa_nil)))) (pw_or (pt_not (pt_val (pe_call (ok_isWhole T) (hr.mono (by decide)) rfl T.g_isWhole T.F_isWhole.kp T.b_isWhole .nil pass0 (pa_cons (pv 2) pa_nil)))) (pw_or1 (pt_not (pt_val (pe_callB (kIsi K) (by rfl) T.z_isinstance (by decide +kernel) (pa_cons (pv 4) (pa_cons (pe_bltn (v := .ty "bool") (by rfl) T.z_bool (by decide +kernel) rfl) pa_nil)))))))))
        (pss_one (ps_ret pe_bl))
        pss_nil)
    (pss_cons (ps_if (PW.pt (pw_and (pt_not (pt_val (pe_call (ok_isWord T) (hr.mono (by decide)) rfl T.g_isWord T.F_isWord.kp T.b_isWord .nil pass0 (pa_cons (pv 3) pa_nil)))) (pw_and1 (pt_not (PW.pt (pw_and (pt_val (pe_callB (kIsi K) (by rfl) T.z_isinstance (by decide +kernel) (pa_cons (pv 3) (pa_cons (pe_bltn (v := .ty "str") (by rfl) T.z_str (by decide +kernel) rfl) pa_nil)))) (pw_and1 (pt_cmpR op_eq (pv 3) pe_str (nomark _)))))))))
        (pss_one (ps_ret pe_bl))
        pss_nil)
    (pss_cons (ps_if (PW.pt (pw_or (pt_not (pt_val (pe_callB (kIsiT K) (by rfl) T.z_isinstance (by decide +kernel) (pa_cons (pv 5) (pa_cons (pe_tup (pa_cons (pe_bltn (v := .ty "list") (by rfl) T.z_list (by decide +kernel) rfl) (pa_cons (pe_bltn (v := .ty "tuple") (by rfl) T.z_tuple (by decide +kernel) rfl) pa_nil))) pa_nil))))) (pw_or1 (pt_cmpR op_gt (pe_callB (kLen K) (by rfl) T.z_len PySem.boot_len (pa_cons (pv 5) pa_nil)) (pe_glob rfl T.g_MOST_DEEDS T.r_MOST_DEEDS) (nomark _)))))
        (pss_one (ps_ret pe_bl))
        pss_nil)
    (pss_one (ps_ret (pe_callB (kAll K) (by rfl) T.z_all (by decide +kernel) (pa_cons (pe_lc (own := [("deed", 6)]) (g := gName 6) (tt := tYes) rfl sc_isHandler.nd (pi_list (pv 5)) (blkOk_by (own := [("deed", 6)]) (N := nm_isHandler) (sc := defScope s_isHandler) (by decide +kernel)) (fun _ _ _ _ _ => (pg_name (i := 6) sc_isHandler.nd rfl (Or.inl rfl))) (fun _ _ _ _ _ => pts_nil) (fun _ _ _ _ _ => (pe_call (ok_isDeed T) (hr.mono (by decide)) rfl T.g_isDeed T.F_isDeed.kp T.b_isDeed .nil pass0 (pa_cons (pv 6) pa_nil)))) pa_nil))))))))), ?_⟩
    refine ⟨_, rfl, _, _, _, _, _, rfl, .ty _, isT hp, kit_ty (r := true) (by decide +kernel), _, rfl, iteF ?_⟩
    exact ⟨_, rfl, p, _, rfl, .inr (SqT.of hp), rfl, _, rfl, iteT' (by rw [h4]; rfl) (k1 _ _ (Kp.refl _ _) rfl)⟩
  | five n r hh o d =>
    obtain ⟨p, v1, v2, v3, v4, v5, rfl, hp, h1, h2, h3, h4, h5⟩ := hd
    have k2 : ∀ H', Kp [] H H' → n.word = false ∨ r.whole = false ∨ o.isBl = false ∨ hearM hh = false ∨ d.ok = false → Q (.bl false) H' := fun H' kp e => k1 _ H' kp (by
      show (n.word && (r.whole && (o.isBl && (hearM hh && d.ok)))) = false
      rcases e with e | e | e | e | e <;> simp [e])
    have k3 : ∀ b H', Kp [] H H' → n.word = true → r.whole = true → o.isBl = true → hearM hh = true → d.ok = b → Q (.bl b) H' := fun b H' kp e1 e2 e3 e4 e5 => k1 _ H' kp (by
      show (n.word && (r.whole && (o.isBl && (hearM hh && d.ok)))) = b
      rw [e1, e2, e3, e4, e5]
      rfl)
    clear k1
    cases d with
    | atom a =>
      refine ⟨_, (pss_cons (ps_if (PW.pt (pw_or (pt_not (pt_val (pe_callB (kIsi K) (by rfl) T.z_isinstance (by decide +kernel) (pa_cons (pv 0) (pa_cons (pe_bltn (v := .ty "tuple") (by rfl) T.z_tuple (by decide +kernel) rfl) pa_nil))))) (pw_or1 (pt_cmpR op_ne (pe_callB (kLen K) (by rfl) T.z_len PySem.boot_len (pa_cons (pv 0) pa_nil)) pe_int (nomark _)))))
        (pss_one (ps_ret pe_bl))
        pss_nil)
    (pss_cons (ps_asg (pv 0) (kTup K (pgs_cons (pg_name (i := 1) sc_isHandler.nd rfl (Or.inl rfl)) (pgs_cons (pg_name (i := 2) sc_isHandler.nd rfl (Or.inl rfl)) (pgs_cons (pg_name (i := 3) sc_isHandler.nd rfl (Or.inl rfl)) (pgs_cons (pg_name (i := 4) sc_isHandler.nd rfl (Or.inl rfl)) (pgs_cons (pg_name (i := 5) sc_isHandler.nd rfl (Or.inl rfl)) pgs_nil)))))))
    (pss_cons (ps_if (PW.pt (pw_or (pt_not (pt_val (pe_call (ok_isWord T) (hr.mono (by decide)) rfl T.g_isWord T.F_isWord.kp T.b_isWord .nil pass0 (pa_cons (pv 1) pa_nil)))) (pw_or (pt_not (pt_val (pe_call (ok_isWhole T) (hr.mono (by decide)) rfl T.g_isWhole T.F_isWhole.kp T.b_isWhole .nil pass0 (pa_cons (pv 2) pa_nil)))) (pw_or1 (pt_not (pt_val (pe_callB (kIsi K) (by rfl) T.z_isinstance (by decide +kernel) (pa_cons (pv 4) (pa_cons (pe_bltn (v := .ty "bool") (by rfl) T.z_bool (by decide +kernel) rfl) pa_nil)))))))))
        (pss_one (ps_ret pe_bl))
        pss_nil)
    (pss_cons (ps_if (PW.pt (pw_and (pt_not (pt_val (pe_call (ok_isWord T) (hr.mono (by decide)) rfl T.g_isWord T.F_isWord.kp T.b_isWord .nil pass0 (pa_cons (pv 3) pa_nil)))) (pw_and1 (pt_not (PW.pt (pw_and (pt_val (pe_callB (kIsi K) (by rfl) T.z_isinstance (by decide +kernel) (pa_cons (pv 3) (pa_cons (pe_bltn (v := .ty "str") (by rfl) T.z_str (by decide +kernel) rfl) pa_nil)))) (pw_and1 (pt_cmpR op_eq (pv 3) pe_str (nomark _)))))))))
        (pss_one (ps_ret pe_bl))
        pss_nil)
    (pss_cons (ps_if (PW.pt (pw_or (pt_not (pt_val (pe_callB (kIsiT K) (by rfl) T.z_isinstance (by decide +kernel) (pa_cons (pv 5) (pa_cons (pe_tup (pa_cons (pe_bltn (v := .ty "list") (by rfl) T.z_list (by decide +kernel) rfl) (pa_cons (pe_bltn (v := .ty "tuple") (by rfl) T.z_tuple (by decide +kernel) rfl) pa_nil))) pa_nil))))) (pw_or1 (pt_cmpR op_gt (pe_callB (kLen K) (by rfl) T.z_len PySem.boot_len (pa_cons (pv 5) pa_nil)) (pe_glob rfl T.g_MOST_DEEDS T.r_MOST_DEEDS) (nomark _)))))
        (pss_one (ps_ret pe_bl))
        pss_nil)
    (pss_one (ps_ret (pe_callB (kAll K) (by rfl) T.z_all (by decide +kernel) (pa_cons (pe_lc (own := [("deed", 6)]) (g := gName 6) (tt := tYes) rfl sc_isHandler.nd (pi_list (pv 5)) (blkOk_by (own := [("deed", 6)]) (N := nm_isHandler) (sc := defScope s_isHandler) (by decide +kernel)) (fun _ _ _ _ _ => (pg_name (i := 6) sc_isHandler.nd rfl (Or.inl rfl))) (fun _ _ _ _ _ => pts_nil) (fun _ _ _ _ _ => (pe_call (ok_isDeed T) (hr.mono (by decide)) rfl T.g_isDeed T.F_isDeed.kp T.b_isDeed .nil pass0 (pa_cons (pv 6) pa_nil)))) pa_nil))))))))), ?_⟩
      refine ⟨_, rfl, _, _, _, _, _, rfl, .ty _, isT hp, kit_ty (r := true) (by decide +kernel), _, rfl, iteF ?_⟩
      refine ⟨_, rfl, p, _, rfl, .inr (SqT.of hp), rfl, _, rfl, iteF' rfl ?_⟩
      refine ⟨_, rfl, p, _, rfl, SqT.of hp, rfl, _, _, rfl, _, _, rfl, _, _, rfl, _, _, rfl, _, _, rfl, rfl, ?_⟩
      refine ⟨_, rfl, _, _, rfl, h1, fun H1 j1 => ⟨_, rfl, ?_⟩⟩
      cases e1 : n.word with
      | false => exact iteT (k2 _ j1 (.inl e1))
      | true =>
      refine iteF ?_
      refine ⟨_, rfl, _, _, rfl, h2.kp j1, _, rfl, ?_⟩
      cases e2 : r.whole with
      | false => exact iteT (k2 _ j1 (.inr (.inl e2)))
      | true =>
      refine iteF ⟨_, rfl, _, _, _, _, _, rfl, .ty _, (h4.kp j1).ty, kit_ty (A0.kBl o), _, rfl, ?_⟩
      cases e3 : o.isBl with
      | false => exact iteT (k2 _ j1 (.inr (.inr (.inl e3))))
      | true =>
      refine iteF ?_
      dsimp only [L2.tNext]
      refine seq_cut (fun σ' H' => Kp [] H H' ∧ hearM hh = true ∧ σ' = [some (.ref p), some v1, some v2, some v3, some v4, some v5, none]) ?_ ?_
      rotate_left
      · intro N hN
        refine ⟨_, rfl, _, _, rfl, h3.kp j1, fun H2 j2 => ⟨_, rfl, ?_⟩⟩
        have j12 := j1.trans j2
        cases e4 : hh.word with
        | true => exact iteF (iteF (hN _ _ ⟨j12, by unfold hearM; rw [e4]; rfl, rfl⟩))
        | false =>
          refine iteT ⟨_, rfl, _, _, _, _, _, rfl, .ty _, (h3.kp j12).ty, kit_ty (A0.kStr hh), _, rfl, ?_⟩
          have em : hearM hh = hh.isE := by unfold hearM; rw [e4]; rfl
          cases hh with
          | str z =>
            obtain ⟨rfl, _⟩ := h3
            refine iteT ⟨_, rfl, rfl, _, rfl, ?_⟩
            rw [sd]
            by_cases e5 : z = Str.empty
            · exact iteF' (by rw [decide_eq_true (show z = ("" : Str) from e5)]; rfl) (hN _ _ ⟨j12, by rw [em]; exact decide_eq_true e5, rfl⟩)
            · exact iteT' (by rw [decide_eq_false (show ¬ z = ("" : Str) from e5)]; rfl) (k2 _ j12 (.inr (.inr (.inr (.inl (by rw [em]; exact decide_eq_false e5))))))
          | _ => exact iteF (iteT (k2 _ j12 (.inr (.inr (.inr (.inl em))))))
      rintro σ' H2 ⟨j12, e4, rfl⟩
      obtain ⟨h5, nl⟩ := h5
      refine ⟨_, rfl, (by show 2 ≤ sizeLine; decide), fun t ht => ⟨_, t, _, _, _, false, rfl, upd_same, .cons (.ty _) (.cons (.ty _) .nil), ((h5.kp j12).kp ((Kp.refl [] _).new ht)).ty, kitAny_cons (b := false) (kit_ty (a.kLst nl)) (fun _ => kitAny_cons (b := false) (kit_ty a.kTup) (fun _ => kitAny_nil) (fun z => by cases z)) (fun z => by cases z), _, rfl, iteT ?_⟩⟩
      exact k2 _ (j12.new ht) (.inr (.inr (.inr (.inr rfl))))
    | lst l =>
      refine ⟨_, (pss_cons (ps_if (PW.pt (pw_or (pt_not (pt_val (pe_callB (kIsi K) (by rfl) T.z_isinstance (by decide +kernel) (pa_cons (pv 0) (pa_cons (pe_bltn (v := .ty "tuple") (by rfl) T.z_tuple (by decide +kernel) rfl) pa_nil))))) (pw_or1 (pt_cmpR op_ne (pe_callB (kLen K) (by rfl) T.z_len PySem.boot_len (pa_cons (pv 0) pa_nil)) pe_int (nomark _)))))
        (pss_one (ps_ret pe_bl))
        pss_nil)
    (pss_cons (ps_asg (pv 0) (kTup K (pgs_cons (pg_name (i := 1) sc_isHandler.nd rfl (Or.inl rfl)) (pgs_cons (pg_name (i := 2) sc_isHandler.nd rfl (Or.inl rfl)) (pgs_cons (pg_name (i := 3) sc_isHandler.nd rfl (Or.inl rfl)) (pgs_cons (pg_name (i := 4) sc_isHandler.nd rfl (Or.inl rfl)) (pgs_cons (pg_name (i := 5) sc_isHandler.nd rfl (Or.inl rfl)) pgs_nil)))))))
    (pss_cons (ps_if (PW.pt (pw_or (pt_not (pt_val (pe_call (ok_isWord T) (hr.mono (by decide)) rfl T.g_isWord T.F_isWord.kp T.b_isWord .nil pass0 (pa_cons (pv 1) pa_nil)))) (pw_or (pt_not (pt_val (pe_call (ok_isWhole T) (hr.mono (by decide)) rfl T.g_isWhole T.F_isWhole.kp T.b_isWhole .nil pass0 (pa_cons (pv 2) pa_nil)))) (pw_or1 (pt_not (pt_val (pe_callB (kIsi K) (by rfl) T.z_isinstance (by decide +kernel) (pa_cons (pv 4) (pa_cons (pe_bltn (v := .ty "bool") (by rfl) T.z_bool (by decide +kernel) rfl) pa_nil)))))))))
        (pss_one (ps_ret pe_bl))
        pss_nil)
    (pss_cons (ps_if (PW.pt (pw_and (pt_not (pt_val (pe_call (ok_isWord T) (hr.mono (by decide)) rfl T.g_isWord T.F_isWord.kp T.b_isWord .nil pass0 (pa_cons (pv 3) pa_nil)))) (pw_and1 (pt_not (PW.pt (pw_and (pt_val (pe_callB (kIsi K) (by rfl) T.z_isinstance (by decide +kernel) (pa_cons (pv 3) (pa_cons (pe_bltn (v := .ty "str") (by rfl) T.z_str (by decide +kernel) rfl) pa_nil)))) (pw_and1 (pt_cmpR op_eq (pv 3) pe_str (nomark _)))))))))
        (pss_one (ps_ret pe_bl))
        pss_nil)
    (pss_cons (ps_if (PW.pt (pw_or (pt_not (pt_val (pe_callB (kIsiT K) (by rfl) T.z_isinstance (by decide +kernel) (pa_cons (pv 5) (pa_cons (pe_tup (pa_cons (pe_bltn (v := .ty "list") (by rfl) T.z_list (by decide +kernel) rfl) (pa_cons (pe_bltn (v := .ty "tuple") (by rfl) T.z_tuple (by decide +kernel) rfl) pa_nil))) pa_nil))))) (pw_or1 (pt_cmpR op_gt (pe_callB (kLen K) (by rfl) T.z_len PySem.boot_len (pa_cons (pv 5) pa_nil)) (pe_glob rfl T.g_MOST_DEEDS T.r_MOST_DEEDS) (nomark _)))))
        (pss_one (ps_ret pe_bl))
        pss_nil)
    (pss_one (ps_ret (pe_callB (kAll K) (by rfl) T.z_all (by decide +kernel) (pa_cons (pe_lc (own := [("deed", 6)]) (g := gName 6) (tt := tYes) rfl sc_isHandler.nd (pi_list (pv 5)) (blkOk_by (own := [("deed", 6)]) (N := nm_isHandler) (sc := defScope s_isHandler) (by decide +kernel)) (fun _ _ _ _ _ => (pg_name (i := 6) sc_isHandler.nd rfl (Or.inl rfl))) (fun _ _ _ _ _ => pts_nil) (fun _ _ _ _ _ => (pe_call (ok_isDeed T) (hr.mono (by decide)) rfl T.g_isDeed T.F_isDeed.kp T.b_isDeed .nil pass0 (pa_cons (pv 6) pa_nil)))) pa_nil))))))))), ?_⟩
      refine ⟨_, rfl, _, _, _, _, _, rfl, .ty _, isT hp, kit_ty (r := true) (by decide +kernel), _, rfl, iteF ?_⟩
      refine ⟨_, rfl, p, _, rfl, .inr (SqT.of hp), rfl, _, rfl, iteF' rfl ?_⟩
      refine ⟨_, rfl, p, _, rfl, SqT.of hp, rfl, _, _, rfl, _, _, rfl, _, _, rfl, _, _, rfl, _, _, rfl, rfl, ?_⟩
      refine ⟨_, rfl, _, _, rfl, h1, fun H1 j1 => ⟨_, rfl, ?_⟩⟩
      cases e1 : n.word with
      | false => exact iteT (k2 _ j1 (.inl e1))
      | true =>
      refine iteF ?_
      refine ⟨_, rfl, _, _, rfl, h2.kp j1, _, rfl, ?_⟩
      cases e2 : r.whole with
      | false => exact iteT (k2 _ j1 (.inr (.inl e2)))
      | true =>
      refine iteF ⟨_, rfl, _, _, _, _, _, rfl, .ty _, (h4.kp j1).ty, kit_ty (A0.kBl o), _, rfl, ?_⟩
      cases e3 : o.isBl with
      | false => exact iteT (k2 _ j1 (.inr (.inr (.inl e3))))
      | true =>
      refine iteF ?_
      dsimp only [L2.tNext]
      refine seq_cut (fun σ' H' => Kp [] H H' ∧ hearM hh = true ∧ σ' = [some (.ref p), some v1, some v2, some v3, some v4, some v5, none]) ?_ ?_
      rotate_left
      · intro N hN
        refine ⟨_, rfl, _, _, rfl, h3.kp j1, fun H2 j2 => ⟨_, rfl, ?_⟩⟩
        have j12 := j1.trans j2
        cases e4 : hh.word with
        | true => exact iteF (iteF (hN _ _ ⟨j12, by unfold hearM; rw [e4]; rfl, rfl⟩))
        | false =>
          refine iteT ⟨_, rfl, _, _, _, _, _, rfl, .ty _, (h3.kp j12).ty, kit_ty (A0.kStr hh), _, rfl, ?_⟩
          have em : hearM hh = hh.isE := by unfold hearM; rw [e4]; rfl
          cases hh with
          | str z =>
            obtain ⟨rfl, _⟩ := h3
            refine iteT ⟨_, rfl, rfl, _, rfl, ?_⟩
            rw [sd]
            by_cases e5 : z = Str.empty
            · exact iteF' (by rw [decide_eq_true (show z = ("" : Str) from e5)]; rfl) (hN _ _ ⟨j12, by rw [em]; exact decide_eq_true e5, rfl⟩)
            · exact iteT' (by rw [decide_eq_false (show ¬ z = ("" : Str) from e5)]; rfl) (k2 _ j12 (.inr (.inr (.inr (.inl (by rw [em]; exact decide_eq_false e5))))))
          | _ => exact iteF (iteT (k2 _ j12 (.inr (.inr (.inr (.inl em))))))
      rintro σ' H2 ⟨j12, e4, rfl⟩
      obtain ⟨q, ds, rfl, hq, hds⟩ := h5
      refine ⟨_, rfl, (by show 2 ≤ sizeLine; decide), fun t ht => ⟨_, t, _, _, _, true, rfl, upd_same, .cons (.ty _) (.cons (.ty _) .nil), isL ((j12.new ht).keep0 hq), kitAny_cons (b := true) (kit_ty (by decide +kernel)) (fun z => by cases z) (fun _ => rfl), _, rfl, iteF ?_⟩⟩
      have k3' := j12.new (o := .tup [V.ty "list", V.ty "tuple"]) ht
      have ll := Pd.len hds
      refine ⟨_, rfl, q, _, rfl, .inl (SqL.of (k3'.keep0 hq)), _, _, rfl, rfl, _, rfl, ?_⟩
      by_cases e5 : l.length ≤ 30
      rotate_left
      · exact iteT' (decide_eq_true (show (30 : Int) < ((ds.length : Nat) : Int) by omega)) (k2 _ k3' (.inr (.inr (.inr (.inr (by show dsOk l = false; unfold dsOk; rw [decide_eq_false e5]; rfl))))))
      refine iteF' (decide_eq_false (show ¬ (30 : Int) < ((ds.length : Nat) : Int) by omega)) ?_
      walk_at "nf"
      refine lc_go ?_
      refine ⟨_, rfl, q, rfl, ⟨_, SqL.of (k3'.keep0 hq)⟩, ?_⟩
      refine lc_pd hds (Nat.lt_of_le_of_lt e5 (by decide)) (fun D pre acc H' => Kp [] H H' ∧ acc = (pre.map deedM).map V.bl) (fun D hD => ⟨k3'.new hD, rfl⟩) (fun D pre acc H' hD e ⟨kp, _⟩ => SqL.of (kp.keep0 hq)) ?_
        (fun D acc H' hD e ⟨kp, ea⟩ => ⟨D, l.map deedM, rfl, SqL.of (ea ▸ e), ?_⟩)
      · rintro D pre acc x dd post H' Yes No hD ed r e ⟨kp, rfl⟩ yes no
        refine ⟨rfl, tYes_go (iteT ⟨_, rfl, x, dd, rfl, r.kp kp, fun H4 k4 => yes _ _ (k4.keep0 e) ⟨(kp.trans k4).lst (.inr (k3'.dom _ hD)) (k4.keep0 e), by simp⟩⟩)⟩
      · have e6 : ((l.map deedM).all id) = l.all deedM := by rw [List.all_map]; rfl
        rw [e6]
        exact k3 _ _ kp e1 e2 e3 e4 (by show dsOk l = _; unfold dsOk; rw [decide_eq_true e5, Bool.true_and])
    | tup l =>
      refine ⟨_, (pss_cons (ps_if (PW.pt (pw_or (pt_not (pt_val (pe_callB (kIsi K) (by rfl) T.z_isinstance (by decide +kernel) (pa_cons (pv 0) (pa_cons (pe_bltn (v := .ty "tuple") (by rfl) T.z_tuple (by decide +kernel) rfl) pa_nil))))) (pw_or1 (pt_cmpR op_ne (pe_callB (kLen K) (by rfl) T.z_len PySem.boot_len (pa_cons (pv 0) pa_nil)) pe_int (nomark _)))))
        (pss_one (ps_ret pe_bl))
        pss_nil)
    (pss_cons (ps_asg (pv 0) (kTup K (pgs_cons (pg_name (i := 1) sc_isHandler.nd rfl (Or.inl rfl)) (pgs_cons (pg_name (i := 2) sc_isHandler.nd rfl (Or.inl rfl)) (pgs_cons (pg_name (i := 3) sc_isHandler.nd rfl (Or.inl rfl)) (pgs_cons (pg_name (i := 4) sc_isHandler.nd rfl (Or.inl rfl)) (pgs_cons (pg_name (i := 5) sc_isHandler.nd rfl (Or.inl rfl)) pgs_nil)))))))
    (pss_cons (ps_if (PW.pt (pw_or (pt_not (pt_val (pe_call (ok_isWord T) (hr.mono (by decide)) rfl T.g_isWord T.F_isWord.kp T.b_isWord .nil pass0 (pa_cons (pv 1) pa_nil)))) (pw_or (pt_not (pt_val (pe_call (ok_isWhole T) (hr.mono (by decide)) rfl T.g_isWhole T.F_isWhole.kp T.b_isWhole .nil pass0 (pa_cons (pv 2) pa_nil)))) (pw_or1 (pt_not (pt_val (pe_callB (kIsi K) (by rfl) T.z_isinstance (by decide +kernel) (pa_cons (pv 4) (pa_cons (pe_bltn (v := .ty "bool") (by rfl) T.z_bool (by decide +kernel) rfl) pa_nil)))))))))
        (pss_one (ps_ret pe_bl))
        pss_nil)
    (pss_cons (ps_if (PW.pt (pw_and (pt_not (pt_val (pe_call (ok_isWord T) (hr.mono (by decide)) rfl T.g_isWord T.F_isWord.kp T.b_isWord .nil pass0 (pa_cons (pv 3) pa_nil)))) (pw_and1 (pt_not (PW.pt (pw_and (pt_val (pe_callB (kIsi K) (by rfl) T.z_isinstance (by decide +kernel) (pa_cons (pv 3) (pa_cons (pe_bltn (v := .ty "str") (by rfl) T.z_str (by decide +kernel) rfl) pa_nil)))) (pw_and1 (pt_cmpR op_eq (pv 3) pe_str (nomark _)))))))))
        (pss_one (ps_ret pe_bl))
        pss_nil)
    (pss_cons (ps_if (PW.pt (pw_or (pt_not (pt_val (pe_callB (kIsiT K) (by rfl) T.z_isinstance (by decide +kernel) (pa_cons (pv 5) (pa_cons (pe_tup (pa_cons (pe_bltn (v := .ty "list") (by rfl) T.z_list (by decide +kernel) rfl) (pa_cons (pe_bltn (v := .ty "tuple") (by rfl) T.z_tuple (by decide +kernel) rfl) pa_nil))) pa_nil))))) (pw_or1 (pt_cmpR op_gt (pe_callB (kLen K) (by rfl) T.z_len PySem.boot_len (pa_cons (pv 5) pa_nil)) (pe_glob rfl T.g_MOST_DEEDS T.r_MOST_DEEDS) (nomark _)))))
        (pss_one (ps_ret pe_bl))
        pss_nil)
    (pss_one (ps_ret (pe_callB (kAll K) (by rfl) T.z_all (by decide +kernel) (pa_cons (pe_lc (own := [("deed", 6)]) (g := gName 6) (tt := tYes) rfl sc_isHandler.nd (pi_tup (pv 5)) (blkOk_by (own := [("deed", 6)]) (N := nm_isHandler) (sc := defScope s_isHandler) (by decide +kernel)) (fun _ _ _ _ _ => (pg_name (i := 6) sc_isHandler.nd rfl (Or.inl rfl))) (fun _ _ _ _ _ => pts_nil) (fun _ _ _ _ _ => (pe_call (ok_isDeed T) (hr.mono (by decide)) rfl T.g_isDeed T.F_isDeed.kp T.b_isDeed .nil pass0 (pa_cons (pv 6) pa_nil)))) pa_nil))))))))), ?_⟩
      refine ⟨_, rfl, _, _, _, _, _, rfl, .ty _, isT hp, kit_ty (r := true) (by decide +kernel), _, rfl, iteF ?_⟩
      refine ⟨_, rfl, p, _, rfl, .inr (SqT.of hp), rfl, _, rfl, iteF' rfl ?_⟩
      refine ⟨_, rfl, p, _, rfl, SqT.of hp, rfl, _, _, rfl, _, _, rfl, _, _, rfl, _, _, rfl, _, _, rfl, rfl, ?_⟩
      refine ⟨_, rfl, _, _, rfl, h1, fun H1 j1 => ⟨_, rfl, ?_⟩⟩
      cases e1 : n.word with
      | false => exact iteT (k2 _ j1 (.inl e1))
      | true =>
      refine iteF ?_
      refine ⟨_, rfl, _, _, rfl, h2.kp j1, _, rfl, ?_⟩
      cases e2 : r.whole with
      | false => exact iteT (k2 _ j1 (.inr (.inl e2)))
      | true =>
      refine iteF ⟨_, rfl, _, _, _, _, _, rfl, .ty _, (h4.kp j1).ty, kit_ty (A0.kBl o), _, rfl, ?_⟩
      cases e3 : o.isBl with
      | false => exact iteT (k2 _ j1 (.inr (.inr (.inl e3))))
      | true =>
      refine iteF ?_
      dsimp only [L2.tNext]
      refine seq_cut (fun σ' H' => Kp [] H H' ∧ hearM hh = true ∧ σ' = [some (.ref p), some v1, some v2, some v3, some v4, some v5, none]) ?_ ?_
      rotate_left
      · intro N hN
        refine ⟨_, rfl, _, _, rfl, h3.kp j1, fun H2 j2 => ⟨_, rfl, ?_⟩⟩
        have j12 := j1.trans j2
        cases e4 : hh.word with
        | true => exact iteF (iteF (hN _ _ ⟨j12, by unfold hearM; rw [e4]; rfl, rfl⟩))
        | false =>
          refine iteT ⟨_, rfl, _, _, _, _, _, rfl, .ty _, (h3.kp j12).ty, kit_ty (A0.kStr hh), _, rfl, ?_⟩
          have em : hearM hh = hh.isE := by unfold hearM; rw [e4]; rfl
          cases hh with
          | str z =>
            obtain ⟨rfl, _⟩ := h3
            refine iteT ⟨_, rfl, rfl, _, rfl, ?_⟩
            rw [sd]
            by_cases e5 : z = Str.empty
            · exact iteF' (by rw [decide_eq_true (show z = ("" : Str) from e5)]; rfl) (hN _ _ ⟨j12, by rw [em]; exact decide_eq_true e5, rfl⟩)
            · exact iteT' (by rw [decide_eq_false (show ¬ z = ("" : Str) from e5)]; rfl) (k2 _ j12 (.inr (.inr (.inr (.inl (by rw [em]; exact decide_eq_false e5))))))
          | _ => exact iteF (iteT (k2 _ j12 (.inr (.inr (.inr (.inl em))))))
      rintro σ' H2 ⟨j12, e4, rfl⟩
      obtain ⟨q, ds, rfl, hq, hds⟩ := h5
      refine ⟨_, rfl, (by show 2 ≤ sizeLine; decide), fun t ht => ⟨_, t, _, _, _, true, rfl, upd_same, .cons (.ty _) (.cons (.ty _) .nil), isT ((j12.new ht).keep0 hq), kitAny_cons (b := false) (kit_ty (by decide +kernel)) (fun _ => kitAny_cons (b := true) (kit_ty (by decide +kernel)) (fun z => by cases z) (fun _ => rfl)) (fun z => by cases z), _, rfl, iteF ?_⟩⟩
      have k3' := j12.new (o := .tup [V.ty "list", V.ty "tuple"]) ht
      have ll := Pd.len hds
      refine ⟨_, rfl, q, _, rfl, .inr (SqT.of (k3'.keep0 hq)), _, _, rfl, rfl, _, rfl, ?_⟩
      by_cases e5 : l.length ≤ 30
      rotate_left
      · exact iteT' (decide_eq_true (show (30 : Int) < ((ds.length : Nat) : Int) by omega)) (k2 _ k3' (.inr (.inr (.inr (.inr (by show dsOk l = false; unfold dsOk; rw [decide_eq_false e5]; rfl))))))
      refine iteF' (decide_eq_false (show ¬ (30 : Int) < ((ds.length : Nat) : Int) by omega)) ?_
      walk_at "nf"
      refine lc_go ?_
      refine ⟨_, rfl, q, rfl, ⟨_, SqT.of (k3'.keep0 hq)⟩, ?_⟩
      refine lc_pdT hds (Nat.lt_of_le_of_lt e5 (by decide)) (fun D pre acc H' => Kp [] H H' ∧ acc = (pre.map deedM).map V.bl) (fun D hD => ⟨k3'.new hD, rfl⟩) (fun D pre acc H' hD e ⟨kp, _⟩ => SqT.of (kp.keep0 hq)) ?_
        (fun D acc H' hD e ⟨kp, ea⟩ => ⟨D, l.map deedM, rfl, SqL.of (ea ▸ e), ?_⟩)
      · rintro D pre acc x dd post H' Yes No hD ed r e ⟨kp, rfl⟩ yes no
        refine ⟨rfl, tYes_go (iteT ⟨_, rfl, x, dd, rfl, r.kp kp, fun H4 k4 => yes _ _ (k4.keep0 e) ⟨(kp.trans k4).lst (.inr (k3'.dom _ hD)) (k4.keep0 e), by simp⟩⟩)⟩
      · have e6 : ((l.map deedM).all id) = l.all deedM := by rw [List.all_map]; rfl
        rw [e6]
        exact k3 _ _ kp e1 e2 e3 e4 (by show dsOk l = _; unfold dsOk; rw [decide_eq_true e5, Bool.true_and])
end
end Ev
namespace Ev
open PySem L2
/-! ### need_handlers over any things -/
structure FH where
  name : Str
  rank : Int
  hears : Str
  once : Bool
  deeds : List A1
def FAt (H : Hp) (v : V) (f : FH) : Prop := ∃ p q ds, v = .ref p ∧ H p = some (.tup [.str f.name, .int f.rank, .str f.hears, .bl f.once, .ref q]) ∧ H q = some (.tup ds) ∧ Paired (A1At H) ds f.deeds ∧ ∀ d ∈ f.deeds, deedM d = true
def A0.pure : A0 → Bool
  | .str _ => true | .int _ => true | _ => false
theorem deed_pure {d : A1} (h : deedM d = true) : ∃ l, d = .tup l ∧ ∀ a ∈ l, a.pure = true := by
  cases d with
  | atom a => cases h
  | tup l =>
    refine ⟨l, rfl, ?_⟩
    cases l with
    | nil => cases h
    | cons a r =>
      cases a with
      | str t =>
        have h : (if t = sHush then decide (r.length = 0) else if t = sWait then waitM r else decide (t ∈ worded) && wordM r) = true := h
        have hr : ∀ a ∈ r, a.pure = true := by
          by_cases e1 : t = sHush
          · rw [if_pos e1] at h
            have := List.eq_nil_of_length_eq_zero (of_decide_eq_true h)
            subst this
            simp
          · rw [if_neg e1] at h
            by_cases e2 : t = sWait
            · rw [if_pos e2] at h
              cases r with
              | nil => cases h
              | cons n r =>
                cases r with
                | nil => cases h
                | cons z r =>
                  cases r with
                  | nil =>
                    have h : (n.whole && (n.inR && z.word)) = true := h
                    simp only [Bool.and_eq_true] at h
                    obtain ⟨h1, _, h3⟩ := h
                    cases n <;> first | cases h1 | skip
                    cases z <;> first | cases h3 | simp [A0.pure]
                  | cons y r => cases h
            · rw [if_neg e2, Bool.and_eq_true] at h
              have h := h.2
              cases r with
              | nil => simp
              | cons a r =>
                cases r with
                | nil => cases a <;> first | cases h | simp [A0.pure]
                | cons b r => cases h
        intro a ha
        rcases List.mem_cons.mp ha with e | q
        · rw [e]; rfl
        · exact hr a q
      | int i => cases h
      | bl b => cases h
      | non => cases h
      | lst => cases h
      | dct => cases h
theorem pd_pure {H H' : Hp} : ∀ {xs : List V} {l : List A0}, (∀ a ∈ l, a.pure = true) → Paired (A0At H) xs l → Paired (A0At H') xs l
  | _, _, _, .nil => .nil
  | _, a :: _, g, .cons r t => by
    refine .cons ?_ (pd_pure (fun b hb => g b (List.mem_cons_of_mem _ hb)) t)
    have ga := g a List.mem_cons_self
    cases a <;> first | exact r | cases ga
theorem A1At.tkG {H H' : Hp} {v : V} {d : A1} (h : A1At H v d) (g : deedM d = true) (k : TK H H') : A1At H' v d := by
  obtain ⟨l, rfl, gl⟩ := deed_pure g
  obtain ⟨p, xs, e, h1, h2⟩ := h
  exact ⟨p, xs, e, k _ _ h1, pd_pure gl h2⟩
theorem ds_tkG {H H' : Hp} (k : TK H H') : ∀ {xs : List V} {l : List A1}, (∀ d ∈ l, deedM d = true) → Paired (A1At H) xs l → Paired (A1At H') xs l
  | _, _, _, .nil => .nil
  | _, _, g, .cons r t => .cons (r.tkG (g _ List.mem_cons_self) k) (ds_tkG k (fun b hb => g b (List.mem_cons_of_mem _ hb)) t)
theorem FAt.tk {H H' : Hp} {v : V} {f : FH} (h : FAt H v f) (k : TK H H') : FAt H' v f := by
  obtain ⟨p, q, ds, e, h1, h2, h3, h4⟩ := h
  exact ⟨p, q, ds, e, k _ _ h1, k _ _ h2, ds_tkG k h4 h3, h4⟩
theorem FAt.kp {H H' : Hp} {v : V} {f : FH} (h : FAt H v f) (k : Kp [] H H') : FAt H' v f := h.tk k.tk
def A2.nm : A2 → Str
  | .five (.str z) _ _ _ _ => z | _ => Str.empty
def DX.l : DX → List A1
  | .lst l => l | .tup l => l | .atom _ => []
def A2.toF : A2 → FH
  | .five (.str z) (.int r) (.str h) (.bl o) d => ⟨z, r, h, o, d.l⟩ | _ => ⟨Str.empty, 0, Str.empty, false, []⟩
def needM : List Str → List A2 → Nat
  | _, [] => 0
  | seen, h :: r => if seen.length = 40 ∨ handlerM h = false then 1 else if h.nm ∈ seen then 2 else needM (seen ++ [h.nm]) r
def jl : List Str := ["join", "leave"]
def A1.stran (names : List Str) : A1 → Bool
  | .tup [.str t, .str x] => decide (t ∈ jl) && !decide (x ∈ names) | _ => false
def FH.stran (names : List Str) (f : FH) : Bool := f.deeds.any (A1.stran names)
def needC (hs : List A2) : Nat := if needM [] hs = 0 then (if (hs.map A2.toF).any (FH.stran (hs.map A2.nm)) = true then 3 else 0) else needM [] hs
theorem shape_ok {d : A2} (h : handlerM d = true) : ∃ (z : Str) (r : Int) (he : Str) (o : Bool) (dx : DX), d = .five (.str z) (.int r) (.str he) (.bl o) dx ∧ isWord z = true ∧ dsOk dx.l = true ∧ ((∃ l, dx = .lst l) ∨ ∃ l, dx = .tup l) := by
  cases d with
  | lst => cases h
  | four => cases h
  | five n r h' o dx =>
    have h : (n.word && (r.whole && (o.isBl && (hearM h' && dx.ok)))) = true := h
    simp only [Bool.and_eq_true] at h
    obtain ⟨h1, h2, h3, h4, h5⟩ := h
    cases n <;> first | cases h1 | skip
    cases r <;> first | cases h2 | skip
    cases o <;> first | cases h3 | skip
    cases h' <;> first | cases h4 | skip
    cases dx with
    | atom a => cases h5
    | lst l => exact ⟨_, _, _, _, _, rfl, h1, h5, .inl ⟨l, rfl⟩⟩
    | tup l => exact ⟨_, _, _, _, _, rfl, h1, h5, .inr ⟨l, rfl⟩⟩
theorem deed_shape {d : A1} (h : deedM d = true) : ∃ (t : Str) (r : List A0), d = .tup (.str t :: r) ∧ (t ∈ jl → ∃ x, r = [.str x]) := by
  cases d with
  | atom a => cases h
  | tup l =>
    cases l with
    | nil => cases h
    | cons a r =>
      cases a with
      | str t =>
        refine ⟨t, r, rfl, fun hj => ?_⟩
        have n1 : t ≠ sHush := fun e => by rw [e] at hj; revert hj; decide +kernel
        have n2 : t ≠ sWait := fun e => by rw [e] at hj; revert hj; decide +kernel
        have h : (if t = sHush then decide (r.length = 0) else if t = sWait then waitM r else decide (t ∈ worded) && wordM r) = true := h
        rw [if_neg n1, if_neg n2, Bool.and_eq_true] at h
        have h := h.2
        cases r with
        | nil => cases h
        | cons a r =>
          cases r with
          | nil => cases a <;> first | cases h | exact ⟨_, rfl⟩
          | cons b r => cases h
      | int i => cases h
      | bl b => cases h
      | non => cases h
      | lst => cases h
      | dct => cases h
section
variable {P : Program} {w : World} {K : PySem.W.Frag} {mg : Str → Option Value} {base : Heap}
def nhC (T : Tx K mg) (n : Nat) : Value := if n = 1 then .ref T.c_NoHandler else if n = 2 then .ref T.c_Twice else .ref T.c_Stranger
def spx_needHandlers (T : Tx K mg) : Sp := fun vs H Q E => ∃ (a : Addr) (xs : List V) (hs : List A2), vs = [.ref a] ∧ H a = some (.lst xs) ∧ Paired (A2At H) xs hs ∧ hs.length ≤ 41 ∧ (needC hs ≠ 0 → ∀ H', Kp [] H H' → E (nhC T (needC hs)) none H') ∧
  (needC hs = 0 → ∀ p H' fs, H p = none → Kp [] H H' → H' p = some (.lst fs) → Paired (FAt H') fs (hs.map A2.toF) → Q (.ref p) H')
theorem okx_needHandlers (T : Tx K mg) : FnOk P w K mg base (L2.CX P w) 4 T.f_needHandlers T.d_needHandlers ["handlers"] (spx_needHandlers T) := by
  refine T.F_needHandlers.okX sc_needHandlers (by walk_at "len") (fun cdv A outer s H vs Q E hr h => ?_)
  obtain ⟨a, xs, hs, rfl, ha, hx, hl, kE, k⟩ := h
  refine ⟨_, (pss_cons (ps_set (i := 1) sc_needHandlers.nd rfl (Or.inl rfl) (pe_lst pa_nil))
    (pss_cons (ps_for (passes_of rfl) rfl (pi_list (pv 0)) (pg_name (i := 2) sc_needHandlers.nd rfl (Or.inl rfl))
        (pss_cons (ps_if (PW.pt (pw_or (pt_cmpR op_eq (pe_callB (kLen K) (by rfl) T.z_len PySem.boot_len (pa_cons (pv 1) pa_nil)) (pe_glob rfl T.g_MOST_HANDLERS T.r_MOST_HANDLERS) (nomark _)) (pw_or1 (pt_not (pt_val (pe_call (ok_isHandler T) (hr.mono (by decide)) rfl T.g_isHandler T.F_isHandler.kp T.b_isHandler .nil pass0 (pa_cons (pv 2) pa_nil)))))))
            (pss_one (ps_raise rfl (takes_of rfl rfl rfl rfl) (pmk_own PySem.F.excBase_ValueError T.x_NoHandler T.g_NoHandler T.k_NoHandler (raises_own T.sb_NoHandler T.ty_NoHandler) (by exact rfl))))
            pss_nil)
        (pss_cons (ps_if (pt_cmpR (kIn K) (pe_ix (kIxT K) (pv 2) pe_int (fun _ _ => rfl)) (pe_lc (own := [("other", 5)]) (g := gName 5) (tt := tYes) rfl sc_needHandlers.nd (pi_list (pv 1)) (blkOk_by (own := [("other", 5)]) (N := nm_needHandlers) (sc := defScope s_needHandlers) (by decide +kernel)) (fun _ _ _ _ _ => (pg_name (i := 5) sc_needHandlers.nd rfl (Or.inl rfl))) (fun _ _ _ _ _ => pts_nil) (fun _ _ _ _ _ => (pe_ix (kIxT K) (pv 5) pe_int (fun _ _ => rfl)))) rfl)
            (pss_one (ps_raise rfl (takes_of rfl rfl rfl rfl) (pmk_own PySem.F.excBase_ValueError T.x_Twice T.g_Twice T.k_Twice (raises_own T.sb_Twice T.ty_Twice) (by exact rfl))))
            pss_nil)
        (pss_one (ps_expr (pe_bm PySem.F.plainAttrs_list PySem.F.slot_list_append PySem.F.type_list_append mt_append (pv 1) (pa_cons (pe_tup (pa_cons (pe_ix (kIxT K) (pv 2) pe_int (fun _ _ => rfl)) (pa_cons (pe_ix (kIxT K) (pv 2) pe_int (fun _ _ => rfl)) (pa_cons (pe_ix (kIxT K) (pv 2) pe_int (fun _ _ => rfl)) (pa_cons (pe_ix (kIxT K) (pv 2) pe_int (fun _ _ => rfl)) (pa_cons (pe_callTy (kTuple K) (by rfl) T.z_tuple (by decide +kernel) (pa_cons (pe_ix (kIxT K) (pv 2) pe_int (fun _ _ => rfl)) pa_nil)) pa_nil)))))) pa_nil)))))))
    (pss_cons (ps_setLc (i := 3) (own := [("one", 2)]) (g := gName 2) (tt := tYes) rfl sc_needHandlers.nd rfl rfl (sw_true rfl rfl rfl (by decide +kernel)) (pi_list (pv 1)) (blkOk_by (own := [("one", 2)]) (N := nm_needHandlers) (sc := defScope s_needHandlers) (by decide +kernel)) (fun _ _ _ _ _ => (pg_name (i := 2) sc_needHandlers.nd rfl (Or.inl rfl))) (fun _ _ _ _ _ => pts_nil) (fun _ _ _ _ _ => (pe_ix (kIxT K) (pv 2) pe_int (fun _ _ => rfl))))
    (pss_cons (ps_for (passes_of rfl) rfl (pi_list (pv 1)) (pg_name (i := 2) sc_needHandlers.nd rfl (Or.inl rfl))
        (pss_one (ps_for (passes_of rfl) rfl (pi_tup (pe_ix (kIxT K) (pv 2) pe_int (fun _ _ => rfl))) (pg_name (i := 4) sc_needHandlers.nd rfl (Or.inl rfl))
            (pss_one (ps_if (PW.pt (pw_and (pt_cmpR (kIn K) (pe_ix (kIxT K) (pv 4) pe_int (fun _ _ => rfl)) (pe_tup (pa_cons pe_str (pa_cons pe_str pa_nil))) rfl) (pw_and1 (pt_cmpR (kNotIn K) (pe_ix (kIxT K) (pv 4) pe_int (fun _ _ => rfl)) (pv 3) rfl))))
                (pss_one (ps_raise rfl (takes_of rfl rfl rfl rfl) (pmk_own PySem.F.excBase_ValueError T.x_Stranger T.g_Stranger T.k_Stranger (raises_own T.sb_Stranger T.ty_Stranger) (by exact rfl))))
                pss_nil)))))
    (pss_one (ps_ret (pv 1))))))), ?_⟩
  have lf : ∀ (n : Nat) (H' : Hp), n ≠ 0 → needC hs = n → Kp [] H H' → E (nhC T n) none H' := fun n H' h0 e kp => by
    have q := kE (by rw [e]; exact h0) H' kp
    rw [e] at q
    exact q
  clear kE
  refine ⟨Nat.zero_le _, fun f hf => ?_⟩
  walk_at "nf"
  refine for_go ?_
  have k1 : Kp [] H (upd H f (.lst [])) := (Kp.refl _ _).new hf
  refine ⟨_, rfl, a, rfl, ⟨_, SqL.of (k1.keep0 ha)⟩, ?_⟩
  refine for_pd hx (fun pre σ H' => Kp [] H H' ∧ (∃ acc, H' f = some (.lst acc) ∧ Paired (FAt H') acc (pre.map A2.toF)) ∧ needM [] hs = needM (pre.map A2.nm) (hs.drop pre.length) ∧ pre.length ≤ 40 ∧ (∀ d ∈ pre, handlerM d = true) ∧ ∃ o, σ = [some (.ref a), some (.ref f), o, none, none, none])
    ⟨k1, ⟨_, upd_same, .nil⟩, rfl, by simp, by simp, _, rfl⟩ (fun pre σ H' q => SqL.of (q.1.keep0 ha)) ?_ ?_
  · rintro pre v d post σ H' ed r ⟨kp, ⟨acc, hf1, hac⟩, en, lp, hok, o, rfl⟩
    have edrop : hs.drop pre.length = d :: post := by rw [ed, List.drop_left]
    have edrop2 : hs.drop (pre ++ [d]).length = post := by
      have e1 : hs = (pre ++ [d]) ++ post := by rw [ed]; simp
      rw [e1, List.drop_left]
    have la : acc.length = pre.length := by rw [Pd.len hac, List.length_map]
    rw [edrop] at en
    have en0 : needM [] hs = (if (pre.map A2.nm).length = 40 ∨ handlerM d = false then 1 else if d.nm ∈ pre.map A2.nm then 2 else needM (pre.map A2.nm ++ [d.nm]) post) := en
    rw [List.length_map] at en0
    clear en
    have code : ∀ n, n ≠ 0 → needM [] hs = n → needC hs = n := fun n h0 e => by
      unfold needC
      rw [if_neg (by rw [e]; exact h0), e]
    refine ⟨_, rfl, f, _, rfl, .inl (SqL.of hf1), rfl, _, rfl, ?_⟩
    by_cases q40 : pre.length = 40
    · refine iteT' (decide_eq_true (by rw [la, q40]; rfl)) ?_
      exact lf 1 _ (by decide) (code 1 (by decide) (by rw [en0, if_pos (.inl q40)])) kp
    refine iteF' (decide_eq_false fun q => q40 (by have := V.int.inj q; omega)) ⟨_, rfl, v, d, rfl, r.kp kp, fun H1 q1 => ⟨_, rfl, ?_⟩⟩
    have kp1 := kp.trans q1
    cases hd : handlerM d with
    | false =>
      refine iteT ?_
      exact lf 1 _ (by decide) (code 1 (by decide) (by rw [en0, if_pos (.inr hd)])) kp1
    | true =>
    refine iteF ?_
    obtain ⟨z, rk, he, on, dx, ee, hw, hds, hk⟩ := shape_ok hd
    subst ee
    obtain ⟨p, v1, v2, v3, v4, v5, rfl, hp, ⟨rfl, hzl⟩, rfl, ⟨rfl, _⟩, rfl, h5⟩ := id r
    rw [hd] at en0
    have en : needM [] hs = (if z ∈ pre.map A2.nm then 2 else needM (pre.map A2.nm ++ [z]) post) := by
      rw [en0, if_neg (by simpa using q40)]
      rfl
    clear en0
    refine ⟨_, rfl, p, _, _, _, rfl, rfl, SqT.of (kp1.tk _ _ hp), at0, ?_⟩
    walk_at "nf"
    refine lc_go ?_
    refine ⟨_, rfl, f, rfl, ⟨_, SqL.of (q1.keep0 hf1)⟩, ?_⟩
    refine lc_mp (Pd.mono (fun _ _ z => z.kp q1) hac) (by rw [List.length_map]; exact Nat.lt_of_le_of_lt lp (by decide)) (SqL.of (q1.keep0 hf1)) (fun h => V.str h.name) (fun x => rfl) ?_ ?_
    · rintro v d H' Q' hd r kp q
      obtain ⟨p, q1, ds, rfl, hp, hq, hds, _⟩ := r
      exact ⟨_, rfl, p, _, _, _, rfl, rfl, SqT.of (kp.tk _ _ hp), at0, q _ (Kp.refl _ _)⟩
    intro D H2 hD q2 hD2
    have e0 : (pre.map A2.toF).map (fun h => V.str h.name) = (pre.map A2.nm).map V.str := by
      rw [List.map_map, List.map_map]
      refine List.map_congr_left fun g hg => ?_
      obtain ⟨_, _, _, _, _, e, _⟩ := shape_ok (hok g hg)
      rw [e]
      rfl
    rw [e0] at hD2
    have k12 := q1.trans q2
    have k2 := kp.trans k12
    refine ⟨D, _, rfl, .inl (SqL.of hD2), rfl, flat_strs _, _, rfl, ?_⟩
    rw [inV_strs]
    by_cases nn : z ∈ pre.map A2.nm
    · refine iteT' (decide_eq_true nn) ?_
      exact lf 2 _ (by decide) (code 2 (by decide) (by rw [en, if_pos nn])) k2
    refine iteF' (decide_eq_false nn) ?_
    rw [if_neg nn] at en
    have hp2 := SqT.of (K := K) (k2.tk _ _ hp)
    refine ⟨_, rfl, .inl ⟨rfl, _, SqL.of (k12.keep0 hf1)⟩, ?_⟩
    have lp40 : pre.length < 40 := by omega
    have hf2 := k12.keep0 hf1
    rcases hk with ⟨l1, rfl⟩ | ⟨l1, rfl⟩
    · obtain ⟨q, ds, rfl, hq, pds⟩ := h5
      refine ⟨_, rfl, p, _, _, _, rfl, rfl, hp2, at0, _, rfl, p, _, _, _, rfl, rfl, hp2, at1, _, rfl, p, _, _, _, rfl, rfl, hp2, at2, _, rfl, p, _, _, _, rfl, rfl, hp2, at3, _, rfl, p, _, _, _, rfl, rfl, hp2, at4, q, ds, rfl, ?_⟩
      refine .inl ⟨SqL.of (k2.keep0 hq), fun l hl' => ?_⟩
      · skip
        have k23 : Kp [] H2 (upd H2 l (.tup ds)) := (Kp.refl _ _).new hl'
        have hl2 : upd H2 l (.tup ds) l = some (.tup ds) := upd_same
        generalize upd H2 l (.tup ds) = H3 at k23 hl2 ⊢
        refine ⟨(by show 5 ≤ sizeLine; decide), fun t ht => ?_⟩
        have k4 : Kp [] H3 (upd H3 t (.tup [.str z, .int rk, .str he, .bl on, .ref l])) := (Kp.refl _ _).new ht
        have ht2 : upd H3 t (.tup [.str z, .int rk, .str he, .bl on, .ref l]) t = some (.tup [.str z, .int rk, .str he, .bl on, .ref l]) := upd_same
        generalize upd H3 t (.tup [.str z, .int rk, .str he, .bl on, .ref l]) = H4 at k4 ht2 ⊢
        have k24 := k23.trans k4
        have hf4 := k24.keep0 hf2
        refine ⟨f, _, _, rfl, rfl, hf4, small1000 (by omega), ?_⟩
        have kk := (Kp.refl [f] H4).lst (o := .lst (acc ++ [V.ref t])) (.inl (List.mem_singleton.mpr rfl)) hf4
        have kz : Kp [] H (upd H4 f (.lst (acc ++ [V.ref t]))) := (k2.trans k24).lst (.inr hf) hf4
        have gds : ∀ d ∈ l1, deedM d = true := by
          have hds : (decide (l1.length ≤ 30) && l1.all deedM) = true := hds
          rw [Bool.and_eq_true] at hds
          exact List.all_eq_true.mp hds.2
        refine ⟨kz, ⟨_, upd_same, ?_⟩, by rw [edrop2, List.map_append]; exact en, by rw [List.length_append]; show pre.length + 1 ≤ 40; omega, fun g hg => ?_, _, rfl⟩
        · rw [List.map_append]
          refine Pd.append (Pd.mono (fun _ _ z => (z.tk (k12.trans k24).tk).tk kk.tk) hac) (.cons ⟨t, l, ds, rfl, kk.tk _ _ ht2, kk.tk _ _ (k4.tk _ _ hl2), ds_tkG kk.tk gds (Pd.mono (fun _ _ z => z.kp (k2.trans k24)) pds), gds⟩ .nil)
        · rcases List.mem_append.mp hg with q | q
          · exact hok g q
          · rw [List.mem_singleton.mp q]; exact hd
    · obtain ⟨q, ds, rfl, hq, pds⟩ := h5
      refine ⟨_, rfl, p, _, _, _, rfl, rfl, hp2, at0, _, rfl, p, _, _, _, rfl, rfl, hp2, at1, _, rfl, p, _, _, _, rfl, rfl, hp2, at2, _, rfl, p, _, _, _, rfl, rfl, hp2, at3, _, rfl, p, _, _, _, rfl, rfl, hp2, at4, q, ds, rfl, ?_⟩
      refine .inr ⟨SqT.of (k2.keep0 hq), ?_⟩
      · skip
        have k23 : Kp [] H2 H2 := Kp.refl _ _
        have hl2 : H2 q = some (.tup ds) := k2.keep0 hq
        refine ⟨(by show 5 ≤ sizeLine; decide), fun t ht => ?_⟩
        have k4 : Kp [] H2 (upd H2 t (.tup [.str z, .int rk, .str he, .bl on, .ref q])) := (Kp.refl _ _).new ht
        have ht2 : upd H2 t (.tup [.str z, .int rk, .str he, .bl on, .ref q]) t = some (.tup [.str z, .int rk, .str he, .bl on, .ref q]) := upd_same
        generalize upd H2 t (.tup [.str z, .int rk, .str he, .bl on, .ref q]) = H4 at k4 ht2 ⊢
        have k24 := k23.trans k4
        have hf4 := k24.keep0 hf2
        refine ⟨f, _, _, rfl, rfl, hf4, small1000 (by omega), ?_⟩
        have kk := (Kp.refl [f] H4).lst (o := .lst (acc ++ [V.ref t])) (.inl (List.mem_singleton.mpr rfl)) hf4
        have kz : Kp [] H (upd H4 f (.lst (acc ++ [V.ref t]))) := (k2.trans k24).lst (.inr hf) hf4
        have gds : ∀ d ∈ l1, deedM d = true := by
          have hds : (decide (l1.length ≤ 30) && l1.all deedM) = true := hds
          rw [Bool.and_eq_true] at hds
          exact List.all_eq_true.mp hds.2
        refine ⟨kz, ⟨_, upd_same, ?_⟩, by rw [edrop2, List.map_append]; exact en, by rw [List.length_append]; show pre.length + 1 ≤ 40; omega, fun g hg => ?_, _, rfl⟩
        · rw [List.map_append]
          refine Pd.append (Pd.mono (fun _ _ z => (z.tk (k12.trans k24).tk).tk kk.tk) hac) (.cons ⟨t, q, ds, rfl, kk.tk _ _ ht2, kk.tk _ _ (k4.tk _ _ hl2), ds_tkG kk.tk gds (Pd.mono (fun _ _ z => z.kp (k2.trans k24)) pds), gds⟩ .nil)
        · rcases List.mem_append.mp hg with q | q
          · exact hok g q
          · rw [List.mem_singleton.mp q]; exact hd
  · rintro σ H' ⟨kp, ⟨acc, hf1, hac⟩, en, lp, hok, o, rfl⟩
    rw [List.drop_length] at en
    have en : needM [] hs = 0 := en
    have code : needC hs = if (hs.map A2.toF).any (FH.stran (hs.map A2.nm)) = true then 3 else 0 := by unfold needC; rw [if_pos en]
    have e0 : (hs.map A2.toF).map (fun h => V.str h.name) = (hs.map A2.nm).map V.str := by
      rw [List.map_map, List.map_map]
      refine List.map_congr_left fun g hg => ?_
      obtain ⟨_, _, _, _, _, e, _⟩ := shape_ok (hok g hg)
      rw [e]
      rfl
    walk_at "nf"
    refine lc_go ?_
    refine ⟨_, rfl, f, rfl, ⟨_, SqL.of hf1⟩, ?_⟩
    refine lc_mp hac (by rw [List.length_map]; exact Nat.lt_of_le_of_lt hl (by decide)) (SqL.of hf1) (fun h => V.str h.name) (fun x => rfl) ?_ ?_
    · rintro v d H' Q' hd r kp q
      obtain ⟨p, q1, ds, rfl, hp, hq, hds, _⟩ := r
      exact ⟨_, rfl, p, _, _, _, rfl, rfl, SqT.of (kp.tk _ _ hp), at0, q _ (Kp.refl _ _)⟩
    intro N H2 hN q2 hN2
    rw [e0] at hN2
    refine for_go ?_
    refine ⟨_, rfl, f, rfl, ⟨_, SqL.of (q2.keep0 hf1)⟩, ?_⟩
    refine for_pd hac (fun pre σ H5 => Kp [] H' H5 ∧ H5 N = some (.lst ((hs.map A2.nm).map V.str)) ∧ (∀ g ∈ pre, g.stran (hs.map A2.nm) = false) ∧ ∃ o o', σ = [some (.ref a), some (.ref f), o, some (.ref N), o', none]) ⟨q2, hN2, by simp, _, _, rfl⟩ (fun pre σ H5 q => SqL.of (q.1.keep0 hf1)) ?_ ?_
    · rintro pre v d post σ H5 ed r ⟨k5, hN5, hpre, o, o', rfl⟩
      obtain ⟨p, q, ds, rfl, hp, hq, hds, hg⟩ := r
      refine for_go ?_
      refine ⟨_, rfl, p, _, _, _, rfl, rfl, SqT.of (k5.tk _ _ hp), at4, q, rfl, ⟨_, SqT.of (k5.tk _ _ hq)⟩, ?_⟩
      refine for_pdT hds (fun pre σ H6 => Kp [] H5 H6 ∧ (∀ x ∈ pre, A1.stran (hs.map A2.nm) x = false) ∧ ∃ o', σ = [some (.ref a), some (.ref f), some (.ref p), some (.ref N), o', none]) ⟨Kp.refl _ _, by simp, _, rfl⟩ (fun pre σ H6 q6 => SqT.of ((k5.trans q6.1).tk _ _ hq)) ?_ ?_
      · rintro pre6 v6 d6 post6 σ H6 ed6 r6 ⟨k6, h6, o6, rfl⟩
        have kp6 := kp.trans (k5.trans k6)
        obtain ⟨t, r, ee, hj⟩ := deed_shape (hg d6 (by rw [ed6]; simp))
        subst ee
        obtain ⟨p5, xs5, rfl, hp5, px⟩ := r6.kp (k5.trans k6)
        cases px with
        | cons hx px =>
        obtain ⟨rfl, _⟩ := hx
        have hN6 := k6.keep0 hN5
        refine ⟨_, rfl, p5, _, _, _, rfl, rfl, SqT.of hp5, at0, (by show 2 ≤ sizeLine; decide), fun t1 ht => ?_⟩
        have j1 := (Kp.refl [] H6).new (o := .tup [.str "join", .str "leave"]) ht
        have x1 : upd H6 t1 (.tup [.str "join", .str "leave"]) t1 = some (.tup [.str "join", .str "leave"]) := upd_same
        generalize upd H6 t1 (.tup [.str "join", .str "leave"]) = H7 at j1 x1 ⊢
        refine ⟨t1, _, rfl, .inr (SqT.of x1), rfl, rfl, _, rfl, ?_⟩
        have ej : inV (V.str t) [V.str "join", .str "leave"] = decide (t ∈ jl) := inV_strs t jl
        rw [if_neg Bool.false_ne_true, ej]
        have k57 := k6.trans j1
        have next : A1.stran (hs.map A2.nm) (.tup (.str t :: r)) = false → ∀ x ∈ pre6 ++ [.tup (.str t :: r)], A1.stran (hs.map A2.nm) x = false := fun e x hx => by
          rcases List.mem_append.mp hx with q | q
          · exact h6 x q
          · rw [List.mem_singleton.mp q]; exact e
        by_cases hjl : t ∈ jl
        · obtain ⟨x, rfl⟩ := hj hjl
          cases px with
          | cons hx px =>
          obtain ⟨rfl, _⟩ := hx
          refine iteT' (decide_eq_true hjl) ⟨_, rfl, p5, _, _, _, rfl, rfl, SqT.of (j1.tk _ _ hp5), at1, _, rfl, N, _, rfl, .inl (SqL.of (j1.keep0 hN6)), rfl, flat_strs _, _, rfl, ?_⟩
          rw [inV_strs]
          have es : A1.stran (hs.map A2.nm) (.tup [.str t, .str x]) = !decide (x ∈ hs.map A2.nm) := by
            show (decide (t ∈ jl) && !decide (x ∈ hs.map A2.nm)) = _
            rw [decide_eq_true hjl, Bool.true_and]
          by_cases hxn : x ∈ hs.map A2.nm
          · rw [decide_eq_true hxn] at es ⊢
            exact iteF' rfl ⟨k57, next es, _, rfl⟩
          · rw [decide_eq_false hxn] at es ⊢
            refine iteT' rfl ?_
            refine lf 3 _ (by decide) ?_ (kp6.trans j1)
            rw [code, if_pos]
            refine List.any_eq_true.mpr ⟨d, by rw [ed]; simp, ?_⟩
            exact List.any_eq_true.mpr ⟨_, by rw [ed6]; simp, es⟩
        · refine iteF' (decide_eq_false hjl) (iteF ⟨k57, next ?_, _, rfl⟩)
          cases r with
          | nil => rfl
          | cons a r =>
            cases r with
            | nil =>
              cases a with
              | str x =>
                show (decide (t ∈ jl) && _) = false
                rw [decide_eq_false hjl, Bool.false_and]
              | _ => rfl
            | cons b r => cases a <;> rfl
      · rintro σ H6 ⟨k6, h6, o6, rfl⟩
        refine ⟨k5.trans k6, k6.keep0 hN5, fun g hg => ?_, _, _, rfl⟩
        rcases List.mem_append.mp hg with q | q
        · exact hpre g q
        · rw [List.mem_singleton.mp q]
          unfold FH.stran
          rw [List.any_eq_false]
          exact fun x hx => by rw [h6 x hx]; exact Bool.false_ne_true
    · rintro σ H5 ⟨k5, hN5, hall, o, o', rfl⟩
      have c0 : needC hs = 0 := by
        rw [code, if_neg]
        rw [Bool.not_eq_true, List.any_eq_false]
        exact fun g hg => by rw [hall g hg]; exact Bool.false_ne_true
      exact ⟨_, rfl, k c0 f H5 acc hf (kp.trans k5) (k5.keep0 hf1) (Pd.mono (fun _ _ z => z.kp k5) hac)⟩
def spt_needHandlers : Sp := fun vs H Q _ => ∃ (a : Addr) (xs : List V) (hs : List A2), vs = [.ref a] ∧ H a = some (.lst xs) ∧ Paired (A2At H) xs hs ∧ hs.length ≤ 41 ∧ needC hs = 0 ∧
  ∀ p H' fs, H p = none → Kp [] H H' → H' p = some (.lst fs) → Paired (FAt H') fs (hs.map A2.toF) → Q (.ref p) H'
theorem okt_needHandlers (T : Tx K mg) : FnOk P w K mg base CX0 4 T.f_needHandlers T.d_needHandlers ["handlers"] (spt_needHandlers) := by
  refine T.F_needHandlers.ok sc_needHandlers (by walk_at "len") (fun cdv A outer s H vs Q E hr h => ?_)
  obtain ⟨a, xs, hs, rfl, ha, hx, hl, hz, k⟩ := h
  refine ⟨_, (pss_cons (ps_set (i := 1) sc_needHandlers.nd rfl (Or.inl rfl) (pe_lst pa_nil))
    (pss_cons (ps_for PassesOwn.never rfl (pi_list (pv 0)) (pg_name (i := 2) sc_needHandlers.nd rfl (Or.inl rfl))
        (pss_cons (ps_if (PW.pt (pw_or (pt_cmpR op_eq (pe_callB (kLen K) (by rfl) T.z_len PySem.boot_len (pa_cons (pv 1) pa_nil)) (pe_glob rfl T.g_MOST_HANDLERS T.r_MOST_HANDLERS) (nomark _)) (pw_or1 (pt_not (pt_val (pe_call (ok_isHandler T) (hr.mono (by decide)) rfl T.g_isHandler T.F_isHandler.kp T.b_isHandler .nil pass0 (pa_cons (pv 2) pa_nil)))))))
            (pss_one ps_never)
            pss_nil)
        (pss_cons (ps_if (pt_cmpR (kIn K) (pe_ix (kIxT K) (pv 2) pe_int (fun _ _ => rfl)) (pe_lc (own := [("other", 5)]) (g := gName 5) (tt := tYes) rfl sc_needHandlers.nd (pi_list (pv 1)) (blkOk_by (own := [("other", 5)]) (N := nm_needHandlers) (sc := defScope s_needHandlers) (by decide +kernel)) (fun _ _ _ _ _ => (pg_name (i := 5) sc_needHandlers.nd rfl (Or.inl rfl))) (fun _ _ _ _ _ => pts_nil) (fun _ _ _ _ _ => (pe_ix (kIxT K) (pv 5) pe_int (fun _ _ => rfl)))) rfl)
            (pss_one ps_never)
            pss_nil)
        (pss_one (ps_expr (pe_bm PySem.F.plainAttrs_list PySem.F.slot_list_append PySem.F.type_list_append mt_append (pv 1) (pa_cons (pe_tup (pa_cons (pe_ix (kIxT K) (pv 2) pe_int (fun _ _ => rfl)) (pa_cons (pe_ix (kIxT K) (pv 2) pe_int (fun _ _ => rfl)) (pa_cons (pe_ix (kIxT K) (pv 2) pe_int (fun _ _ => rfl)) (pa_cons (pe_ix (kIxT K) (pv 2) pe_int (fun _ _ => rfl)) (pa_cons (pe_callTy (kTuple K) (by rfl) T.z_tuple (by decide +kernel) (pa_cons (pe_ix (kIxT K) (pv 2) pe_int (fun _ _ => rfl)) pa_nil)) pa_nil)))))) pa_nil)))))))
    (pss_cons (ps_setLc (i := 3) (own := [("one", 2)]) (g := gName 2) (tt := tYes) rfl sc_needHandlers.nd rfl rfl (sw_true rfl rfl rfl (by decide +kernel)) (pi_list (pv 1)) (blkOk_by (own := [("one", 2)]) (N := nm_needHandlers) (sc := defScope s_needHandlers) (by decide +kernel)) (fun _ _ _ _ _ => (pg_name (i := 2) sc_needHandlers.nd rfl (Or.inl rfl))) (fun _ _ _ _ _ => pts_nil) (fun _ _ _ _ _ => (pe_ix (kIxT K) (pv 2) pe_int (fun _ _ => rfl))))
    (pss_cons (ps_for PassesOwn.never rfl (pi_list (pv 1)) (pg_name (i := 2) sc_needHandlers.nd rfl (Or.inl rfl))
        (pss_one (ps_for PassesOwn.never rfl (pi_tup (pe_ix (kIxT K) (pv 2) pe_int (fun _ _ => rfl))) (pg_name (i := 4) sc_needHandlers.nd rfl (Or.inl rfl))
            (pss_one (ps_if (PW.pt (pw_and (pt_cmpR (kIn K) (pe_ix (kIxT K) (pv 4) pe_int (fun _ _ => rfl)) (pe_tup (pa_cons pe_str (pa_cons pe_str pa_nil))) rfl) (pw_and1 (pt_cmpR (kNotIn K) (pe_ix (kIxT K) (pv 4) pe_int (fun _ _ => rfl)) (pv 3) rfl))))
                (pss_one ps_never)
                pss_nil)))))
    (pss_one (ps_ret (pv 1))))))), ?_⟩
  have lf : ∀ (n : Nat) (H' : Hp), n ≠ 0 → needC hs = n → Kp [] H H' → False := fun n _ h0 e _ => h0 (e.symm.trans hz)
  have k : needC hs = 0 → ∀ p H' fs, H p = none → Kp [] H H' → H' p = some (.lst fs) → Paired (FAt H') fs (hs.map A2.toF) → Q (.ref p) H' := fun _ => k
  refine ⟨Nat.zero_le _, fun f hf => ?_⟩
  walk_at "nf"
  refine for_go ?_
  have k1 : Kp [] H (upd H f (.lst [])) := (Kp.refl _ _).new hf
  refine ⟨_, rfl, a, rfl, ⟨_, SqL.of (k1.keep0 ha)⟩, ?_⟩
  refine for_pd hx (fun pre σ H' => Kp [] H H' ∧ (∃ acc, H' f = some (.lst acc) ∧ Paired (FAt H') acc (pre.map A2.toF)) ∧ needM [] hs = needM (pre.map A2.nm) (hs.drop pre.length) ∧ pre.length ≤ 40 ∧ (∀ d ∈ pre, handlerM d = true) ∧ ∃ o, σ = [some (.ref a), some (.ref f), o, none, none, none])
    ⟨k1, ⟨_, upd_same, .nil⟩, rfl, by simp, by simp, _, rfl⟩ (fun pre σ H' q => SqL.of (q.1.keep0 ha)) ?_ ?_
  · rintro pre v d post σ H' ed r ⟨kp, ⟨acc, hf1, hac⟩, en, lp, hok, o, rfl⟩
    have edrop : hs.drop pre.length = d :: post := by rw [ed, List.drop_left]
    have edrop2 : hs.drop (pre ++ [d]).length = post := by
      have e1 : hs = (pre ++ [d]) ++ post := by rw [ed]; simp
      rw [e1, List.drop_left]
    have la : acc.length = pre.length := by rw [Pd.len hac, List.length_map]
    rw [edrop] at en
    have en0 : needM [] hs = (if (pre.map A2.nm).length = 40 ∨ handlerM d = false then 1 else if d.nm ∈ pre.map A2.nm then 2 else needM (pre.map A2.nm ++ [d.nm]) post) := en
    rw [List.length_map] at en0
    clear en
    have code : ∀ n, n ≠ 0 → needM [] hs = n → needC hs = n := fun n h0 e => by
      unfold needC
      rw [if_neg (by rw [e]; exact h0), e]
    refine ⟨_, rfl, f, _, rfl, .inl (SqL.of hf1), rfl, _, rfl, ?_⟩
    by_cases q40 : pre.length = 40
    · refine iteT' (decide_eq_true (by rw [la, q40]; rfl)) ?_
      exact lf 1 _ (by decide) (code 1 (by decide) (by rw [en0, if_pos (.inl q40)])) kp
    refine iteF' (decide_eq_false fun q => q40 (by have := V.int.inj q; omega)) ⟨_, rfl, v, d, rfl, r.kp kp, fun H1 q1 => ⟨_, rfl, ?_⟩⟩
    have kp1 := kp.trans q1
    cases hd : handlerM d with
    | false =>
      refine iteT ?_
      exact lf 1 _ (by decide) (code 1 (by decide) (by rw [en0, if_pos (.inr hd)])) kp1
    | true =>
    refine iteF ?_
    obtain ⟨z, rk, he, on, dx, ee, hw, hds, hk⟩ := shape_ok hd
    subst ee
    obtain ⟨p, v1, v2, v3, v4, v5, rfl, hp, ⟨rfl, hzl⟩, rfl, ⟨rfl, _⟩, rfl, h5⟩ := id r
    rw [hd] at en0
    have en : needM [] hs = (if z ∈ pre.map A2.nm then 2 else needM (pre.map A2.nm ++ [z]) post) := by
      rw [en0, if_neg (by simpa using q40)]
      rfl
    clear en0
    refine ⟨_, rfl, p, _, _, _, rfl, rfl, SqT.of (kp1.tk _ _ hp), at0, ?_⟩
    walk_at "nf"
    refine lc_go ?_
    refine ⟨_, rfl, f, rfl, ⟨_, SqL.of (q1.keep0 hf1)⟩, ?_⟩
    refine lc_mp (Pd.mono (fun _ _ z => z.kp q1) hac) (by rw [List.length_map]; exact Nat.lt_of_le_of_lt lp (by decide)) (SqL.of (q1.keep0 hf1)) (fun h => V.str h.name) (fun x => rfl) ?_ ?_
    · rintro v d H' Q' hd r kp q
      obtain ⟨p, q1, ds, rfl, hp, hq, hds, _⟩ := r
      exact ⟨_, rfl, p, _, _, _, rfl, rfl, SqT.of (kp.tk _ _ hp), at0, q _ (Kp.refl _ _)⟩
    intro D H2 hD q2 hD2
    have e0 : (pre.map A2.toF).map (fun h => V.str h.name) = (pre.map A2.nm).map V.str := by
      rw [List.map_map, List.map_map]
      refine List.map_congr_left fun g hg => ?_
      obtain ⟨_, _, _, _, _, e, _⟩ := shape_ok (hok g hg)
      rw [e]
      rfl
    rw [e0] at hD2
    have k12 := q1.trans q2
    have k2 := kp.trans k12
    refine ⟨D, _, rfl, .inl (SqL.of hD2), rfl, flat_strs _, _, rfl, ?_⟩
    rw [inV_strs]
    by_cases nn : z ∈ pre.map A2.nm
    · refine iteT' (decide_eq_true nn) ?_
      exact lf 2 _ (by decide) (code 2 (by decide) (by rw [en, if_pos nn])) k2
    refine iteF' (decide_eq_false nn) ?_
    rw [if_neg nn] at en
    have hp2 := SqT.of (K := K) (k2.tk _ _ hp)
    refine ⟨_, rfl, .inl ⟨rfl, _, SqL.of (k12.keep0 hf1)⟩, ?_⟩
    have lp40 : pre.length < 40 := by omega
    have hf2 := k12.keep0 hf1
    rcases hk with ⟨l1, rfl⟩ | ⟨l1, rfl⟩
    · obtain ⟨q, ds, rfl, hq, pds⟩ := h5
      refine ⟨_, rfl, p, _, _, _, rfl, rfl, hp2, at0, _, rfl, p, _, _, _, rfl, rfl, hp2, at1, _, rfl, p, _, _, _, rfl, rfl, hp2, at2, _, rfl, p, _, _, _, rfl, rfl, hp2, at3, _, rfl, p, _, _, _, rfl, rfl, hp2, at4, q, ds, rfl, ?_⟩
      refine .inl ⟨SqL.of (k2.keep0 hq), fun l hl' => ?_⟩
      · skip
        have k23 : Kp [] H2 (upd H2 l (.tup ds)) := (Kp.refl _ _).new hl'
        have hl2 : upd H2 l (.tup ds) l = some (.tup ds) := upd_same
        generalize upd H2 l (.tup ds) = H3 at k23 hl2 ⊢
        refine ⟨(by show 5 ≤ sizeLine; decide), fun t ht => ?_⟩
        have k4 : Kp [] H3 (upd H3 t (.tup [.str z, .int rk, .str he, .bl on, .ref l])) := (Kp.refl _ _).new ht
        have ht2 : upd H3 t (.tup [.str z, .int rk, .str he, .bl on, .ref l]) t = some (.tup [.str z, .int rk, .str he, .bl on, .ref l]) := upd_same
        generalize upd H3 t (.tup [.str z, .int rk, .str he, .bl on, .ref l]) = H4 at k4 ht2 ⊢
        have k24 := k23.trans k4
        have hf4 := k24.keep0 hf2
        refine ⟨f, _, _, rfl, rfl, hf4, small1000 (by omega), ?_⟩
        have kk := (Kp.refl [f] H4).lst (o := .lst (acc ++ [V.ref t])) (.inl (List.mem_singleton.mpr rfl)) hf4
        have kz : Kp [] H (upd H4 f (.lst (acc ++ [V.ref t]))) := (k2.trans k24).lst (.inr hf) hf4
        have gds : ∀ d ∈ l1, deedM d = true := by
          have hds : (decide (l1.length ≤ 30) && l1.all deedM) = true := hds
          rw [Bool.and_eq_true] at hds
          exact List.all_eq_true.mp hds.2
        refine ⟨kz, ⟨_, upd_same, ?_⟩, by rw [edrop2, List.map_append]; exact en, by rw [List.length_append]; show pre.length + 1 ≤ 40; omega, fun g hg => ?_, _, rfl⟩
        · rw [List.map_append]
          refine Pd.append (Pd.mono (fun _ _ z => (z.tk (k12.trans k24).tk).tk kk.tk) hac) (.cons ⟨t, l, ds, rfl, kk.tk _ _ ht2, kk.tk _ _ (k4.tk _ _ hl2), ds_tkG kk.tk gds (Pd.mono (fun _ _ z => z.kp (k2.trans k24)) pds), gds⟩ .nil)
        · rcases List.mem_append.mp hg with q | q
          · exact hok g q
          · rw [List.mem_singleton.mp q]; exact hd
    · obtain ⟨q, ds, rfl, hq, pds⟩ := h5
      refine ⟨_, rfl, p, _, _, _, rfl, rfl, hp2, at0, _, rfl, p, _, _, _, rfl, rfl, hp2, at1, _, rfl, p, _, _, _, rfl, rfl, hp2, at2, _, rfl, p, _, _, _, rfl, rfl, hp2, at3, _, rfl, p, _, _, _, rfl, rfl, hp2, at4, q, ds, rfl, ?_⟩
      refine .inr ⟨SqT.of (k2.keep0 hq), ?_⟩
      · skip
        have k23 : Kp [] H2 H2 := Kp.refl _ _
        have hl2 : H2 q = some (.tup ds) := k2.keep0 hq
        refine ⟨(by show 5 ≤ sizeLine; decide), fun t ht => ?_⟩
        have k4 : Kp [] H2 (upd H2 t (.tup [.str z, .int rk, .str he, .bl on, .ref q])) := (Kp.refl _ _).new ht
        have ht2 : upd H2 t (.tup [.str z, .int rk, .str he, .bl on, .ref q]) t = some (.tup [.str z, .int rk, .str he, .bl on, .ref q]) := upd_same
        generalize upd H2 t (.tup [.str z, .int rk, .str he, .bl on, .ref q]) = H4 at k4 ht2 ⊢
        have k24 := k23.trans k4
        have hf4 := k24.keep0 hf2
        refine ⟨f, _, _, rfl, rfl, hf4, small1000 (by omega), ?_⟩
        have kk := (Kp.refl [f] H4).lst (o := .lst (acc ++ [V.ref t])) (.inl (List.mem_singleton.mpr rfl)) hf4
        have kz : Kp [] H (upd H4 f (.lst (acc ++ [V.ref t]))) := (k2.trans k24).lst (.inr hf) hf4
        have gds : ∀ d ∈ l1, deedM d = true := by
          have hds : (decide (l1.length ≤ 30) && l1.all deedM) = true := hds
          rw [Bool.and_eq_true] at hds
          exact List.all_eq_true.mp hds.2
        refine ⟨kz, ⟨_, upd_same, ?_⟩, by rw [edrop2, List.map_append]; exact en, by rw [List.length_append]; show pre.length + 1 ≤ 40; omega, fun g hg => ?_, _, rfl⟩
        · rw [List.map_append]
          refine Pd.append (Pd.mono (fun _ _ z => (z.tk (k12.trans k24).tk).tk kk.tk) hac) (.cons ⟨t, q, ds, rfl, kk.tk _ _ ht2, kk.tk _ _ (k4.tk _ _ hl2), ds_tkG kk.tk gds (Pd.mono (fun _ _ z => z.kp (k2.trans k24)) pds), gds⟩ .nil)
        · rcases List.mem_append.mp hg with q | q
          · exact hok g q
          · rw [List.mem_singleton.mp q]; exact hd
  · rintro σ H' ⟨kp, ⟨acc, hf1, hac⟩, en, lp, hok, o, rfl⟩
    rw [List.drop_length] at en
    have en : needM [] hs = 0 := en
    have code : needC hs = if (hs.map A2.toF).any (FH.stran (hs.map A2.nm)) = true then 3 else 0 := by unfold needC; rw [if_pos en]
    have e0 : (hs.map A2.toF).map (fun h => V.str h.name) = (hs.map A2.nm).map V.str := by
      rw [List.map_map, List.map_map]
      refine List.map_congr_left fun g hg => ?_
      obtain ⟨_, _, _, _, _, e, _⟩ := shape_ok (hok g hg)
      rw [e]
      rfl
    walk_at "nf"
    refine lc_go ?_
    refine ⟨_, rfl, f, rfl, ⟨_, SqL.of hf1⟩, ?_⟩
    refine lc_mp hac (by rw [List.length_map]; exact Nat.lt_of_le_of_lt hl (by decide)) (SqL.of hf1) (fun h => V.str h.name) (fun x => rfl) ?_ ?_
    · rintro v d H' Q' hd r kp q
      obtain ⟨p, q1, ds, rfl, hp, hq, hds, _⟩ := r
      exact ⟨_, rfl, p, _, _, _, rfl, rfl, SqT.of (kp.tk _ _ hp), at0, q _ (Kp.refl _ _)⟩
    intro N H2 hN q2 hN2
    rw [e0] at hN2
    refine for_go ?_
    refine ⟨_, rfl, f, rfl, ⟨_, SqL.of (q2.keep0 hf1)⟩, ?_⟩
    refine for_pd hac (fun pre σ H5 => Kp [] H' H5 ∧ H5 N = some (.lst ((hs.map A2.nm).map V.str)) ∧ (∀ g ∈ pre, g.stran (hs.map A2.nm) = false) ∧ ∃ o o', σ = [some (.ref a), some (.ref f), o, some (.ref N), o', none]) ⟨q2, hN2, by simp, _, _, rfl⟩ (fun pre σ H5 q => SqL.of (q.1.keep0 hf1)) ?_ ?_
    · rintro pre v d post σ H5 ed r ⟨k5, hN5, hpre, o, o', rfl⟩
      obtain ⟨p, q, ds, rfl, hp, hq, hds, hg⟩ := r
      refine for_go ?_
      refine ⟨_, rfl, p, _, _, _, rfl, rfl, SqT.of (k5.tk _ _ hp), at4, q, rfl, ⟨_, SqT.of (k5.tk _ _ hq)⟩, ?_⟩
      refine for_pdT hds (fun pre σ H6 => Kp [] H5 H6 ∧ (∀ x ∈ pre, A1.stran (hs.map A2.nm) x = false) ∧ ∃ o', σ = [some (.ref a), some (.ref f), some (.ref p), some (.ref N), o', none]) ⟨Kp.refl _ _, by simp, _, rfl⟩ (fun pre σ H6 q6 => SqT.of ((k5.trans q6.1).tk _ _ hq)) ?_ ?_
      · rintro pre6 v6 d6 post6 σ H6 ed6 r6 ⟨k6, h6, o6, rfl⟩
        have kp6 := kp.trans (k5.trans k6)
        obtain ⟨t, r, ee, hj⟩ := deed_shape (hg d6 (by rw [ed6]; simp))
        subst ee
        obtain ⟨p5, xs5, rfl, hp5, px⟩ := r6.kp (k5.trans k6)
        cases px with
        | cons hx px =>
        obtain ⟨rfl, _⟩ := hx
        have hN6 := k6.keep0 hN5
        refine ⟨_, rfl, p5, _, _, _, rfl, rfl, SqT.of hp5, at0, (by show 2 ≤ sizeLine; decide), fun t1 ht => ?_⟩
        have j1 := (Kp.refl [] H6).new (o := .tup [.str "join", .str "leave"]) ht
        have x1 : upd H6 t1 (.tup [.str "join", .str "leave"]) t1 = some (.tup [.str "join", .str "leave"]) := upd_same
        generalize upd H6 t1 (.tup [.str "join", .str "leave"]) = H7 at j1 x1 ⊢
        refine ⟨t1, _, rfl, .inr (SqT.of x1), rfl, rfl, _, rfl, ?_⟩
        have ej : inV (V.str t) [V.str "join", .str "leave"] = decide (t ∈ jl) := inV_strs t jl
        rw [if_neg Bool.false_ne_true, ej]
        have k57 := k6.trans j1
        have next : A1.stran (hs.map A2.nm) (.tup (.str t :: r)) = false → ∀ x ∈ pre6 ++ [.tup (.str t :: r)], A1.stran (hs.map A2.nm) x = false := fun e x hx => by
          rcases List.mem_append.mp hx with q | q
          · exact h6 x q
          · rw [List.mem_singleton.mp q]; exact e
        by_cases hjl : t ∈ jl
        · obtain ⟨x, rfl⟩ := hj hjl
          cases px with
          | cons hx px =>
          obtain ⟨rfl, _⟩ := hx
          refine iteT' (decide_eq_true hjl) ⟨_, rfl, p5, _, _, _, rfl, rfl, SqT.of (j1.tk _ _ hp5), at1, _, rfl, N, _, rfl, .inl (SqL.of (j1.keep0 hN6)), rfl, flat_strs _, _, rfl, ?_⟩
          rw [inV_strs]
          have es : A1.stran (hs.map A2.nm) (.tup [.str t, .str x]) = !decide (x ∈ hs.map A2.nm) := by
            show (decide (t ∈ jl) && !decide (x ∈ hs.map A2.nm)) = _
            rw [decide_eq_true hjl, Bool.true_and]
          by_cases hxn : x ∈ hs.map A2.nm
          · rw [decide_eq_true hxn] at es ⊢
            exact iteF' rfl ⟨k57, next es, _, rfl⟩
          · rw [decide_eq_false hxn] at es ⊢
            refine iteT' rfl ?_
            refine lf 3 _ (by decide) ?_ (kp6.trans j1)
            rw [code, if_pos]
            refine List.any_eq_true.mpr ⟨d, by rw [ed]; simp, ?_⟩
            exact List.any_eq_true.mpr ⟨_, by rw [ed6]; simp, es⟩
        · refine iteF' (decide_eq_false hjl) (iteF ⟨k57, next ?_, _, rfl⟩)
          cases r with
          | nil => rfl
          | cons a r =>
            cases r with
            | nil =>
              cases a with
              | str x =>
                show (decide (t ∈ jl) && _) = false
                rw [decide_eq_false hjl, Bool.false_and]
              | _ => rfl
            | cons b r => cases a <;> rfl
      · rintro σ H6 ⟨k6, h6, o6, rfl⟩
        refine ⟨k5.trans k6, k6.keep0 hN5, fun g hg => ?_, _, _, rfl⟩
        rcases List.mem_append.mp hg with q | q
        · exact hpre g q
        · rw [List.mem_singleton.mp q]
          unfold FH.stran
          rw [List.any_eq_false]
          exact fun x hx => by rw [h6 x hx]; exact Bool.false_ne_true
    · rintro σ H5 ⟨k5, hN5, hall, o, o', rfl⟩
      have c0 : needC hs = 0 := by
        rw [code, if_neg]
        rw [Bool.not_eq_true, List.any_eq_false]
        exact fun g hg => by rw [hall g hg]; exact Bool.false_ne_true
      exact ⟨_, rfl, k c0 f H5 acc hf (kp.trans k5) (k5.keep0 hf1) (Pd.mono (fun _ _ z => z.kp k5) hac)⟩
end
end Ev
namespace Ev
open PySem L2
section
variable {P : Program} {w : World} {K : PySem.W.Frag} {mg : Str → Option Value} {base : Heap}
theorem flat_nats (l : List Nat) : (l.map nV).all flatV = true := by simp [flatV, nV]
theorem inV_nats (x : Nat) (l : List Nat) : inV (nV x) (l.map nV) = decide (x ∈ l) := by
  unfold inV
  induction l with
  | nil => simp
  | cons y l ih =>
    rw [List.map_cons, List.any_cons, ih]
    have e : eqV (nV y) (nV x) = decide (y = x) := by
      show ((y : Int) == (x : Int)) = decide (y = x)
      rw [Bool.eq_iff_iff]
      simp
      omega
    rw [e]
    by_cases h : y = x <;> simp [h, eq_comm]
    by_cases h2 : x = y
    · exact absurd h2.symm h
    · simp [h2]
def sp_WaitsInit (W : Addr) : Sp := fun vs H Q _ => ∃ (p dx : Addr), vs = [.ref p] ∧ H p = some (.ins W dx []) ∧
  ∀ H' A', WaitsAt W H' A' [] [] → Kp [p] H H' → A'.wa = p → A'.wdx = dx → H A'.fo = none → H A'.rw = none → Q .non H'
theorem ok_WaitsInit (T : Tx K mg) : FnOk P w K mg base CX0 1 T.f_WaitsInit T.d_WaitsInit ["self"] (sp_WaitsInit T.c_Waits) := by
  refine T.F_WaitsInit.ok sc_WaitsInit (by walk_at "len") (fun cdv A outer s H vs Q E hr h => ?_)
  obtain ⟨p, dx, rfl, hp, k⟩ := h
  refine ⟨_, (pss_cons (ps_fld (pv 0) (pe_lst pa_nil) rfl)
    (pss_one (ps_fld (pv 0) (pe_lst pa_nil) rfl))), ?_⟩
  refine ⟨Nat.zero_le _, fun f hf => ?_⟩
  have k1 : Kp [p] H (upd H f (.lst [])) := (Kp.refl _ _).new hf
  have hp1 : upd H f (.lst []) p = some (.ins T.c_Waits dx []) := by rw [upd_ne (ne_of_none hp hf)]; exact hp
  refine ⟨_, rfl, p, _, dx, [], rfl, hp1, T.cl_Waits, T.n_Waits_first_ones, by decide, ?_⟩
  have k2 := k1.ins (o := .ins T.c_Waits dx (putF "first_ones" (.ref f) [])) (.inl (by simp)) hp1
  refine ⟨Nat.zero_le _, fun r hr' => ?_⟩
  have k3 := k2.new (o := .lst []) hr'
  have npr : p ≠ r := (upd_none hr').1.symm
  have hp3 : upd (upd (upd H f (.lst [])) p (.ins T.c_Waits dx (putF "first_ones" (.ref f) []))) r (.lst []) p = some (.ins T.c_Waits dx (putF "first_ones" (.ref f) [])) := by rw [upd_ne npr]; exact upd_same
  refine ⟨_, rfl, p, _, dx, _, rfl, hp3, T.cl_Waits, T.n_Waits_rows, (by show 1 < 1000; decide), ?_⟩
  have k4 := k3.ins (o := .ins T.c_Waits dx (putF "rows" (.ref r) (putF "first_ones" (.ref f) []))) (.inl (by simp)) hp3
  have nrf : r ≠ f := (upd_none (upd_none hr').2).1
  have npf : p ≠ f := ne_of_none hp hf
  have e : putF "rows" (.ref r) (putF "first_ones" (.ref f) []) = wFs f r := put_new (l := [("first_ones", V.ref f)]) (by show ("rows" : Str) ∉ (["first_ones"] : List Str); decide +kernel)
  refine k _ ⟨p, dx, f, r⟩ ⟨npf, npr, Ne.symm nrf, ?_, ?_, ?_⟩ k4 rfl rfl hf (k2.dom _ hr')
  · rw [← e]; exact upd_same
  · show upd _ p _ f = _
    rw [upd_ne (Ne.symm npf), upd_ne (Ne.symm nrf), upd_ne (Ne.symm npf)]
    exact upd_same
  · exact ⟨[], by rw [upd_ne (Ne.symm npr)]; exact upd_same, .nil⟩
end
end Ev
namespace Ev
open PySem L2
section
variable {K : PySem.W.Frag} {a : Addr} {xs : List V} {te : TE} {σ : L2.St} {H : Hp} {α β : Type} {R : V → α → Prop} {ds : List α} {vs : List Nat} {Q : VK} {i : Nat}
theorem lc_mk (S : Hp → V → β → Prop) (st : Stb S) (hx : Paired R xs ds) (hz : ds.length < sizeLine) (ha : SqL K H a xs) (f : α → β) (hw : ∀ x, wipe ((wipe σ vs).set i (some x)) vs = wipe σ vs)
    (he : ∀ x d H' (Q : VK), d ∈ ds → R x d → Kp [] H H' → (∀ v H'', Kp [] H' H'' → S H'' v (f d) → Q v H'') → te ((wipe σ vs).set i (some x)) H' Q)
    (k : ∀ D H' ys, H D = none → Kp [] H H' → H' D = some (.lst ys) → Paired (S H') ys (ds.map f) → Q (.ref D) H') : tLc (fun _ H R => R (Itl K a) H) (gName i) tYes te vs σ H Q := by
  refine lc_pd hx hz (fun D pre acc H' => Kp [] H H' ∧ Paired (S H') acc (pre.map f)) (fun D hD => ⟨(Kp.refl _ _).new hD, .nil⟩) (fun D pre acc H' hD e q => SqL.kp q.1 (by simp) ha) ?_ (fun D acc H' hD e q => k D H' acc hD q.1 e q.2)
  rintro D pre acc x d post H' Yes No hD ed r e ⟨kp, pa⟩ yes no
  have hd : d ∈ ds := by rw [ed]; simp
  refine ⟨hw x, tYes_go (iteT (he x d H' _ hd r kp fun v H3 k3 s3 => ?_))⟩
  have e3 := k3.keep0 e
  have kD : Kp [D] H3 (upd H3 D (.lst (acc ++ [v]))) := (Kp.refl _ _).lst (.inl (by simp)) e3
  refine yes _ _ e3 ⟨(kp.trans k3).lst (.inr hD) e3, ?_⟩
  rw [List.map_append]
  exact Pd.append (Pd.mono (fun _ _ z => st _ _ _ _ kD.tk (st _ _ _ _ k3.tk z)) pa) (.cons (st _ _ _ _ kD.tk s3) .nil)
end
def HndT (H : Hp) (v : V) (h : Hnd) : Prop := ∃ p q, v = .ref p ∧ H p = some (.tup [.str h.name, .int h.rank, .str h.hears, .bl h.once, q])
theorem hndTStb : Stb HndT := fun _ _ _ _ k h => by
  obtain ⟨p, q, e, h⟩ := h
  exact ⟨p, q, e, k _ _ h⟩
end Ev
namespace Ev
open PySem L2
/-! ### names that are told: known ones, each once, or not -/
/-- 0: all good; 1: the first wrong one is a stranger; 2: it was told before -/
def dueM (known : List Str) : List Str → List (Option Str) → Nat
  | _, [] => 0
  | _, none :: _ => 1
  | seen, some z :: r => if z ∈ known then (if z ∈ seen then 2 else dueM known (seen ++ [z]) r) else 1
theorem dueM_zero {known : List Str} : ∀ {ms : List (Option Str)} {seen : List Str}, seen.Nodup → dueM known seen ms = 0 → ∃ ns : List Str, ms = ns.map some ∧ (seen ++ ns).Nodup ∧ ∀ x ∈ ns, x ∈ known
  | [], seen, nd, _ => ⟨[], rfl, by simpa using nd, by simp⟩
  | none :: r, seen, nd, h => by cases h
  | some z :: r, seen, nd, h => by
    unfold dueM at h
    by_cases h1 : z ∈ known
    · rw [if_pos h1] at h
      by_cases h2 : z ∈ seen
      · rw [if_pos h2] at h; cases h
      · rw [if_neg h2] at h
        have nd2 : (seen ++ [z]).Nodup := List.nodup_append.mpr ⟨nd, by simp, fun a ha b hb e => h2 (by rw [← List.mem_singleton.mp hb, ← e]; exact ha)⟩
        obtain ⟨ns, e, n, i⟩ := dueM_zero (ms := r) nd2 h
        refine ⟨z :: ns, by rw [e]; rfl, by simpa using n, fun x hx => ?_⟩
        rcases List.mem_cons.mp hx with e | e
        · rw [e]; exact h1
        · exact i x e
    · rw [if_neg h1] at h; cases h
theorem dueM_le {known : List Str} : ∀ {ms : List (Option Str)} {seen : List Str}, dueM known seen ms ≤ 2
  | [], _ => by simp [dueM]
  | none :: _, _ => by simp [dueM]
  | some z :: r, seen => by
    unfold dueM
    split
    · split
      · exact Nat.le_refl _
      · exact dueM_le
    · decide
def NmAt (K : PySem.W.Frag) (H : Hp) (v : V) : Option Str → Prop
  | some z => v = .str z
  | none => NotStr K H v
theorem NotStr.keep {K : PySem.W.Frag} {H H' : Hp} {v : V} (n : NotStr K H v) (k : ∀ a o, v = .ref a → H a = some o → (∃ xs, o = .lst xs) ∨ (∃ xs, o = .tup xs) ∨ (∃ kvs, o = .dK kvs) ∨ (∃ ob u, o = .frz ob u) → H' a = some o) : NotStr K H' v := by
  cases n with
  | non => exact .non
  | bl b => exact .bl b
  | int i => exact .int i
  | @lst a xs h =>
    refine NotStr.lst (xs := xs) ?_
    rcases h with (h | ⟨o, h⟩) | h
    · exact .inl (.inl (k _ _ rfl h (.inl ⟨_, rfl⟩)))
    · exact .inl (.inr ⟨o, k _ _ rfl h (.inr (.inr (.inr ⟨_, _, rfl⟩)))⟩)
    · exact .inr h
  | @tup a xs h =>
    refine NotStr.tup (xs := xs) ?_
    rcases h with (h | ⟨o, h⟩) | h
    · exact .inl (.inl (k _ _ rfl h (.inr (.inl ⟨_, rfl⟩))))
    · exact .inl (.inr ⟨o, k _ _ rfl h (.inr (.inr (.inr ⟨_, _, rfl⟩)))⟩)
    · exact .inr h
  | dct h => exact .dct (k _ _ rfl h (.inr (.inr (.inl ⟨_, rfl⟩))))
theorem NmAt.kp {K : PySem.W.Frag} {H H' : Hp} {v : V} {m : Option Str} (x : NmAt K H v m) (k : Kp [] H H') : NmAt K H' v m := by
  cases m with
  | some z => exact x
  | none => exact NotStr.keep x fun a o _ h _ => k.keep0 h
theorem NmAt.kpp {K : PySem.W.Frag} {H H' : Hp} {v : V} {m : Option Str} {p C dx : Addr} {fs : List (Str × V)} (x : NmAt K H v m) (hp : H p = some (.ins C dx fs)) (k : Kp [p] H H') : NmAt K H' v m := by
  cases m with
  | some z => exact x
  | none => exact NotStr.keep x fun a o _ h ho => k.keep _ _ (fun q => by
      rw [List.mem_singleton.mp q, hp] at h
      cases h
      rcases ho with ⟨_, e⟩ | ⟨_, e⟩ | ⟨_, e⟩ | ⟨_, _, e⟩ <;> cases e) h
theorem NmAt.kpM {K : PySem.W.Frag} {M : List Addr} {H H' : Hp} {v : V} {m : Option Str} (x : NmAt K H v m) (n : ∀ a, v = .ref a → a ∉ M) (k : Kp M H H') : NmAt K H' v m := by
  cases m with
  | some z => exact x
  | none => exact NotStr.keep x fun a o e h _ => k.keep _ _ (n a e) h
section
variable {P : Program} {w : World} {K : PySem.W.Frag} {mg : Str → Option Value} {base : Heap}
theorem kd_Stranger (T : Tx K mg) : KindAt T T.c_Stranger 3 :=
  ⟨by decide, kit_sub T.su_Stranger_Stranger T.hd_NoWord T.ty_NoWord T.su_Stranger_NoWord, kit_sub T.su_Stranger_Stranger T.hd_NoHandler T.ty_NoHandler T.su_Stranger_NoHandler, kit_sub T.su_Stranger_Stranger T.hd_Twice T.ty_Twice T.su_Stranger_Twice,
    kit_sub T.su_Stranger_Stranger T.hd_Stranger T.ty_Stranger T.su_Stranger_Stranger, kit_sub T.su_Stranger_Stranger T.hd_NoCount T.ty_NoCount T.su_Stranger_NoCount, kit_val T.ve_Stranger, T.err_Stranger, PySem.W.exm_ref T.sb_LoomError T.hd_LoomError T.ty_LoomError T.su_Stranger_LoomError⟩
theorem kd_Twice (T : Tx K mg) : KindAt T T.c_Twice 2 :=
  ⟨by decide, kit_sub T.su_Twice_Twice T.hd_NoWord T.ty_NoWord T.su_Twice_NoWord, kit_sub T.su_Twice_Twice T.hd_NoHandler T.ty_NoHandler T.su_Twice_NoHandler, kit_sub T.su_Twice_Twice T.hd_Twice T.ty_Twice T.su_Twice_Twice,
    kit_sub T.su_Twice_Twice T.hd_Stranger T.ty_Stranger T.su_Twice_Stranger, kit_sub T.su_Twice_Twice T.hd_NoCount T.ty_NoCount T.su_Twice_NoCount, kit_val T.ve_Twice, T.err_Twice, PySem.W.exm_ref T.sb_LoomError T.hd_LoomError T.ty_LoomError T.su_Twice_LoomError⟩
/-- the class of the refusal -/
def dueC (T : Tx K mg) (n : Nat) : Value := if n = 1 then .ref T.c_Stranger else .ref T.c_Twice
def spx_needNames (T : Tx K mg) : Sp := fun vs H _ E => ∃ (a b : Addr) (hs : List Hnd) (xs : List V) (ms : List (Option Str)), vs = [.ref a, .ref b] ∧ LstAt HndT H a hs ∧ H b = some (.lst xs) ∧ Paired (NmAt K H) xs ms ∧ hs.length ≤ 40 ∧ ms.length ≤ 100 ∧ dueM (hs.map Hnd.name) [] ms ≠ 0 ∧
  ∀ H', Kp [] H H' → E (dueC T (dueM (hs.map Hnd.name) [] ms)) none H'
theorem okx_needNames (T : Tx K mg) : FnOk P w K mg base (L2.CX P w) 1 T.f_needNames T.d_needNames ["handlers", "names"] (spx_needNames T) := by
  refine T.F_needNames.okX sc_needNames (by walk_at "len") (fun cdv A outer s H vs Q E hr h => ?_)
  obtain ⟨a, b, hs, xs, ms, rfl, ⟨ys, ha, hx⟩, hb, hms, hl, hml, hne, k⟩ := h
  refine ⟨_, (pss_cons (ps_set (i := 2) sc_needNames.nd rfl (Or.inl rfl) (pe_lst pa_nil))
    (pss_cons (ps_setLc (i := 3) (own := [("one", 5)]) (g := gName 5) (tt := tYes) rfl sc_needNames.nd rfl rfl (sw_true rfl rfl rfl (by decide +kernel)) (pi_list (pv 0)) (blkOk_by (own := [("one", 5)]) (N := nm_needNames) (sc := defScope s_needNames) (by decide +kernel)) (fun _ _ _ _ _ => (pg_name (i := 5) sc_needNames.nd rfl (Or.inl rfl))) (fun _ _ _ _ _ => pts_nil) (fun _ _ _ _ _ => (pe_ix (kIxT K) (pv 5) pe_int (fun _ _ => rfl))))
    (pss_cons (ps_for (passes_of rfl) rfl (pi_list (pv 1)) (pg_name (i := 4) sc_needNames.nd rfl (Or.inl rfl))
        (pss_cons (ps_if (pt_cmpR (kNotInS K (room65 hr)) (pv 4) (pv 3) rfl)
            (pss_one (ps_raise rfl (takes_of rfl rfl rfl rfl) (pmk_own PySem.F.excBase_ValueError T.x_Stranger T.g_Stranger T.k_Stranger (raises_own T.sb_Stranger T.ty_Stranger) (by exact rfl))))
            pss_nil)
        (pss_cons (ps_if (pt_cmpR (kInS K (room65 hr)) (pv 4) (pv 2) rfl)
            (pss_one (ps_raise rfl (takes_of rfl rfl rfl rfl) (pmk_own PySem.F.excBase_ValueError T.x_Twice T.g_Twice T.k_Twice (raises_own T.sb_Twice T.ty_Twice) (by exact rfl))))
            pss_nil)
        (pss_one (ps_expr (pe_bm PySem.F.plainAttrs_list PySem.F.slot_list_append PySem.F.type_list_append mt_append (pv 2) (pa_cons (pv 4) pa_nil)))))))
    (pss_one (ps_ret (pv 2)))))), ?_⟩
  refine ⟨Nat.zero_le _, fun f hf => ?_⟩
  walk_at "nf"
  refine lc_go ?_
  have k1 : Kp [] H (upd H f (.lst [])) := (Kp.refl _ _).new hf
  refine ⟨_, rfl, a, rfl, ⟨_, SqL.of (k1.keep0 ha)⟩, ?_⟩
  refine lc_mp hx (Nat.lt_of_le_of_lt hl (by decide)) (SqL.of (k1.keep0 ha)) (fun h => V.str h.name) (fun x => rfl) ?_ ?_
  · rintro v d H' Q' hd r kp q
    obtain ⟨p, q1, rfl, hp⟩ := r
    exact ⟨_, rfl, p, _, _, _, rfl, rfl, SqT.of ((k1.trans kp).tk _ _ hp), at0, q _ (Kp.refl _ _)⟩
  · intro D H2 hD k2 hD2
    have k12 := k1.trans k2
    have e0 : hs.map (fun h => V.str h.name) = (hs.map Hnd.name).map V.str := by simp
    rw [e0] at hD2
    have nDf : D ≠ f := (upd_none hD).1
    refine for_go ?_
    refine ⟨_, rfl, b, rfl, ⟨_, SqL.of (k12.keep0 hb)⟩, ?_⟩
    generalize hs.map Hnd.name = known at hD2 hne k
    refine for_pd hms (fun pre σ H' => Kp [] H H' ∧ (∃ seen : List Str, pre = seen.map some ∧ dueM known [] ms = dueM known seen (ms.drop pre.length) ∧ H' f = some (.lst (seen.map V.str))) ∧ H' D = some (.lst (known.map V.str)) ∧ ∃ o o', σ = [some (.ref a), some (.ref b), some (.ref f), some (.ref D), o, o'])
      ⟨k12, ⟨[], rfl, rfl, k2.keep0 upd_same⟩, hD2, _, _, rfl⟩ (fun pre σ H' q => SqL.of (q.1.keep0 hb)) ?_ ?_
    · rintro pre v m post σ H' ed r ⟨kp, ⟨seen, ep, edue, hf1⟩, hD3, o, o', rfl⟩
      have lp : pre.length < 100 := by
        have := congrArg List.length ed
        rw [List.length_append, List.length_cons] at this
        omega
      have edrop : ms.drop pre.length = m :: post := by rw [ed, List.drop_left]
      rw [edrop] at edue
      have edrop2 : ms.drop (pre ++ [m]).length = post := by
        have e1 : ms = (pre ++ [m]) ++ post := by rw [ed]; simp
        rw [e1, List.drop_left]
      cases m with
      | none =>
        have edue : dueM known [] ms = 1 := edue
        refine ⟨_, rfl, _, rfl, D, known, rfl, SqL.of hD3, .inr ⟨NmAt.kp r kp, _, rfl, iteT ?_⟩⟩
        have q := k _ kp
        rw [edue] at q
        exact q
      | some z =>
        cases (show v = V.str z from r)
        have edue : dueM known [] ms = (if z ∈ known then (if z ∈ seen then 2 else dueM known (seen ++ [z]) post) else 1) := edue
        refine ⟨_, rfl, _, rfl, D, known, rfl, SqL.of hD3, .inl ⟨z, rfl, _, rfl, ?_⟩⟩
        by_cases h1 : z ∈ known
        · rw [if_pos h1] at edue
          refine iteF' (by rw [decide_eq_true h1]; rfl) ?_
          refine ⟨_, rfl, _, rfl, f, seen, rfl, SqL.of hf1, .inl ⟨z, rfl, _, rfl, ?_⟩⟩
          by_cases h2 : z ∈ seen
          · rw [if_pos h2] at edue
            refine iteT' (by rw [decide_eq_true h2]; rfl) ?_
            have q := k _ kp
            rw [edue] at q
            exact q
          · rw [if_neg h2] at edue
            refine iteF' (by rw [decide_eq_false h2]; rfl) ⟨_, rfl, .inl ⟨rfl, _, SqL.of hf1⟩, _, rfl, f, _, _, rfl, rfl, hf1, ?_, ?_⟩
            · have lps : seen.length = pre.length := by rw [ep, List.length_map]
              exact small1000 (by rw [List.length_map]; omega)
            · refine ⟨kp.lst (.inr hf) hf1, ⟨seen ++ [z], by rw [ep]; simp, by rw [edrop2]; exact edue, by rw [upd_same]; simp⟩, by rw [upd_ne nDf]; exact hD3, _, _, rfl⟩
        · rw [if_neg h1] at edue
          refine iteT' (by rw [decide_eq_false h1]; rfl) ?_
          have q := k _ kp
          rw [edue] at q
          exact q
    · rintro σ H' ⟨kp, ⟨seen, ep, edue, hf1⟩, _, o, o', rfl⟩
      rw [List.drop_length] at edue
      exact absurd edue hne
end
end Ev
namespace Ev
open PySem L2
structure Sg (p L dx : Addr) (fs : List (Str × V)) (H0 H : Hp) : Prop where
  hp : H p = some (.ins L dx fs)
  kp : Kp [p] H0 H
theorem Sg.f {p L dx : Addr} {fs : List (Str × V)} {H0 H : Hp} (s : Sg p L dx fs H0 H) (fs' : List (Str × V)) : Sg p L dx fs' H0 (upd H p (.ins L dx fs')) := ⟨upd_same, s.kp.ins (.inl (by simp)) s.hp⟩
theorem Sg.l {p L dx d : Addr} {fs : List (Str × V)} {H0 H : Hp} (s : Sg p L dx fs H0 H) (h : H d = none) (o : HO) : Sg p L dx fs H0 (upd H d o) := ⟨by rw [upd_ne (fun e => by rw [← e, s.hp] at h; cases h)]; exact s.hp, s.kp.new h⟩
theorem Sg.k {p L dx : Addr} {fs : List (Str × V)} {H0 H H' : Hp} (s : Sg p L dx fs H0 H) (k : Kp [] H H') : Sg p L dx fs H0 H' := ⟨k.keep0 s.hp, s.kp.trans (k.mono (by simp))⟩
theorem needM_ok : ∀ {hs : List A2} {seen : List Str}, seen.length ≤ 40 → needM seen hs = 0 → seen.length + hs.length ≤ 40 ∧ ∀ d ∈ hs, handlerM d = true
  | [], _, l, _ => ⟨l, by simp⟩
  | d :: r, seen, l, h => by
    have h : (if seen.length = 40 ∨ handlerM d = false then 1 else if d.nm ∈ seen then 2 else needM (seen ++ [d.nm]) r) = 0 := h
    by_cases q1 : seen.length = 40 ∨ handlerM d = false
    · rw [if_pos q1] at h; cases h
    rw [if_neg q1] at h
    by_cases q2 : d.nm ∈ seen
    · rw [if_pos q2] at h; cases h
    rw [if_neg q2] at h
    have n40 : seen.length ≠ 40 := fun e => q1 (.inl e)
    have hd : handlerM d = true := by
      cases e : handlerM d with
      | true => rfl
      | false => exact absurd (.inr e) q1
    obtain ⟨a, b⟩ := needM_ok (hs := r) (seen := seen ++ [d.nm]) (by rw [List.length_append, List.length_singleton]; omega) h
    rw [List.length_append, List.length_singleton] at a
    refine ⟨by rw [List.length_cons]; omega, fun x hx => ?_⟩
    rcases List.mem_cons.mp hx with e | q
    · rw [e]; exact hd
    · exact b x q
theorem needC_zero {hs : List A2} (h : needC hs = 0) : needM [] hs = 0 := by
  unfold needC at h
  by_cases e : needM [] hs = 0
  · exact e
  · rw [if_neg e] at h; exact h
def FH.h (f : FH) : Hnd := ⟨f.name, f.rank, f.hears, f.once, []⟩
theorem toF_names {hs : List A2} (h : ∀ d ∈ hs, handlerM d = true) : ((hs.map A2.toF).map FH.h).map Hnd.name = hs.map A2.nm := by
  rw [List.map_map, List.map_map]
  refine List.map_congr_left fun g hg => ?_
  obtain ⟨_, _, _, _, _, e, _⟩ := shape_ok (h g hg)
  rw [e]
  rfl
theorem fat_hnd {H : Hp} : ∀ {xs : List V} {fs : List FH}, Paired (FAt H) xs fs → Paired (HndT H) xs (fs.map FH.h)
  | _, _, .nil => .nil
  | _, _, .cons r t => by
    obtain ⟨p, q, ds, e, h1, _⟩ := r
    exact .cons ⟨p, _, e, h1⟩ (fat_hnd t)
section
variable {P : Program} {w : World} {K : PySem.W.Frag} {mg : Str → Option Value} {base : Heap}
def sp_LoomCome : Sp := fun vs _ _ _ => ∃ (p : Addr) (x : V), vs = [.ref p, x] ∧ False
theorem ok_LoomCome (T : Tx K mg) : FnOk P w K mg base CX0 1 T.f_LoomCome T.d_LoomCome ["self", "name"] (sp_LoomCome) := by
  refine T.F_LoomCome.ok sc_LoomCome (by walk_at "len") (fun cdv A outer s H vs Q E hr h => ?_)
  obtain ⟨_, _, _, h⟩ := h
  exact h.elim
def spx_LoomInit (T : Tx K mg) : Sp := fun vs H _ E => ∃ (p dx a b : Addr) (xs ys : List V) (hs : List A2) (ms : List (Option Str)), vs = [.ref p, .ref a, .ref b] ∧ H p = some (.ins T.c_Loom dx []) ∧ H a = some (.lst xs) ∧ Paired (A2At H) xs hs ∧ hs.length ≤ 41 ∧ H b = some (.lst ys) ∧ Paired (NmAt K H) ys ms ∧ ms.length ≤ 100 ∧
  (needC hs ≠ 0 → ∀ H', Kp [p] H H' → E (nhC T (needC hs)) none H') ∧ (needC hs = 0 → dueM (hs.map A2.nm) [] ms ≠ 0 ∧ ∀ H', Kp [p] H H' → E (dueC T (dueM (hs.map A2.nm) [] ms)) none H')
theorem okx_LoomInit (T : Tx K mg) : FnOk P w K mg base (L2.CX P w) 5 T.f_LoomInit T.d_LoomInit ["self", "handlers", "names"] (spx_LoomInit T) := by
  refine T.F_LoomInit.okX sc_LoomInit (by walk_at "len") (fun cdv A outer s H vs Q E hr h => ?_)
  obtain ⟨p, dx, a, b, xs, ys, hs, ms, rfl, hp, ha, hx, hl41, hb, hms, hml, kE, kD⟩ := h
  refine ⟨_, (pss_cons (ps_fld (pv 0) (pe_call (okx_needHandlers T) (hr.mono (by decide)) rfl T.g_needHandlers T.F_needHandlers.kp T.b_needHandlers .nil (passes_call (takes_of rfl rfl rfl rfl) (fun _ _ _ _ h => h)) (pa_cons (pv 1) pa_nil)) rfl)
    (pss_cons (ps_fld (pv 0) pe_int rfl)
    (pss_cons (ps_fld (pv 0) (pe_lst pa_nil) rfl)
    (pss_cons (ps_fld (pv 0) (pe_lst pa_nil) rfl)
    (pss_cons (ps_fld (pv 0) (pe_lst pa_nil) rfl)
    (pss_cons (ps_fld (pv 0) pe_non rfl)
    (pss_cons (ps_fld (pv 0) (pe_make0 T.mk_Waits (ok_WaitsInit T) (hr.mono (by decide)) rfl T.g_Waits T.b_WaitsInit .nil pass0) rfl)
    (pss_cons (ps_fld (pv 0) pe_int rfl)
    (pss_cons (ps_fld (pv 0) pe_dnewK rfl)
    (pss_one (ps_for (passes_of rfl) rfl (pi_list (pe_call (okx_needNames T) (hr.mono (by decide)) rfl T.g_needNames T.F_needNames.kp T.b_needNames .nil (passes_call (takes_of rfl rfl rfl rfl) (fun _ _ _ _ h => h)) (pa_cons (kFld K (pv 0)) (pa_cons (pv 2) pa_nil)))) (pg_name (i := 3) sc_LoomInit.nd rfl (Or.inl rfl))
        (pss_one (ps_expr (pe_meth (pv 0) T.cl_Loom T.m_LoomCome (ok_LoomCome T) (hr.mono (by decide)) T.b_LoomCome .nil pass0 (pa_cons (pv 3) pa_nil))))))))))))))), ?_⟩
  refine ⟨_, rfl, a, xs, hs, rfl, ha, hx, hl41, fun h0 H' kp => kE h0 H' (kp.mono (by simp)), fun h0 hl H1 fs hhl k1 hfl pf => ?_⟩
  obtain ⟨hdue, kD⟩ := kD h0
  obtain ⟨h40, hok⟩ := needM_ok (seen := []) (by simp) (needC_zero h0)
  have S1 : Sg p T.c_Loom dx [] H1 H1 := ⟨k1.keep0 hp, Kp.refl _ _⟩
  have e0 : putF "handlers" (V.ref hl) [] = ([("handlers", V.ref hl)] : List (Str × V)) := rfl
  refine ⟨_, rfl, p, _, dx, _, rfl, S1.hp, T.cl_Loom, T.n_Loom_handlers, by decide, ?_⟩
  rw [e0]
  have S2 := S1.f [("handlers", V.ref hl)]
  generalize upd H1 p (.ins T.c_Loom dx [("handlers", V.ref hl)]) = H2 at S2 ⊢
  have e1 : putF "time" (V.int 0) ([("handlers", V.ref hl)] : List (Str × V)) = ([("handlers", V.ref hl), ("time", V.int 0)] : List (Str × V)) := put_new (l := ([("handlers", V.ref hl)] : List (Str × V))) (by show ("time" : Str) ∉ (["handlers"] : List Str); decide +kernel)
  refine ⟨_, rfl, p, _, dx, _, rfl, S2.hp, T.cl_Loom, T.n_Loom_time, (by show 1 < 1000; decide), ?_⟩
  rw [e1]
  have S3 := S2.f [("handlers", V.ref hl), ("time", V.int 0)]
  generalize upd H2 p (.ins T.c_Loom dx [("handlers", V.ref hl), ("time", V.int 0)]) = H3 at S3 ⊢
  refine ⟨Nat.zero_le _, fun ev hev => ?_⟩
  have S4 := S3.l hev (.lst [])
  generalize upd H3 ev (.lst []) = H4 at S4 ⊢
  have e2 : putF "events" (V.ref ev) ([("handlers", V.ref hl), ("time", V.int 0)] : List (Str × V)) = ([("handlers", V.ref hl), ("time", V.int 0), ("events", V.ref ev)] : List (Str × V)) := put_new (l := ([("handlers", V.ref hl), ("time", V.int 0)] : List (Str × V))) (by show ("events" : Str) ∉ (["handlers", "time"] : List Str); decide +kernel)
  refine ⟨_, rfl, p, _, dx, _, rfl, S4.hp, T.cl_Loom, T.n_Loom_events, (by show 2 < 1000; decide), ?_⟩
  rw [e2]
  have S5 := S4.f [("handlers", V.ref hl), ("time", V.int 0), ("events", V.ref ev)]
  generalize upd H4 p (.ins T.c_Loom dx [("handlers", V.ref hl), ("time", V.int 0), ("events", V.ref ev)]) = H5 at S5 ⊢
  refine ⟨Nat.zero_le _, fun lg hlg => ?_⟩
  have S6 := S5.l hlg (.lst [])
  generalize upd H5 lg (.lst []) = H6 at S6 ⊢
  have e3 : putF "log" (V.ref lg) ([("handlers", V.ref hl), ("time", V.int 0), ("events", V.ref ev)] : List (Str × V)) = ([("handlers", V.ref hl), ("time", V.int 0), ("events", V.ref ev), ("log", V.ref lg)] : List (Str × V)) := put_new (l := ([("handlers", V.ref hl), ("time", V.int 0), ("events", V.ref ev)] : List (Str × V))) (by show ("log" : Str) ∉ (["handlers", "time", "events"] : List Str); decide +kernel)
  refine ⟨_, rfl, p, _, dx, _, rfl, S6.hp, T.cl_Loom, T.n_Loom_log, (by show 3 < 1000; decide), ?_⟩
  rw [e3]
  have S7 := S6.f [("handlers", V.ref hl), ("time", V.int 0), ("events", V.ref ev), ("log", V.ref lg)]
  generalize upd H6 p (.ins T.c_Loom dx [("handlers", V.ref hl), ("time", V.int 0), ("events", V.ref ev), ("log", V.ref lg)]) = H7 at S7 ⊢
  refine ⟨Nat.zero_le _, fun fr hfr => ?_⟩
  have S8 := S7.l hfr (.lst [])
  generalize upd H7 fr (.lst []) = H8 at S8 ⊢
  have e4 : putF "frames" (V.ref fr) ([("handlers", V.ref hl), ("time", V.int 0), ("events", V.ref ev), ("log", V.ref lg)] : List (Str × V)) = ([("handlers", V.ref hl), ("time", V.int 0), ("events", V.ref ev), ("log", V.ref lg), ("frames", V.ref fr)] : List (Str × V)) := put_new (l := ([("handlers", V.ref hl), ("time", V.int 0), ("events", V.ref ev), ("log", V.ref lg)] : List (Str × V))) (by show ("frames" : Str) ∉ (["handlers", "time", "events", "log"] : List Str); decide +kernel)
  refine ⟨_, rfl, p, _, dx, _, rfl, S8.hp, T.cl_Loom, T.n_Loom_frames, (by show 4 < 1000; decide), ?_⟩
  rw [e4]
  have S9 := S8.f [("handlers", V.ref hl), ("time", V.int 0), ("events", V.ref ev), ("log", V.ref lg), ("frames", V.ref fr)]
  generalize upd H8 p (.ins T.c_Loom dx [("handlers", V.ref hl), ("time", V.int 0), ("events", V.ref ev), ("log", V.ref lg), ("frames", V.ref fr)]) = H9 at S9 ⊢
  have e5 : putF "fresh" (V.non) ([("handlers", V.ref hl), ("time", V.int 0), ("events", V.ref ev), ("log", V.ref lg), ("frames", V.ref fr)] : List (Str × V)) = ([("handlers", V.ref hl), ("time", V.int 0), ("events", V.ref ev), ("log", V.ref lg), ("frames", V.ref fr), ("fresh", V.non)] : List (Str × V)) := put_new (l := ([("handlers", V.ref hl), ("time", V.int 0), ("events", V.ref ev), ("log", V.ref lg), ("frames", V.ref fr)] : List (Str × V))) (by show ("fresh" : Str) ∉ (["handlers", "time", "events", "log", "frames"] : List Str); decide +kernel)
  refine ⟨_, rfl, p, _, dx, _, rfl, S9.hp, T.cl_Loom, T.n_Loom_fresh, (by show 5 < 1000; decide), ?_⟩
  rw [e5]
  have S10 := S9.f [("handlers", V.ref hl), ("time", V.int 0), ("events", V.ref ev), ("log", V.ref lg), ("frames", V.ref fr), ("fresh", V.non)]
  generalize upd H9 p (.ins T.c_Loom dx [("handlers", V.ref hl), ("time", V.int 0), ("events", V.ref ev), ("log", V.ref lg), ("frames", V.ref fr), ("fresh", V.non)]) = H10 at S10 ⊢
  intro wa wdx hwa hwdx hne
  have hwa' : upd H10 wdx (.own wa) wa = none := by rw [upd_ne (Ne.symm hne)]; exact hwa
  have kw : Kp [] H10 (upd (upd H10 wdx (.own wa)) wa (.ins T.c_Waits wdx [])) := ((Kp.refl [] H10).new hwdx).new hwa'
  refine ⟨wa, wdx, rfl, upd_same, fun H7a AW w kW ew ewd hfo hrw => ⟨rfl, ?_⟩⟩
  have S11 := S10.k ((kw.transM kW fun x hx => .inr (by rw [List.mem_singleton] at hx; rw [hx]; exact hwa)).mono (by simp))
  clear kw kW hwa' hwdx hfo hrw w
  have e6 : putF "line" (V.ref wa) ([("handlers", V.ref hl), ("time", V.int 0), ("events", V.ref ev), ("log", V.ref lg), ("frames", V.ref fr), ("fresh", V.non)] : List (Str × V)) = ([("handlers", V.ref hl), ("time", V.int 0), ("events", V.ref ev), ("log", V.ref lg), ("frames", V.ref fr), ("fresh", V.non), ("line", V.ref wa)] : List (Str × V)) := put_new (l := ([("handlers", V.ref hl), ("time", V.int 0), ("events", V.ref ev), ("log", V.ref lg), ("frames", V.ref fr), ("fresh", V.non)] : List (Str × V))) (by show ("line" : Str) ∉ (["handlers", "time", "events", "log", "frames", "fresh"] : List Str); decide +kernel)
  refine ⟨_, rfl, p, _, dx, _, rfl, S11.hp, T.cl_Loom, T.n_Loom_line, (by show 6 < 1000; decide), ?_⟩
  rw [e6]
  have S12 := S11.f [("handlers", V.ref hl), ("time", V.int 0), ("events", V.ref ev), ("log", V.ref lg), ("frames", V.ref fr), ("fresh", V.non), ("line", V.ref wa)]
  generalize upd H7a p (.ins T.c_Loom dx [("handlers", V.ref hl), ("time", V.int 0), ("events", V.ref ev), ("log", V.ref lg), ("frames", V.ref fr), ("fresh", V.non), ("line", V.ref wa)]) = H12 at S12 ⊢
  have e7 : putF "stood" (V.int 0) ([("handlers", V.ref hl), ("time", V.int 0), ("events", V.ref ev), ("log", V.ref lg), ("frames", V.ref fr), ("fresh", V.non), ("line", V.ref wa)] : List (Str × V)) = ([("handlers", V.ref hl), ("time", V.int 0), ("events", V.ref ev), ("log", V.ref lg), ("frames", V.ref fr), ("fresh", V.non), ("line", V.ref wa), ("stood", V.int 0)] : List (Str × V)) := put_new (l := ([("handlers", V.ref hl), ("time", V.int 0), ("events", V.ref ev), ("log", V.ref lg), ("frames", V.ref fr), ("fresh", V.non), ("line", V.ref wa)] : List (Str × V))) (by show ("stood" : Str) ∉ (["handlers", "time", "events", "log", "frames", "fresh", "line"] : List Str); decide +kernel)
  refine ⟨_, rfl, p, _, dx, _, rfl, S12.hp, T.cl_Loom, T.n_Loom_stood, (by show 7 < 1000; decide), ?_⟩
  rw [e7]
  have S13 := S12.f [("handlers", V.ref hl), ("time", V.int 0), ("events", V.ref ev), ("log", V.ref lg), ("frames", V.ref fr), ("fresh", V.non), ("line", V.ref wa), ("stood", V.int 0)]
  generalize upd H12 p (.ins T.c_Loom dx [("handlers", V.ref hl), ("time", V.int 0), ("events", V.ref ev), ("log", V.ref lg), ("frames", V.ref fr), ("fresh", V.non), ("line", V.ref wa), ("stood", V.int 0)]) = H13 at S13 ⊢
  intro sd hsd
  have S14 := S13.l hsd (.dK [])
  generalize upd H13 sd (.dK []) = H14 at S14 ⊢
  have e8 : putF "standings" (V.ref sd) ([("handlers", V.ref hl), ("time", V.int 0), ("events", V.ref ev), ("log", V.ref lg), ("frames", V.ref fr), ("fresh", V.non), ("line", V.ref wa), ("stood", V.int 0)] : List (Str × V)) = ([("handlers", V.ref hl), ("time", V.int 0), ("events", V.ref ev), ("log", V.ref lg), ("frames", V.ref fr), ("fresh", V.non), ("line", V.ref wa), ("stood", V.int 0), ("standings", V.ref sd)] : List (Str × V)) := put_new (l := ([("handlers", V.ref hl), ("time", V.int 0), ("events", V.ref ev), ("log", V.ref lg), ("frames", V.ref fr), ("fresh", V.non), ("line", V.ref wa), ("stood", V.int 0)] : List (Str × V))) (by show ("standings" : Str) ∉ (["handlers", "time", "events", "log", "frames", "fresh", "line", "stood"] : List Str); decide +kernel)
  refine ⟨_, rfl, p, _, dx, _, rfl, S14.hp, T.cl_Loom, T.n_Loom_standings, (by show 8 < 1000; decide), ?_⟩
  rw [e8]
  have S15 := S14.f [("handlers", V.ref hl), ("time", V.int 0), ("events", V.ref ev), ("log", V.ref lg), ("frames", V.ref fr), ("fresh", V.non), ("line", V.ref wa), ("stood", V.int 0), ("standings", V.ref sd)]
  generalize upd H14 p (.ins T.c_Loom dx [("handlers", V.ref hl), ("time", V.int 0), ("events", V.ref ev), ("log", V.ref lg), ("frames", V.ref fr), ("fresh", V.non), ("line", V.ref wa), ("stood", V.int 0), ("standings", V.ref sd)]) = H15 at S15 ⊢
  have nbp : b ≠ p := fun e => by rw [e, hp] at hb; cases hb
  have nlp : hl ≠ p := fun e => by rw [e, hp] at hhl; cases hhl
  have k1z := S15.kp
  have k0z : Kp [p] H H15 := (k1.mono (by simp)).trans k1z
  dsimp only
  refine for_go ?_
  refine ⟨_, rfl, p, _, dx, _, _, rfl, S15.hp, T.cl_Loom, T.n_Loom_handlers, rfl, _, rfl, hl, b, (hs.map A2.toF).map FH.h, ys, ms, rfl, ⟨fs, ?_, ?_⟩, k0z.keep _ _ (by simpa using nbp) hb, Pd.mono (fun _ _ z => NmAt.kpp z hp k0z) hms, by rw [List.length_map, List.length_map]; simpa using h40, hml, ?_, fun H11 k11 => ?_⟩
  · exact k1z.keep _ _ (by simpa using nlp) hfl
  · exact Pd.mono (fun _ _ z => hndTStb _ _ _ _ k1z.tk z) (fat_hnd pf)
  · rw [toF_names hok]; exact hdue
  · rw [toF_names hok]
    exact kD H11 (k0z.trans (k11.mono (by simp)))
end
end Ev
namespace Ev
open PySem L2
section
variable {P : Program} {w : World} {K : PySem.W.Frag} {mg : Str → Option Value} {base : Heap}
abbrev sHan : Str := "handler"
abbrev sTwi : Str := "twice"
abbrev sStr : Str := "stranger"
abbrev sNon : Str := "none"
abbrev sNob : Str := "nobody"
def codS (n : Nat) : Str := if n = 1 then sHan else if n = 2 then sTwi else if n = 3 then sStr else sNon
theorem kd_NoHandler (T : Tx K mg) : KindAt T T.c_NoHandler 1 :=
  ⟨by decide, kit_sub T.su_NoHandler_NoHandler T.hd_NoWord T.ty_NoWord T.su_NoHandler_NoWord, kit_sub T.su_NoHandler_NoHandler T.hd_NoHandler T.ty_NoHandler T.su_NoHandler_NoHandler, kit_sub T.su_NoHandler_NoHandler T.hd_Twice T.ty_Twice T.su_NoHandler_Twice,
    kit_sub T.su_NoHandler_NoHandler T.hd_Stranger T.ty_Stranger T.su_NoHandler_Stranger, kit_sub T.su_NoHandler_NoHandler T.hd_NoCount T.ty_NoCount T.su_NoHandler_NoCount, kit_val T.ve_NoHandler, T.err_NoHandler, PySem.W.exm_ref T.sb_LoomError T.hd_LoomError T.ty_LoomError T.su_NoHandler_LoomError⟩
theorem nh_kind (T : Tx K mg) {n : Nat} (h0 : n ≠ 0) (h3 : n ≤ 3) : ∃ D i, nhC T n = .ref D ∧ KindAt T D i ∧ atI [V.str "word", .str "handler", .str "twice", .str "stranger", .str "count", .str "other"] (i : Int) = some (.str (codS n)) := by
  have h : n = 1 ∨ n = 2 ∨ n = 3 := by omega
  rcases h with rfl | rfl | rfl
  · exact ⟨_, 1, rfl, kd_NoHandler T, atI_nat (j := 1) rfl⟩
  · exact ⟨_, 2, rfl, kd_Twice T, atI_nat (j := 2) rfl⟩
  · exact ⟨_, 3, rfl, kd_Stranger T, atI_nat (j := 3) rfl⟩
theorem needM_le : ∀ {hs : List A2} {seen : List Str}, needM seen hs ≤ 2
  | [], _ => by simp [needM]
  | d :: r, seen => by
    show (if seen.length = 40 ∨ handlerM d = false then 1 else if d.nm ∈ seen then 2 else needM (seen ++ [d.nm]) r) ≤ 2
    split
    · decide
    · split
      · decide
      · exact needM_le
theorem needC_le (hs : List A2) : needC hs ≤ 3 := by
  unfold needC
  have := needM_le (hs := hs) (seen := [])
  split
  · split <;> decide
  · omega
def sp_lrefused (T : Tx K mg) : Sp := fun vs H Q _ => ∃ (a : Addr) (xs : List V) (hs : List A2) (way : Int) (n : Nat), vs = [.ref a, .int way] ∧ H a = some (.lst xs) ∧ Paired (A2At H) xs hs ∧ hs.length ≤ 41 ∧ (way = 0 ∨ way = 1 ∨ way = 2) ∧
  ((needC hs ≠ 0 ∧ n = needC hs) ∨ (needC hs = 0 ∧ way = 1 ∧ sNob ∉ hs.map A2.nm ∧ n = 3)) ∧
  ∀ H', Kp [] H H' → Q (.str (codS n)) H'
theorem ok_lrefused (T : Tx K mg) : FnOk P w K mg base CX0 7 T.f_lrefused T.d_lrefused ["_law_handlers", "_law_way"] (sp_lrefused T) := by
  refine T.F_lrefused.ok sc_lrefused (by walk_at "len") (fun cdv A outer s H vs Q E hr h => ?_)
  obtain ⟨a, xs, hs, way, n, rfl, ha, hx, hl, hway, hn, k⟩ := h
  refine ⟨_, (pss_cons (ps_try_as (i := 2) (Wout := fun _ _ _ _ => False) rfl rfl sc_lrefused.nd rfl rfl ⟨rfl, by decide, .inl T.g_LoomError⟩ takes0
        (fun W pn xe tk _ => (pss_one (ps_if (pt_cmpR op_eq (pv 1) pe_int (nomark _))
            (pss_one (ps_expr (pe_callS (okx_needHandlers T) (hr.mono (by decide)) rfl T.g_needHandlers T.F_needHandlers.kp T.b_needHandlers (fun σ => passAt tk σ) (pa_cons (pv 0) pa_nil))))
            (pss_one (ps_expr (pe_makeS T.mk_Loom (okx_LoomInit T) (hr.mono (by decide)) rfl T.g_Loom T.b_LoomInit (fun σ => passAt tk σ) (pa_cons (pv 0) (pa_cons (pe_slice (kSlL K) (pe_lst (pa_cons pe_str pa_nil)) (po_some (pe_op op_sub (pv 1) pe_int)) po_none) pa_nil))))))))
        (fun a oe cls d pn hz hf => (pss_one (ps_ret (pe_ix (kIxL K) (pe_lst (pa_cons pe_str (pa_cons pe_str (pa_cons pe_str (pa_cons pe_str (pa_cons pe_str (pa_cons pe_str pa_nil))))))) (pe_callP (E := fun _ => E0) (a := a) (cls := cls) (d := d) hz hf (okp_lkind T) (roomS hr (by decide)) rfl T.g_lkind T.F_lkind.kp T.b_lkind (fun _ => passP) (pa_cons (pv 2) pa_nil)) (fun _ _ => rfl))))))
    (pss_one (ps_ret pe_str))), ?_⟩
  have n0 : n ≠ 0 ∧ n ≤ 3 := by
    rcases hn with ⟨h1, h2⟩ | ⟨_, _, _, h2⟩
    · have := needC_le hs
      omega
    · omega
  obtain ⟨D, i, eC, kd, ei⟩ := nh_kind T n0.1 n0.2
  have suite : ∀ {H1 : Hp}, Kp [] H H1 → ∀ (p : Pn), Zc (.ref D) none p.2 → (∃ vs, p.2.data = .fields vs) → ∀ l, H1 l = none → spp_lkind T p [.ref p.1] (upd H1 l (.lst [V.str "word", .str "handler", .str "twice", .str "stranger", .str "count", .str "other"]))
      (fun y H2 => rIxL K (.ref l) y H2 Q) E0 := fun {H1} k1 p hz hf l hl => ⟨D, i, rfl, kd, hz, hf, fun H2 k2 => ⟨l, _, _, _, rfl, rfl, SqL.of (k2.keep0 upd_same), ei, k _ ((k1.new hl).trans k2)⟩⟩
  refine ⟨_, rfl, rfl, _, rfl, ite2 (fun hq => ?_) (fun hq => ?_)⟩
  · have hn : needC hs ≠ 0 ∧ n = needC hs := by
      rcases hn with h | ⟨_, h1, _⟩
      · exact h
      · have : way = 0 := by simpa using hq
        omega
    refine ⟨_, rfl, a, xs, hs, rfl, ha, hx, hl, fun _ H1 k1 => ?_, fun h0 => absurd h0 hn.1⟩
    rw [← hn.2, eC]
    refine ⟨true, kd.lo, fun _ c hc => ?_, fun q => nomatch q⟩
    refine ⟨by show 6 ≤ sizeLine; decide, fun l hl => ⟨_, rfl, fun p ea hz hf => ?_⟩⟩
    have q := suite k1 p hz hf l hl
    rw [ea] at q
    exact q
  · have hw : way = 1 ∨ way = 2 := by
      have : ¬ way = 0 := by simpa using hq
      omega
    refine ⟨_, rfl, (by show 1 ≤ sizeLine; decide), fun l1 hl1 => ⟨_, rfl, _, _, rfl, rfl, _, rfl, l1, _, rfl, SqL.of upd_same, fun l2 hl2 => ?_⟩⟩
    have j1 := (Kp.refl [] H).new (o := .lst [V.str "nobody"]) hl1
    have j2 := j1.new (o := .lst (cutV [V.str "nobody"] (some (way - 1)) none)) hl2
    obtain ⟨ys, ms, ey, pn, hm, hm1⟩ : ∃ (ys : List V) (ms : List (Option Str)), cutV [V.str "nobody"] (some (way - 1)) none = ys ∧ (∀ Hx : Hp, Paired (NmAt K Hx) ys ms) ∧ ms.length ≤ 100 ∧ (way = 1 → ms = [some sNob]) := by
      rcases hw with rfl | rfl
      · exact ⟨[V.str "nobody"], [some sNob], by rfl, fun _ => .cons rfl .nil, by decide, fun _ => rfl⟩
      · exact ⟨[], [], by rfl, fun _ => .nil, by decide, fun h => by cases h⟩
    have e2 : upd (upd H l1 (.lst [V.str "nobody"])) l2 (.lst (cutV [V.str "nobody"] (some (way - 1)) none)) l2 = some (.lst ys) := by rw [upd_same, ey]
    generalize upd (upd H l1 (.lst [V.str "nobody"])) l2 (.lst (cutV [V.str "nobody"] (some (way - 1)) none)) = H2 at j2 e2 ⊢
    intro lo ldx hlo hldx hne
    have hlo' : upd H2 ldx (.own lo) lo = none := by rw [upd_ne (Ne.symm hne)]; exact hlo
    have kw : Kp [] H2 (upd (upd H2 ldx (.own lo)) lo (.ins T.c_Loom ldx [])) := ((Kp.refl [] H2).new hldx).new hlo'
    have kx := j2.trans kw
    have kk : ∀ {H1}, Kp [lo] (upd (upd H2 ldx (.own lo)) lo (.ins T.c_Loom ldx [])) H1 → Kp [] H H1 := fun {H1} k1 => (kx.transM k1 fun y hy => .inr (by rw [List.mem_singleton.mp hy]; exact j2.dom _ hlo)).mono (by simp)
    refine ⟨lo, ldx, a, l2, xs, ys, hs, ms, rfl, upd_same, kx.keep0 ha, Pd.mono (fun _ _ z => z.kp kx) hx, hl, kw.keep0 e2, pn _, hm, fun h0 H1 k1 => ?_, fun h0 => ⟨?_, fun H1 k1 => ?_⟩⟩
    · have hn : n = needC hs := by
        rcases hn with h | ⟨h1, _⟩
        · exact h.2
        · exact absurd h1 h0
      rw [← hn, eC]
      refine ⟨true, kd.lo, fun _ c hc => ?_, fun q => nomatch q⟩
      refine ⟨by show 6 ≤ sizeLine; decide, fun l hl => ⟨_, rfl, fun p ea hz hf => ?_⟩⟩
      have q := suite (kk k1) p hz hf l hl
      rw [ea] at q
      exact q
    · obtain ⟨h1, h2, h3⟩ : way = 1 ∧ sNob ∉ hs.map A2.nm ∧ n = 3 := by
        rcases hn with h | h
        · exact absurd h0 h.1
        · exact h.2
      rw [hm1 h1]
      unfold dueM
      rw [if_neg h2]
      decide
    · obtain ⟨h1, h2, h3⟩ : way = 1 ∧ sNob ∉ hs.map A2.nm ∧ n = 3 := by
        rcases hn with h | h
        · exact absurd h0 h.1
        · exact h.2
      have e3 : dueC T (dueM (hs.map A2.nm) [] ms) = nhC T n := by
        rw [hm1 h1, h3]
        unfold dueM
        rw [if_neg h2]
        rfl
      rw [e3, eC]
      refine ⟨true, kd.lo, fun _ c hc => ?_, fun q => nomatch q⟩
      refine ⟨by show 6 ≤ sizeLine; decide, fun l hl => ⟨_, rfl, fun p ea hz hf => ?_⟩⟩
      have q := suite (kk k1) p hz hf l hl
      rw [ea] at q
      exact q
end
end Ev
namespace Ev
open PySem L2
section
variable {P : Program} {w : World} {K : PySem.W.Frag} {mg : Str → Option Value} {base : Heap}
abbrev sBell : Str := "bell"
abbrev sA : Str := "a"
def L0 (l : List A0) : Prop := (∃ w ∈ worded, l = [.str w]) ∨ l = [.str sWait, .int 3]
theorem wd_ne : ∀ w ∈ worded, w ≠ sHush ∧ w ≠ sWait := by decide +kernel
theorem tw_now {w : Str} (hw : w ∈ worded) (r : List A0) : deedM (.tup (.str w :: r)) = wordM r := by
  obtain ⟨h1, h2⟩ := wd_ne w hw
  show (if w = sHush then _ else if w = sWait then _ else decide (w ∈ worded) && wordM r) = _
  rw [if_neg h1, if_neg h2, decide_eq_true hw, Bool.true_and]
theorem tw_wait (r : List A0) : deedM (.tup (.str sWait :: r)) = waitM r := by
  show (if sWait = sHush then decide (r.length = 0) else if sWait = sWait then waitM r else decide (sWait ∈ worded) && wordM r) = _
  rw [if_neg (by decide +kernel), if_pos rfl]
theorem tw1 {l : List A0} (h : L0 l) {a : A0} (ha : a.word = false) : deedM (.tup (l ++ [a])) = false := by
  rcases h with ⟨w, hw, rfl⟩ | rfl
  · exact (tw_now hw _).trans ha
  · refine (tw_wait _).trans ?_
    show (true && (_ && a.word)) = false
    rw [ha, Bool.and_false, Bool.and_false]
theorem tw2 {l : List A0} (h : L0 l) : deedM (.tup (l ++ [.str sBell] ++ [.str sA])) = false := by
  rcases h with ⟨w, hw, rfl⟩ | rfl
  · exact tw_now hw _
  · exact tw_wait _
theorem tw3 {l : List A0} (h : L0 l) : deedM (.tup l) = false := by
  rcases h with ⟨w, hw, rfl⟩ | rfl
  · exact tw_now hw _
  · exact tw_wait _
theorem pickA {α : Type} (xs : List α) {i : Int} (h0 : 0 ≤ i) (h1 : i < xs.length) : ∃ n : Nat, i = (n : Int) ∧ n < xs.length := by
  obtain ⟨n, rfl⟩ := Int.eq_ofNat_of_zero_le h0
  exact ⟨n, rfl, by omega⟩
theorem odd7 {i : Int} (h0 : 0 ≤ i) (h1 : i < 7) : ∃ v a, atI [V.str "", .str "A", .str "a b", .str "abcdefghijklm", .int 5, .non, .bl true] i = some v ∧ (∀ H, A0At H v a) ∧ a.word = false := by
  have h : i = 0 ∨ i = 1 ∨ i = 2 ∨ i = 3 ∨ i = 4 ∨ i = 5 ∨ i = 6 := by omega
  rcases h with rfl | rfl | rfl | rfl | rfl | rfl | rfl
  · exact ⟨_, .str "", rfl, fun _ => ⟨rfl, by decide⟩, by decide +kernel⟩
  · exact ⟨_, .str "A", rfl, fun _ => ⟨rfl, by decide⟩, by decide +kernel⟩
  · exact ⟨_, .str "a b", rfl, fun _ => ⟨rfl, by decide⟩, by decide +kernel⟩
  · exact ⟨_, .str "abcdefghijklm", rfl, fun _ => ⟨rfl, by decide⟩, by decide +kernel⟩
  · exact ⟨_, .int 5, rfl, fun _ => rfl, rfl⟩
  · exact ⟨_, .non, rfl, fun _ => rfl, rfl⟩
  · exact ⟨_, .bl true, rfl, fun _ => rfl, rfl⟩
theorem five5 {i : Int} (h0 : 0 ≤ i) (h1 : i < 5) : ∃ z ∈ worded, atI [V.str "now", .str "soon", .str "cancel", .str "join", .str "leave"] i = some (.str z) := by
  have h : i = 0 ∨ i = 1 ∨ i = 2 ∨ i = 3 ∨ i = 4 := by omega
  rcases h with rfl | rfl | rfl | rfl | rfl
  · exact ⟨"now", by decide +kernel, rfl⟩
  · exact ⟨"soon", by decide +kernel, rfl⟩
  · exact ⟨"cancel", by decide +kernel, rfl⟩
  · exact ⟨"join", by decide +kernel, rfl⟩
  · exact ⟨"leave", by decide +kernel, rfl⟩
def sp_ltwisted : Sp := fun vs H Q _ => ∃ (k : Int), vs = [.int k] ∧ ∀ v d H', Kp [] H H' → A1At H' v d → deedM d = false → Q v H'
theorem ok_ltwisted (T : Tx K mg) : FnOk P w K mg base CX0 1 T.f_ltwisted T.d_ltwisted ["_law_k"] (sp_ltwisted) := by
  refine T.F_ltwisted.ok sc_ltwisted (by walk_at "len") (fun cdv A outer s H vs Q E hr h => ?_)
  obtain ⟨kk, rfl, k⟩ := h
  refine ⟨_, (pss_cons (ps_set (i := 1) sc_ltwisted.nd rfl (Or.inl rfl) (pe_tup (pa_cons (pe_ix (kIxL K) (pe_lst (pa_cons pe_str (pa_cons pe_str (pa_cons pe_str (pa_cons pe_str (pa_cons pe_str pa_nil)))))) (pe_op op_mod (pv 0) pe_int) (fun _ _ => rfl)) (pa_cons pe_str pa_nil))))
    (pss_cons (ps_if (pt_cmpR op_eq (pe_op op_mod (pv 0) pe_int) pe_int (nomark _))
        (pss_one (ps_set (i := 1) sc_ltwisted.nd rfl (Or.inl rfl) (pe_tup (pa_cons pe_str (pa_cons pe_int (pa_cons pe_str pa_nil))))))
        pss_nil)
    (pss_cons (ps_set (i := 2) sc_ltwisted.nd rfl (Or.inl rfl) (pe_op op_mod (pe_op op_fdiv (pv 0) pe_int) pe_int))
    (pss_cons (ps_if (pt_cmpR op_lt (pv 2) pe_int (nomark _))
        (pss_one (ps_ret (pe_op (kCatA K) (pe_slice (kSlA K) (pv 1) po_none (po_some (pe_un un_neg pe_int))) (pe_tup (pa_cons (pe_ix (kIxL K) (pe_lst (pa_cons pe_str (pa_cons pe_str (pa_cons pe_str (pa_cons pe_str (pa_cons pe_int (pa_cons pe_non (pa_cons pe_bl pa_nil)))))))) (pv 2) (fun _ _ => rfl)) pa_nil)))))
        pss_nil)
    (pss_cons (ps_if (pt_cmpR op_eq (pv 2) pe_int (nomark _))
        (pss_one (ps_ret (pe_op (kCatA K) (pv 1) (pe_tup (pa_cons pe_str pa_nil)))))
        pss_nil)
    (pss_one (ps_ret (pe_slice (kSlA K) (pv 1) po_none (po_some (pe_un un_neg pe_int)))))))))), ?_⟩
  have wl : ∀ w ∈ worded, w.length ≤ sizeLine := fun w hw => by
    have : ∀ w ∈ worded, w.length ≤ 24 := by decide +kernel
    exact Nat.le_trans (this w hw) (by decide)
  refine seq_cut (fun σ' H' => ∃ (t : Addr) (w : Str), w ∈ worded ∧ Kp [] H H' ∧ H' t = some (.tup [V.str w, .str sBell]) ∧ σ' = [some (.int kk), some (.ref t), none]) ?_ ?_
  rotate_left
  · intro N hN
    obtain ⟨z, hz, ez⟩ := five5 (i := kk % 5) (Int.emod_nonneg _ (by decide)) (Int.emod_lt_of_pos _ (by decide))
    refine ⟨(by show 5 ≤ sizeLine; decide), fun l hl => ⟨_, rfl, _, _, rfl, rfl, (by show (0 : Int) < 5; decide), l, _, _, _, rfl, rfl, SqL.of upd_same, ez, (by show 2 ≤ sizeLine; decide), fun t ht => ?_⟩⟩
    exact hN _ _ ⟨t, z, hz, ((Kp.refl [] H).new hl).new (o := .tup [V.str z, .str "bell"]) ht, upd_same, rfl⟩
  rintro σ' H1 ⟨t1, w, hw, k1, ht1, rfl⟩
  refine seq_cut (fun σ' H' => ∃ (t : Addr) (x0 : List V) (l0 : List A0), Kp [] H H' ∧ H' t = some (.tup (x0 ++ [V.str sBell])) ∧ (∀ Hx, Paired (A0At Hx) x0 l0) ∧ L0 l0 ∧ cutV (x0 ++ [V.str sBell]) none (some (-1)) = x0 ∧
    (¬ (HT.sIx (x0 ++ [V.str sBell]).length 0 none = 0 ∧ HT.sIx (x0 ++ [V.str sBell]).length (x0 ++ [V.str sBell]).length (some (-1)) = (x0 ++ [V.str sBell]).length)) ∧ x0 ≠ [] ∧ x0.length ≤ 2 ∧ σ' = [some (.int kk), some (.ref t), none]) ?_ ?_
  rotate_left
  · intro N hN
    refine ⟨_, rfl, _, _, rfl, rfl, (by show (0 : Int) < 6; decide), rfl, _, rfl, ite2 (fun hq => ?_) (fun hq => ?_)⟩
    · refine ⟨(by show 3 ≤ sizeLine; decide), fun t ht => ?_⟩
      exact hN _ _ ⟨t, [V.str sWait, .int 3], [.str sWait, .int 3], k1.new ht, upd_same, fun _ => .cons ⟨rfl, by decide⟩ (.cons rfl .nil), .inr rfl, rfl, by decide, by simp, by decide, rfl⟩
    · exact hN _ _ ⟨t1, [V.str w], [.str w], k1, ht1, fun _ => .cons ⟨rfl, wl w hw⟩ .nil, .inl ⟨w, hw, rfl⟩, rfl, (by show ¬ (HT.sIx 2 0 none = 0 ∧ HT.sIx 2 2 (some (-1)) = 2); decide), by simp, by show 1 ≤ 2; decide, rfl⟩
  rintro σ' H2 ⟨t, x0, l0, k2, ht, pl, hl0, ecut, hncut, hx0, lx0, rfl⟩
  refine ⟨_, rfl, _, _, rfl, rfl, ⟨by decide, by decide⟩, _, _, rfl, rfl, (by show (0 : Int) < 9; decide), ?_⟩
  have w0 : 0 ≤ kk / 30 % 9 := Int.emod_nonneg _ (by decide)
  have w1 : kk / 30 % 9 < 9 := Int.emod_lt_of_pos _ (by decide)
  refine ⟨_, rfl, _, _, rfl, rfl, _, rfl, ite2 (fun hq => ?_) (fun hq => ?_)⟩
  · have h7 : kk / 30 % 9 < 7 := by simpa using hq
    obtain ⟨v, a, ev, hv, ha⟩ := odd7 w0 h7
    refine ⟨_, rfl, _, rfl, _, rfl, t, _, rfl, SqT.of ht, (fun h => absurd h hncut), fun _ t2 ht2 => ?_⟩
    rw [ecut]
    have j2 := (Kp.refl [] H2).new (o := .tup x0) ht2
    have e2 : upd H2 t2 (.tup x0) t2 = some (.tup x0) := upd_same
    generalize upd H2 t2 (.tup x0) = H3 at j2 e2 ⊢
    refine ⟨(by show 7 ≤ sizeLine; decide), fun l hl => ⟨_, rfl, l, _, _, _, rfl, rfl, SqL.of upd_same, ev, (by show 1 ≤ sizeLine; decide), fun t3 ht3 => ?_⟩⟩
    have j3 := ((Kp.refl [] H3).new (o := .lst [V.str "", .str "A", .str "a b", .str "abcdefghijklm", .int 5, .non, .bl true]) hl).new (o := .tup [v]) ht3
    have e3 : upd (upd H3 l (.lst [V.str "", .str "A", .str "a b", .str "abcdefghijklm", .int 5, .non, .bl true])) t3 (.tup [v]) t3 = some (.tup [v]) := upd_same
    generalize upd (upd H3 l (.lst [V.str "", .str "A", .str "a b", .str "abcdefghijklm", .int 5, .non, .bl true])) t3 (.tup [v]) = H4 at j3 e3 ⊢
    refine ⟨t2, t3, _, _, rfl, rfl, SqT.of (j3.keep0 e2), SqT.of e3, Nat.le_trans (show x0.length + 1 ≤ 3 by omega) (by decide), (fun h => absurd h hx0), (fun _ h => by cases h), fun _ _ t4 ht4 => ?_⟩
    exact k _ (.tup (l0 ++ [a])) _ (((k2.trans j2).trans j3).new ht4) ⟨t4, _, rfl, upd_same, Pd.append (pl _) (.cons (hv _) .nil)⟩ (tw1 hl0 ha)
  refine ⟨_, rfl, rfl, _, rfl, ite2 (fun hq2 => ?_) (fun hq2 => ?_)⟩
  · refine ⟨_, rfl, (by show 1 ≤ sizeLine; decide), fun t3 ht3 => ?_⟩
    have j3 := (Kp.refl [] H2).new (o := .tup [V.str "a"]) ht3
    have e3 : upd H2 t3 (.tup [V.str "a"]) t3 = some (.tup [V.str "a"]) := upd_same
    generalize upd H2 t3 (.tup [V.str "a"]) = H4 at j3 e3 ⊢
    refine ⟨t, t3, _, _, rfl, rfl, SqT.of (j3.keep0 ht), SqT.of e3, Nat.le_trans (show (x0 ++ [V.str sBell]).length + 1 ≤ 4 by rw [List.length_append, List.length_singleton]; omega) (by decide), (fun h => by simp at h), (fun _ h => by cases h), fun _ _ t4 ht4 => ?_⟩
    exact k _ (.tup (l0 ++ [.str sBell] ++ [.str sA])) _ ((k2.trans j3).new ht4) ⟨t4, _, rfl, upd_same, Pd.append (Pd.append (pl _) (.cons (show A0At _ _ (.str sBell) from ⟨rfl, by decide⟩) .nil)) (.cons (show A0At _ _ (.str sA) from ⟨rfl, by decide⟩) .nil)⟩ (tw2 hl0)
  · refine ⟨_, rfl, _, rfl, _, rfl, t, _, rfl, SqT.of ht, (fun h => absurd h hncut), fun _ t2 ht2 => ?_⟩
    rw [ecut]
    exact k _ (.tup l0) _ (k2.new ht2) ⟨t2, _, rfl, upd_same, pl _⟩ (tw3 hl0)
end
end Ev
namespace Ev
open PySem L2
section
variable {P : Program} {w : World} {K : PySem.W.Frag} {mg : Str → Option Value} {base : Heap}
def Bad (H : Hp) (v : V) : Prop := ∃ d, A1At H v d ∧ deedM d = false
theorem Bad.kp {H H' : Hp} {v : V} (h : Bad H v) (k : Kp [] H H') : Bad H' v := by
  obtain ⟨d, a, b⟩ := h
  exact ⟨d, a.kp k, b⟩
def GB (te : TE) : Prop := ∀ (σ : L2.St) (H : Hp) (Q : VK), (∀ v H', Kp [] H H' → Bad H' v → Q v H') → te σ H Q
def GA (ta : TA) (n : Nat) : Prop := ∀ (σ : L2.St) (H : Hp) (Q : List V → Hp → Prop), (∀ vs H', Kp [] H H' → vs.length = n → (∀ v ∈ vs, Bad H' v) → Q vs H') → ta σ H Q
theorem GA.nil : GA tNil 0 := fun σ H Q h => h [] H (Kp.refl _ _) rfl (fun _ h => nomatch h)
theorem GA.cons {te : TE} {ta : TA} {n : Nat} (a : GB te) (b : GA ta n) : GA (tCons te ta) (n + 1) := fun σ H Q h => a σ H _ fun v H1 k1 b1 => b σ H1 _ fun vs H2 k2 l2 b2 => h (v :: vs) H2 (k1.trans k2) (by rw [List.length_cons, l2]) fun x hx => by
  rcases List.mem_cons.mp hx with e | q
  · rw [e]; exact b1.kp k2
  · exact b2 x q
def sp_lbadDeed : Sp := fun vs H Q _ => ∃ (k : Int), vs = [.int k] ∧ ∀ v H', Kp [] H H' → Bad H' v → Q v H'
theorem ok_lbadDeed (T : Tx K mg) : FnOk P w K mg base CX0 2 T.f_lbadDeed T.d_lbadDeed ["_law_k"] (sp_lbadDeed) := by
  refine T.F_lbadDeed.ok sc_lbadDeed (by walk_at "len") (fun cdv A outer s H vs Q E hr h => ?_)
  obtain ⟨kk, rfl, k⟩ := h
  refine ⟨_, (pss_cons (ps_set (i := 1) sc_lbadDeed.nd rfl (Or.inl rfl) (pe_lst (pa_cons (pe_tup (pa_cons pe_str pa_nil)) (pa_cons (pe_tup (pa_cons pe_str (pa_cons pe_str pa_nil))) (pa_cons (pe_tup (pa_cons pe_str (pa_cons (pe_un un_neg pe_int) (pa_cons pe_str pa_nil)))) (pa_cons (pe_tup (pa_cons pe_str (pa_cons pe_int (pa_cons pe_str pa_nil)))) (pa_cons (pe_tup (pa_cons pe_str (pa_cons pe_bl (pa_cons pe_str pa_nil)))) (pa_cons (pe_tup (pa_cons pe_str (pa_cons pe_int pa_nil))) pa_nil))))))))
    (pss_cons (ps_set (i := 1) sc_lbadDeed.nd rfl (Or.inl rfl) (pe_op op_cat (pv 1) (pe_lst (pa_cons (pe_tup (pa_cons pe_str (pa_cons pe_str pa_nil))) (pa_cons (pe_lst (pa_cons pe_str (pa_cons pe_str pa_nil))) (pa_cons (pe_tup (pa_cons pe_str (pa_cons pe_str pa_nil))) (pa_cons (pe_tup pa_nil) (pa_cons (pe_tup (pa_cons pe_str (pa_cons pe_str pa_nil))) (pa_cons (pe_tup (pa_cons pe_str (pa_cons pe_int pa_nil))) (pa_cons pe_non (pa_cons (pe_tup (pa_cons pe_str (pa_cons pe_str pa_nil))) pa_nil)))))))))))
    (pss_cons (ps_set (i := 1) sc_lbadDeed.nd rfl (Or.inl rfl) (pe_op op_cat (pv 1) (pe_lst (pa_cons (pe_tup (pa_cons pe_str (pa_cons pe_str pa_nil))) (pa_cons (pe_tup (pa_cons pe_str (pa_cons pe_str pa_nil))) (pa_cons (pe_tup (pa_cons pe_str (pa_cons pe_int (pa_cons pe_str pa_nil)))) (pa_cons (pe_tup (pa_cons pe_str (pa_cons pe_str (pa_cons pe_str pa_nil)))) (pa_cons (pe_tup (pa_cons pe_str (pa_cons pe_int (pa_cons pe_str pa_nil)))) (pa_cons (pe_tup (pa_cons pe_str (pa_cons pe_int (pa_cons pe_str pa_nil)))) pa_nil)))))))))
    (pss_cons (ps_set (i := 1) sc_lbadDeed.nd rfl (Or.inl rfl) (pe_op op_cat (pv 1) (pe_lst (pa_cons (pe_tup (pa_cons (pe_lst (pa_cons pe_str pa_nil)) (pa_cons pe_str pa_nil))) (pa_cons (pe_tup (pa_cons pe_dnewK (pa_cons pe_str pa_nil))) (pa_cons (pe_tup (pa_cons (pe_lst pa_nil) pa_nil)) (pa_cons (pe_tup (pa_cons pe_str (pa_cons (pe_lst (pa_cons pe_str pa_nil)) pa_nil))) (pa_cons (pe_tup (pa_cons pe_str (pa_cons pe_dnewK pa_nil))) (pa_cons (pe_tup (pa_cons pe_str (pa_cons (pe_lst pa_nil) (pa_cons pe_str pa_nil)))) (pa_cons (pe_tup (pa_cons pe_str (pa_cons pe_int (pa_cons pe_dnewK pa_nil)))) pa_nil))))))))))
    (pss_cons (ps_if (pt_cmpR op_eq (pe_op op_mod (pv 0) pe_int) pe_int (nomark _))
        (pss_one (ps_ret (pe_call (ok_ltwisted T) (hr.mono (by decide)) rfl T.g_ltwisted T.F_ltwisted.kp T.b_ltwisted .nil pass0 (pa_cons (pe_op op_fdiv (pv 0) pe_int) pa_nil))))
        pss_nil)
    (pss_one (ps_ret (pe_ix (kIxL K) (pv 1) (pe_op op_mod (pe_op op_fdiv (pv 0) pe_int) pe_int) (fun _ _ => rfl))))))))), ?_⟩
  refine seq_go (asg_go ?_)
  refine (GA.cons ?_ (GA.cons ?_ (GA.cons ?_ (GA.cons ?_ (GA.cons ?_ (GA.cons ?_ GA.nil)))))) _ _ _ ?_
  · intro σ H Q h
    exact ⟨by show 1 ≤ sizeLine; decide, fun t ht => h _ _ ((Kp.refl [] H).new ht) ⟨.tup [.str "now"], ⟨t, _, rfl, upd_same, (.cons (show A0At _ _ (.str "now") from ⟨rfl, by decide⟩) .nil)⟩, by decide +kernel⟩⟩
  · intro σ H Q h
    exact ⟨by show 2 ≤ sizeLine; decide, fun t ht => h _ _ ((Kp.refl [] H).new ht) ⟨.tup [.str "now", .str "A"], ⟨t, _, rfl, upd_same, (.cons (show A0At _ _ (.str "now") from ⟨rfl, by decide⟩) (.cons (show A0At _ _ (.str "A") from ⟨rfl, by decide⟩) .nil))⟩, by decide +kernel⟩⟩
  · intro σ H Q h
    refine ⟨_, rfl, ?_⟩
    exact ⟨by show 3 ≤ sizeLine; decide, fun t ht => h _ _ ((Kp.refl [] H).new ht) ⟨.tup [.str "wait", .int (-1), .str "a"], ⟨t, _, rfl, upd_same, (.cons (show A0At _ _ (.str "wait") from ⟨rfl, by decide⟩) (.cons (show A0At _ _ (.int (-1)) from rfl) (.cons (show A0At _ _ (.str "a") from ⟨rfl, by decide⟩) .nil)))⟩, by decide +kernel⟩⟩
  · intro σ H Q h
    exact ⟨by show 3 ≤ sizeLine; decide, fun t ht => h _ _ ((Kp.refl [] H).new ht) ⟨.tup [.str "wait", .int (1000000001), .str "a"], ⟨t, _, rfl, upd_same, (.cons (show A0At _ _ (.str "wait") from ⟨rfl, by decide⟩) (.cons (show A0At _ _ (.int (1000000001)) from rfl) (.cons (show A0At _ _ (.str "a") from ⟨rfl, by decide⟩) .nil)))⟩, by decide +kernel⟩⟩
  · intro σ H Q h
    exact ⟨by show 3 ≤ sizeLine; decide, fun t ht => h _ _ ((Kp.refl [] H).new ht) ⟨.tup [.str "wait", .bl true, .str "a"], ⟨t, _, rfl, upd_same, (.cons (show A0At _ _ (.str "wait") from ⟨rfl, by decide⟩) (.cons (show A0At _ _ (.bl true) from rfl) (.cons (show A0At _ _ (.str "a") from ⟨rfl, by decide⟩) .nil)))⟩, by decide +kernel⟩⟩
  · intro σ H Q h
    exact ⟨by show 2 ≤ sizeLine; decide, fun t ht => h _ _ ((Kp.refl [] H).new ht) ⟨.tup [.str "wait", .int (1)], ⟨t, _, rfl, upd_same, (.cons (show A0At _ _ (.str "wait") from ⟨rfl, by decide⟩) (.cons (show A0At _ _ (.int (1)) from rfl) .nil))⟩, by decide +kernel⟩⟩
  intro vs H1 k1 l1 b1
  refine ⟨by rw [l1]; decide, fun p hp => ?_⟩
  have kp1 := k1.new (o := .lst vs) hp
  have e1 : upd H1 p (.lst vs) p = some (.lst vs) := upd_same
  have b1 : ∀ v ∈ vs, Bad (upd H1 p (.lst vs)) v := fun v hv => (b1 v hv).kp ((Kp.refl [] H1).new hp)
  generalize upd H1 p (.lst vs) = H2 at kp1 e1 b1 ⊢
  dsimp only [gName]
  refine seq_go (asg_go ?_)
  refine ⟨_, rfl, ?_⟩
  refine (GA.cons ?_ (GA.cons ?_ (GA.cons ?_ (GA.cons ?_ (GA.cons ?_ (GA.cons ?_ (GA.cons ?_ (GA.cons ?_ GA.nil)))))))) _ _ _ ?_
  · intro σ H Q h
    exact ⟨by show 2 ≤ sizeLine; decide, fun t ht => h _ _ ((Kp.refl [] H).new ht) ⟨.tup [.str "hush", .str "a"], ⟨t, _, rfl, upd_same, (.cons (show A0At _ _ (.str "hush") from ⟨rfl, by decide⟩) (.cons (show A0At _ _ (.str "a") from ⟨rfl, by decide⟩) .nil))⟩, by decide +kernel⟩⟩
  · exact fun σ H Q h => ⟨by show 2 ≤ sizeLine; decide, fun t ht => h _ _ ((Kp.refl [] H).new ht) ⟨.atom .lst, ⟨t, _, rfl, upd_same⟩, rfl⟩⟩
  · intro σ H Q h
    exact ⟨by show 2 ≤ sizeLine; decide, fun t ht => h _ _ ((Kp.refl [] H).new ht) ⟨.tup [.str "jump", .str "a"], ⟨t, _, rfl, upd_same, (.cons (show A0At _ _ (.str "jump") from ⟨rfl, by decide⟩) (.cons (show A0At _ _ (.str "a") from ⟨rfl, by decide⟩) .nil))⟩, by decide +kernel⟩⟩
  · intro σ H Q h
    exact ⟨by show 0 ≤ sizeLine; decide, fun t ht => h _ _ ((Kp.refl [] H).new ht) ⟨.tup [], ⟨t, _, rfl, upd_same, .nil⟩, by decide +kernel⟩⟩
  · intro σ H Q h
    exact ⟨by show 2 ≤ sizeLine; decide, fun t ht => h _ _ ((Kp.refl [] H).new ht) ⟨.tup [.str "soon", .str ""], ⟨t, _, rfl, upd_same, (.cons (show A0At _ _ (.str "soon") from ⟨rfl, by decide⟩) (.cons (show A0At _ _ (.str "") from ⟨rfl, by decide⟩) .nil))⟩, by decide +kernel⟩⟩
  · intro σ H Q h
    exact ⟨by show 2 ≤ sizeLine; decide, fun t ht => h _ _ ((Kp.refl [] H).new ht) ⟨.tup [.str "join", .int (5)], ⟨t, _, rfl, upd_same, (.cons (show A0At _ _ (.str "join") from ⟨rfl, by decide⟩) (.cons (show A0At _ _ (.int (5)) from rfl) .nil))⟩, by decide +kernel⟩⟩
  · exact fun σ H Q h => h _ _ (Kp.refl _ _) ⟨.atom .non, rfl, rfl⟩
  · intro σ H Q h
    exact ⟨by show 2 ≤ sizeLine; decide, fun t ht => h _ _ ((Kp.refl [] H).new ht) ⟨.tup [.str "a", .str "now"], ⟨t, _, rfl, upd_same, (.cons (show A0At _ _ (.str "a") from ⟨rfl, by decide⟩) (.cons (show A0At _ _ (.str "now") from ⟨rfl, by decide⟩) .nil))⟩, by decide +kernel⟩⟩
  intro vs2 H3 k3 l3 b3
  refine ⟨by rw [l3]; decide, fun p2 hp2 => ?_⟩
  have k4 := k3.new (o := .lst vs2) hp2
  have e4 : upd H3 p2 (.lst vs2) p2 = some (.lst vs2) := upd_same
  have b4 : ∀ v ∈ vs2, Bad (upd H3 p2 (.lst vs2)) v := fun v hv => (b3 v hv).kp ((Kp.refl [] H3).new hp2)
  generalize upd H3 p2 (.lst vs2) = H4 at k4 e4 b4 ⊢
  refine ⟨p, p2, _, _, rfl, rfl, k4.keep0 e1, e4, Nat.le_trans (show vs.length + vs2.length ≤ 30 by omega) (by decide), fun p3 hp3 => ?_⟩
  have kp1 := (kp1.trans k4).new (o := .lst (vs ++ vs2)) hp3
  have e1 : upd H4 p3 (.lst (vs ++ vs2)) p3 = some (.lst (vs ++ vs2)) := upd_same
  have b1 : ∀ v ∈ vs ++ vs2, Bad (upd H4 p3 (.lst (vs ++ vs2))) v := fun v hv => by
    rcases List.mem_append.mp hv with q | q
    · exact (b1 v q).kp (k4.new hp3)
    · exact (b4 v q).kp ((Kp.refl [] H4).new hp3)
  have l1 : (vs ++ vs2).length = 14 := by rw [List.length_append, l1, l3]
  generalize upd H4 p3 (.lst (vs ++ vs2)) = H2 at kp1 e1 b1 ⊢
  generalize vs ++ vs2 = vs at e1 b1 l1
  generalize p3 = p at e1 ⊢
  dsimp only [gName]
  refine seq_go (asg_go ?_)
  refine ⟨_, rfl, ?_⟩
  refine (GA.cons ?_ (GA.cons ?_ (GA.cons ?_ (GA.cons ?_ (GA.cons ?_ (GA.cons ?_ GA.nil)))))) _ _ _ ?_
  · intro σ H Q h
    exact ⟨by show 2 ≤ sizeLine; decide, fun t ht => h _ _ ((Kp.refl [] H).new ht) ⟨.tup [.str "Now", .str "a"], ⟨t, _, rfl, upd_same, (.cons (show A0At _ _ (.str "Now") from ⟨rfl, by decide⟩) (.cons (show A0At _ _ (.str "a") from ⟨rfl, by decide⟩) .nil))⟩, by decide +kernel⟩⟩
  · intro σ H Q h
    exact ⟨by show 2 ≤ sizeLine; decide, fun t ht => h _ _ ((Kp.refl [] H).new ht) ⟨.tup [.str "", .str "a"], ⟨t, _, rfl, upd_same, (.cons (show A0At _ _ (.str "") from ⟨rfl, by decide⟩) (.cons (show A0At _ _ (.str "a") from ⟨rfl, by decide⟩) .nil))⟩, by decide +kernel⟩⟩
  · intro σ H Q h
    exact ⟨by show 3 ≤ sizeLine; decide, fun t ht => h _ _ ((Kp.refl [] H).new ht) ⟨.tup [.str "wait", .int (5), .str ""], ⟨t, _, rfl, upd_same, (.cons (show A0At _ _ (.str "wait") from ⟨rfl, by decide⟩) (.cons (show A0At _ _ (.int (5)) from rfl) (.cons (show A0At _ _ (.str "") from ⟨rfl, by decide⟩) .nil)))⟩, by decide +kernel⟩⟩
  · intro σ H Q h
    exact ⟨by show 3 ≤ sizeLine; decide, fun t ht => h _ _ ((Kp.refl [] H).new ht) ⟨.tup [.str "cancel", .str "a", .str "b"], ⟨t, _, rfl, upd_same, (.cons (show A0At _ _ (.str "cancel") from ⟨rfl, by decide⟩) (.cons (show A0At _ _ (.str "a") from ⟨rfl, by decide⟩) (.cons (show A0At _ _ (.str "b") from ⟨rfl, by decide⟩) .nil)))⟩, by decide +kernel⟩⟩
  · intro σ H Q h
    exact ⟨by show 3 ≤ sizeLine; decide, fun t ht => h _ _ ((Kp.refl [] H).new ht) ⟨.tup [.str "waits", .int (5), .str "a"], ⟨t, _, rfl, upd_same, (.cons (show A0At _ _ (.str "waits") from ⟨rfl, by decide⟩) (.cons (show A0At _ _ (.int (5)) from rfl) (.cons (show A0At _ _ (.str "a") from ⟨rfl, by decide⟩) .nil)))⟩, by decide +kernel⟩⟩
  · intro σ H Q h
    exact ⟨by show 3 ≤ sizeLine; decide, fun t ht => h _ _ ((Kp.refl [] H).new ht) ⟨.tup [.str "hush", .int (1), .str "a"], ⟨t, _, rfl, upd_same, (.cons (show A0At _ _ (.str "hush") from ⟨rfl, by decide⟩) (.cons (show A0At _ _ (.int (1)) from rfl) (.cons (show A0At _ _ (.str "a") from ⟨rfl, by decide⟩) .nil)))⟩, by decide +kernel⟩⟩
  intro vs2 H3 k3 l3 b3
  refine ⟨by rw [l3]; decide, fun p2 hp2 => ?_⟩
  have k4 := k3.new (o := .lst vs2) hp2
  have e4 : upd H3 p2 (.lst vs2) p2 = some (.lst vs2) := upd_same
  have b4 : ∀ v ∈ vs2, Bad (upd H3 p2 (.lst vs2)) v := fun v hv => (b3 v hv).kp ((Kp.refl [] H3).new hp2)
  generalize upd H3 p2 (.lst vs2) = H4 at k4 e4 b4 ⊢
  refine ⟨p, p2, _, _, rfl, rfl, k4.keep0 e1, e4, Nat.le_trans (show vs.length + vs2.length ≤ 30 by omega) (by decide), fun p3 hp3 => ?_⟩
  have kp1 := (kp1.trans k4).new (o := .lst (vs ++ vs2)) hp3
  have e1 : upd H4 p3 (.lst (vs ++ vs2)) p3 = some (.lst (vs ++ vs2)) := upd_same
  have b1 : ∀ v ∈ vs ++ vs2, Bad (upd H4 p3 (.lst (vs ++ vs2))) v := fun v hv => by
    rcases List.mem_append.mp hv with q | q
    · exact (b1 v q).kp (k4.new hp3)
    · exact (b4 v q).kp ((Kp.refl [] H4).new hp3)
  have l1 : (vs ++ vs2).length = 20 := by rw [List.length_append, l1, l3]
  generalize upd H4 p3 (.lst (vs ++ vs2)) = H2 at kp1 e1 b1 ⊢
  generalize vs ++ vs2 = vs at e1 b1 l1
  generalize p3 = p at e1 ⊢
  dsimp only [gName]
  refine seq_go (asg_go ?_)
  refine ⟨_, rfl, ?_⟩
  refine (GA.cons ?_ (GA.cons ?_ (GA.cons ?_ (GA.cons ?_ (GA.cons ?_ (GA.cons ?_ (GA.cons ?_ GA.nil))))))) _ _ _ ?_
  · intro σ H Q h
    refine ⟨by show 1 ≤ sizeLine; decide, fun l hl => ?_⟩
    exact ⟨by show 2 ≤ sizeLine; decide, fun t ht => h _ _ (((Kp.refl [] H).new hl).new ht) ⟨.tup [.lst, .str "a"], ⟨t, _, rfl, upd_same, (.cons (show A0At _ _ .lst from ⟨l, _, rfl, ((Kp.refl [] _).new ht).keep0 upd_same⟩) (.cons (show A0At _ _ (.str "a") from ⟨rfl, by decide⟩) .nil))⟩, by decide +kernel⟩⟩
  · intro σ H Q h
    intro l hl
    exact ⟨by show 2 ≤ sizeLine; decide, fun t ht => h _ _ (((Kp.refl [] H).new hl).new ht) ⟨.tup [.dct, .str "a"], ⟨t, _, rfl, upd_same, (.cons (show A0At _ _ .dct from ⟨l, _, rfl, ((Kp.refl [] _).new ht).keep0 upd_same⟩) (.cons (show A0At _ _ (.str "a") from ⟨rfl, by decide⟩) .nil))⟩, by decide +kernel⟩⟩
  · intro σ H Q h
    refine ⟨by show 0 ≤ sizeLine; decide, fun l hl => ?_⟩
    exact ⟨by show 1 ≤ sizeLine; decide, fun t ht => h _ _ (((Kp.refl [] H).new hl).new ht) ⟨.tup [.lst], ⟨t, _, rfl, upd_same, (.cons (show A0At _ _ .lst from ⟨l, _, rfl, ((Kp.refl [] _).new ht).keep0 upd_same⟩) .nil)⟩, by decide +kernel⟩⟩
  · intro σ H Q h
    refine ⟨by show 1 ≤ sizeLine; decide, fun l hl => ?_⟩
    exact ⟨by show 2 ≤ sizeLine; decide, fun t ht => h _ _ (((Kp.refl [] H).new hl).new ht) ⟨.tup [.str "now", .lst], ⟨t, _, rfl, upd_same, (.cons (show A0At _ _ (.str "now") from ⟨rfl, by decide⟩) (.cons (show A0At _ _ .lst from ⟨l, _, rfl, ((Kp.refl [] _).new ht).keep0 upd_same⟩) .nil))⟩, by decide +kernel⟩⟩
  · intro σ H Q h
    intro l hl
    exact ⟨by show 2 ≤ sizeLine; decide, fun t ht => h _ _ (((Kp.refl [] H).new hl).new ht) ⟨.tup [.str "join", .dct], ⟨t, _, rfl, upd_same, (.cons (show A0At _ _ (.str "join") from ⟨rfl, by decide⟩) (.cons (show A0At _ _ .dct from ⟨l, _, rfl, ((Kp.refl [] _).new ht).keep0 upd_same⟩) .nil))⟩, by decide +kernel⟩⟩
  · intro σ H Q h
    refine ⟨by show 0 ≤ sizeLine; decide, fun l hl => ?_⟩
    exact ⟨by show 3 ≤ sizeLine; decide, fun t ht => h _ _ (((Kp.refl [] H).new hl).new ht) ⟨.tup [.str "wait", .lst, .str "a"], ⟨t, _, rfl, upd_same, (.cons (show A0At _ _ (.str "wait") from ⟨rfl, by decide⟩) (.cons (show A0At _ _ .lst from ⟨l, _, rfl, ((Kp.refl [] _).new ht).keep0 upd_same⟩) (.cons (show A0At _ _ (.str "a") from ⟨rfl, by decide⟩) .nil)))⟩, by decide +kernel⟩⟩
  · intro σ H Q h
    intro l hl
    exact ⟨by show 3 ≤ sizeLine; decide, fun t ht => h _ _ (((Kp.refl [] H).new hl).new ht) ⟨.tup [.str "wait", .int (3), .dct], ⟨t, _, rfl, upd_same, (.cons (show A0At _ _ (.str "wait") from ⟨rfl, by decide⟩) (.cons (show A0At _ _ (.int (3)) from rfl) (.cons (show A0At _ _ .dct from ⟨l, _, rfl, ((Kp.refl [] _).new ht).keep0 upd_same⟩) .nil)))⟩, by decide +kernel⟩⟩
  intro vs2 H3 k3 l3 b3
  refine ⟨by rw [l3]; decide, fun p2 hp2 => ?_⟩
  have k4 := k3.new (o := .lst vs2) hp2
  have e4 : upd H3 p2 (.lst vs2) p2 = some (.lst vs2) := upd_same
  have b4 : ∀ v ∈ vs2, Bad (upd H3 p2 (.lst vs2)) v := fun v hv => (b3 v hv).kp ((Kp.refl [] H3).new hp2)
  generalize upd H3 p2 (.lst vs2) = H4 at k4 e4 b4 ⊢
  refine ⟨p, p2, _, _, rfl, rfl, k4.keep0 e1, e4, Nat.le_trans (show vs.length + vs2.length ≤ 30 by omega) (by decide), fun p3 hp3 => ?_⟩
  have kp1 := (kp1.trans k4).new (o := .lst (vs ++ vs2)) hp3
  have e1 : upd H4 p3 (.lst (vs ++ vs2)) p3 = some (.lst (vs ++ vs2)) := upd_same
  have b1 : ∀ v ∈ vs ++ vs2, Bad (upd H4 p3 (.lst (vs ++ vs2))) v := fun v hv => by
    rcases List.mem_append.mp hv with q | q
    · exact (b1 v q).kp (k4.new hp3)
    · exact (b4 v q).kp ((Kp.refl [] H4).new hp3)
  have l1 : (vs ++ vs2).length = 27 := by rw [List.length_append, l1, l3]
  generalize upd H4 p3 (.lst (vs ++ vs2)) = H2 at kp1 e1 b1 ⊢
  generalize vs ++ vs2 = vs at e1 b1 l1
  generalize p3 = p at e1 ⊢
  dsimp only [gName]
  refine ⟨_, rfl, _, _, rfl, rfl, (by show (0 : Int) < 2; decide), rfl, _, rfl, ite2 (fun hq => ?_) (fun hq => ?_)⟩
  · exact ⟨_, rfl, _, _, rfl, rfl, ⟨by decide, by decide⟩, _, rfl, fun v d H' k2 hv hd => k v H' (kp1.trans k2) ⟨d, hv, hd⟩⟩
  · have i0 : 0 ≤ kk / 2 % 27 := Int.emod_nonneg _ (by decide)
    have i1 : kk / 2 % 27 < 27 := Int.emod_lt_of_pos _ (by decide)
    obtain ⟨j, ej, hj⟩ := pickA vs i0 (by rw [l1]; exact i1)
    have hv : vs[j]? = some vs[j] := List.getElem?_eq_getElem hj
    refine ⟨_, rfl, _, rfl, _, _, rfl, rfl, ⟨by decide, by decide⟩, _, _, rfl, rfl, (by show (0 : Int) < 27; decide), p, _, _, _, rfl, rfl, SqL.of e1, (by rw [ej]; exact atI_nat hv), ?_⟩
    exact k _ _ kp1 (b1 _ (List.mem_of_getElem? hv))
end
end Ev
namespace Ev
open PySem L2
/-! ### data of any depth: what == reads -/
def okD (n : Nat) (d : PyData) : Prop := d.canLay0 = true ∧ d.depth ≤ n
theorem okD.mono {n m : Nat} {d : PyData} (h : okD n d) (l : n ≤ m) : okD m d := ⟨h.1, Nat.le_trans h.2 l⟩
theorem okD.sh {n : Nat} {d : PyData} (h : okD n d) (l : n ≤ 64 := by decide) : SeqAt.shaped d = true := by
  show (d.canLay0 && decide (d.depth ≤ 64)) = true
  rw [Bool.and_eq_true]
  exact ⟨h.1, decide_eq_true (Nat.le_trans h.2 l)⟩
theorem okD.rfl {n : Nat} {d : PyData} (h : okD n d) : PyData.eqv d d = true := SeqAt.eqv_refl d h.1
def strOkT (x : Str) : Prop := PyData.strOk x = true
theorem ok_int (i : Int) : okD 0 (.int i) := by simp [okD, PyData.canLay0, PyData.depth]
theorem ok_non : okD 0 .none := by simp [okD, PyData.canLay0, PyData.depth]
theorem ok_bl (b : Bool) : okD 0 (.bool b) := by simp [okD, PyData.canLay0, PyData.depth]
theorem ok_str {x : Str} (h : strOkT x) : okD 0 (.str x) := by
  refine ⟨?_, by simp [PyData.depth]⟩
  unfold PyData.canLay0
  exact h
theorem okAll {n : Nat} : ∀ {ds : List PyData}, (∀ d ∈ ds, okD n d) → PyData.canLayAll0 ds = true ∧ PyData.depthAll ds ≤ n
  | [], _ => ⟨by simp [PyData.canLayAll0], by simp [PyData.depthAll]⟩
  | d :: ds, h => by
    obtain ⟨h1, h2⟩ := okAll (ds := ds) fun x hx => h x (List.mem_cons_of_mem _ hx)
    obtain ⟨h3, h4⟩ := h d (List.mem_cons_self ..)
    constructor
    · rw [PyData.canLayAll0, h3, h1]
      all_goals rfl
    · simp only [PyData.depthAll]
      omega
theorem ok_lst {n : Nat} {ds : List PyData} (h : ∀ d ∈ ds, okD n d) : okD (n + 1) (.list ds) := by
  obtain ⟨h1, h2⟩ := okAll h
  refine ⟨by rw [PyData.canLay0]; exact h1, ?_⟩
  simp only [PyData.depth]
  omega
theorem ok_tup {n : Nat} {ds : List PyData} (h : ∀ d ∈ ds, okD n d) : okD (n + 1) (.tuple ds) := by
  obtain ⟨h1, h2⟩ := okAll h
  refine ⟨by rw [PyData.canLay0]; exact h1, ?_⟩
  simp only [PyData.depth]
  omega
theorem ok_cons {n : Nat} {d : PyData} {ds : List PyData} (h : okD n d) (t : ∀ x ∈ ds, okD n x) : ∀ x ∈ d :: ds, okD n x := fun x hx => (List.mem_cons.mp hx).elim (fun e => e ▸ h) (t x)
theorem ok_nil {n : Nat} : ∀ x ∈ ([] : List PyData), okD n x := fun _ h => nomatch h
section
variable {K : PySem.W.Frag} {H : Hp}
theorem dp_all {α : Type} {R : V → α → Prop} {f : α → PyData} (h : ∀ v d, R v d → Dp K H v (f d)) : ∀ {xs : List V} {ds : List α}, Paired R xs ds → DpAll K H xs (ds.map f)
  | _, _, .nil => .nil
  | _, _, .cons r t => .cons (h _ _ r) (dp_all h t)
theorem dp_lst {α : Type} {R : V → α → Prop} {f : α → PyData} (h : ∀ v d, R v d → Dp K H v (f d)) {a : Addr} {xs : List V} {ds : List α} (ha : H a = some (.lst xs)) (p : Paired R xs ds) : Dp K H (.ref a) (.list (ds.map f)) := .lst (SqL.of ha) (dp_all h p)
theorem dp_map {α : Type} {g : α → V} {f : α → PyData} (h : ∀ d, Dp K H (g d) (f d)) : ∀ ds : List α, DpAll K H (ds.map g) (ds.map f)
  | [] => .nil
  | d :: ds => .cons (h d) (dp_map h ds)
theorem dp_lmap {α : Type} {g : α → V} {f : α → PyData} (h : ∀ d, Dp K H (g d) (f d)) {a : Addr} {ds : List α} (ha : H a = some (.lst (ds.map g))) : Dp K H (.ref a) (.list (ds.map f)) := .lst (SqL.of ha) (dp_map h ds)
theorem dp_ints {a : Addr} {ns : List Nat} (ha : H a = some (.lst (ns.map nV))) : Dp K H (.ref a) (.list (ns.map fun (n : Nat) => .int (n : Int))) := dp_lmap (fun n => .int _) ha
theorem dp_strs {a : Addr} {ns : List Str} (ha : H a = some (.lst (ns.map V.str))) : Dp K H (.ref a) (.list (ns.map .str)) := dp_lmap (fun n => .str _) ha
theorem neF {p : Prop} [Decidable p] (h : p) : (!decide p) = false := by simp [h]
theorem Pd.last {α : Type} {R : V → α → Prop} {xs : List V} {ds : List α} {d : α} (p : Paired R xs ds) (h : ds.getLast? = some d) : ∃ v, xs.getLast? = some v ∧ R v d := by
  rw [List.getLast?_eq_getElem?] at h
  have l := Pd.len p
  have hl : ds.length - 1 < ds.length := (List.getElem?_eq_some_iff.mp h).1
  have hx : xs.length - 1 < xs.length := by omega
  obtain ⟨d', e, r⟩ := Pd.at p (List.getElem?_eq_getElem hx)
  rw [l, h] at e
  cases e
  exact ⟨_, by rw [List.getLast?_eq_getElem?]; exact List.getElem?_eq_getElem hx, r⟩
theorem dp_on (o : Option Nat) : Dp K H (onV o) (match o with | none => .none | some n => .int (n : Int)) := by
  cases o
  · exact .non
  · exact .int _
end
theorem ok_ints (ns : List Nat) : okD 1 (.list (ns.map fun (n : Nat) => .int (n : Int))) := ok_lst fun d hd => by
  obtain ⟨n, _, rfl⟩ := List.mem_map.mp hd
  exact ok_int _
theorem ok_intsT (ns : List Nat) : okD 1 (.tuple (ns.map fun (n : Nat) => .int (n : Int))) := ok_tup fun d hd => by
  obtain ⟨n, _, rfl⟩ := List.mem_map.mp hd
  exact ok_int _
theorem ok_strs {ns : List Str} (h : ∀ x ∈ ns, strOkT x) : okD 1 (.list (ns.map .str)) := ok_lst fun d hd => by
  obtain ⟨n, q, rfl⟩ := List.mem_map.mp hd
  exact ok_str (h n q)
/-! ### rows and events -/
def Row.restD : Row → List PyData
  | .send n => [.int n] | .begin n t => [.int n, .int t] | .call n x => [.int n, .str x] | .make m n => [.int m, .int n] | .cancel n ns => [.int n, .tuple (ns.map fun (n : Nat) => .int (n : Int))]
  | .join n x => [.int n, .str x] | .leave n x => [.int n, .str x] | .hush n => [.int n] | .fin n => [.int n]
def Row.dat (r : Row) : PyData := .tuple (.str r.tag :: r.restD)
/-- the texts of a row are texts -/
def Row.txt : Row → Prop
  | .call _ x => strOkT x | .join _ x => strOkT x | .leave _ x => strOkT x | _ => True
theorem row_dp {K : PySem.W.Frag} {H : Hp} {v : V} {r : Row} (h : RowAt H v r) : Dp K H v r.dat := by
  obtain ⟨p, q, rfl, h1, h2⟩ := h
  refine .tup (SqT.of h1) (.cons (.str _) ?_)
  cases r <;> simp only [Row.rest, Row.restD, nV] <;> first | exact .cons (.int _) .nil | exact .cons (.int _) (.cons (.int _) .nil) | exact .cons (.int _) (.cons (.str _) .nil) | skip
  exact .cons (.int _) (.cons (.tup (SqT.of h2) (dp_map (fun n => .int _) _)) .nil)
theorem tag_ok (r : Row) : strOkT r.tag := by cases r <;> simp only [Row.tag] <;> unfold strOkT <;> decide +kernel
theorem row_ok {r : Row} (h : r.txt) : okD 2 r.dat := by
  refine ok_tup (ok_cons ((ok_str (tag_ok r)).mono (by decide)) ?_)
  cases r with
  | send n => exact ok_cons ((ok_int _).mono (by decide)) ok_nil
  | hush n => exact ok_cons ((ok_int _).mono (by decide)) ok_nil
  | fin n => exact ok_cons ((ok_int _).mono (by decide)) ok_nil
  | begin n t => exact ok_cons ((ok_int _).mono (by decide)) (ok_cons ((ok_int _).mono (by decide)) ok_nil)
  | make n t => exact ok_cons ((ok_int _).mono (by decide)) (ok_cons ((ok_int _).mono (by decide)) ok_nil)
  | call n x => exact ok_cons ((ok_int _).mono (by decide)) (ok_cons ((ok_str h).mono (by decide)) ok_nil)
  | join n x => exact ok_cons ((ok_int _).mono (by decide)) (ok_cons ((ok_str h).mono (by decide)) ok_nil)
  | leave n x => exact ok_cons ((ok_int _).mono (by decide)) (ok_cons ((ok_str h).mono (by decide)) ok_nil)
  | cancel n ns => exact ok_cons ((ok_int _).mono (by decide)) (ok_cons (ok_intsT ns) ok_nil)
theorem rows_dp {K : PySem.W.Frag} {H : Hp} {a : Addr} {rs : List Row} (h : LstAt RowAt H a rs) : Dp K H (.ref a) (.list (rs.map Row.dat)) := by
  obtain ⟨xs, ha, hx⟩ := h
  exact dp_lst (fun _ _ q => row_dp q) ha hx
theorem rows_ok {rs : List Row} (h : ∀ r ∈ rs, r.txt) : okD 3 (.list (rs.map Row.dat)) := ok_lst fun d hd => by
  obtain ⟨r, q, rfl⟩ := List.mem_map.mp hd
  exact row_ok (h r q)
def onD : Option Nat → PyData | none => .none | some n => .int (n : Int)
def Evt.dat (e : Evt) : PyData := .tuple [.str e.word, onD e.maker, .str e.road.str, .int e.due]
theorem onD_ok (o : Option Nat) : okD 0 (onD o) := by
  cases o
  · exact ok_non
  · exact ok_int _
theorem onD_dp {K : PySem.W.Frag} {H : Hp} (o : Option Nat) : Dp K H (onV o) (onD o) := by
  cases o
  · exact .non
  · exact .int _
theorem evt_dp {K : PySem.W.Frag} {H : Hp} {v : V} {e : Evt} (h : EvtAt H v e) : Dp K H v e.dat := by
  obtain ⟨p, rfl, h1⟩ := h
  exact .tup (SqT.of h1) (.cons (.str _) (.cons (onD_dp _) (.cons (.str _) (.cons (.int _) .nil))))
theorem road_ok (r : Road) : strOkT r.str := by cases r <;> simp only [Road.str] <;> unfold strOkT <;> decide +kernel
theorem evt_ok {e : Evt} (h : strOkT e.word) : okD 1 e.dat :=
  ok_tup (ok_cons (ok_str h) (ok_cons (onD_ok _) (ok_cons (ok_str (road_ok _)) (ok_cons (ok_int _) ok_nil))))
theorem evts_dp {K : PySem.W.Frag} {H : Hp} {a : Addr} {es : List Evt} (h : LstAt EvtAt H a es) : Dp K H (.ref a) (.list (es.map Evt.dat)) := by
  obtain ⟨xs, ha, hx⟩ := h
  exact dp_lst (fun _ _ q => evt_dp q) ha hx
theorem evts_ok {es : List Evt} (h : ∀ e ∈ es, strOkT e.word) : okD 2 (.list (es.map Evt.dat)) := ok_lst fun d hd => by
  obtain ⟨r, q, rfl⟩ := List.mem_map.mp hd
  exact evt_ok (h r q)
end Ev
namespace Ev
open PySem L2
/-! ### texts of letters -/
def ofL (cs : List Nat) : Str := ⟨cs.toArray⟩
theorem ofL_list (cs : List Nat) : (ofL cs).cps.toList = cs := rfl
theorem ofL_len (cs : List Nat) : (ofL cs).length = cs.length := rfl
theorem str_list (x : Str) : ofL x.cps.toList = x := rfl
theorem str_eq {x y : Str} (h : x.cps.toList = y.cps.toList) : x = y := by
  rw [← str_list x, ← str_list y, h]
theorem app_list (x y : Str) : (x ++ y).cps.toList = x.cps.toList ++ y.cps.toList := by
  show (x.cps ++ y.cps).toList = _
  simp
def abc : Str := "abcdefghijklmnopqrstuvwxyz"
theorem abc_nat : ∀ n < 26, abc.cps.toList[n]? = some (97 + n) := by decide +kernel
theorem abc_len : abc.length = 26 := by decide +kernel
theorem abc_at {i : Int} (h0 : 0 ≤ i) (h : i < 26) : atI abc.cps.toList i = some (97 + i.toNat) := by
  obtain ⟨n, rfl⟩ := Int.eq_ofNat_of_zero_le h0
  exact atI_nat (abc_nat n (by omega))
theorem joinL_nil : ∀ cs : List Nat, TL.joinL [] (cs.map fun c => [c]) = cs
  | [] => rfl
  | [c] => rfl
  | c :: d :: r => by
    have ih := joinL_nil (d :: r)
    show [c] ++ ([] ++ TL.joinL [] ((d :: r).map fun c => [c])) = _
    rw [ih]
    rfl
theorem join_letters (cs : List Nat) : Txt.join "" (cs.map fun c => (⟨#[c]⟩ : Str)) = ofL cs := by
  have e := TL.tl_join ("" : Str) (cs.map fun c => (⟨#[c]⟩ : Str))
  have e0 : TL.tl ("" : Str) = [] := by decide +kernel
  have e1 : (cs.map fun c => (⟨#[c]⟩ : Str)).map TL.tl = cs.map fun c => [c] := by
    rw [List.map_map]
    rfl
  rw [e0, e1, joinL_nil] at e
  have e2 := (congrArg TL.tl (TL.join_eq ("" : Str) (cs.map fun c => (⟨#[c]⟩ : Str)))).trans e
  exact str_eq e2
theorem sum_ones : ∀ cs : List Nat, ((cs.map fun c => (⟨#[c]⟩ : Str)).map fun x => x.length).sum = cs.length
  | [] => rfl
  | c :: cs => by
    rw [List.map_cons, List.map_cons, List.sum_cons, sum_ones cs, List.length_cons]
    show 1 + cs.length = cs.length + 1
    omega
theorem okT_letters {cs : List Nat} (h : ∀ c ∈ cs, 97 ≤ c ∧ c ≤ 122) : strOkT (ofL cs) := by
  unfold strOkT PyData.strOk
  rw [← Array.all_toList, List.all_eq_true]
  intro c hc
  have := h c hc
  simp
  omega
end Ev
namespace Ev
open PySem L2
section
variable {P : Program} {w : World} {K : PySem.W.Frag} {mg : Str → Option Value} {base : Heap}
def sp_ltoldAt (K : PySem.W.Frag) : Sp := fun vs H Q _ => ∃ (a : Addr) (ns : List Int) (i : Nat), vs = [.ref a, nV i] ∧ SqL K H a (ns.map V.int) ∧ Q (.int (ns.getD i 0)) H
theorem ok_ltoldAt (T : Tx K mg) : FnOk P w K mg base CX0 1 T.f_ltoldAt T.d_ltoldAt ["_law_script", "_law_place"] (sp_ltoldAt K) := by
  refine T.F_ltoldAt.ok sc_ltoldAt (by walk_at "len") (fun cdv A outer s H vs Q E hr h => ?_)
  obtain ⟨a, ns, i, rfl, ha, k⟩ := h
  refine ⟨_, (pss_cons (ps_if (pt_cmpR op_ge (pv 1) (pe_callB (kLen K) (by rfl) T.z_len PySem.boot_len (pa_cons (pv 0) pa_nil)) (nomark _))
        (pss_one (ps_ret pe_int))
        pss_nil)
    (pss_one (ps_ret (pe_ix (kIxL K) (pv 0) (pv 1) (fun _ _ => rfl))))), ?_⟩
  refine ⟨_, rfl, _, rfl, a, _, rfl, .inl ha, _, _, rfl, rfl, _, rfl, ite2 (fun hc => ?_) (fun hc => ?_)⟩
  · have e : ns.getD i 0 = 0 := by
      have h1 := of_decide_eq_true hc
      rw [List.length_map] at h1
      rw [List.getD_eq_getElem?_getD, List.getElem?_eq_none (by omega)]
      rfl
    rw [e] at k
    exact k
  · have h1 : ¬ _ := fun q => hc (decide_eq_true q)
    rw [List.length_map] at h1
    have h2 : i < ns.length := by omega
    refine ⟨_, rfl, _, rfl, a, _, _, V.int (ns.getD i 0), rfl, rfl, ha, atI_nat ?_, k⟩
    rw [List.getElem?_map, List.getElem?_eq_getElem h2, List.getD_eq_getElem?_getD, List.getElem?_eq_getElem h2]
    rfl
end
end Ev
namespace Ev
open PySem L2
section
variable {P : Program} {w : World} {K : PySem.W.Frag} {mg : Str → Option Value} {base : Heap}
def primes7 : List Int := [10007, 20011, 30011, 40009, 50021, 60013, 70001]
def mixM (cell k many : Int) : Int := (cell + 31 * k) * 48271 % (primes7.getD (k % 7).toNat 1) % many
theorem mixM_lo {cell k many : Int} (h : 0 < many) : 0 ≤ mixM cell k many := Int.emod_nonneg _ (by omega)
theorem mixM_hi {cell k many : Int} (h : 0 < many) : mixM cell k many < many := Int.emod_lt_of_pos _ h
theorem primes_at (k : Int) : ∃ p : Int, 0 < p ∧ primes7.getD (k % 7).toNat 1 = p ∧ atI (primes7.map V.int) (k % 7) = some (V.int p) := by
  have h0 : 0 ≤ k % 7 := Int.emod_nonneg _ (by decide)
  have h7 : k % 7 < 7 := Int.emod_lt_of_pos _ (by decide)
  generalize k % 7 = j at h0 h7 ⊢
  obtain ⟨n, rfl⟩ := Int.eq_ofNat_of_zero_le h0
  have hn : n < 7 := by omega
  refine ⟨primes7.getD n 1, ?_, rfl, atI_nat ?_⟩
  · have : ∀ n < 7, 0 < primes7.getD n 1 := by decide
    exact this n hn
  · rw [List.getElem?_map, List.getD_eq_getElem?_getD, List.getElem?_eq_getElem (show n < primes7.length from hn)]
    rfl
def sp_lmixed (K : PySem.W.Frag) : Sp := fun vs H Q _ => ∃ (cell k many : Int), vs = [.int cell, .int k, .int many] ∧ 0 < many ∧ ∀ H', Kp [] H H' → Q (.int (mixM cell k many)) H'
theorem ok_lmixed (T : Tx K mg) : FnOk P w K mg base CX0 1 T.f_lmixed T.d_lmixed ["_law_cell", "_law_k", "_law_many"] (sp_lmixed K) := by
  refine T.F_lmixed.ok sc_lmixed (by walk_at "len") (fun cdv A outer s H vs Q E hr h => ?_)
  obtain ⟨cell, j, many, rfl, hm, k⟩ := h
  refine ⟨_, (pss_cons (ps_set (i := 3) sc_lmixed.nd rfl (Or.inl rfl) (pe_lst (pa_cons pe_int (pa_cons pe_int (pa_cons pe_int (pa_cons pe_int (pa_cons pe_int (pa_cons pe_int (pa_cons pe_int pa_nil)))))))))
    (pss_one (ps_ret (pe_op op_mod (pe_op op_mod (pe_op op_mul (pe_op op_add (pv 0) (pe_op op_mul pe_int (pv 1))) pe_int) (pe_ix (kIxL K) (pv 3) (pe_op op_mod (pv 1) pe_int) (fun _ _ => rfl))) (pv 2))))), ?_⟩
  obtain ⟨p, p0, ep, ea⟩ := primes_at j
  refine ⟨by show 7 ≤ sizeLine; decide, fun a ha => ?_⟩
  refine ⟨_, rfl, _, rfl, _, _, rfl, rfl, .inl (by decide), _, _, rfl, rfl, _, _, rfl, rfl, .inr (by decide), _, rfl, _, rfl, _, _, rfl, rfl, (by show (0 : Int) < 7; decide), a, _, _, V.int p, rfl, rfl, SqL.of upd_same, ea, _, _, rfl, rfl, p0, _, rfl, _, _, rfl, rfl, hm, ?_⟩
  have e : mixM cell j many = (cell + 31 * j) * 48271 % p % many := by rw [← ep]; rfl
  show Q (V.int ((cell + 31 * j) * 48271 % p % many)) _
  rw [← e]
  exact k _ ((Kp.refl _ _).new ha)
end
end Ev
namespace Ev
open PySem L2
/-! ### words of the law's own -/
theorem ofL_app (a b : List Nat) : ofL a ++ ofL b = ofL (a ++ b) := str_eq (by rw [app_list]; rfl)
theorem cutS_to (cs : List Nat) {k : Nat} (h : k ≤ cs.length) : cutS (ofL cs) none (some (k : Int)) = ofL (cs.take k) := by
  refine str_eq ?_
  show ((cs.drop (HT.sIx cs.length 0 none)).take (HT.sIx cs.length cs.length (some (k : Int)) - HT.sIx cs.length 0 none)) = cs.take k
  rw [HT.sIx_none, HT.sIx_nat, Nat.min_eq_left h]
  rfl
theorem cutS_from (cs : List Nat) {k : Nat} (h : k ≤ cs.length) : cutS (ofL cs) (some (k : Int)) none = ofL (cs.drop k) := by
  refine str_eq ?_
  show ((cs.drop (HT.sIx cs.length 0 (some (k : Int)))).take (HT.sIx cs.length cs.length none - HT.sIx cs.length 0 (some (k : Int)))) = cs.drop k
  rw [HT.sIx_none, HT.sIx_nat, Nat.min_eq_left h]
  exact List.take_of_length_le (by simp)
def isLet (cs : List Nat) : Prop := ∀ c ∈ cs, 97 ≤ c ∧ c ≤ 122
theorem isLet_sub {a b : List Nat} (s : ∀ c ∈ a, c ∈ b) (h : isLet b) : isLet a := fun c hc => h c (s c hc)
theorem isLet_app {a b : List Nat} (ha : isLet a) (hb : isLet b) : isLet (a ++ b) := fun c hc => (List.mem_append.mp hc).elim (ha c) (hb c)
end Ev
namespace Ev
open PySem L2
theorem let_mem : ∀ n < 26, 97 + n ∈ letters.cps.toList := by decide +kernel
theorem isWord_let {cs : List Nat} (h0 : 1 ≤ cs.length) (h1 : cs.length ≤ 12) (h : isLet cs) : isWord (ofL cs) = true := by
  unfold isWord
  rw [ofL_len, decide_eq_true (show 0 < cs.length from h0), decide_eq_true h1]
  show (cs.all fun c => decide (c ∈ letters.cps.toList)) = true
  rw [List.all_eq_true]
  intro c hc
  have q := h c hc
  have := let_mem (c - 97) (by omega)
  rw [show 97 + (c - 97) = c by omega] at this
  exact decide_eq_true this
end Ev
namespace Ev
open PySem L2
section
variable {P : Program} {w : World} {K : PySem.W.Frag} {mg : Str → Option Value} {base : Heap}
/-! ### names of the law's own -/
def zedL : List Nat := [122, 121, 120, 119, 118, 117, 116, 115, 114, 113]
def tenL : List Nat := [97, 98, 99, 100, 101, 102, 103, 104, 105, 106]
theorem zed_eq : ("zyxwvutsrq" : Str) = ofL zedL := by decide +kernel
theorem ten_eq : ("abcdefghij" : Str) = ofL tenL := by decide +kernel
def nameL (k c : Nat) : List Nat := ((zedL.take (c * 7 % 11) ++ [97 + k * 7 % 26, 97 + k / 26]) ++ tenL.take (c * 5 % 11)).take 12
def nameM (k c : Nat) : Str := ofL (nameL k c)
def Cnt (c : Nat) : Prop := c ∈ [1, 2, 3, 4, 5, 6, 39, 40, 41]
instance (c : Nat) : Decidable (Cnt c) := inferInstanceAs (Decidable (c ∈ _))
theorem names_all : ∀ c ∈ [1, 2, 3, 4, 5, 6, 39, 40, 41], (∀ k ∈ List.range c, isWord (nameM k c) = true) ∧ ((List.range c).map fun k => nameL k c).Nodup := by decide +kernel
theorem name_word {k c : Nat} (h : Cnt c) (hk : k < c) : isWord (nameM k c) = true := (names_all c h).1 k (List.mem_range.mpr hk)
theorem ofL_inj {a b : List Nat} (h : ofL a = ofL b) : a = b := by
  have := congrArg (fun x : Str => x.cps.toList) h
  exact this
theorem names_nd {c : Nat} (h : Cnt c) : ((List.range c).map fun k => nameM k c).Nodup := by
  have := (names_all c h).2
  have e : ((List.range c).map fun k => nameM k c) = ((List.range c).map fun k => nameL k c).map ofL := by
    rw [List.map_map]
    rfl
  rw [e]
  exact List.Pairwise.map ofL (fun a b n e => n (ofL_inj e)) this
theorem abc_at' {i : Nat} (h : i < 26) : atI abc.cps.toList (i : Int) = some (97 + i) := atI_nat (abc_nat i h)
def sp_lnameBy : Sp := fun vs H Q _ => ∃ (k c : Nat), vs = [nV k, nV c] ∧ k < 600 ∧ Q (.str (nameM k c)) H
theorem ok_lnameBy (T : Tx K mg) : FnOk P w K mg base CX0 1 T.f_lnameBy T.d_lnameBy ["_law_k", "_law_count"] (sp_lnameBy) := by
  refine T.F_lnameBy.ok sc_lnameBy (by walk_at "len") (fun cdv A outer s H vs Q E hr h => ?_)
  obtain ⟨i, c, rfl, hi, k⟩ := h
  refine ⟨_, (pss_cons (ps_set (i := 2) sc_lnameBy.nd rfl (Or.inl rfl) pe_str)
    (pss_cons (ps_set (i := 3) sc_lnameBy.nd rfl (Or.inl rfl) (pe_op op_add_str (pe_ix ix_str (pv 2) (pe_op op_mod (pe_op op_mul (pv 0) pe_int) pe_int) (fun _ _ => rfl)) (pe_ix ix_str (pv 2) (pe_op op_fdiv (pv 0) pe_int) (fun _ _ => rfl))))
    (pss_cons (ps_set (i := 4) sc_lnameBy.nd rfl (Or.inl rfl) (pe_slice sl_str pe_str po_none (po_some (pe_op op_mod (pe_op op_mul (pv 1) pe_int) pe_int))))
    (pss_one (ps_ret (pe_slice sl_str (pe_op op_add_str (pe_op op_add_str (pv 4) (pv 3)) (pe_slice sl_str pe_str po_none (po_some (pe_op op_mod (pe_op op_mul (pv 1) pe_int) pe_int)))) po_none (po_some pe_int))))))), ?_⟩
  have al : abc.length ≤ sizeLine := Nat.le_trans (Nat.le_of_eq abc_len) (by decide)
  have cl : ∀ n : Nat, n ≤ 40 → n ≤ sizeLine := fun n h => Nat.le_trans h (by decide)
  have e1 : (i : Int) * 7 % 26 = ((i * 7 % 26 : Nat) : Int) := by omega
  have e2 : (i : Int) / 26 = ((i / 26 : Nat) : Int) := by omega
  have e3 : (c : Int) * 7 % 11 = ((c * 7 % 11 : Nat) : Int) := by omega
  have e4 : (c : Int) * 5 % 11 = ((c * 5 % 11 : Nat) : Int) := by omega
  refine ⟨_, rfl, _, rfl, _, _, rfl, rfl, .inr (by decide), _, _, rfl, rfl, (by show (0 : Int) < 26; decide), _, _, _, rfl, rfl, al, (by rw [e1]; exact abc_at' (Nat.mod_lt _ (by decide))), ?_⟩
  refine ⟨_, rfl, _, rfl, _, _, rfl, rfl, ⟨by decide, by decide⟩, _, _, _, rfl, rfl, al, (by rw [e2]; exact abc_at' (by omega)), _, _, rfl, rfl, (by show 2 ≤ sizeLine; decide), ?_⟩
  refine ⟨_, rfl, _, _, rfl, rfl, .inr (by decide), _, _, rfl, rfl, (by show (0 : Int) < 11; decide), _, rfl, _, rfl, (by decide +kernel), ?_⟩
  dsimp only
  rw [e3, zed_eq, cutS_to zedL (by show _ ≤ 10; omega)]
  have l1 : (zedL.take (c * 7 % 11)).length ≤ 10 := by
    rw [List.length_take]
    show min _ 10 ≤ 10
    omega
  have l2 : (tenL.take (c * 5 % 11)).length ≤ 10 := by
    rw [List.length_take]
    show min _ 10 ≤ 10
    omega
  refine ⟨_, rfl, _, rfl, _, _, rfl, rfl, ?_, ?_⟩
  · show (ofL _).length + (ofL [97 + i * 7 % 26, 97 + i / 26]).length ≤ _
    rw [ofL_len, ofL_len]
    exact cl _ (by show _ + 2 ≤ 40; omega)
  refine ⟨_, rfl, _, _, rfl, rfl, .inr (by decide), _, _, rfl, rfl, (by show (0 : Int) < 11; decide), _, rfl, _, rfl, (by decide +kernel), ?_⟩
  dsimp only
  rw [e4, ten_eq, cutS_to tenL (by show _ ≤ 10; omega)]
  have e5 : ofL (zedL.take (c * 7 % 11)) ++ (⟨#[97 + i * 7 % 26]⟩ ++ ⟨#[97 + i / 26]⟩) = ofL (zedL.take (c * 7 % 11) ++ [97 + i * 7 % 26, 97 + i / 26]) := by
    rw [← ofL_app]
    rfl
  rw [e5]
  refine ⟨_, _, rfl, rfl, ?_, _, rfl, _, rfl, ?_, ?_⟩
  · rw [ofL_len, ofL_len]
    exact cl _ (by rw [List.length_append]; show _ + 2 + _ ≤ 40; omega)
  · rw [ofL_app, ofL_len]
    exact cl _ (by rw [List.length_append, List.length_append]; show _ + 2 + _ ≤ 40; omega)
  · have e6 : cutS (ofL (zedL.take (c * 7 % 11) ++ [97 + i * 7 % 26, 97 + i / 26]) ++ ofL (tenL.take (c * 5 % 11))) none (some 12) = nameM i c := by
      rw [ofL_app]
      refine str_eq ?_
      show ((_ : List Nat).drop (HT.sIx _ 0 none)).take (HT.sIx _ _ (some ((12 : Nat) : Int)) - HT.sIx _ 0 none) = nameL i c
      rw [HT.sIx_none, HT.sIx_nat]
      unfold nameL
      show List.take (min 12 _ - 0) (_ : List Nat) = _
      rw [Nat.sub_zero]
      exact List.take_eq_take_min.symm
    rw [e6]
    exact k
end
end Ev
namespace Ev
open PySem L2
section
variable {P : Program} {w : World} {K : PySem.W.Frag} {mg : Str → Option Value} {base : Heap}
def GdD (c : Nat) (d : A1) : Prop := deedM d = true ∧ ∀ names : List Str, (∀ i, i < c → nameM i c ∈ names) → A1.stran names d = false
def GdV (c : Nat) (H : Hp) (v : V) : Prop := ∃ d, A1At H v d ∧ GdD c d
theorem nj {t x : Str} {names : List Str} (h : t ∉ jl) : A1.stran names (.tup [.str t, .str x]) = false := by
  show (decide (t ∈ jl) && _) = false
  rw [decide_eq_false h]
  rfl
theorem inj_ {t x : Str} {names : List Str} (h : x ∈ names) : A1.stran names (.tup [.str t, .str x]) = false := by
  show (_ && !decide (x ∈ names)) = false
  rw [decide_eq_true h]
  exact Bool.and_false _
theorem GdV.kp {c : Nat} {H H' : Hp} {v : V} (h : GdV c H v) (k : Kp [] H H') : GdV c H' v := by
  obtain ⟨d, a, b⟩ := h
  exact ⟨d, a.kp k, b⟩
def GS (c : Nat) (σ : L2.St) (te : TE) : Prop := ∀ (H : Hp) (Q : VK), (∀ v H', Kp [] H H' → GdV c H' v → Q v H') → te σ H Q
def GSA (c : Nat) (σ : L2.St) (ta : TA) (n : Nat) : Prop := ∀ (H : Hp) (Q : List V → Hp → Prop), (∀ vs H', Kp [] H H' → vs.length = n → (∀ v ∈ vs, GdV c H' v) → Q vs H') → ta σ H Q
theorem GSA.nil {c : Nat} {σ : L2.St} : GSA c σ tNil 0 := fun H Q h => h [] H (Kp.refl _ _) rfl (fun _ h => nomatch h)
theorem GSA.cons {c : Nat} {σ : L2.St} {te : TE} {ta : TA} {n : Nat} (a : GS c σ te) (b : GSA c σ ta n) : GSA c σ (tCons te ta) (n + 1) := fun H Q h => a H _ fun v H1 k1 b1 => b H1 _ fun vs H2 k2 l2 b2 => h (v :: vs) H2 (k1.trans k2) (by rw [List.length_cons, l2]) fun x hx => by
  rcases List.mem_cons.mp hx with e | q
  · rw [e]; exact b1.kp k2
  · exact b2 x q
theorem mix_nat {cell k many : Int} (h : 0 < many) : ∃ n : Nat, mixM cell k many = n ∧ (n : Int) < many := by
  have h0 := mixM_lo (cell := cell) (k := k) h
  have h1 := mixM_hi (cell := cell) (k := k) h
  exact ⟨(mixM cell k many).toNat, by omega, by omega⟩
def sp_ldeedBy : Sp := fun vs H Q _ => ∃ (cell j : Int) (c : Nat), vs = [.int cell, .int j, nV c] ∧ Cnt c ∧ ∀ v d H', Kp [] H H' → A1At H' v d → GdD c d → Q v H'
theorem ok_ldeedBy (T : Tx K mg) : FnOk P w K mg base CX0 2 T.f_ldeedBy T.d_ldeedBy ["_law_cell", "_law_k", "_law_count"] (sp_ldeedBy) := by
  refine T.F_ldeedBy.ok sc_ldeedBy (by walk_at "len") (fun cdv A outer s H vs Q E hr h => ?_)
  obtain ⟨cell, j, c, rfl, hc, k⟩ := h
  refine ⟨_, (pss_cons (ps_set (i := 3) sc_ldeedBy.nd rfl (Or.inl rfl) (pe_ix (kIxL K) (pe_lst (pa_cons pe_int (pa_cons pe_int (pa_cons pe_int (pa_cons (pe_op op_mod (pv 0) pe_int) pa_nil))))) (pe_call (ok_lmixed T) (hr.mono (by decide)) rfl T.g_lmixed T.F_lmixed.kp T.b_lmixed .nil pass0 (pa_cons (pv 0) (pa_cons (pv 1) (pa_cons pe_int pa_nil)))) (fun _ _ => rfl)))
    (pss_cons (ps_set (i := 4) sc_ldeedBy.nd rfl (Or.inl rfl) (pe_call (ok_lnameBy T) (hr.mono (by decide)) rfl T.g_lnameBy T.F_lnameBy.kp T.b_lnameBy .nil pass0 (pa_cons (pe_call (ok_lmixed T) (hr.mono (by decide)) rfl T.g_lmixed T.F_lmixed.kp T.b_lmixed .nil pass0 (pa_cons (pv 0) (pa_cons (pe_op op_add (pv 1) pe_int) (pa_cons (pv 2) pa_nil)))) (pa_cons (pv 2) pa_nil))))
    (pss_cons (ps_set (i := 5) sc_ldeedBy.nd rfl (Or.inl rfl) (pe_lst (pa_cons (pe_tup (pa_cons pe_str (pa_cons pe_str pa_nil))) (pa_cons (pe_tup (pa_cons pe_str (pa_cons pe_str pa_nil))) (pa_cons (pe_tup (pa_cons pe_str (pa_cons (pv 3) (pa_cons pe_str pa_nil)))) (pa_cons (pe_tup (pa_cons pe_str (pa_cons pe_str pa_nil))) (pa_cons (pe_tup (pa_cons pe_str pa_nil)) pa_nil)))))))
    (pss_cons (ps_set (i := 5) sc_ldeedBy.nd rfl (Or.inl rfl) (pe_op op_cat (pv 5) (pe_lst (pa_cons (pe_tup (pa_cons pe_str (pa_cons (pv 4) pa_nil))) (pa_cons (pe_tup (pa_cons pe_str (pa_cons (pv 4) pa_nil))) pa_nil)))))
    (pss_one (ps_ret (pe_ix (kIxL K) (pv 5) (pe_call (ok_lmixed T) (hr.mono (by decide)) rfl T.g_lmixed T.F_lmixed.kp T.b_lmixed .nil pass0 (pa_cons (pv 0) (pa_cons (pe_op op_add (pv 1) pe_int) (pa_cons pe_int pa_nil)))) (fun _ _ => rfl)))))))), ?_⟩
  have c0 : 0 < c ∧ c ≤ 41 := (by decide : ∀ c ∈ [1, 2, 3, 4, 5, 6, 39, 40, 41], 0 < c ∧ c ≤ 41) c hc
  refine seq_go (asg_go ?_)
  refine ⟨_, rfl, _, _, rfl, rfl, (by show (0 : Int) < 1000000001; decide), (by show 4 ≤ sizeLine; decide), fun l hl => ⟨_, rfl, _, rfl, _, _, _, rfl, (by decide), fun H1 k1 => ?_⟩⟩
  have j1 := (Kp.refl [] H).new (o := .lst [V.int 0, .int 1, .int 1000000000, .int (cell % 1000000001)]) hl
  have e1 : upd H l (.lst [V.int 0, .int 1, .int 1000000000, .int (cell % 1000000001)]) l = some (.lst [V.int 0, .int 1, .int 1000000000, .int (cell % 1000000001)]) := upd_same
  obtain ⟨t, et, t0, t1⟩ : ∃ t : Int, atI [V.int 0, .int 1, .int 1000000000, .int (cell % 1000000001)] (mixM cell j 4) = some (.int t) ∧ 0 ≤ t ∧ t ≤ 1000000000 := by
    obtain ⟨n, en, hn⟩ := mix_nat (cell := cell) (k := j) (many := 4) (by decide)
    rw [en]
    have h0 := Int.emod_nonneg cell (b := 1000000001) (by decide)
    have h1 := Int.emod_lt_of_pos cell (b := 1000000001) (by decide)
    have : n = 0 ∨ n = 1 ∨ n = 2 ∨ n = 3 := by omega
    rcases this with rfl | rfl | rfl | rfl
    · exact ⟨0, atI_nat (j := 0) rfl, by decide, by decide⟩
    · exact ⟨1, atI_nat (j := 1) rfl, by decide, by decide⟩
    · exact ⟨1000000000, atI_nat (j := 2) rfl, by decide, by decide⟩
    · exact ⟨_, atI_nat (j := 3) rfl, h0, by omega⟩
  refine ⟨l, _, _, _, rfl, rfl, SqL.of (k1.keep0 e1), et, ?_⟩
  dsimp only [gName]
  have k01 := j1.trans k1
  clear e1
  obtain ⟨i, ei, hi⟩ := mix_nat (cell := cell) (k := j + 1) (many := (c : Int)) (by omega)
  refine ⟨_, rfl, _, rfl, _, _, rfl, rfl, _, rfl, _, _, _, rfl, (by show (0 : Int) < (c : Int); omega), fun H3 k3 => ⟨_, rfl, i, c, (by rw [ei]; rfl), by omega, ?_⟩⟩
  have hi : i < c := by omega
  have hnm := name_word hc hi
  have hn1 : ∀ names : List Str, (∀ i, i < c → nameM i c ∈ names) → nameM i c ∈ names := fun _ h => h i hi
  have nml : (nameM i c).length ≤ sizeLine := by
    unfold isWord at hnm
    simp only [Bool.and_eq_true, decide_eq_true_eq] at hnm
    exact Nat.le_trans hnm.1.2 (by decide)
  generalize hnmE : nameM i c = nm at hnm hn1 nml ⊢
  have k03 := k01.trans k3
  dsimp only [gName]
  refine seq_go (asg_go ?_)
  refine (GSA.cons (c := c) ?_ (GSA.cons ?_ (GSA.cons ?_ (GSA.cons ?_ (GSA.cons ?_ GSA.nil))))) _ _ ?_
  · exact fun H Q h => ⟨by show 2 ≤ sizeLine; decide, fun t ht => h _ _ ((Kp.refl [] H).new ht) ⟨.tup [.str "now", .str "a"], ⟨t, _, rfl, upd_same, (.cons (show A0At _ _ (.str "now") from ⟨rfl, by decide⟩) (.cons (show A0At _ _ (.str "a") from ⟨rfl, by decide⟩) .nil))⟩, by decide +kernel, fun _ _ => nj (by decide +kernel)⟩⟩
  · exact fun H Q h => ⟨by show 2 ≤ sizeLine; decide, fun t ht => h _ _ ((Kp.refl [] H).new ht) ⟨.tup [.str "soon", .str "bell"], ⟨t, _, rfl, upd_same, (.cons (show A0At _ _ (.str "soon") from ⟨rfl, by decide⟩) (.cons (show A0At _ _ (.str "bell") from ⟨rfl, by decide⟩) .nil))⟩, by decide +kernel, fun _ _ => nj (by decide +kernel)⟩⟩
  · exact fun H Q h => ⟨_, rfl, by show 3 ≤ sizeLine; decide, fun q hq => h _ _ ((Kp.refl [] H).new hq) ⟨.tup [.str "wait", .int t, .str "abcdefghijkl"], ⟨q, _, rfl, upd_same, (.cons (show A0At _ _ (.str "wait") from ⟨rfl, by decide⟩) (.cons (show A0At _ _ (.int t) from rfl) (.cons (show A0At _ _ (.str "abcdefghijkl") from ⟨rfl, by decide⟩) .nil)))⟩, by
      refine (tw_wait _).trans ?_
      show (true && ((decide (0 ≤ t) && decide (t ≤ 1000000000)) && isWord "abcdefghijkl")) = true
      rw [decide_eq_true t0, decide_eq_true t1]
      decide +kernel, fun _ _ => rfl⟩⟩
  · exact fun H Q h => ⟨by show 2 ≤ sizeLine; decide, fun t ht => h _ _ ((Kp.refl [] H).new ht) ⟨.tup [.str "cancel", .str "z"], ⟨t, _, rfl, upd_same, (.cons (show A0At _ _ (.str "cancel") from ⟨rfl, by decide⟩) (.cons (show A0At _ _ (.str "z") from ⟨rfl, by decide⟩) .nil))⟩, by decide +kernel, fun _ _ => nj (by decide +kernel)⟩⟩
  · exact fun H Q h => ⟨by show 1 ≤ sizeLine; decide, fun t ht => h _ _ ((Kp.refl [] H).new ht) ⟨.tup [.str "hush"], ⟨t, _, rfl, upd_same, (.cons (show A0At _ _ (.str "hush") from ⟨rfl, by decide⟩) .nil)⟩, by decide +kernel, fun _ _ => rfl⟩⟩
  intro vs H4 k4 l4 b4
  refine ⟨by rw [l4]; decide, fun p hp => ?_⟩
  have kp := k4.new (o := .lst vs) hp
  have e4 : upd H4 p (.lst vs) p = some (.lst vs) := upd_same
  have b4 : ∀ v ∈ vs, GdV c (upd H4 p (.lst vs)) v := fun v hv => (b4 v hv).kp ((Kp.refl [] H4).new hp)
  generalize upd H4 p (.lst vs) = H5 at kp e4 b4 ⊢
  dsimp only [gName]
  refine seq_go (asg_go ?_)
  refine ⟨_, rfl, ?_⟩
  refine (GSA.cons (c := c) ?_ (GSA.cons ?_ GSA.nil)) _ _ ?_
  · exact fun H Q h => ⟨_, rfl, by show 2 ≤ sizeLine; decide, fun t ht => h _ _ ((Kp.refl [] H).new ht) ⟨.tup [.str "join", .str nm], ⟨t, _, rfl, upd_same, (.cons (show A0At _ _ (.str "join") from ⟨rfl, by decide⟩) (.cons (show A0At _ _ (.str nm) from ⟨rfl, nml⟩) .nil))⟩, (tw_now (by decide +kernel) _).trans hnm, fun _ hn => inj_ (hn1 _ hn)⟩⟩
  · exact fun H Q h => ⟨_, rfl, by show 2 ≤ sizeLine; decide, fun t ht => h _ _ ((Kp.refl [] H).new ht) ⟨.tup [.str "leave", .str nm], ⟨t, _, rfl, upd_same, (.cons (show A0At _ _ (.str "leave") from ⟨rfl, by decide⟩) (.cons (show A0At _ _ (.str nm) from ⟨rfl, nml⟩) .nil))⟩, (tw_now (by decide +kernel) _).trans hnm, fun _ hn => inj_ (hn1 _ hn)⟩⟩
  intro vs2 H6 k6 l6 b6
  refine ⟨by rw [l6]; decide, fun p2 hp2 => ?_⟩
  have k7 := k6.new (o := .lst vs2) hp2
  have e7 : upd H6 p2 (.lst vs2) p2 = some (.lst vs2) := upd_same
  have b7 : ∀ v ∈ vs2, GdV c (upd H6 p2 (.lst vs2)) v := fun v hv => (b6 v hv).kp ((Kp.refl [] H6).new hp2)
  generalize upd H6 p2 (.lst vs2) = H7 at k7 e7 b7 ⊢
  refine ⟨p, p2, _, _, rfl, rfl, k7.keep0 e4, e7, by rw [l4, l6]; decide, fun p3 hp3 => ?_⟩
  have k8 := (Kp.refl [] H7).new (o := .lst (vs ++ vs2)) hp3
  have e8 : upd H7 p3 (.lst (vs ++ vs2)) p3 = some (.lst (vs ++ vs2)) := upd_same
  have b8 : ∀ v ∈ vs ++ vs2, GdV c (upd H7 p3 (.lst (vs ++ vs2))) v := fun v hv => by
    rcases List.mem_append.mp hv with q | q
    · exact (b4 v q).kp (k7.trans k8)
    · exact (b7 v q).kp k8
  generalize upd H7 p3 (.lst (vs ++ vs2)) = H8 at k8 e8 b8 ⊢
  have k08 := ((k03.trans kp).trans k7).trans k8
  dsimp only [gName]
  refine ⟨_, rfl, _, rfl, _, rfl, _, _, rfl, rfl, _, _, _, rfl, (by decide), fun H9 k9 => ?_⟩
  obtain ⟨n, en, n7⟩ := mix_nat (cell := cell) (k := j + 2) (many := 7) (by decide)
  have hn : n < (vs ++ vs2).length := by rw [List.length_append, l4, l6]; omega
  have hv := List.getElem?_eq_getElem hn
  obtain ⟨d, hd, gd⟩ := (b8 _ (List.mem_of_getElem? hv)).kp k9
  exact ⟨p3, _, _, _, rfl, rfl, SqL.of (k9.keep0 e8), (by rw [en]; exact atI_nat hv), k _ d _ (k08.trans k9) hd gd⟩
end
end Ev
namespace Ev
open PySem L2
section
variable {P : Program} {w : World} {K : PySem.W.Frag} {mg : Str → Option Value} {base : Heap}
theorem GdV.tk {c : Nat} {H H' : Hp} {v : V} (h : GdV c H v) (k : TK H H') : GdV c H' v := by
  obtain ⟨d, a, b⟩ := h
  exact ⟨d, a.tkG b.1 k, b⟩
theorem pd_choose {α β : Type} {R : V → α → Prop} {G : α → Prop} : ∀ {xs : List V} {is : List β}, Paired (fun v _ => ∃ d, R v d ∧ G d) xs is → ∃ ds, Paired R xs ds ∧ (∀ d ∈ ds, G d) ∧ ds.length = is.length
  | _, _, .nil => ⟨[], .nil, (fun _ h => nomatch h), rfl⟩
  | _, _, .cons r t => by
    obtain ⟨d, r1, g1⟩ := r
    obtain ⟨ds, p, g, l⟩ := pd_choose t
    exact ⟨d :: ds, .cons r1 p, (fun x hx => (List.mem_cons.mp hx).elim (fun e => e ▸ g1) (g x)), by simp [l]⟩
/-- a handler that is handed in, whose deeds' list is new -/
def HKN (H0 H : Hp) (v : V) (f : FH) : Prop := ∃ p q ds, v = .ref p ∧ H0 q = none ∧ H p = some (.tup [.str f.name, .int f.rank, .str f.hears, .bl f.once, .ref q]) ∧ (H q = some (.lst ds) ∨ H q = some (.tup ds)) ∧ Paired (A1At H) ds f.deeds
/-- a handler of the law's, the number of its deeds aside -/
def GdF (c i : Nat) (f : FH) : Prop := f.name = nameM i c ∧ (isWord f.hears = true ∨ f.hears = Str.empty) ∧ (∀ d ∈ f.deeds, deedM d = true) ∧ f.deeds.length ≤ 31
def NoS (c : Nat) (f : FH) : Prop := ∀ names : List Str, (∀ i, i < c → nameM i c ∈ names) → f.stran names = false
theorem nos_of {c : Nat} {f : FH} (h : ∀ d ∈ f.deeds, GdD c d) : NoS c f := fun names hn => by
  unfold FH.stran
  rw [List.any_eq_false]
  exact fun d hd => by rw [(h d hd).2 names hn]; exact Bool.false_ne_true
theorem hear3 {i : Int} (h0 : 0 ≤ i) (h1 : i < 3) : ∃ z : Str, atI [V.str "", .str "bell", .str "a"] i = some (.str z) ∧ (isWord z = true ∨ z = Str.empty) := by
  have h : i = 0 ∨ i = 1 ∨ i = 2 := by omega
  rcases h with rfl | rfl | rfl
  · exact ⟨_, rfl, .inr rfl⟩
  · exact ⟨_, rfl, .inl (by decide +kernel)⟩
  · exact ⟨_, rfl, .inl (by decide +kernel)⟩
def sp_lhandlerBy : Sp := fun vs H Q _ => ∃ (cell : Int) (i c : Nat), vs = [.int cell, nV i, nV c] ∧ Cnt c ∧ i < c ∧ ∀ v f H', Kp [] H H' → HKN H H' v f → GdF c i f → NoS c f → Q v H'
theorem ok_lhandlerBy (T : Tx K mg) : FnOk P w K mg base CX0 3 T.f_lhandlerBy T.d_lhandlerBy ["_law_cell", "_law_k", "_law_count"] (sp_lhandlerBy) := by
  refine T.F_lhandlerBy.ok sc_lhandlerBy (by walk_at "len") (fun cdv A outer s H vs Q E hr h => ?_)
  obtain ⟨cell, i, c, rfl, hc, hi, k⟩ := h
  refine ⟨_, (pss_cons (ps_set (i := 3) sc_lhandlerBy.nd rfl (Or.inl rfl) (pe_call (ok_lmixed T) (hr.mono (by decide)) rfl T.g_lmixed T.F_lmixed.kp T.b_lmixed .nil pass0 (pa_cons (pv 0) (pa_cons pe_int (pa_cons pe_int pa_nil)))))
    (pss_cons (ps_if (pt_cmpR op_eq (pe_call (ok_lmixed T) (hr.mono (by decide)) rfl T.g_lmixed T.F_lmixed.kp T.b_lmixed .nil pass0 (pa_cons (pv 0) (pa_cons pe_int (pa_cons pe_int pa_nil)))) pe_int (nomark _))
        (pss_one (ps_set (i := 3) sc_lhandlerBy.nd rfl (Or.inl rfl) (pe_op op_add pe_int (pe_call (ok_lmixed T) (hr.mono (by decide)) rfl T.g_lmixed T.F_lmixed.kp T.b_lmixed .nil pass0 (pa_cons (pv 0) (pa_cons pe_int (pa_cons pe_int pa_nil)))))))
        pss_nil)
    (pss_cons (ps_setLc (i := 4) (own := [("_law_at", 6)]) (g := gName 6) (tt := tYes) rfl sc_lhandlerBy.nd rfl rfl (sw_true rfl rfl rfl (by decide +kernel)) (pi_range1 rfl T.z_range (pa_cons (pv 3) pa_nil)) (blkOk_by (own := [("_law_at", 6)]) (N := nm_lhandlerBy) (sc := defScope s_lhandlerBy) (by decide +kernel)) (fun _ _ _ _ _ => (pg_name (i := 6) sc_lhandlerBy.nd rfl (Or.inl rfl))) (fun _ _ _ _ _ => pts_nil) (fun _ _ _ _ _ => (pe_call (ok_ldeedBy T) (hr.mono (by decide)) rfl T.g_ldeedBy T.F_ldeedBy.kp T.b_ldeedBy .nil pass0 (pa_cons (pv 0) (pa_cons (pe_op op_mul pe_int (pv 6)) (pa_cons (pv 2) pa_nil))))))
    (pss_cons (ps_if (pt_cmpR op_eq (pe_call (ok_lmixed T) (hr.mono (by decide)) rfl T.g_lmixed T.F_lmixed.kp T.b_lmixed .nil pass0 (pa_cons (pv 0) (pa_cons pe_int (pa_cons pe_int pa_nil)))) pe_int (nomark _))
        (pss_one (ps_set (i := 4) sc_lhandlerBy.nd rfl (Or.inl rfl) (pe_callTy (kTuple K) (by rfl) T.z_tuple (by decide +kernel) (pa_cons (pv 4) pa_nil))))
        pss_nil)
    (pss_cons (ps_set (i := 5) sc_lhandlerBy.nd rfl (Or.inl rfl) (pe_op op_sub (pe_op op_mod (pv 0) (pe_op op_pow pe_int pe_int)) pe_int))
    (pss_one (ps_ret (pe_tup (pa_cons (pe_call (ok_lnameBy T) (hr.mono (by decide)) rfl T.g_lnameBy T.F_lnameBy.kp T.b_lnameBy .nil pass0 (pa_cons (pv 1) (pa_cons (pv 2) pa_nil))) (pa_cons (pv 5) (pa_cons (pe_ix (kIxL K) (pe_lst (pa_cons pe_str (pa_cons pe_str (pa_cons pe_str pa_nil)))) (pe_call (ok_lmixed T) (hr.mono (by decide)) rfl T.g_lmixed T.F_lmixed.kp T.b_lmixed .nil pass0 (pa_cons (pv 0) (pa_cons pe_int (pa_cons pe_int pa_nil)))) (fun _ _ => rfl)) (pa_cons (pe_cmpR op_eq (pe_call (ok_lmixed T) (hr.mono (by decide)) rfl T.g_lmixed T.F_lmixed.kp T.b_lmixed .nil pass0 (pa_cons (pv 0) (pa_cons pe_int (pa_cons pe_int pa_nil)))) pe_int (nomark _)) (pa_cons (pv 4) pa_nil))))))))))))), ?_⟩
  have c0 : 0 < c ∧ c ≤ 41 := (by decide : ∀ c ∈ [1, 2, 3, 4, 5, 6, 39, 40, 41], 0 < c ∧ c ≤ 41) c hc
  refine seq_go (asg_go ?_)
  refine ⟨_, rfl, _, _, _, rfl, (by decide), fun H1 k1 => ?_⟩
  obtain ⟨s0, es0, hs0⟩ := mix_nat (cell := cell) (k := 1) (many := 4) (by decide)
  rw [es0]
  dsimp only [gName]
  refine seq_cut (fun σ' H' => ∃ n : Nat, n ≤ 31 ∧ Kp [] H H' ∧ σ' = [some (.int cell), some (nV i), some (nV c), some (nV n), none, none, none]) ?_ ?_
  rotate_left
  · intro N hN
    refine ⟨_, rfl, _, _, _, rfl, (by decide), fun H2 k2 => ⟨rfl, _, rfl, ite2 (fun hq => ?_) (fun hq => hN _ _ ⟨s0, by omega, k1.trans k2, rfl⟩)⟩⟩
    obtain ⟨s1, es1, hs1⟩ := mix_nat (cell := cell) (k := 3) (many := 3) (by decide)
    refine ⟨_, rfl, _, _, _, rfl, (by decide), fun H3 k3 => ⟨_, _, rfl, rfl, hN _ _ ⟨29 + s1, by omega, (k1.trans k2).trans k3, ?_⟩⟩⟩
    rw [es1]
    rfl
  rintro σ' H2 ⟨n, n31, k2, rfl⟩
  refine seq_cut (fun σ' H' => ∃ (D : Addr) (ds : List V) (dl : List A1), H D = none ∧ Kp [] H H' ∧ H' D = some (.lst ds) ∧ Paired (A1At H') ds dl ∧ (∀ d ∈ dl, GdD c d) ∧ dl.length ≤ 31 ∧ ∃ o, σ' = [some (.int cell), some (nV i), some (nV c), some (nV n), some (.ref D), none, o]) ?_ ?_
  rotate_left
  · intro N hN
    walk_at "nf"
    refine lc_go ?_
    refine ⟨_, rfl, _, rfl, (by show _ ≤ (n : Int); omega), (by show (n : Int) < _; omega), ?_⟩
    refine lc_rg (fun _ H v (_ : Nat) => GdV c H v) id (Nat.lt_of_le_of_lt (show ((n : Int)).toNat ≤ 31 by omega) (by decide)) (fun x => rfl) (fun D H H' v d kk z => GdV.tk z kk.tk) ?_ ?_
    · intro D acc j H' Q' hj hD hD1 kp q
      exact ⟨_, rfl, _, rfl, _, _, rfl, rfl, .inl (by decide), _, rfl, _, _, c, rfl, hc, fun v d H'' k' hd gd => q v H'' k' ⟨d, hd, gd⟩⟩
    · intro D H' xs hD kp e pd
      obtain ⟨dl, p1, g1, l1⟩ := pd_choose pd
      refine hN _ _ ⟨D, xs, dl, k2.dom _ hD, k2.trans kp, e, p1, g1, ?_, _, rfl⟩
      rw [l1, List.length_map, List.length_range]
      omega
  rintro σ' H3 ⟨D, ds, dl, hD, k3, hds, pds, gd, ld, o, rfl⟩
  refine seq_cut (fun σ' H' => ∃ (q : Addr), H q = none ∧ Kp [] H H' ∧ (H' q = some (.lst ds) ∨ H' q = some (.tup ds)) ∧ Paired (A1At H') ds dl ∧ σ' = [some (.int cell), some (nV i), some (nV c), some (nV n), some (.ref q), none, o]) ?_ ?_
  rotate_left
  · intro N hN
    refine ⟨_, rfl, _, _, _, rfl, (by decide), fun H4 k4 => ⟨rfl, _, rfl, ite2 (fun hq => ?_) (fun hq => hN _ _ ⟨D, hD, k3.trans k4, .inl (k4.keep0 hds), Pd.mono (fun _ _ z => z.kp k4) pds, rfl⟩)⟩⟩
    refine ⟨_, rfl, D, ds, rfl, .inl ⟨SqL.of (k4.keep0 hds), fun q hq => ?_⟩⟩
    exact hN _ _ ⟨q, (k3.trans k4).dom _ hq, (k3.trans k4).new hq, .inr upd_same, Pd.mono (fun _ _ z => z.kp (k4.new hq)) pds, rfl⟩
  rintro σ' H4 ⟨q, hq0, k4, hq, pq, rfl⟩
  obtain ⟨z, ez, hz⟩ := hear3 (mixM_lo (cell := cell) (k := 5) (many := 3) (by decide)) (mixM_hi (by decide))
  refine ⟨_, rfl, _, _, rfl, rfl, ⟨by decide, by decide, by decide⟩, _, _, rfl, rfl, (by show (0 : Int) < 10 ^ (60 : Int).toNat; decide), _, _, rfl, rfl, ?_⟩
  dsimp only [gName]
  generalize cell % 10 ^ (60 : Int).toNat - 7 = rk
  refine ⟨_, rfl, _, rfl, i, c, rfl, by omega, _, rfl, (by show 3 ≤ sizeLine; decide), fun l hl => ?_⟩
  have j1 := (Kp.refl [] H4).new (o := .lst [V.str "", .str "bell", .str "a"]) hl
  have e1 : upd H4 l (.lst [V.str "", .str "bell", .str "a"]) l = some (.lst [V.str "", .str "bell", .str "a"]) := upd_same
  generalize upd H4 l (.lst [V.str "", .str "bell", .str "a"]) = H5 at j1 e1 ⊢
  refine ⟨_, rfl, _, _, _, rfl, (by decide), fun H6 k6 => ⟨l, _, _, _, rfl, rfl, SqL.of (k6.keep0 e1), ez, _, rfl, _, _, _, rfl, (by decide), fun H7 k7 => ⟨rfl, _, rfl, (by show 5 ≤ sizeLine; decide), fun t ht => ?_⟩⟩⟩
  generalize (decide (V.int (mixM cell 6 2) = V.int 0)) = on
  have k47 := (j1.trans k6).trans k7
  have kt := k47.new (o := .tup [.str (nameM i c), .int rk, .str z, .bl on, .ref q]) ht
  refine k _ ⟨nameM i c, rk, z, on, dl⟩ _ (k4.trans kt) ⟨t, q, ds, rfl, hq0, upd_same, hq.elim (fun h => .inl (kt.keep0 h)) (fun h => .inr (kt.keep0 h)), Pd.mono (fun _ _ z => z.kp kt) pq⟩ ⟨rfl, hz, fun d hd => (gd d hd).1, ld⟩ (nos_of gd)
end
end Ev
namespace Ev
open PySem L2
section
variable {P : Program} {w : World} {K : PySem.W.Frag} {mg : Str → Option Value} {base : Heap}
/-- a handler that stands -/
def HK (H : Hp) (v : V) (f : FH) : Prop := ∃ p q ds, v = .ref p ∧ H p = some (.tup [.str f.name, .int f.rank, .str f.hears, .bl f.once, .ref q]) ∧ (H q = some (.lst ds) ∨ H q = some (.tup ds)) ∧ Paired (A1At H) ds f.deeds
theorem HK.kp {H H' : Hp} {v : V} {f : FH} (h : HK H v f) (k : Kp [] H H') : HK H' v f := by
  obtain ⟨p, q, ds, e, h1, h2, h3⟩ := h
  exact ⟨p, q, ds, e, k.tk _ _ h1, h2.elim (fun z => .inl (k.keep0 z)) (fun z => .inr (k.keep0 z)), Pd.mono (fun _ _ z => z.kp k) h3⟩
/-- a test that tells b and changes nothing -/
def PT (σ : L2.St) (H : Hp) (t : TT) (b : Bool) : Prop := ∀ Q : Bool → Hp → Prop, Q b H → t σ H Q
theorem PT.or {σ : L2.St} {H : Hp} {t u : TT} {a b : Bool} (h1 : PT σ H t a) (h2 : a = false → PT σ H u b) : PT σ H (tOr t u) (a || b) := fun Q h => h1 _ (by
  cases a with
  | true => exact iteT h
  | false => exact iteF (h2 rfl _ h))
theorem PT.and {σ : L2.St} {H : Hp} {t u : TT} {a b : Bool} (h1 : PT σ H t a) (h2 : a = true → PT σ H u b) : PT σ H (tAnd t u) (a && b) := fun Q h => h1 _ (by
  cases a with
  | true => exact iteT (h2 rfl _ h)
  | false => exact iteF h)
theorem PT.not {σ : L2.St} {H : Hp} {t : TT} {a : Bool} (h1 : PT σ H t a) : PT σ H (tNot t) (!a) := fun Q h => h1 _ h
theorem vi (a b : Int) : decide (V.int a = V.int b) = decide (a = b) := by
  by_cases e : a = b
  · rw [decide_eq_true e, e]; exact decide_eq_true rfl
  · rw [decide_eq_false e]; exact decide_eq_false fun q => e (V.int.inj q)
def badB (wr : Int) (place k n : Nat) : Bool := decide ((k : Int) = 40) || ((decide (wr = 1) && decide ((k : Int) = (place : Int))) || (decide ((30 : Int) < (n : Int)) && !(decide (0 < wr) && decide ((k : Int) = (place : Int)))))
def twiB (wr : Int) (place k : Nat) : Bool := decide (wr = 2) && decide ((k : Int) = (place : Int))
def dueK (wr : Int) (place : Nat) : Nat → List Nat → Nat
  | _, [] => 0
  | k, n :: r => if badB wr place k n = true then 1 else if twiB wr place k = true then 2 else dueK wr place (k + 1) r
def dueF (wr : Int) (place : Nat) (st : Bool) (l : List Nat) : Nat := if dueK wr place 0 l = 0 then (if st = true then 3 else 0) else dueK wr place 0 l
def lens (fs : List FH) : List Nat := fs.map fun f => f.deeds.length
def sp_ldue : Sp := fun vs H Q _ => ∃ (a : Addr) (xs : List V) (fs : List FH) (wr : Int) (place : Nat) (st : Bool), vs = [.ref a, .int wr, nV place, .bl st] ∧ H a = some (.lst xs) ∧ Paired (HK H) xs fs ∧ fs.length ≤ 41 ∧ ∀ H', Kp [] H H' → Q (.str (codS (dueF wr place st (lens fs)))) H'
theorem ok_ldue (T : Tx K mg) : FnOk P w K mg base CX0 1 T.f_ldue T.d_ldue ["_law_handlers", "_law_wrong_here", "_law_place", "_law_strange"] (sp_ldue) := by
  refine T.F_ldue.ok sc_ldue (by walk_at "len") (fun cdv A outer s H vs Q E hr h => ?_)
  obtain ⟨a, xs, fs, wr, place, st, rfl, ha, hx, hl, k⟩ := h
  refine ⟨_, (pss_cons (ps_for PassesOwn.never rfl (pi_range1 rfl T.z_range (pa_cons (pe_callB (kLen K) (by rfl) T.z_len PySem.boot_len (pa_cons (pv 0) pa_nil)) pa_nil)) (pg_name (i := 4) sc_ldue.nd rfl (Or.inl rfl))
        (pss_cons (ps_if (PW.pt (pw_or (pt_cmpR op_eq (pv 4) pe_int (nomark _)) (pw_or (PW.pt (pw_and (pt_cmpR op_eq (pv 1) pe_int (nomark _)) (pw_and1 (pt_cmpR op_eq (pv 4) (pv 2) (nomark _))))) (pw_or1 (PW.pt (pw_and (pt_cmpR op_gt (pe_callB (kLen K) (by rfl) T.z_len PySem.boot_len (pa_cons (pe_ix (kIxT K) (pe_ix (kIxL K) (pv 0) (pv 4) (fun _ _ => rfl)) pe_int (fun _ _ => rfl)) pa_nil)) pe_int (nomark _)) (pw_and1 (pt_not (PW.pt (pw_and (pt_cmpR op_gt (pv 1) pe_int (nomark _)) (pw_and1 (pt_cmpR op_eq (pv 4) (pv 2) (nomark _)))))))))))))
            (pss_one (ps_ret pe_str))
            pss_nil)
        (pss_one (ps_if (PW.pt (pw_and (pt_cmpR op_eq (pv 1) pe_int (nomark _)) (pw_and1 (pt_cmpR op_eq (pv 4) (pv 2) (nomark _)))))
            (pss_one (ps_ret pe_str))
            pss_nil))))
    (pss_cons (ps_if (pt_val (pv 3))
        (pss_one (ps_ret pe_str))
        pss_nil)
    (pss_one (ps_ret pe_str)))), ?_⟩
  have lx := Pd.len hx
  refine seq_go (for_go ?_)
  refine ⟨_, rfl, a, xs, rfl, .inl (SqL.of ha), _, rfl, (by omega), (by rw [lx]; show (fs.length : Int) < _; omega), ?_⟩
  refine for_range (fun i σ H' => H' = H ∧ dueK wr place 0 (lens fs) = dueK wr place i ((lens fs).drop i) ∧ ∃ o, σ = [some (.ref a), some (.int wr), some (nV place), some (.bl st), o]) ⟨rfl, rfl, _, rfl⟩ ?_ ?_
  · rintro i σ H' hi ⟨rfl, ed, o, rfl⟩
    rw [Int.zero_add]
    have hi : i < fs.length := by omega
    have eh : fs[i]? = some fs[i] := List.getElem?_eq_getElem hi
    obtain ⟨v, ev, rv⟩ := Pd.at' hx eh
    obtain ⟨p, q, ds, rfl, hp, hq, hds⟩ := rv
    have ll := Pd.len hds
    have edrop : (lens fs).drop i = fs[i].deeds.length :: (lens fs).drop (i + 1) := by
      unfold lens
      rw [List.drop_eq_getElem_cons (by rw [List.length_map]; exact hi), List.getElem_map]
    rw [edrop] at ed
    have ed : dueK wr place 0 (lens fs) = (if badB wr place i fs[i].deeds.length = true then 1 else if twiB wr place i = true then 2 else dueK wr place (i + 1) ((lens fs).drop (i + 1))) := ed
    have fin : ∀ n, n ≠ 0 → dueK wr place 0 (lens fs) = n → dueF wr place st (lens fs) = n := fun n h0 e => by
      unfold dueF
      rw [if_neg (by rw [e]; exact h0), e]
    have kz : ∀ n, n ≠ 0 → dueK wr place 0 (lens fs) = n → Q (.str (codS n)) H' := fun n h0 e => by
      have := k H' (Kp.refl _ _)
      rw [fin n h0 e] at this
      exact this
    refine seq_cut (fun σ' H2 => H2 = H' ∧ badB wr place i fs[i].deeds.length = false ∧ σ' = [some (.ref a), some (.int wr), some (nV place), some (.bl st), some (nV i)]) ?_ ?_
    rotate_left
    · intro N hN
      refine if_go ?_
      refine (show PT _ _ _ (badB wr place i fs[i].deeds.length) from PT.or ?_ fun _ => PT.or (PT.and ?_ fun _ => ?_) fun _ => PT.and ?_ fun _ => PT.not (PT.and ?_ fun _ => ?_)) _ ?_
      · exact fun Q h => ⟨_, rfl, rfl, _, rfl, by show Q (decide (V.int _ = V.int _)) _; rw [vi]; exact h⟩
      · exact fun Q h => ⟨_, rfl, rfl, _, rfl, by show Q (decide (V.int _ = V.int _)) _; rw [vi]; exact h⟩
      · exact fun Q h => ⟨_, rfl, _, rfl, rfl, _, rfl, by show Q (decide (V.int _ = V.int _)) _; rw [vi]; exact h⟩
      · exact fun Q h => ⟨_, rfl, _, rfl, a, _, _, _, rfl, rfl, SqL.of ha, atI_nat ev, p, _, _, _, rfl, rfl, SqT.of hp, at4, q, ds, rfl, hq.elim (fun z => .inl (SqL.of z)) (fun z => .inr (SqT.of z)), _, _, rfl, rfl, _, rfl, by rw [ll]; exact h⟩
      · exact fun Q h => ⟨_, rfl, _, _, rfl, rfl, _, rfl, h⟩
      · exact fun Q h => ⟨_, rfl, _, rfl, rfl, _, rfl, by show Q (decide (V.int _ = V.int _)) _; rw [vi]; exact h⟩
      cases eb : badB wr place i fs[i].deeds.length with
      | true => exact iteT (kz 1 (by decide) (by rw [ed, if_pos eb]))
      | false => exact iteF (hN _ _ ⟨rfl, eb, rfl⟩)
    rintro σ' H2 ⟨rfl, eb, rfl⟩
    rw [if_neg (by rw [eb]; exact Bool.false_ne_true)] at ed
    refine if_go ?_
    refine (show PT _ _ _ (twiB wr place i) from PT.and ?_ fun _ => ?_) _ ?_
    · exact fun Q h => ⟨_, rfl, rfl, _, rfl, by show Q (decide (V.int _ = V.int _)) _; rw [vi]; exact h⟩
    · exact fun Q h => ⟨_, rfl, _, rfl, rfl, _, rfl, by show Q (decide (V.int _ = V.int _)) _; rw [vi]; exact h⟩
    cases et : twiB wr place i with
    | true => exact iteT (kz 2 (by decide) (by rw [ed, if_pos et]))
    | false =>
      rw [if_neg (by rw [et]; exact Bool.false_ne_true)] at ed
      exact iteF ⟨rfl, ed, _, rfl⟩
  · rintro σ H' ⟨rfl, ed, o, rfl⟩
    have ed : dueK wr place 0 (lens fs) = 0 := by
      rw [ed]
      have : (lens fs).drop (((xs.length : Nat) : Int)).toNat = [] := List.drop_of_length_le (by unfold lens; rw [List.length_map]; omega)
      rw [this]
      rfl
    have kz := k H' (Kp.refl _ _)
    have ef : dueF wr place st (lens fs) = (if st = true then 3 else 0) := by unfold dueF; rw [if_pos ed]
    rw [ef] at kz
    cases st with
    | true => exact ⟨_, rfl, _, rfl, iteT kz⟩
    | false => exact ⟨_, rfl, _, rfl, iteF kz⟩
end
end Ev
namespace Ev
open PySem L2
section
variable {P : Program} {w : World} {K : PySem.W.Frag} {mg : Str → Option Value} {base : Heap}
def ofF (b : Bool) (f : FH) : A2 := .five (.str f.name) (.int f.rank) (.str f.hears) (.bl f.once) (if b = true then .tup f.deeds else .lst f.deeds)
theorem wordLen {z : Str} (h : isWord z = true) : z.length ≤ sizeLine := by
  unfold isWord at h
  simp only [Bool.and_eq_true, decide_eq_true_eq] at h
  exact Nat.le_trans h.1.2 (by decide)
theorem hearLen {z : Str} (h : isWord z = true ∨ z = Str.empty) : z.length ≤ sizeLine := h.elim wordLen fun e => by rw [e]; decide
/-- all good but for the number of its deeds -/
def GdE (f : FH) : Prop := isWord f.name = true ∧ (isWord f.hears = true ∨ f.hears = Str.empty) ∧ (∀ d ∈ f.deeds, deedM d = true) ∧ f.deeds.length ≤ 31
theorem GdF.e {c i : Nat} {f : FH} (h : GdF c i f) (hc : Cnt c) (hi : i < c) : GdE f := ⟨by rw [h.1]; exact name_word hc hi, h.2.1, h.2.2.1, h.2.2.2⟩
theorem HK.a2 {H : Hp} {v : V} {f : FH} (h : HK H v f) (g : GdE f) : ∃ b, A2At H v (ofF b f) := by
  obtain ⟨p, q, ds, e, h1, h2, h3⟩ := h
  rcases h2 with h2 | h2
  · exact ⟨false, p, _, _, _, _, _, e, h1, ⟨rfl, wordLen g.1⟩, rfl, ⟨rfl, hearLen g.2.1⟩, rfl, q, ds, rfl, h2, h3⟩
  · exact ⟨true, p, _, _, _, _, _, e, h1, ⟨rfl, wordLen g.1⟩, rfl, ⟨rfl, hearLen g.2.1⟩, rfl, q, ds, rfl, h2, h3⟩
theorem ofF_ok {b : Bool} {f : FH} (g : GdE f) : handlerM (ofF b f) = decide (f.deeds.length ≤ 30) := by
  have hd : f.deeds.all deedM = true := List.all_eq_true.mpr g.2.2.1
  have hh : hearM (.str f.hears) = true := by
    show (isWord f.hears || decide (f.hears = Str.empty)) = true
    rcases g.2.1 with e | e
    · rw [e]; rfl
    · rw [decide_eq_true e]; exact Bool.or_true _
  have hx : DX.ok (if b = true then .tup f.deeds else .lst f.deeds) = decide (f.deeds.length ≤ 30) := by
    cases b
    · show dsOk f.deeds = _; unfold dsOk; rw [hd, Bool.and_true]
    · show dsOk f.deeds = _; unfold dsOk; rw [hd, Bool.and_true]
  show (isWord f.name && (true && (true && (hearM (.str f.hears) && DX.ok _)))) = _
  rw [g.1, hh, hx]
  rfl
theorem cutV_take (xs : List V) (k : Nat) : cutV xs none (some (k : Int)) = xs.take k := by
  unfold cutV
  rw [HT.sIx_none, HT.sIx_nat]
  show (xs.drop 0).take (min k xs.length - 0) = xs.take k
  rw [List.drop_zero, Nat.sub_zero]
  by_cases h : k ≤ xs.length
  · rw [Nat.min_eq_left h]
  · rw [Nat.min_eq_right (by omega), List.take_of_length_le (Nat.le_refl _), List.take_of_length_le (by omega)]
def strF (f : FH) (t : Str) : FH := ⟨f.name, f.rank, f.hears, f.once, f.deeds.take 29 ++ [.tup [.str t, .str sNob]]⟩
def sp_lestranged : Sp := fun vs H Q _ => ∃ (v : V) (f : FH) (cell : Int), vs = [v, .int cell] ∧ HK H v f ∧ ∀ v' t H', t ∈ jl → Kp [] H H' → HKN H H' v' (strF f t) → Q v' H'
theorem ok_lestranged (T : Tx K mg) : FnOk P w K mg base CX0 1 T.f_lestranged T.d_lestranged ["_law_one", "_law_cell"] (sp_lestranged) := by
  refine T.F_lestranged.ok sc_lestranged (by walk_at "len") (fun cdv A outer s H vs Q E hr h => ?_)
  obtain ⟨v, f, cell, rfl, ⟨p, q, ds, rfl, hp, hq, hds⟩, k⟩ := h
  refine ⟨_, (pss_cons (ps_asg (pv 0) (kTup K (pgs_cons (pg_name (i := 2) sc_lestranged.nd rfl (Or.inl rfl)) (pgs_cons (pg_name (i := 3) sc_lestranged.nd rfl (Or.inl rfl)) (pgs_cons (pg_name (i := 4) sc_lestranged.nd rfl (Or.inl rfl)) (pgs_cons (pg_name (i := 5) sc_lestranged.nd rfl (Or.inl rfl)) (pgs_cons (pg_name (i := 6) sc_lestranged.nd rfl (Or.inl rfl)) pgs_nil)))))))
    (pss_one (ps_ret (pe_tup (pa_cons (pv 2) (pa_cons (pv 3) (pa_cons (pv 4) (pa_cons (pv 5) (pa_cons (pe_op op_cat (pe_slice (kSlL K) (pe_callTy (kList K) (by rfl) T.z_list (by decide +kernel) (pa_cons (pv 6) pa_nil)) po_none (po_some pe_int)) (pe_lst (pa_cons (pe_tup (pa_cons (pe_ix (kIxL K) (pe_lst (pa_cons pe_str (pa_cons pe_str pa_nil))) (pe_op op_mod (pv 1) pe_int) (fun _ _ => rfl)) (pa_cons pe_str pa_nil))) pa_nil))) pa_nil))))))))), ?_⟩
  refine ⟨_, rfl, p, _, rfl, SqT.of hp, rfl, _, _, rfl, _, _, rfl, _, _, rfl, _, _, rfl, _, _, rfl, rfl, ?_⟩
  refine ⟨_, rfl, _, rfl, _, rfl, _, rfl, _, rfl, q, ds, rfl, hq.elim (fun z => .inl (SqL.of z)) (fun z => .inr (SqT.of z)), fun l1 hl1 => ?_⟩
  have j1 := (Kp.refl [] H).new (o := .lst ds) hl1
  have e1 : upd H l1 (.lst ds) l1 = some (.lst ds) := upd_same
  generalize upd H l1 (.lst ds) = H1 at j1 e1 ⊢
  have ec : cutV ds none (some 29) = ds.take 29 := cutV_take ds 29
  refine ⟨_, rfl, l1, _, rfl, SqL.of e1, fun l2 hl2 => ?_⟩
  rw [ec]
  have j2 := (Kp.refl [] H1).new (o := .lst (ds.take 29)) hl2
  have e2 : upd H1 l2 (.lst (ds.take 29)) l2 = some (.lst (ds.take 29)) := upd_same
  generalize upd H1 l2 (.lst (ds.take 29)) = H2 at j2 e2 ⊢
  obtain ⟨t, htj, et⟩ : ∃ t ∈ jl, atI [V.str "join", .str "leave"] (cell % 2) = some (.str t) := by
    have h0 := Int.emod_nonneg cell (b := 2) (by decide)
    have h1 := Int.emod_lt_of_pos cell (b := 2) (by decide)
    have h : cell % 2 = 0 ∨ cell % 2 = 1 := by omega
    rcases h with e | e
    · rw [e]; exact ⟨_, by decide +kernel, rfl⟩
    · rw [e]; exact ⟨"leave", by decide +kernel, rfl⟩
  refine ⟨(by show 2 ≤ sizeLine; decide), fun l3 hl3 => ⟨_, rfl, _, _, rfl, rfl, (by show (0 : Int) < 2; decide), l3, _, _, _, rfl, rfl, SqL.of upd_same, et, (by show 2 ≤ sizeLine; decide), fun t4 ht4 => ?_⟩⟩
  have j3 := ((Kp.refl [] H2).new (o := .lst [V.str "join", .str "leave"]) hl3).new (o := .tup [V.str t, .str "nobody"]) ht4
  have e3 : upd (upd H2 l3 (.lst [V.str "join", .str "leave"])) t4 (.tup [V.str t, .str "nobody"]) t4 = some (.tup [V.str t, .str "nobody"]) := upd_same
  generalize upd (upd H2 l3 (.lst [V.str "join", .str "leave"])) t4 (.tup [V.str t, .str "nobody"]) = H3 at j3 e3 ⊢
  refine ⟨(by show 1 ≤ sizeLine; decide), fun l5 hl5 => ?_⟩
  have j4 := (Kp.refl [] H3).new (o := .lst [V.ref t4]) hl5
  have e4 : upd H3 l5 (.lst [V.ref t4]) l5 = some (.lst [V.ref t4]) := upd_same
  generalize upd H3 l5 (.lst [V.ref t4]) = H4 at j4 e4 ⊢
  refine ⟨l2, l5, _, _, rfl, rfl, (j3.trans j4).keep0 e2, e4, Nat.le_trans (show (ds.take 29).length + 1 ≤ 30 by rw [List.length_take]; omega) (by decide), fun r hr => ?_⟩
  have k4 := ((j1.trans j2).trans j3).trans j4
  have j5 := (Kp.refl [] H4).new (o := .lst (ds.take 29 ++ [V.ref t4])) hr
  have e5 : upd H4 r (.lst (ds.take 29 ++ [V.ref t4])) r = some (.lst (ds.take 29 ++ [V.ref t4])) := upd_same
  generalize upd H4 r (.lst (ds.take 29 ++ [V.ref t4])) = H5 at j5 e5 ⊢
  refine ⟨(by show 5 ≤ sizeLine; decide), fun t6 ht6 => ?_⟩
  have k5 := k4.trans j5
  have k6 := k5.new (o := .tup [.str f.name, .int f.rank, .str f.hears, .bl f.once, .ref r]) ht6
  have j6 := (Kp.refl [] H5).new (o := .tup [.str f.name, .int f.rank, .str f.hears, .bl f.once, .ref r]) ht6
  have tl : t.length ≤ sizeLine := by
    have : ∀ t ∈ jl, t.length ≤ 24 := by decide +kernel
    exact Nat.le_trans (this t htj) (by decide)
  exact k _ t _ htj k6 ⟨t6, r, _, rfl, k4.dom _ hr, upd_same, .inl (j6.keep0 e5), Pd.append (Pd.mono (fun _ _ z => z.kp k6) (Pd.take 29 hds)) (.cons ⟨t4, _, rfl, ((j4.trans j5).trans j6).tk _ _ e3, .cons (show A0At _ _ (.str t) from ⟨rfl, tl⟩) (.cons (show A0At _ _ (.str sNob) from ⟨rfl, by decide⟩) .nil)⟩ .nil)⟩
def sp_lkinds : Sp := fun vs H Q _ => ∃ (a : Addr) (xs : List V) (fs : List FH), vs = [.ref a] ∧ H a = some (.lst xs) ∧ Paired (HK H) xs fs ∧ (∀ f ∈ fs, GdE f) ∧ ∀ H', Kp [] H H' → Q (.bl true) H'
theorem ok_lkinds (T : Tx K mg) : FnOk P w K mg base CX0 4 T.f_lkinds T.d_lkinds ["_law_good"] (sp_lkinds) := by
  refine T.F_lkinds.ok sc_lkinds (by walk_at "len") (fun cdv A outer s H vs Q E hr h => ?_)
  obtain ⟨a, xs, fs, rfl, ha, hx, hg, k⟩ := h
  refine ⟨_, (pss_cons (ps_for PassesOwn.never rfl (pi_list (pv 0)) (pg_name (i := 1) sc_lkinds.nd rfl (Or.inl rfl))
        (pss_one (ps_if (PW.pt (pw_or (pt_cmpR op_isN (pe_call (ok_isHandler T) (hr.mono (by decide)) rfl T.g_isHandler T.F_isHandler.kp T.b_isHandler .nil pass0 (pa_cons (pv 1) pa_nil)) pe_non (nomark _)) (pw_or1 (pt_cmpR op_ne (pe_call (ok_isHandler T) (hr.mono (by decide)) rfl T.g_isHandler T.F_isHandler.kp T.b_isHandler .nil pass0 (pa_cons (pv 1) pa_nil)) (pe_cmpR op_le (pe_callB (kLen K) (by rfl) T.z_len PySem.boot_len (pa_cons (pe_ix (kIxT K) (pv 1) pe_int (fun _ _ => rfl)) pa_nil)) pe_int (nomark _)) (nomark _)))))
            (pss_one (ps_ret pe_bl))
            pss_nil)))
    (pss_one (ps_ret (pe_cmpR (kEqD K hr.units) (pe_lst (pa_cons (pe_glob rfl T.g_MOST_HANDLERS T.r_MOST_HANDLERS) (pa_cons (pe_glob rfl T.g_MOST_DEEDS T.r_MOST_DEEDS) (pa_cons (pe_glob rfl T.g_MOST_TICKS T.r_MOST_TICKS) pa_nil)))) (pe_lst (pa_cons pe_int (pa_cons pe_int (pa_cons pe_int pa_nil)))) (nomark _))))), ?_⟩
  refine seq_go (for_go ?_)
  refine ⟨_, rfl, a, rfl, ⟨_, SqL.of ha⟩, ?_⟩
  refine for_pd hx (fun pre σ H' => Kp [] H H' ∧ ∃ o, σ = [some (.ref a), o]) ⟨Kp.refl _ _, _, rfl⟩ (fun pre σ H' q => SqL.of (q.1.keep0 ha)) ?_ ?_
  · rintro pre v f post σ H1 ed rv ⟨k1, o, rfl⟩
    have gf := hg f (by rw [ed]; simp)
    have rv1 := rv.kp k1
    obtain ⟨b, hb⟩ := rv1.a2 gf
    refine ⟨_, rfl, v, _, rfl, hb, fun H2 k2 => ⟨rfl, _, rfl, iteF' (decide_eq_false (fun e => nomatch e)) ?_⟩⟩
    refine ⟨_, rfl, v, _, rfl, hb.kp k2, fun H3 k3 => ?_⟩
    obtain ⟨p, q, ds, rfl, hp, hq, hds⟩ := rv1.kp (k2.trans k3)
    have ll := Pd.len hds
    have eo := ofF_ok (b := b) gf
    have le30 : decide ((ds.length : Int) ≤ 30) = decide (f.deeds.length ≤ 30) := by
      rw [ll]
      by_cases h : f.deeds.length ≤ 30
      · rw [decide_eq_true h]; exact decide_eq_true (by omega)
      · rw [decide_eq_false h]; exact decide_eq_false (by omega)
    refine ⟨_, rfl, p, _, _, _, rfl, rfl, SqT.of hp, at4, q, ds, rfl, hq.elim (fun z => .inl (SqL.of z)) (fun z => .inr (SqT.of z)), _, _, rfl, rfl, rfl, _, rfl, iteF' (neF ?_) ⟨(k1.trans k2).trans k3, _, rfl⟩⟩
    show V.bl (handlerM (ofF b f)) = V.bl (decide ((ds.length : Int) ≤ 30))
    rw [eo, le30]
  · rintro σ H1 ⟨k1, o, rfl⟩
    refine ⟨(by show 3 ≤ sizeLine; decide), fun l1 hl1 => ⟨(by show 3 ≤ sizeLine; decide), fun l2 hl2 => ?_⟩⟩
    have j1 := (Kp.refl [] H1).new (o := .lst ([40, 30, 1000000000].map nV)) hl1
    have e1 : upd H1 l1 (.lst ([40, 30, 1000000000].map nV)) l1 = some (.lst ([40, 30, 1000000000].map nV)) := upd_same
    change upd H1 l1 (.lst ([40, 30, 1000000000].map nV)) l2 = none at hl2
    have j2 := (Kp.refl [] _).new (o := .lst ([40, 30, 1000000000].map nV)) hl2
    have e2 : upd (upd H1 l1 (.lst ([40, 30, 1000000000].map nV))) l2 (.lst ([40, 30, 1000000000].map nV)) l2 = some (.lst ([40, 30, 1000000000].map nV)) := upd_same
    refine ⟨_, _, dp_ints (ns := [40, 30, 1000000000]) (j2.keep0 e1), dp_ints (ns := [40, 30, 1000000000]) e2, (ok_ints _).sh, (ok_ints _).sh, ?_⟩
    rw [(ok_ints _).rfl]
    exact k _ ((k1.trans j1).trans j2)
end
end Ev
namespace Ev
open PySem L2
section
variable {P : Program} {w : World} {K : PySem.W.Frag} {mg : Str → Option Value} {base : Heap}
theorem A0At.updL {H : Hp} {D : Addr} {xs ys : List V} {v : V} {a : A0} (h : A0At H v a) (hd : H D = some (.lst xs)) : A0At (upd H D (.lst ys)) v a := by
  cases a with
  | str z => exact h
  | int i => exact h
  | bl b => exact h
  | non => exact h
  | lst =>
    obtain ⟨p, zs, rfl, e⟩ := h
    by_cases q : p = D
    · exact ⟨p, ys, rfl, by rw [q]; exact upd_same⟩
    · exact ⟨p, zs, rfl, by rw [upd_ne q]; exact e⟩
  | dct =>
    obtain ⟨p, zs, rfl, e⟩ := h
    exact ⟨p, zs, rfl, by rw [upd_ne (fun q => by rw [q, hd] at e; cases e)]; exact e⟩
theorem A1At.updL {H : Hp} {D : Addr} {xs ys : List V} {v : V} {a : A1} (h : A1At H v a) (hd : H D = some (.lst xs)) : A1At (upd H D (.lst ys)) v a := by
  cases a with
  | atom a => exact A0At.updL h hd
  | tup l =>
    obtain ⟨p, zs, rfl, e, pl⟩ := h
    exact ⟨p, zs, rfl, by rw [upd_ne (fun q => by rw [q, hd] at e; cases e)]; exact e, Pd.mono (fun _ _ z => z.updL hd) pl⟩
theorem DXAt.updL {H : Hp} {D : Addr} {xs ys : List V} {v : V} {d : DX} (h : DXAt H v d) (hd : H D = some (.lst xs)) (n : v ≠ .ref D) : DXAt (upd H D (.lst ys)) v d := by
  cases d with
  | atom a => exact ⟨h.1.updL hd, h.2⟩
  | lst l =>
    obtain ⟨q, ds, rfl, e, pl⟩ := h
    exact ⟨q, ds, rfl, by rw [upd_ne (fun z => n (by rw [z]))]; exact e, Pd.mono (fun _ _ z => z.updL hd) pl⟩
  | tup l =>
    obtain ⟨q, ds, rfl, e, pl⟩ := h
    exact ⟨q, ds, rfl, by rw [upd_ne (fun z => n (by rw [z]))]; exact e, Pd.mono (fun _ _ z => z.updL hd) pl⟩
def GZ (σ : L2.St) (te : TE) (a : A0) : Prop := ∀ (H : Hp) (Q : VK), (∀ v H', Kp [] H H' → A0At H' v a → Q v H') → te σ H Q
def GZA (σ : L2.St) (ta : TA) (l : List A0) : Prop := ∀ (H : Hp) (Q : List V → Hp → Prop), (∀ vs H', Kp [] H H' → Paired (A0At H') vs l → Q vs H') → ta σ H Q
theorem GZA.nil {σ : L2.St} : GZA σ tNil [] := fun H Q h => h [] H (Kp.refl _ _) .nil
theorem GZA.cons {σ : L2.St} {te : TE} {ta : TA} {x : A0} {l : List A0} (a : GZ σ te x) (b : GZA σ ta l) : GZA σ (tCons te ta) (x :: l) := fun H Q h => a H _ fun v H1 k1 b1 => b H1 _ fun vs H2 k2 b2 => h (v :: vs) H2 (k1.trans k2) (.cons (b1.kp k2) b2)
/-- one of a list of odd things, told by a number -/
theorem odd_at {K : PySem.W.Frag} {σ : L2.St} {ta : TA} {l : List A0} (g : GZA σ ta l) (hl : l.length ≤ 24) (h0 : 0 < l.length) {H : Hp} {Q : VK} {to : TE} {i : Int} {m : Int} (em : m = (l.length : Int)) (hto : ∀ (H : Hp) (Q : VK), Q (.int (i % m)) H → to σ H Q)
    (k : ∀ v a H', Kp [] H H' → a ∈ l → A0At H' v a → Q v H') : tOp (rIxL K) (tLst ta) to σ H Q := by
  refine g H _ fun vs H1 k1 p1 => ⟨Nat.le_trans (show vs.length ≤ 24 by rw [Pd.len p1]; exact hl) (by decide), fun q hq => hto _ _ ?_⟩
  have i0 : 0 ≤ i % m := Int.emod_nonneg _ (by omega)
  have i1 : i % m < m := Int.emod_lt_of_pos _ (by omega)
  obtain ⟨j, ej, hj⟩ := pickA l i0 (by omega)
  have ha := List.getElem?_eq_getElem hj
  obtain ⟨v, ev, rv⟩ := Pd.at' p1 ha
  exact ⟨q, _, _, v, rfl, rfl, SqL.of upd_same, by rw [ej]; exact atI_nat ev, k v _ _ (k1.new hq) (List.mem_of_getElem? ha) (rv.kp ((Kp.refl [] H1).new hq))⟩
def sp_lwrong : Sp := fun vs H Q _ => ∃ (v : V) (f : FH) (way kk : Int) (D : Addr) (zs : List V), vs = [v, .int way, .int kk] ∧ HK H v f ∧ (∀ p q w1 w2 w3 w4, v = .ref p → H p = some (.tup [w1, w2, w3, w4, .ref q]) → q ≠ D) ∧ GdE f ∧ H D = some (.lst zs) ∧ 0 ≤ way ∧ way < 8 ∧
  ∀ v' a H', Kp [] H H' → handlerM a = false → A2At H' v' a → (∀ ys, A2At (upd H' D (.lst ys)) v' a) → Q v' H'
theorem ok_lwrong (T : Tx K mg) : FnOk P w K mg base CX0 3 T.f_lwrong T.d_lwrong ["_law_one", "_law_way", "_law_k"] (sp_lwrong) := by
  refine T.F_lwrong.ok sc_lwrong (by walk_at "len") (fun cdv A outer s H vs Q E hr h => ?_)
  obtain ⟨v, f, way, kk, D, zs, rfl, ⟨p, q, ds, rfl, hp, hq, hds⟩, hnD, ge, hD, w0, w8, k⟩ := h
  have nq := hnD p q _ _ _ _ rfl hp
  clear hnD
  refine ⟨_, (pss_cons (ps_asg (pv 0) (kTup K (pgs_cons (pg_name (i := 3) sc_lwrong.nd rfl (Or.inl rfl)) (pgs_cons (pg_name (i := 4) sc_lwrong.nd rfl (Or.inl rfl)) (pgs_cons (pg_name (i := 5) sc_lwrong.nd rfl (Or.inl rfl)) (pgs_cons (pg_name (i := 6) sc_lwrong.nd rfl (Or.inl rfl)) (pgs_cons (pg_name (i := 7) sc_lwrong.nd rfl (Or.inl rfl)) pgs_nil)))))))
    (pss_cons (ps_if (pt_cmpR op_lt (pv 1) pe_int (nomark _))
        (pss_one (ps_ret (pe_ix (kIxL K) (pe_lst (pa_cons (pe_callTy (kList K) (by rfl) T.z_list (by decide +kernel) (pa_cons (pv 0) pa_nil)) (pa_cons (pe_slice (kSlA K) (pv 0) po_none (po_some pe_int)) pa_nil))) (pv 1) (fun _ _ => rfl))))
        pss_nil)
    (pss_cons (ps_if (pt_cmpR op_eq (pv 1) pe_int (nomark _))
        (pss_one (ps_ret (pe_tup (pa_cons (pe_ix (kIxL K) (pe_lst (pa_cons pe_str (pa_cons pe_str (pa_cons pe_str (pa_cons pe_int (pa_cons pe_non (pa_cons (pe_lst (pa_cons pe_str pa_nil)) (pa_cons pe_dnewK pa_nil)))))))) (pe_op op_mod (pv 2) pe_int) (fun _ _ => rfl)) (pa_cons (pv 4) (pa_cons (pv 5) (pa_cons (pv 6) (pa_cons (pv 7) pa_nil))))))))
        pss_nil)
    (pss_cons (ps_if (pt_cmpR op_eq (pv 1) pe_int (nomark _))
        (pss_one (ps_ret (pe_tup (pa_cons (pv 3) (pa_cons (pe_ix (kIxL K) (pe_lst (pa_cons pe_bl (pa_cons pe_non (pa_cons pe_str (pa_cons (pe_lst pa_nil) (pa_cons pe_dnewK pa_nil)))))) (pe_op op_mod (pv 2) pe_int) (fun _ _ => rfl)) (pa_cons (pv 5) (pa_cons (pv 6) (pa_cons (pv 7) pa_nil))))))))
        pss_nil)
    (pss_cons (ps_if (pt_cmpR op_eq (pv 1) pe_int (nomark _))
        (pss_one (ps_ret (pe_tup (pa_cons (pv 3) (pa_cons (pv 4) (pa_cons (pe_ix (kIxL K) (pe_lst (pa_cons pe_non (pa_cons pe_str (pa_cons pe_int (pa_cons pe_str (pa_cons (pe_lst pa_nil) (pa_cons pe_dnewK pa_nil))))))) (pe_op op_mod (pv 2) pe_int) (fun _ _ => rfl)) (pa_cons (pv 6) (pa_cons (pv 7) pa_nil))))))))
        pss_nil)
    (pss_cons (ps_if (pt_cmpR op_eq (pv 1) pe_int (nomark _))
        (pss_one (ps_ret (pe_tup (pa_cons (pv 3) (pa_cons (pv 4) (pa_cons (pv 5) (pa_cons (pe_ix (kIxL K) (pe_lst (pa_cons pe_int (pa_cons pe_int (pa_cons pe_non (pa_cons (pe_lst pa_nil) (pa_cons pe_dnewK pa_nil)))))) (pe_op op_mod (pv 2) pe_int) (fun _ _ => rfl)) (pa_cons (pv 7) pa_nil))))))))
        pss_nil)
    (pss_cons (ps_if (pt_cmpR op_eq (pv 1) pe_int (nomark _))
        (pss_one (ps_ret (pe_tup (pa_cons (pv 3) (pa_cons (pv 4) (pa_cons (pv 5) (pa_cons (pv 6) (pa_cons (pe_ix (kIxL K) (pe_lst (pa_cons pe_str (pa_cons pe_non (pa_cons (pe_tup (pa_cons pe_str pa_nil)) pa_nil)))) (pe_op op_mod (pv 2) pe_int) (fun _ _ => rfl)) pa_nil))))))))
        pss_nil)
    (pss_one (ps_ret (pe_tup (pa_cons (pv 3) (pa_cons (pv 4) (pa_cons (pv 5) (pa_cons (pv 6) (pa_cons (pe_lst (pa_cons (pe_tup (pa_cons pe_str pa_nil)) (pa_cons (pe_call (ok_lbadDeed T) (hr.mono (by decide)) rfl T.g_lbadDeed T.F_lbadDeed.kp T.b_lbadDeed .nil pass0 (pa_cons (pv 2) pa_nil)) (pa_cons (pe_tup (pa_cons pe_str (pa_cons pe_str pa_nil))) pa_nil)))) pa_nil))))))))))))))), ?_⟩
  refine ⟨_, rfl, p, _, rfl, SqT.of hp, rfl, _, _, rfl, _, _, rfl, _, _, rfl, _, _, rfl, _, _, rfl, rfl, ?_⟩
  obtain ⟨dx, hdx⟩ : ∃ dx, DXAt H (.ref q) dx := by
    rcases hq with h | h
    · exact ⟨.lst f.deeds, q, ds, rfl, h, hds⟩
    · exact ⟨.tup f.deeds, q, ds, rfl, h, hds⟩
  have fin : ∀ {t : Addr} {H' : Hp} {v1 v2 v3 v4 v5 : V} {n r h o : A0} {d : DX}, Kp [] H H' → H' t = some (.tup [v1, v2, v3, v4, v5]) → A0At H' v1 n → A0At H' v2 r → A0At H' v3 h → A0At H' v4 o → DXAt H' v5 d → v5 ≠ .ref D → handlerM (.five n r h o d) = false → Q (.ref t) H' := fun {t H' v1 v2 v3 v4 v5 n r h o d} kp ht h1 h2 h3 h4 h5 h6 h7 => by
    have hD' := kp.keep0 hD
    refine k _ (.five n r h o d) _ kp h7 ⟨t, _, _, _, _, _, rfl, ht, h1, h2, h3, h4, h5⟩ fun ys => ⟨t, _, _, _, _, _, rfl, ?_, h1.updL hD', h2.updL hD', h3.updL hD', h4.updL hD', h5.updL hD' h6⟩
    rw [upd_ne (fun e => by rw [e, hD'] at ht; cases ht)]
    exact ht
  have aN : ∀ Hx, A0At Hx (.str f.name) (.str f.name) := fun _ => ⟨rfl, wordLen ge.1⟩
  have aR : ∀ Hx, A0At Hx (.int f.rank) (.int f.rank) := fun _ => rfl
  have aH : ∀ Hx, A0At Hx (.str f.hears) (.str f.hears) := fun _ => ⟨rfl, hearLen ge.2.1⟩
  have aO : ∀ Hx, A0At Hx (.bl f.once) (.bl f.once) := fun _ => rfl
  have nqv : V.ref q ≠ V.ref D := fun e => nq (by cases e; rfl)
  refine ⟨_, rfl, _, _, rfl, rfl, _, rfl, ite2 (fun hq2 => ?_) (fun hq2 => ?_)⟩
  · have h2 : way < 2 := by simpa using hq2
    refine ⟨_, rfl, p, _, rfl, .inr (SqT.of hp), fun l1 hl1 => ?_⟩
    have j1 := (Kp.refl [] H).new (o := .lst [.str f.name, .int f.rank, .str f.hears, .bl f.once, .ref q]) hl1
    have e1 : upd H l1 (.lst [.str f.name, .int f.rank, .str f.hears, .bl f.once, .ref q]) l1 = some (.lst [.str f.name, .int f.rank, .str f.hears, .bl f.once, .ref q]) := upd_same
    generalize upd H l1 (.lst [.str f.name, .int f.rank, .str f.hears, .bl f.once, .ref q]) = H1 at j1 e1 ⊢
    refine ⟨_, rfl, _, rfl, p, _, rfl, SqT.of (j1.tk _ _ hp), (fun h => absurd h (by show ¬ (HT.sIx 5 0 none = 0 ∧ HT.sIx 5 5 (some 4) = 5); decide)), fun _ t2 ht2 => ?_⟩
    have ec : cutV [V.str f.name, .int f.rank, .str f.hears, .bl f.once, .ref q] none (some 4) = [V.str f.name, .int f.rank, .str f.hears, .bl f.once] := cutV_take _ 4
    rw [ec]
    have j2 := (Kp.refl [] H1).new (o := .tup [V.str f.name, .int f.rank, .str f.hears, .bl f.once]) ht2
    have e2 : upd H1 t2 (.tup [V.str f.name, .int f.rank, .str f.hears, .bl f.once]) t2 = some (.tup [V.str f.name, .int f.rank, .str f.hears, .bl f.once]) := upd_same
    generalize upd H1 t2 (.tup [V.str f.name, .int f.rank, .str f.hears, .bl f.once]) = H2 at j2 e2 ⊢
    refine ⟨(by show 2 ≤ sizeLine; decide), fun l3 hl3 => ?_⟩
    have j3 := (Kp.refl [] H2).new (o := .lst [V.ref l1, .ref t2]) hl3
    have e3 : upd H2 l3 (.lst [V.ref l1, .ref t2]) l3 = some (.lst [V.ref l1, .ref t2]) := upd_same
    generalize upd H2 l3 (.lst [V.ref l1, .ref t2]) = H3 at j3 e3 ⊢
    have kp3 := (j1.trans j2).trans j3
    have hD3 := kp3.keep0 hD
    have h : way = 0 ∨ way = 1 := by omega
    rcases h with rfl | rfl
    · refine ⟨_, rfl, l3, _, _, .ref l1, rfl, rfl, SqL.of e3, rfl, ?_⟩
      have f1 := (j2.trans j3).keep0 e1
      refine k _ .lst _ kp3 rfl ⟨l1, _, rfl, f1⟩ fun ys => ?_
      by_cases e : l1 = D
      · exact ⟨l1, ys, rfl, by rw [e]; exact upd_same⟩
      · exact ⟨l1, _, rfl, by rw [upd_ne e]; exact f1⟩
    · refine ⟨_, rfl, l3, _, _, .ref t2, rfl, rfl, SqL.of e3, rfl, ?_⟩
      have f2 := j3.keep0 e2
      exact k _ .four _ kp3 rfl ⟨t2, _, rfl, f2, rfl⟩ fun ys => ⟨t2, _, rfl, by rw [upd_ne (fun e => by rw [e, hD3] at f2; cases f2)]; exact f2, rfl⟩
  have h2 : ¬ way < 2 := by simpa using hq2
  refine ⟨_, rfl, rfl, _, rfl, ite2 (fun hq2 => ?_) (fun hq2 => ?_)⟩
  · have bad : ∀ a ∈ ([.str "", .str "Ab", .str "abcdefghijklm", .int 5, .non, .lst, .dct] : List A0), a.word = false := by
      intro a ha
      simp only [List.mem_cons, List.not_mem_nil, or_false] at ha
      rcases ha with rfl | rfl | rfl | rfl | rfl | rfl | rfl <;> first | rfl | decide +kernel
    skip
    refine odd_at (l := [.str "", .str "Ab", .str "abcdefghijklm", .int 5, .non, .lst, .dct]) (GZA.cons (x := .str "") ?_ (GZA.cons (x := .str "Ab") ?_ (GZA.cons (x := .str "abcdefghijklm") ?_ (GZA.cons (x := .int 5) ?_ (GZA.cons (x := .non) ?_ (GZA.cons (x := .lst) ?_ (GZA.cons (x := .dct) ?_ GZA.nil))))))) (by decide) (by decide) (i := kk) (m := 7) rfl (fun H Q h => ⟨_, rfl, _, _, rfl, rfl, (by show (0 : Int) < 7; decide), h⟩) ?_
    · exact fun H Q h => h _ _ (Kp.refl _ _) ⟨rfl, by decide⟩
    · exact fun H Q h => h _ _ (Kp.refl _ _) ⟨rfl, by decide⟩
    · exact fun H Q h => h _ _ (Kp.refl _ _) ⟨rfl, by decide⟩
    · exact fun H Q h => h _ _ (Kp.refl _ _) rfl
    · exact fun H Q h => h _ _ (Kp.refl _ _) rfl
    · exact fun H Q h => ⟨by show 1 ≤ sizeLine; decide, fun l hl => h _ _ ((Kp.refl [] H).new hl) ⟨l, _, rfl, upd_same⟩⟩
    · exact fun H Q h l hl => h _ _ ((Kp.refl [] H).new hl) ⟨l, _, rfl, upd_same⟩
    intro va a H1 k1 hm ra
    refine ⟨_, rfl, _, rfl, _, rfl, _, rfl, (by show 5 ≤ sizeLine; decide), fun t ht => ?_⟩
    have kt := (Kp.refl [] H1).new (o := .tup [va, .int f.rank, .str f.hears, .bl f.once, .ref q]) ht
    exact fin (k1.trans kt) upd_same (ra.kp kt) (aR _) (aH _) (aO _) (hdx.kp (k1.trans kt)) nqv (by
      have ha := bad a hm
      show (_ && (_ && (_ && (_ && _)))) = false
      simp [ha])
  refine ⟨_, rfl, rfl, _, rfl, ite2 (fun hq3 => ?_) (fun hq3 => ?_)⟩
  · have bad : ∀ a ∈ ([.bl true, .non, .str "5", .lst, .dct] : List A0), a.whole = false := by
      intro a ha
      simp only [List.mem_cons, List.not_mem_nil, or_false] at ha
      rcases ha with rfl | rfl | rfl | rfl | rfl <;> first | rfl | decide +kernel
    refine ⟨_, rfl, ?_⟩
    refine odd_at (l := [.bl true, .non, .str "5", .lst, .dct]) (GZA.cons (x := .bl true) ?_ (GZA.cons (x := .non) ?_ (GZA.cons (x := .str "5") ?_ (GZA.cons (x := .lst) ?_ (GZA.cons (x := .dct) ?_ GZA.nil))))) (by decide) (by decide) (i := kk) (m := 5) rfl (fun H Q h => ⟨_, rfl, _, _, rfl, rfl, (by show (0 : Int) < 5; decide), h⟩) ?_
    · exact fun H Q h => h _ _ (Kp.refl _ _) rfl
    · exact fun H Q h => h _ _ (Kp.refl _ _) rfl
    · exact fun H Q h => h _ _ (Kp.refl _ _) ⟨rfl, by decide⟩
    · exact fun H Q h => ⟨by show 0 ≤ sizeLine; decide, fun l hl => h _ _ ((Kp.refl [] H).new hl) ⟨l, _, rfl, upd_same⟩⟩
    · exact fun H Q h l hl => h _ _ ((Kp.refl [] H).new hl) ⟨l, _, rfl, upd_same⟩
    intro va a H1 k1 hm ra
    refine ⟨_, rfl, _, rfl, _, rfl, (by show 5 ≤ sizeLine; decide), fun t ht => ?_⟩
    have kt := (Kp.refl [] H1).new (o := .tup [.str f.name, va, .str f.hears, .bl f.once, .ref q]) ht
    exact fin (k1.trans kt) upd_same (aN _) (ra.kp kt) (aH _) (aO _) (hdx.kp (k1.trans kt)) nqv (by
      have ha := bad a hm
      show (_ && (_ && (_ && (_ && _)))) = false
      simp [ha])
  refine ⟨_, rfl, rfl, _, rfl, ite2 (fun hq4 => ?_) (fun hq4 => ?_)⟩
  · have bad : ∀ a ∈ ([.non, .str "A", .int 5, .str " ", .lst, .dct] : List A0), hearM a = false := by
      intro a ha
      simp only [List.mem_cons, List.not_mem_nil, or_false] at ha
      rcases ha with rfl | rfl | rfl | rfl | rfl | rfl <;> first | rfl | decide +kernel
    refine ⟨_, rfl, _, rfl, ?_⟩
    refine odd_at (l := [.non, .str "A", .int 5, .str " ", .lst, .dct]) (GZA.cons (x := .non) ?_ (GZA.cons (x := .str "A") ?_ (GZA.cons (x := .int 5) ?_ (GZA.cons (x := .str " ") ?_ (GZA.cons (x := .lst) ?_ (GZA.cons (x := .dct) ?_ GZA.nil)))))) (by decide) (by decide) (i := kk) (m := 6) rfl (fun H Q h => ⟨_, rfl, _, _, rfl, rfl, (by show (0 : Int) < 6; decide), h⟩) ?_
    · exact fun H Q h => h _ _ (Kp.refl _ _) rfl
    · exact fun H Q h => h _ _ (Kp.refl _ _) ⟨rfl, by decide⟩
    · exact fun H Q h => h _ _ (Kp.refl _ _) rfl
    · exact fun H Q h => h _ _ (Kp.refl _ _) ⟨rfl, by decide⟩
    · exact fun H Q h => ⟨by show 0 ≤ sizeLine; decide, fun l hl => h _ _ ((Kp.refl [] H).new hl) ⟨l, _, rfl, upd_same⟩⟩
    · exact fun H Q h l hl => h _ _ ((Kp.refl [] H).new hl) ⟨l, _, rfl, upd_same⟩
    intro va a H1 k1 hm ra
    refine ⟨_, rfl, _, rfl, (by show 5 ≤ sizeLine; decide), fun t ht => ?_⟩
    have kt := (Kp.refl [] H1).new (o := .tup [.str f.name, .int f.rank, va, .bl f.once, .ref q]) ht
    exact fin (k1.trans kt) upd_same (aN _) (aR _) (ra.kp kt) (aO _) (hdx.kp (k1.trans kt)) nqv (by
      have ha := bad a hm
      show (_ && (_ && (_ && (_ && _)))) = false
      simp [ha])
  refine ⟨_, rfl, rfl, _, rfl, ite2 (fun hq5 => ?_) (fun hq5 => ?_)⟩
  · have bad : ∀ a ∈ ([.int 1, .int 0, .non, .lst, .dct] : List A0), a.isBl = false := by
      intro a ha
      simp only [List.mem_cons, List.not_mem_nil, or_false] at ha
      rcases ha with rfl | rfl | rfl | rfl | rfl <;> first | rfl | decide +kernel
    refine ⟨_, rfl, _, rfl, _, rfl, ?_⟩
    refine odd_at (l := [.int 1, .int 0, .non, .lst, .dct]) (GZA.cons (x := .int 1) ?_ (GZA.cons (x := .int 0) ?_ (GZA.cons (x := .non) ?_ (GZA.cons (x := .lst) ?_ (GZA.cons (x := .dct) ?_ GZA.nil))))) (by decide) (by decide) (i := kk) (m := 5) rfl (fun H Q h => ⟨_, rfl, _, _, rfl, rfl, (by show (0 : Int) < 5; decide), h⟩) ?_
    · exact fun H Q h => h _ _ (Kp.refl _ _) rfl
    · exact fun H Q h => h _ _ (Kp.refl _ _) rfl
    · exact fun H Q h => h _ _ (Kp.refl _ _) rfl
    · exact fun H Q h => ⟨by show 0 ≤ sizeLine; decide, fun l hl => h _ _ ((Kp.refl [] H).new hl) ⟨l, _, rfl, upd_same⟩⟩
    · exact fun H Q h l hl => h _ _ ((Kp.refl [] H).new hl) ⟨l, _, rfl, upd_same⟩
    intro va a H1 k1 hm ra
    refine ⟨_, rfl, (by show 5 ≤ sizeLine; decide), fun t ht => ?_⟩
    have kt := (Kp.refl [] H1).new (o := .tup [.str f.name, .int f.rank, .str f.hears, va, .ref q]) ht
    exact fin (k1.trans kt) upd_same (aN _) (aR _) (aH _) (ra.kp kt) (hdx.kp (k1.trans kt)) nqv (by
      have ha := bad a hm
      show (_ && (_ && (_ && (_ && _)))) = false
      simp [ha])
  refine ⟨_, rfl, rfl, _, rfl, ite2 (fun hq6 => ?_) (fun hq6 => ?_)⟩
  · refine ⟨_, rfl, _, rfl, _, rfl, _, rfl, (by show 1 ≤ sizeLine; decide), fun t0 ht0 => ?_⟩
    have j0 := (Kp.refl [] H).new (o := .tup [V.str "hush"]) ht0
    have e0 : upd H t0 (.tup [V.str "hush"]) t0 = some (.tup [V.str "hush"]) := upd_same
    generalize upd H t0 (.tup [V.str "hush"]) = H1 at j0 e0 ⊢
    have i0 : 0 ≤ kk % 3 := Int.emod_nonneg _ (by decide)
    have i1 : kk % 3 < 3 := Int.emod_lt_of_pos _ (by decide)
    obtain ⟨v5, d5, ev, hv5, n5, b5⟩ : ∃ v5 d5, atI [V.str "now", .non, .ref t0] (kk % 3) = some v5 ∧ (∀ Hx, Kp [] H1 Hx → DXAt Hx v5 d5) ∧ v5 ≠ .ref D ∧ d5.ok = false := by
      have h : kk % 3 = 0 ∨ kk % 3 = 1 ∨ kk % 3 = 2 := by omega
      rcases h with e | e | e
      · exact ⟨_, .atom (.str "now"), by rw [e]; rfl, fun _ _ => ⟨⟨rfl, by decide⟩, rfl⟩, (fun z => nomatch z), rfl⟩
      · exact ⟨_, .atom .non, by rw [e]; rfl, fun _ _ => ⟨rfl, rfl⟩, (fun z => nomatch z), rfl⟩
      · refine ⟨_, .tup [.atom (.str "hush")], by rw [e]; rfl, fun Hx kx => ⟨t0, _, rfl, kx.tk _ _ e0, .cons (show A1At _ _ (.atom (.str "hush")) from ⟨rfl, by decide⟩) .nil⟩, fun z => ?_, by decide +kernel⟩
        cases z
        rw [hD] at ht0
        cases ht0
    refine ⟨(by show 3 ≤ sizeLine; decide), fun l hl => ⟨_, rfl, _, _, rfl, rfl, (by show (0 : Int) < 3; decide), l, _, _, _, rfl, rfl, SqL.of upd_same, ev, (by show 5 ≤ sizeLine; decide), fun t ht => ?_⟩⟩
    have kt := ((Kp.refl [] H1).new (o := .lst [V.str "now", .non, .ref t0]) hl).new (o := .tup [.str f.name, .int f.rank, .str f.hears, .bl f.once, v5]) ht
    exact fin (j0.trans kt) upd_same (aN _) (aR _) (aH _) (aO _) (hv5 _ kt) n5 (by
      show (_ && (_ && (_ && (_ && d5.ok)))) = false
      simp [b5])
  · refine ⟨_, rfl, _, rfl, _, rfl, _, rfl, (by show 1 ≤ sizeLine; decide), fun t1 ht1 => ?_⟩
    have j1 := (Kp.refl [] H).new (o := .tup [V.str "hush"]) ht1
    have e1 : upd H t1 (.tup [V.str "hush"]) t1 = some (.tup [V.str "hush"]) := upd_same
    generalize upd H t1 (.tup [V.str "hush"]) = H1 at j1 e1 ⊢
    refine ⟨_, rfl, _, rfl, fun vb H2 k2 hb => ⟨(by show 2 ≤ sizeLine; decide), fun t2 ht2 => ?_⟩⟩
    obtain ⟨db, hb, bb⟩ := hb
    have j2 := (Kp.refl [] H2).new (o := .tup [V.str "now", .str "a"]) ht2
    have e2 : upd H2 t2 (.tup [V.str "now", .str "a"]) t2 = some (.tup [V.str "now", .str "a"]) := upd_same
    generalize upd H2 t2 (.tup [V.str "now", .str "a"]) = H3 at j2 e2 ⊢
    refine ⟨(by show 3 ≤ sizeLine; decide), fun l hl => ?_⟩
    have j3 := (Kp.refl [] H3).new (o := .lst [V.ref t1, vb, .ref t2]) hl
    have e3 : upd H3 l (.lst [V.ref t1, vb, .ref t2]) l = some (.lst [V.ref t1, vb, .ref t2]) := upd_same
    have nl : l ≠ D := fun e => by
      rw [e, ((j1.trans k2).trans j2).keep0 hD] at hl
      cases hl
    generalize upd H3 l (.lst [V.ref t1, vb, .ref t2]) = H4 at j3 e3 ⊢
    refine ⟨(by show 5 ≤ sizeLine; decide), fun t ht => ?_⟩
    have kt := (Kp.refl [] H4).new (o := .tup [.str f.name, .int f.rank, .str f.hears, .bl f.once, .ref l]) ht
    have kz := (((j1.trans k2).trans j2).trans j3).trans kt
    have p1 : A1At (upd H4 t (.tup [.str f.name, .int f.rank, .str f.hears, .bl f.once, .ref l])) (.ref t1) (.tup [.str "hush"]) := ⟨t1, _, rfl, (((k2.trans j2).trans j3).trans kt).tk _ _ e1, .cons (show A0At _ _ (.str "hush") from ⟨rfl, by decide⟩) .nil⟩
    have p2 : A1At (upd H4 t (.tup [.str f.name, .int f.rank, .str f.hears, .bl f.once, .ref l])) (.ref t2) (.tup [.str "now", .str "a"]) := ⟨t2, _, rfl, (j3.trans kt).tk _ _ e2, .cons (show A0At _ _ (.str "now") from ⟨rfl, by decide⟩) (.cons (show A0At _ _ (.str "a") from ⟨rfl, by decide⟩) .nil)⟩
    refine fin (d := .lst [.tup [.str "hush"], db, .tup [.str "now", .str "a"]]) kz upd_same (aN _) (aR _) (aH _) (aO _) ⟨l, _, rfl, kt.keep0 e3, .cons p1 (.cons (hb.kp ((j2.trans j3).trans kt)) (.cons p2 .nil))⟩ (fun e => nl (by cases e; rfl)) ?_
    have b0 : dsOk [.tup [.str "hush"], db, .tup [.str "now", .str "a"]] = false := by
      unfold dsOk
      simp [bb]
    show (_ && (_ && (_ && (_ && dsOk _)))) = false
    rw [b0]
    simp
end
end Ev
namespace Ev
open PySem L2
/-! ### the plain law: the first refusal by the order told -/
def Sim (a : A2) (f : FH) : Prop := handlerM a = decide (f.deeds.length ≤ 30) ∧ a.nm = f.name ∧ a.toF = f
theorem sim_ofF {b : Bool} {f : FH} (g : GdE f) : Sim (ofF b f) f := ⟨ofF_ok g, rfl, by cases b <;> rfl⟩
structure Fit4 (c : Nat) (fs : List FH) (as : List A2) (wr : Int) (place : Nat) : Prop where
  lf : fs.length = c
  la : as.length = c
  nm : ∀ k f, fs[k]? = some f → f.name = nameM k c
  nd : ((List.range c).map fun k => nameM k c).Nodup
  pl : place < c
  w3 : wr = 0 ∨ wr = 1 ∨ wr = 2
  sim : ∀ k a f, as[k]? = some a → fs[k]? = some f → (k = place → wr = 0) → Sim a f
  one : wr = 1 → ∀ a, as[place]? = some a → handlerM a = false
  two : wr = 2 → 0 < place ∧ ∀ a, as[place]? = some a → handlerM a = true ∧ a.nm = nameM (place - 1) c
theorem nm_in {c : Nat} {fs : List FH} (nm : ∀ k f, fs[k]? = some f → f.name = nameM k c) (nd : ((List.range c).map fun k => nameM k c).Nodup) (lf : fs.length = c) {k j : Nat} (hk : k ≤ c) (hj : j < c) : nameM j c ∈ (fs.take k).map FH.name ↔ j < k := by
  constructor
  · intro h
    obtain ⟨f, hf, e⟩ := List.mem_map.mp h
    obtain ⟨i, hi⟩ := List.getElem?_of_mem hf
    have hik : i < k := by
      have := (List.getElem?_eq_some_iff.mp hi).1
      rw [List.length_take] at this
      omega
    rw [List.getElem?_take_of_lt hik] at hi
    rw [nm i f hi] at e
    have : i = j := List.getElem_inj (h₀ := by simp; omega) (h₁ := by simp; omega) nd |>.mp (by simpa using e)
    omega
  · intro h
    have hj2 : j < fs.length := by omega
    refine List.mem_map.mpr ⟨fs[j], ?_, nm j _ (List.getElem?_eq_getElem hj2)⟩
    refine List.mem_of_getElem? (i := j) ?_
    rw [List.getElem?_take_of_lt h]
    exact List.getElem?_eq_getElem hj2
theorem need_due {c : Nat} {fs : List FH} {as : List A2} {wr : Int} {place : Nat} (g : Fit4 c fs as wr place) : ∀ (m k : Nat), k + m = c → k ≤ 40 → (place < k → wr = 0) → needM ((fs.take k).map FH.name) (as.drop k) = dueK wr place k ((lens fs).drop k)
  | 0, k, hk, _, _ => by
    have e1 : as.drop k = [] := List.drop_of_length_le (by rw [g.la]; omega)
    have e2 : (lens fs).drop k = [] := List.drop_of_length_le (by unfold lens; rw [List.length_map, g.lf]; omega)
    rw [e1, e2]
    rfl
  | m + 1, k, hk, h40, hp => by
    have ka : k < as.length := by rw [g.la]; omega
    have kf : k < fs.length := by rw [g.lf]; omega
    have ea := List.getElem?_eq_getElem ka
    have ef := List.getElem?_eq_getElem kf
    have d1 : as.drop k = as[k] :: as.drop (k + 1) := List.drop_eq_getElem_cons ka
    have d2 : (lens fs).drop k = fs[k].deeds.length :: (lens fs).drop (k + 1) := by
      unfold lens
      rw [List.drop_eq_getElem_cons (by rw [List.length_map]; exact kf), List.getElem_map]
    have et : (fs.take (k + 1)).map FH.name = (fs.take k).map FH.name ++ [fs[k].name] := by
      rw [take_snoc ef, List.map_append]
      rfl
    have ls : ((fs.take k).map FH.name).length = k := by rw [List.length_map, List.length_take]; omega
    have hnm := g.nm k _ ef
    have ih := need_due g m (k + 1) (by omega)
    generalize as[k] = a at *
    generalize fs[k] = f at *
    rw [d1, d2]
    show (if ((fs.take k).map FH.name).length = 40 ∨ handlerM a = false then 1 else if a.nm ∈ (fs.take k).map FH.name then 2 else needM ((fs.take k).map FH.name ++ [a.nm]) (as.drop (k + 1))) = (if badB wr place k f.deeds.length = true then 1 else if twiB wr place k = true then 2 else dueK wr place (k + 1) ((lens fs).drop (k + 1)))
    rw [ls]
    by_cases hkp : k = place ∧ wr ≠ 0
    · obtain ⟨rfl, hw⟩ := hkp
      rcases g.w3 with h | h | h
      · exact absurd h hw
      · have b1 : badB wr k k f.deeds.length = true := by unfold badB; rw [h]; simp
        rw [if_pos (.inr (g.one h a ea)), if_pos b1]
      · obtain ⟨h0, h2⟩ := g.two h
        obtain ⟨h3, h4⟩ := h2 a ea
        by_cases q : k = 40
        · have b1 : badB wr k k f.deeds.length = true := by unfold badB; rw [q]; simp
          rw [if_pos (.inl q), if_pos b1]
        · have b1 : badB wr k k f.deeds.length = false := by
            unfold badB
            rw [h]
            simp
            omega
          have t1 : twiB wr k k = true := by unfold twiB; rw [h]; simp
          have mem : a.nm ∈ (fs.take k).map FH.name := by
            rw [h4]
            exact (nm_in g.nm g.nd g.lf (by omega) (by omega)).mpr (by omega)
          rw [if_neg (by rw [h3]; simpa using q), if_pos mem, b1, if_neg Bool.false_ne_true, if_pos t1]
    · have hz : k = place → wr = 0 := fun e => Classical.byContradiction fun n => hkp ⟨e, n⟩
      obtain ⟨s1, s2, s3⟩ := g.sim k a f ea ef hz
      have nb : (decide (wr = 1) && decide ((k : Int) = (place : Int))) = false := by
        by_cases e : k = place
        · rw [hz e]; rfl
        · rw [decide_eq_false (show ¬ (k : Int) = (place : Int) by omega), Bool.and_false]
      have nb2 : (decide (0 < wr) && decide ((k : Int) = (place : Int))) = false := by
        by_cases e : k = place
        · rw [hz e]; rfl
        · rw [decide_eq_false (show ¬ (k : Int) = (place : Int) by omega), Bool.and_false]
      have nt : twiB wr place k = false := by
        unfold twiB
        by_cases e : k = place
        · rw [hz e]; rfl
        · rw [decide_eq_false (show ¬ (k : Int) = (place : Int) by omega), Bool.and_false]
      have eb : badB wr place k f.deeds.length = (decide ((k : Int) = 40) || decide ((30 : Int) < (f.deeds.length : Int))) := by
        unfold badB
        rw [nb, nb2]
        simp
      by_cases q : k = 40
      · rw [if_pos (.inl q), if_pos (by rw [eb, decide_eq_true (show (k : Int) = 40 by omega)]; rfl)]
      · by_cases q2 : f.deeds.length ≤ 30
        · have e1 : handlerM a = true := by rw [s1]; exact decide_eq_true q2
          have e2 : badB wr place k f.deeds.length = false := by
            rw [eb, decide_eq_false (show ¬ (k : Int) = 40 by omega), decide_eq_false (show ¬ (30 : Int) < (f.deeds.length : Int) by omega)]
            rfl
          have nn : a.nm ∉ (fs.take k).map FH.name := by
            rw [s2, hnm]
            exact fun h => absurd ((nm_in g.nm g.nd g.lf (by omega) (by omega)).mp h) (Nat.lt_irrefl _)
          rw [if_neg (by rw [e1]; simpa using q), if_neg nn, e2, if_neg Bool.false_ne_true, if_neg (by rw [nt]; exact Bool.false_ne_true), s2, ← et]
          refine ih (by omega) fun h => ?_
          by_cases e : k = place
          · exact hz e
          · exact hp (by omega)
        · have e1 : handlerM a = false := by rw [s1]; exact decide_eq_false q2
          rw [if_pos (.inr e1), if_pos (by rw [eb, decide_eq_true (show (30 : Int) < (f.deeds.length : Int) by omega), Bool.or_true])]
theorem due_wr {wr : Int} {place : Nat} : ∀ {l : List Nat} {k : Nat}, (wr = 1 ∨ wr = 2) → k ≤ place → place < k + l.length → dueK wr place k l ≠ 0
  | [], k, _, h1, h2 => by simp at h2; omega
  | n :: r, k, hw, h1, h2 => by
    show (if badB wr place k n = true then 1 else if twiB wr place k = true then 2 else dueK wr place (k + 1) r) ≠ 0
    split
    · decide
    · rename_i hb
      split
      · decide
      · rename_i ht
        by_cases e : k = place
        · subst e
          exfalso
          rcases hw with h | h
          · exact hb (by unfold badB; rw [h]; simp)
          · exact ht (by unfold twiB; rw [h]; simp)
        · exact due_wr hw (by omega) (by rw [List.length_cons] at h2; omega)
/-- the refusal, as it is due -/
theorem need_all {c : Nat} {fs : List FH} {as : List A2} {wr : Int} {place : Nat} (g : Fit4 c fs as wr place) {st : Bool} (hst : wr = 0 → (fs.any (FH.stran (fs.map FH.name))) = st) : needC as = dueF wr place st (lens fs) := by
  have e := need_due g c 0 (by omega) (by omega) (fun h => absurd h (Nat.not_lt_zero _))
  have e : needM [] as = dueK wr place 0 (lens fs) := e
  unfold needC dueF
  rw [e]
  by_cases h : dueK wr place 0 (lens fs) = 0
  · rw [if_pos h, if_pos h]
    have hw : wr = 0 := by
      rcases g.w3 with q | q
      · exact q
      · exact absurd h (due_wr q (Nat.zero_le _) (by unfold lens; rw [List.length_map, g.lf, Nat.zero_add]; exact g.pl))
    have m1 : as.map A2.toF = fs := by
      refine List.ext_getElem? fun i => ?_
      rw [List.getElem?_map]
      by_cases q : i < c
      · have ea := List.getElem?_eq_getElem (l := as) (i := i) (by rw [g.la]; exact q)
        have ef := List.getElem?_eq_getElem (l := fs) (i := i) (by rw [g.lf]; exact q)
        rw [ea, ef]
        exact congrArg some (g.sim i _ _ ea ef fun _ => hw).2.2
      · rw [List.getElem?_eq_none (by rw [g.la]; omega), List.getElem?_eq_none (by rw [g.lf]; omega)]
        rfl
    have m2 : as.map A2.nm = fs.map FH.name := by
      refine List.ext_getElem? fun i => ?_
      rw [List.getElem?_map, List.getElem?_map]
      by_cases q : i < c
      · have ea := List.getElem?_eq_getElem (l := as) (i := i) (by rw [g.la]; exact q)
        have ef := List.getElem?_eq_getElem (l := fs) (i := i) (by rw [g.lf]; exact q)
        rw [ea, ef]
        exact congrArg some (g.sim i _ _ ea ef fun _ => hw).2.1
      · rw [List.getElem?_eq_none (by rw [g.la]; omega), List.getElem?_eq_none (by rw [g.lf]; omega)]
        rfl
    rw [m1, m2, hst hw]
  · rw [if_neg h, if_neg h]
end Ev
namespace Ev
open PySem L2
/-! ### handlers as data -/
def A0.dat : A0 → PyData
  | .str z => .str z | .int i => .int i | .bl b => .bool b | _ => .none
def A1.dat : A1 → PyData
  | .tup l => .tuple (l.map A0.dat) | .atom a => a.dat
def FH.dat (f : FH) : PyData := .tuple [.str f.name, .int f.rank, .str f.hears, .bool f.once, .tuple (f.deeds.map A1.dat)]
theorem let_lt4 : ∀ c ∈ letters.cps.toList, c < 0x110000 := by decide +kernel
theorem word_okT4 {z : Str} (h : isWord z = true) : strOkT z := by
  unfold isWord at h
  simp only [Bool.and_eq_true, List.all_eq_true, decide_eq_true_eq] at h
  unfold strOkT PyData.strOk
  rw [← Array.all_toList, List.all_eq_true]
  intro c hc
  exact decide_eq_true (let_lt4 c (h.2 c hc))
def A0.tx : A0 → Prop
  | .str z => strOkT z | .int _ => True | _ => False
theorem a0_word {a : A0} (h : a.word = true) : a.tx := by
  cases a <;> first | cases h | exact word_okT4 h
theorem deed_tx {d : A1} (h : deedM d = true) : ∃ l, d = .tup l ∧ ∀ a ∈ l, a.tx := by
  cases d with
  | atom a => cases h
  | tup l =>
    refine ⟨l, rfl, ?_⟩
    cases l with
    | nil => cases h
    | cons a r =>
      cases a with
      | str t =>
        have h : (if t = sHush then decide (r.length = 0) else if t = sWait then waitM r else decide (t ∈ worded) && wordM r) = true := h
        have hr : strOkT t ∧ ∀ a ∈ r, a.tx := by
          by_cases e1 : t = sHush
          · rw [if_pos e1] at h
            have := List.eq_nil_of_length_eq_zero (of_decide_eq_true h)
            subst this
            exact ⟨by rw [e1]; unfold strOkT; decide +kernel, by simp⟩
          · rw [if_neg e1] at h
            by_cases e2 : t = sWait
            · rw [if_pos e2] at h
              refine ⟨by rw [e2]; unfold strOkT; decide +kernel, ?_⟩
              cases r with
              | nil => cases h
              | cons n r =>
                cases r with
                | nil => cases h
                | cons z r =>
                  cases r with
                  | nil =>
                    have h : (n.whole && (n.inR && z.word)) = true := h
                    simp only [Bool.and_eq_true] at h
                    obtain ⟨h1, _, h3⟩ := h
                    intro a ha
                    simp only [List.mem_cons, List.not_mem_nil, or_false] at ha
                    rcases ha with rfl | rfl
                    · cases a <;> first | exact True.intro | cases h1
                    · exact a0_word h3
                  | cons y r => cases h
            · rw [if_neg e2, Bool.and_eq_true] at h
              refine ⟨?_, ?_⟩
              · have : ∀ t ∈ worded, strOkT t := by
                  intro t ht
                  unfold strOkT
                  revert t
                  decide +kernel
                exact this t (of_decide_eq_true h.1)
              have h := h.2
              cases r with
              | nil => simp
              | cons a r =>
                cases r with
                | nil =>
                  intro b hb
                  rw [List.mem_singleton.mp hb]
                  exact a0_word h
                | cons b r => cases h
        intro a ha
        rcases List.mem_cons.mp ha with e | q
        · rw [e]; exact hr.1
        · exact hr.2 a q
      | int i => cases h
      | bl b => cases h
      | non => cases h
      | lst => cases h
      | dct => cases h
theorem a0_dp {K : PySem.W.Frag} {H : Hp} : ∀ {xs : List V} {l : List A0}, (∀ a ∈ l, a.tx) → Paired (A0At H) xs l → DpAll K H xs (l.map A0.dat)
  | _, _, _, .nil => .nil
  | _, a :: _, g, .cons r t => by
    refine .cons ?_ (a0_dp (fun b hb => g b (List.mem_cons_of_mem _ hb)) t)
    have ga := g a List.mem_cons_self
    cases a with
    | str z => rw [r.1]; exact .str _
    | int i => rw [show _ = V.int i from r]; exact .int _
    | bl b => exact ga.elim
    | non => exact ga.elim
    | lst => exact ga.elim
    | dct => exact ga.elim
theorem a1_dp {K : PySem.W.Frag} {H : Hp} : ∀ {xs : List V} {l : List A1}, (∀ a ∈ l, deedM a = true) → Paired (A1At H) xs l → DpAll K H xs (l.map A1.dat)
  | _, _, _, .nil => .nil
  | _, a :: _, g, .cons r t => by
    refine .cons ?_ (a1_dp (fun b hb => g b (List.mem_cons_of_mem _ hb)) t)
    obtain ⟨l, rfl, gl⟩ := deed_tx (g a List.mem_cons_self)
    obtain ⟨p, xs, rfl, h1, h2⟩ := r
    exact .tup (SqT.of h1) (a0_dp gl h2)
theorem fat_dp {K : PySem.W.Frag} {H : Hp} {v : V} {f : FH} (h : FAt H v f) : Dp K H v f.dat := by
  obtain ⟨p, q, ds, rfl, h1, h2, h3, h4⟩ := h
  exact .tup (SqT.of h1) (.cons (.str _) (.cons (.int _) (.cons (.str _) (.cons (.bl _) (.cons (.tup (SqT.of h2) (a1_dp h4 h3)) .nil)))))
theorem a0_ok {a : A0} (h : a.tx) : okD 0 a.dat := by
  cases a with
  | str z => exact ok_str h
  | int i => exact ok_int _
  | bl b => exact h.elim
  | non => exact h.elim
  | lst => exact h.elim
  | dct => exact h.elim
theorem a1_ok {d : A1} (h : deedM d = true) : okD 1 d.dat := by
  obtain ⟨l, rfl, gl⟩ := deed_tx h
  exact ok_tup fun x hx => by
    obtain ⟨a, ha, rfl⟩ := List.mem_map.mp hx
    exact a0_ok (gl a ha)
theorem fh_ok {f : FH} (g : GdE f) : okD 3 f.dat := by
  have hh : strOkT f.hears := by
    rcases g.2.1 with e | e
    · exact word_okT4 e
    · rw [e]; unfold strOkT; decide +kernel
  refine ok_tup (ok_cons ((ok_str (word_okT4 g.1)).mono (by decide)) (ok_cons ((ok_int _).mono (by decide)) (ok_cons ((ok_str hh).mono (by decide)) (ok_cons ((ok_bl _).mono (by decide)) (ok_cons ?_ ok_nil)))))
  exact ok_tup fun x hx => by
    obtain ⟨d, hd, rfl⟩ := List.mem_map.mp hx
    exact a1_ok (g.2.2.1 d hd)
theorem fhs_ok {fs : List FH} (g : ∀ f ∈ fs, GdE f) : okD 4 (.list (fs.map FH.dat)) := ok_lst fun x hx => by
  obtain ⟨f, hf, rfl⟩ := List.mem_map.mp hx
  exact fh_ok (g f hf)
theorem hk_self {H : Hp} : ∀ {xs : List V} {fs : List FH}, Paired (HK H) xs fs → xs.all selfV = true
  | _, _, .nil => rfl
  | _, _, .cons r t => by
    obtain ⟨p, _, _, rfl, _⟩ := r
    rw [List.all_cons, hk_self t]
    rfl
/-- as any things -/
theorem hk_as {H : Hp} : ∀ {xs : List V} {fs : List FH}, (∀ f ∈ fs, GdE f) → Paired (HK H) xs fs → ∃ as, Paired (A2At H) xs as ∧ as.length = fs.length ∧ ∀ (k : Nat) (a : A2) (f : FH), as[k]? = some a → fs[k]? = some f → Sim a f
  | _, _, _, .nil => ⟨[], .nil, rfl, fun k a f h => by simp at h⟩
  | _, f :: _, g, .cons r t => by
    obtain ⟨as, p, l, s⟩ := hk_as (fun x hx => g x (List.mem_cons_of_mem _ hx)) t
    obtain ⟨b, hb⟩ := r.a2 (g f List.mem_cons_self)
    refine ⟨ofF b f :: as, .cons hb p, by simp [l], fun k a f' h1 h2 => ?_⟩
    cases k with
    | zero =>
      cases h1
      cases h2
      exact sim_ofF (g f List.mem_cons_self)
    | succ k => exact s k a f' h1 h2
theorem sim_maps {fs : List FH} {as : List A2} (l : as.length = fs.length) (s : ∀ (k : Nat) (a : A2) (f : FH), as[k]? = some a → fs[k]? = some f → Sim a f) : as.map A2.toF = fs ∧ as.map A2.nm = fs.map FH.name := by
  have key : ∀ i, i < fs.length → ∃ a f, as[i]? = some a ∧ fs[i]? = some f ∧ Sim a f := fun i h => by
    have ea := List.getElem?_eq_getElem (l := as) (i := i) (by omega)
    have ef := List.getElem?_eq_getElem (l := fs) (i := i) h
    exact ⟨_, _, ea, ef, s i _ _ ea ef⟩
  constructor
  · refine List.ext_getElem? fun i => ?_
    rw [List.getElem?_map]
    by_cases q : i < fs.length
    · obtain ⟨a, f, h1, h2, h3⟩ := key i q
      rw [h1, h2]
      exact congrArg some h3.2.2
    · rw [List.getElem?_eq_none (by omega), List.getElem?_eq_none (by omega)]; rfl
  · refine List.ext_getElem? fun i => ?_
    rw [List.getElem?_map, List.getElem?_map]
    by_cases q : i < fs.length
    · obtain ⟨a, f, h1, h2, h3⟩ := key i q
      rw [h1, h2]
      exact congrArg some h3.2.1
    · rw [List.getElem?_eq_none (by omega), List.getElem?_eq_none (by omega)]; rfl
section
variable {P : Program} {w : World} {K : PySem.W.Frag} {mg : Str → Option Value} {base : Heap}
def sp_lletBy : Sp := fun vs H Q _ => ∃ (a : Addr) (xs : List V) (fs : List FH) (place : Nat), vs = [.ref a, nV place] ∧ H a = some (.lst xs) ∧ Paired (HK H) xs fs ∧ (∀ f ∈ fs, GdE f) ∧ place < fs.length ∧ fs.length ≤ 41 ∧ sNob ∉ fs.map FH.name ∧
  (∀ as : List A2, as.length = fs.length → (∀ (k : Nat) (a : A2) (f : FH), as[k]? = some a → fs[k]? = some f → Sim a f) → needC as = 0) ∧ ∀ H', Kp [] H H' → Q (.bl true) H'
theorem ok_lletBy (T : Tx K mg) : FnOk P w K mg base CX0 8 T.f_lletBy T.d_lletBy ["_law_handlers", "_law_place"] (sp_lletBy) := by
  refine T.F_lletBy.ok sc_lletBy (by walk_at "len") (fun cdv A outer s H vs Q E hr h => ?_)
  obtain ⟨a, xs, fs, place, rfl, ha, hx, hg, hpl, h41, hnob, hz, k⟩ := h
  have lx := Pd.len hx
  obtain ⟨as, pas, las, sas⟩ := hk_as hg hx
  have hz0 := hz as las sas
  obtain ⟨ms1, ms2⟩ := sim_maps las sas
  obtain ⟨_, hok⟩ := needM_ok (seen := []) (by simp) (needC_zero hz0)
  have efp := List.getElem?_eq_getElem (l := fs) (i := place) hpl
  obtain ⟨vp, evp, rvp⟩ := Pd.at' hx efp
  have eap := List.getElem?_eq_getElem (l := as) (i := place) (by omega)
  have rap : A2At H vp as[place] := by
    obtain ⟨v', e', r'⟩ := Pd.at' pas eap
    rw [evp] at e'
    cases e'
    exact r'
  have okp : handlerM as[place] = true := hok _ (List.mem_of_getElem? eap)
  have gp := hg _ (List.mem_of_getElem? efp)
  generalize fs[place] = fp at efp rvp gp
  generalize as[place] = ap at eap rap okp
  obtain ⟨p, q, ds, rfl, hp, hq, hds⟩ := rvp
  have lds : ds.length ≤ 31 := by rw [Pd.len hds]; exact gp.2.2.2
  rcases hq with hq | hq
  · refine ⟨_, (pss_cons (ps_set (i := 2) sc_lletBy.nd rfl (Or.inl rfl) (pe_callTy (kList K) (by rfl) T.z_list (by decide +kernel) (pa_cons (pv 0) pa_nil)))
    (pss_cons (ps_if (PW.pt (pw_or (pt_not (pt_val (pe_callB (kAll K) (by rfl) T.z_all (by decide +kernel) (pa_cons (pe_lc (own := [("_law_deed", 4)]) (g := gName 4) (tt := tYes) rfl sc_lletBy.nd (pi_list (pe_ix (kIxT K) (pe_ix (kIxL K) (pv 0) (pv 1) (fun _ _ => rfl)) pe_int (fun _ _ => rfl))) (blkOk_by (own := [("_law_deed", 4)]) (N := nm_lletBy) (sc := defScope s_lletBy) (by decide +kernel)) (fun _ _ _ _ _ => (pg_name (i := 4) sc_lletBy.nd rfl (Or.inl rfl))) (fun _ _ _ _ _ => pts_nil) (fun _ _ _ _ _ => (pe_cmpR op_isBl (pe_call (ok_isDeed T) (hr.mono (by decide)) rfl T.g_isDeed T.F_isDeed.kp T.b_isDeed .nil pass0 (pa_cons (pv 4) pa_nil)) pe_bl (nomark _)))) pa_nil)))) (pw_or1 (pt_cmpR op_ne (pe_call (ok_lrefused T) (hr.mono (by decide)) rfl T.g_lrefused T.F_lrefused.kp T.b_lrefused .nil pass0 (pa_cons (pv 2) (pa_cons pe_int pa_nil))) pe_str (nomark _)))))
        (pss_one (ps_ret pe_bl))
        pss_nil)
    (pss_cons (ps_set (i := 3) sc_lletBy.nd rfl (Or.inl rfl) (pe_call (okt_needHandlers T) (hr.mono (by decide)) rfl T.g_needHandlers T.F_needHandlers.kp T.b_needHandlers .nil pass0 (pa_cons (pv 2) pa_nil)))
    (pss_cons (ps_if (PW.pt (pw_or (pt_not (pt_val (pe_callB (kIsi K) (by rfl) T.z_isinstance (by decide +kernel) (pa_cons (pv 3) (pa_cons (pe_bltn (v := .ty "list") (by rfl) T.z_list (by decide +kernel) rfl) pa_nil))))) (pw_or (pt_cmpR (kNeS K (room65 hr)) (pv 2) (pv 0) (nomark _)) (pw_or1 (pt_cmpR op_notBl (pe_call (ok_isHandler T) (hr.mono (by decide)) rfl T.g_isHandler T.F_isHandler.kp T.b_isHandler .nil pass0 (pa_cons (pe_ix (kIxL K) (pv 0) (pv 1) (fun _ _ => rfl)) pa_nil)) pe_bl (nomark _))))))
        (pss_one (ps_ret pe_bl))
        pss_nil)
    (pss_one (ps_ret (pe_cmpR (kEqD K hr.units) (pv 3) (pe_lc (own := [("_law_one", 5)]) (g := gName 5) (tt := tYes) rfl sc_lletBy.nd (pi_list (pv 0)) (blkOk_by (own := [("_law_one", 5)]) (N := nm_lletBy) (sc := defScope s_lletBy) (by decide +kernel)) (fun _ _ _ _ _ => (pg_name (i := 5) sc_lletBy.nd rfl (Or.inl rfl))) (fun _ _ _ _ _ => pts_nil) (fun _ _ _ _ _ => (pe_tup (pa_cons (pe_ix (kIxT K) (pv 5) pe_int (fun _ _ => rfl)) (pa_cons (pe_ix (kIxT K) (pv 5) pe_int (fun _ _ => rfl)) (pa_cons (pe_ix (kIxT K) (pv 5) pe_int (fun _ _ => rfl)) (pa_cons (pe_ix (kIxT K) (pv 5) pe_int (fun _ _ => rfl)) (pa_cons (pe_callTy (kTuple K) (by rfl) T.z_tuple (by decide +kernel) (pa_cons (pe_ix (kIxT K) (pv 5) pe_int (fun _ _ => rfl)) pa_nil)) pa_nil)))))))) (nomark _)))))))), ?_⟩
    refine seq_go (asg_go ?_)
    refine ⟨_, rfl, a, xs, rfl, .inl (SqL.of ha), fun g hgn => ?_⟩
    have k1 := (Kp.refl [] H).new (o := .lst xs) hgn
    have e1 : upd H g (.lst xs) g = some (.lst xs) := upd_same
    generalize upd H g (.lst xs) = H1 at k1 e1 ⊢
    dsimp only [gName]
    refine seq_cut (fun σ' H' => Kp [] H H' ∧ H' g = some (.lst xs) ∧ σ' = [some (.ref a), some (nV place), some (.ref g), none, none, none]) ?_ ?_
    rotate_left
    · intro N hN
      refine if_go ?_
      dsimp only [L2.tOr, L2.tNot, L2.tB, L2.tCB, L2.tCons, L2.tNil]
      refine lc_go ?_
      refine ⟨_, rfl, _, rfl, a, _, _, _, rfl, rfl, SqL.of (k1.keep0 ha), atI_nat evp, p, _, _, _, rfl, rfl, SqT.of (k1.tk _ _ hp), at4, q, rfl, ⟨_, SqL.of (k1.keep0 hq)⟩, ?_⟩
      refine lc_pd hds (Nat.lt_of_le_of_lt gp.2.2.2 (by decide)) (fun D pre acc H' => Kp [] H1 H' ∧ acc = (pre.map fun _ => true).map V.bl) (fun D hD => ⟨(Kp.refl _ _).new hD, rfl⟩) (fun D pre acc H' hD e ⟨kp, _⟩ => SqL.of ((k1.trans kp).keep0 hq)) ?_
        (fun D acc H' hD e ⟨kp, ea⟩ => ⟨D, fp.deeds.map fun _ => true, rfl, SqL.of (ea ▸ e), ?_⟩)
      · rintro D pre acc x dd post H' Yes No hD ed r e ⟨kp, rfl⟩ yes no
        refine ⟨rfl, tYes_go (iteT ⟨_, rfl, x, dd, rfl, r.kp (k1.trans kp), fun H4 k4 => ?_⟩)⟩
        rw [gp.2.2.1 dd (by rw [ed]; simp)]
        exact ⟨true, true, rfl, rfl, yes _ _ (k4.keep0 e) ⟨(kp.trans k4).lst (.inr hD) (k4.keep0 e), by simp⟩⟩
      · have e6 : ((fp.deeds.map fun _ => true).all id) = true := by simp
        rw [e6]
        have kk := k1.trans kp
        refine ⟨_, rfl, iteF ?_⟩
        refine ⟨_, rfl, g, xs, as, 1, 3, rfl, kp.keep0 e1, Pd.mono (fun _ _ z => z.kp kk) pas, by omega, .inr (.inl rfl), .inr ⟨hz0, rfl, by rw [ms2]; exact hnob, rfl⟩, fun H' k' => ⟨rfl, _, rfl, iteF' (neF rfl) (hN _ _ ⟨kk.trans k', (kp.trans k').keep0 e1, rfl⟩)⟩⟩
    rintro σ' H2 ⟨k2, eg, rfl⟩
    refine seq_go (asg_go ?_)
    refine ⟨_, rfl, g, xs, as, rfl, eg, Pd.mono (fun _ _ z => z.kp k2) pas, by omega, hz0, fun fo H3 fs' hfo k3 e3 pf => ?_⟩
    rw [ms1] at pf
    have k03 := k2.trans k3
    have ha3 := k03.keep0 ha
    dsimp only [gName]
    refine seq_cut (fun σ' H' => Kp [] H3 H' ∧ σ' = [some (.ref a), some (nV place), some (.ref g), some (.ref fo), none, none]) ?_ ?_
    rotate_left
    · intro N hN
      refine ⟨_, rfl, _, _, _, _, _, rfl, .ty _, isL e3, kit_ty (r := true) (by decide +kernel), _, rfl, iteF ?_⟩
      refine ⟨_, rfl, _, rfl, g, a, xs, rfl, rfl, SqL.of (k3.keep0 eg), SqL.of ha3, hk_self hx, _, rfl, iteF ?_⟩
      refine ⟨_, rfl, _, rfl, a, _, _, _, rfl, rfl, SqL.of ha3, atI_nat evp, _, ap, rfl, rap.kp k03, fun H4 k4 => ?_⟩
      rw [okp]
      exact ⟨true, true, rfl, rfl, _, rfl, iteF' rfl (hN _ _ ⟨k4, rfl⟩)⟩
    rintro σ' H4 ⟨k4, rfl⟩
    have k04 := k03.trans k4
    have ha4 := k04.keep0 ha
    refine ⟨_, rfl, ?_⟩
    refine lc_go ?_
    refine ⟨_, rfl, a, rfl, ⟨_, SqL.of ha4⟩, ?_⟩
    refine lc_mk FAt (fun _ _ _ _ k h => FAt.tk h k) hx (Nat.lt_of_le_of_lt h41 (by decide)) (SqL.of ha4) id (fun x => rfl) ?_ ?_
    · rintro v f H' Q' hf r kp qq
      have kp0 := k04.trans kp
      obtain ⟨p, q, ds, rfl, hp, hq, hds⟩ := r.kp kp0
      have hdm := (hg f hf).2.2.1
      refine ⟨_, rfl, p, _, _, _, rfl, rfl, SqT.of hp, at0, _, rfl, p, _, _, _, rfl, rfl, SqT.of hp, at1, _, rfl, p, _, _, _, rfl, rfl, SqT.of hp, at2, _, rfl, p, _, _, _, rfl, rfl, SqT.of hp, at3, _, rfl, p, _, _, _, rfl, rfl, SqT.of hp, at4, q, ds, rfl, ?_⟩
      rcases hq with hq | hq
      · refine .inl ⟨SqL.of hq, fun l hl => ⟨(by show 5 ≤ sizeLine; decide), fun t ht => ?_⟩⟩
        have j1 := (Kp.refl [] H').new (o := .tup ds) hl
        have f1 : upd H' l (.tup ds) l = some (.tup ds) := upd_same
        generalize upd H' l (.tup ds) = H5 at j1 f1 ht ⊢
        have j2 := (Kp.refl [] H5).new (o := .tup [.str f.name, .int f.rank, .str f.hears, .bl f.once, .ref l]) ht
        exact qq _ _ (j1.trans j2) ⟨t, l, ds, rfl, upd_same, j2.tk _ _ f1, Pd.mono (fun _ _ z => z.kp (j1.trans j2)) hds, hdm⟩
      · refine .inr ⟨SqT.of hq, (by show 5 ≤ sizeLine; decide), fun t ht => ?_⟩
        have j2 := (Kp.refl [] H').new (o := .tup [.str f.name, .int f.rank, .str f.hears, .bl f.once, .ref q]) ht
        exact qq _ _ j2 ⟨t, q, ds, rfl, upd_same, j2.tk _ _ hq, Pd.mono (fun _ _ z => z.kp j2) hds, hdm⟩
    intro D H5 ys hD k5 e5 pd5
    rw [List.map_id] at pd5
    have e35 := (k4.trans k5).keep0 e3
    refine ⟨_, _, dp_lst (f := FH.dat) (fun _ _ z => fat_dp z) e35 (Pd.mono (fun _ _ z => FAt.kp z (k4.trans k5)) pf), dp_lst (f := FH.dat) (fun _ _ z => fat_dp z) e5 pd5, (fhs_ok hg).sh, (fhs_ok hg).sh, ?_⟩
    rw [(fhs_ok hg).rfl]
    exact k _ (k04.trans k5)
  · refine ⟨_, (pss_cons (ps_set (i := 2) sc_lletBy.nd rfl (Or.inl rfl) (pe_callTy (kList K) (by rfl) T.z_list (by decide +kernel) (pa_cons (pv 0) pa_nil)))
    (pss_cons (ps_if (PW.pt (pw_or (pt_not (pt_val (pe_callB (kAll K) (by rfl) T.z_all (by decide +kernel) (pa_cons (pe_lc (own := [("_law_deed", 4)]) (g := gName 4) (tt := tYes) rfl sc_lletBy.nd (pi_tup (pe_ix (kIxT K) (pe_ix (kIxL K) (pv 0) (pv 1) (fun _ _ => rfl)) pe_int (fun _ _ => rfl))) (blkOk_by (own := [("_law_deed", 4)]) (N := nm_lletBy) (sc := defScope s_lletBy) (by decide +kernel)) (fun _ _ _ _ _ => (pg_name (i := 4) sc_lletBy.nd rfl (Or.inl rfl))) (fun _ _ _ _ _ => pts_nil) (fun _ _ _ _ _ => (pe_cmpR op_isBl (pe_call (ok_isDeed T) (hr.mono (by decide)) rfl T.g_isDeed T.F_isDeed.kp T.b_isDeed .nil pass0 (pa_cons (pv 4) pa_nil)) pe_bl (nomark _)))) pa_nil)))) (pw_or1 (pt_cmpR op_ne (pe_call (ok_lrefused T) (hr.mono (by decide)) rfl T.g_lrefused T.F_lrefused.kp T.b_lrefused .nil pass0 (pa_cons (pv 2) (pa_cons pe_int pa_nil))) pe_str (nomark _)))))
        (pss_one (ps_ret pe_bl))
        pss_nil)
    (pss_cons (ps_set (i := 3) sc_lletBy.nd rfl (Or.inl rfl) (pe_call (okt_needHandlers T) (hr.mono (by decide)) rfl T.g_needHandlers T.F_needHandlers.kp T.b_needHandlers .nil pass0 (pa_cons (pv 2) pa_nil)))
    (pss_cons (ps_if (PW.pt (pw_or (pt_not (pt_val (pe_callB (kIsi K) (by rfl) T.z_isinstance (by decide +kernel) (pa_cons (pv 3) (pa_cons (pe_bltn (v := .ty "list") (by rfl) T.z_list (by decide +kernel) rfl) pa_nil))))) (pw_or (pt_cmpR (kNeS K (room65 hr)) (pv 2) (pv 0) (nomark _)) (pw_or1 (pt_cmpR op_notBl (pe_call (ok_isHandler T) (hr.mono (by decide)) rfl T.g_isHandler T.F_isHandler.kp T.b_isHandler .nil pass0 (pa_cons (pe_ix (kIxL K) (pv 0) (pv 1) (fun _ _ => rfl)) pa_nil)) pe_bl (nomark _))))))
        (pss_one (ps_ret pe_bl))
        pss_nil)
    (pss_one (ps_ret (pe_cmpR (kEqD K hr.units) (pv 3) (pe_lc (own := [("_law_one", 5)]) (g := gName 5) (tt := tYes) rfl sc_lletBy.nd (pi_list (pv 0)) (blkOk_by (own := [("_law_one", 5)]) (N := nm_lletBy) (sc := defScope s_lletBy) (by decide +kernel)) (fun _ _ _ _ _ => (pg_name (i := 5) sc_lletBy.nd rfl (Or.inl rfl))) (fun _ _ _ _ _ => pts_nil) (fun _ _ _ _ _ => (pe_tup (pa_cons (pe_ix (kIxT K) (pv 5) pe_int (fun _ _ => rfl)) (pa_cons (pe_ix (kIxT K) (pv 5) pe_int (fun _ _ => rfl)) (pa_cons (pe_ix (kIxT K) (pv 5) pe_int (fun _ _ => rfl)) (pa_cons (pe_ix (kIxT K) (pv 5) pe_int (fun _ _ => rfl)) (pa_cons (pe_callTy (kTuple K) (by rfl) T.z_tuple (by decide +kernel) (pa_cons (pe_ix (kIxT K) (pv 5) pe_int (fun _ _ => rfl)) pa_nil)) pa_nil)))))))) (nomark _)))))))), ?_⟩
    refine seq_go (asg_go ?_)
    refine ⟨_, rfl, a, xs, rfl, .inl (SqL.of ha), fun g hgn => ?_⟩
    have k1 := (Kp.refl [] H).new (o := .lst xs) hgn
    have e1 : upd H g (.lst xs) g = some (.lst xs) := upd_same
    generalize upd H g (.lst xs) = H1 at k1 e1 ⊢
    dsimp only [gName]
    refine seq_cut (fun σ' H' => Kp [] H H' ∧ H' g = some (.lst xs) ∧ σ' = [some (.ref a), some (nV place), some (.ref g), none, none, none]) ?_ ?_
    rotate_left
    · intro N hN
      refine if_go ?_
      dsimp only [L2.tOr, L2.tNot, L2.tB, L2.tCB, L2.tCons, L2.tNil]
      refine lc_go ?_
      refine ⟨_, rfl, _, rfl, a, _, _, _, rfl, rfl, SqL.of (k1.keep0 ha), atI_nat evp, p, _, _, _, rfl, rfl, SqT.of (k1.tk _ _ hp), at4, q, rfl, ⟨_, SqT.of (k1.keep0 hq)⟩, ?_⟩
      refine lc_pdT hds (Nat.lt_of_le_of_lt gp.2.2.2 (by decide)) (fun D pre acc H' => Kp [] H1 H' ∧ acc = (pre.map fun _ => true).map V.bl) (fun D hD => ⟨(Kp.refl _ _).new hD, rfl⟩) (fun D pre acc H' hD e ⟨kp, _⟩ => SqT.of ((k1.trans kp).keep0 hq)) ?_
        (fun D acc H' hD e ⟨kp, ea⟩ => ⟨D, fp.deeds.map fun _ => true, rfl, SqL.of (ea ▸ e), ?_⟩)
      · rintro D pre acc x dd post H' Yes No hD ed r e ⟨kp, rfl⟩ yes no
        refine ⟨rfl, tYes_go (iteT ⟨_, rfl, x, dd, rfl, r.kp (k1.trans kp), fun H4 k4 => ?_⟩)⟩
        rw [gp.2.2.1 dd (by rw [ed]; simp)]
        exact ⟨true, true, rfl, rfl, yes _ _ (k4.keep0 e) ⟨(kp.trans k4).lst (.inr hD) (k4.keep0 e), by simp⟩⟩
      · have e6 : ((fp.deeds.map fun _ => true).all id) = true := by simp
        rw [e6]
        have kk := k1.trans kp
        refine ⟨_, rfl, iteF ?_⟩
        refine ⟨_, rfl, g, xs, as, 1, 3, rfl, kp.keep0 e1, Pd.mono (fun _ _ z => z.kp kk) pas, by omega, .inr (.inl rfl), .inr ⟨hz0, rfl, by rw [ms2]; exact hnob, rfl⟩, fun H' k' => ⟨rfl, _, rfl, iteF' (neF rfl) (hN _ _ ⟨kk.trans k', (kp.trans k').keep0 e1, rfl⟩)⟩⟩
    rintro σ' H2 ⟨k2, eg, rfl⟩
    refine seq_go (asg_go ?_)
    refine ⟨_, rfl, g, xs, as, rfl, eg, Pd.mono (fun _ _ z => z.kp k2) pas, by omega, hz0, fun fo H3 fs' hfo k3 e3 pf => ?_⟩
    rw [ms1] at pf
    have k03 := k2.trans k3
    have ha3 := k03.keep0 ha
    dsimp only [gName]
    refine seq_cut (fun σ' H' => Kp [] H3 H' ∧ σ' = [some (.ref a), some (nV place), some (.ref g), some (.ref fo), none, none]) ?_ ?_
    rotate_left
    · intro N hN
      refine ⟨_, rfl, _, _, _, _, _, rfl, .ty _, isL e3, kit_ty (r := true) (by decide +kernel), _, rfl, iteF ?_⟩
      refine ⟨_, rfl, _, rfl, g, a, xs, rfl, rfl, SqL.of (k3.keep0 eg), SqL.of ha3, hk_self hx, _, rfl, iteF ?_⟩
      refine ⟨_, rfl, _, rfl, a, _, _, _, rfl, rfl, SqL.of ha3, atI_nat evp, _, ap, rfl, rap.kp k03, fun H4 k4 => ?_⟩
      rw [okp]
      exact ⟨true, true, rfl, rfl, _, rfl, iteF' rfl (hN _ _ ⟨k4, rfl⟩)⟩
    rintro σ' H4 ⟨k4, rfl⟩
    have k04 := k03.trans k4
    have ha4 := k04.keep0 ha
    refine ⟨_, rfl, ?_⟩
    refine lc_go ?_
    refine ⟨_, rfl, a, rfl, ⟨_, SqL.of ha4⟩, ?_⟩
    refine lc_mk FAt (fun _ _ _ _ k h => FAt.tk h k) hx (Nat.lt_of_le_of_lt h41 (by decide)) (SqL.of ha4) id (fun x => rfl) ?_ ?_
    · rintro v f H' Q' hf r kp qq
      have kp0 := k04.trans kp
      obtain ⟨p, q, ds, rfl, hp, hq, hds⟩ := r.kp kp0
      have hdm := (hg f hf).2.2.1
      refine ⟨_, rfl, p, _, _, _, rfl, rfl, SqT.of hp, at0, _, rfl, p, _, _, _, rfl, rfl, SqT.of hp, at1, _, rfl, p, _, _, _, rfl, rfl, SqT.of hp, at2, _, rfl, p, _, _, _, rfl, rfl, SqT.of hp, at3, _, rfl, p, _, _, _, rfl, rfl, SqT.of hp, at4, q, ds, rfl, ?_⟩
      rcases hq with hq | hq
      · refine .inl ⟨SqL.of hq, fun l hl => ⟨(by show 5 ≤ sizeLine; decide), fun t ht => ?_⟩⟩
        have j1 := (Kp.refl [] H').new (o := .tup ds) hl
        have f1 : upd H' l (.tup ds) l = some (.tup ds) := upd_same
        generalize upd H' l (.tup ds) = H5 at j1 f1 ht ⊢
        have j2 := (Kp.refl [] H5).new (o := .tup [.str f.name, .int f.rank, .str f.hears, .bl f.once, .ref l]) ht
        exact qq _ _ (j1.trans j2) ⟨t, l, ds, rfl, upd_same, j2.tk _ _ f1, Pd.mono (fun _ _ z => z.kp (j1.trans j2)) hds, hdm⟩
      · refine .inr ⟨SqT.of hq, (by show 5 ≤ sizeLine; decide), fun t ht => ?_⟩
        have j2 := (Kp.refl [] H').new (o := .tup [.str f.name, .int f.rank, .str f.hears, .bl f.once, .ref q]) ht
        exact qq _ _ j2 ⟨t, q, ds, rfl, upd_same, j2.tk _ _ hq, Pd.mono (fun _ _ z => z.kp j2) hds, hdm⟩
    intro D H5 ys hD k5 e5 pd5
    rw [List.map_id] at pd5
    have e35 := (k4.trans k5).keep0 e3
    refine ⟨_, _, dp_lst (f := FH.dat) (fun _ _ z => fat_dp z) e35 (Pd.mono (fun _ _ z => FAt.kp z (k4.trans k5)) pf), dp_lst (f := FH.dat) (fun _ _ z => fat_dp z) e5 pd5, (fhs_ok hg).sh, (fhs_ok hg).sh, ?_⟩
    rw [(fhs_ok hg).rfl]
    exact k _ (k04.trans k5)
end
end Ev
namespace Ev
open PySem L2
section
variable {P : Program} {w : World} {K : PySem.W.Frag} {mg : Str → Option Value} {base : Heap}
def HKD (D : Addr) (H : Hp) (v : V) (f : FH) : Prop := GdE f ∧ ∃ p q ds, v = .ref p ∧ q ≠ D ∧ H p = some (.tup [.str f.name, .int f.rank, .str f.hears, .bl f.once, .ref q]) ∧ (H q = some (.lst ds) ∨ H q = some (.tup ds)) ∧ Paired (A1At H) ds f.deeds
theorem HKD.hk {D : Addr} {H : Hp} {v : V} {f : FH} (h : HKD D H v f) : HK H v f := by
  obtain ⟨_, p, q, ds, e, _, r⟩ := h
  exact ⟨p, q, ds, e, r⟩
theorem HKD.kp {D : Addr} {H H' : Hp} {v : V} {f : FH} (h : HKD D H v f) (k : Kp [D] H H') : HKD D H' v f := by
  obtain ⟨g, p, q, ds, e, n, h1, h2, h3⟩ := h
  exact ⟨g, p, q, ds, e, n, k.tk _ _ h1, h2.elim (fun z => .inl (k.keep _ _ (by simpa using n) z)) (fun z => .inr (k.tk _ _ z)), ds_tkG k.tk g.2.2.1 h3⟩
theorem HKD.kp0 {D : Addr} {H H' : Hp} {v : V} {f : FH} (h : HKD D H v f) (k : Kp [] H H') : HKD D H' v f := h.kp (k.mono (by simp))
theorem pd_ix {α β : Type} {R : V → α → Prop} {G : β → α → Prop} : ∀ {xs : List V} {is : List β}, Paired (fun v i => ∃ d, R v d ∧ G i d) xs is → ∃ ds, Paired R xs ds ∧ ds.length = is.length ∧ ∀ (k : Nat) (d : α), ds[k]? = some d → ∃ i, is[k]? = some i ∧ G i d
  | _, _, .nil => ⟨[], .nil, rfl, fun k d h => by simp at h⟩
  | _, i :: _, .cons r t => by
    obtain ⟨d, r1, g1⟩ := r
    obtain ⟨ds, p, l, g⟩ := pd_ix t
    refine ⟨d :: ds, .cons r1 p, by simp [l], fun k x h => ?_⟩
    cases k with
    | zero => cases h; exact ⟨i, rfl, g1⟩
    | succ k => exact g k x h
theorem pd_set {α : Type} {R : V → α → Prop} : ∀ {xs : List V} {ds : List α} {k : Nat} {v : V} {d : α}, Paired R xs ds → R v d → Paired R (xs.set k v) (ds.set k d)
  | _, _, _, _, _, .nil, _ => .nil
  | _, _, 0, _, _, .cons _ t, r => .cons r t
  | _, _, _ + 1, _, _, .cons r0 t, r => .cons r0 (pd_set t r)
theorem nob_all : ∀ c ∈ [1, 2, 3, 4, 5, 6, 39, 40, 41], ∀ k ∈ List.range c, nameM k c ≠ sNob := by decide +kernel
theorem a2_self {H : Hp} : ∀ {xs : List V} {as : List A2}, Paired (A2At H) xs as → xs.all selfV = true
  | _, _, .nil => rfl
  | _, a :: _, .cons r t => by
    rw [List.all_cons, a2_self t]
    cases a with
    | lst => obtain ⟨p, _, rfl, _⟩ := r; rfl
    | four => obtain ⟨p, _, rfl, _⟩ := r; rfl
    | five n r' h o d => obtain ⟨p, _, _, _, _, _, rfl, _⟩ := r; rfl
theorem nine9 {i : Int} (h0 : 0 ≤ i) (h1 : i < 9) : ∃ c : Nat, Cnt c ∧ atI [V.int 1, .int 2, .int 3, .int 4, .int 5, .int 6, .int 39, .int 40, .int 41] i = some (nV c) := by
  obtain ⟨n, rfl⟩ := Int.eq_ofNat_of_zero_le h0
  have : n = 0 ∨ n = 1 ∨ n = 2 ∨ n = 3 ∨ n = 4 ∨ n = 5 ∨ n = 6 ∨ n = 7 ∨ n = 8 := by omega
  rcases this with rfl | rfl | rfl | rfl | rfl | rfl | rfl | rfl | rfl
  · exact ⟨1, by decide, rfl⟩
  · exact ⟨2, by decide, rfl⟩
  · exact ⟨3, by decide, rfl⟩
  · exact ⟨4, by decide, rfl⟩
  · exact ⟨5, by decide, rfl⟩
  · exact ⟨6, by decide, rfl⟩
  · exact ⟨39, by decide, rfl⟩
  · exact ⟨40, by decide, rfl⟩
  · exact ⟨41, by decide, rfl⟩
theorem modN (x : Int) {c : Nat} (h : 0 < c) : ∃ n : Nat, x % (c : Int) = (n : Int) ∧ n < c := by
  have h0 := Int.emod_nonneg x (b := (c : Int)) (by omega)
  have h1 := Int.emod_lt_of_pos x (b := (c : Int)) (by omega)
  exact ⟨(x % (c : Int)).toNat, by omega, by omega⟩
/-- the handlers, and whether one of them names a stranger -/
structure Fs4 (c : Nat) (fs : List FH) (st : Bool) : Prop where
  l : fs.length = c
  nm : ∀ (k : Nat) (f : FH), fs[k]? = some f → f.name = nameM k c
  st : fs.any (FH.stran (fs.map FH.name)) = st
theorem Fs4.names {c : Nat} {fs : List FH} (l : fs.length = c) (nm : ∀ (k : Nat) (f : FH), fs[k]? = some f → f.name = nameM k c) : fs.map FH.name = (List.range c).map fun k => nameM k c := by
  refine List.ext_getElem? fun i => ?_
  rw [List.getElem?_map, List.getElem?_map]
  by_cases h : i < c
  · have ef := List.getElem?_eq_getElem (l := fs) (i := i) (by omega)
    rw [ef, List.getElem?_range h]
    exact congrArg some (nm i _ ef)
  · rw [List.getElem?_eq_none (by omega), List.getElem?_eq_none (by rw [List.length_range]; omega)]
    rfl
theorem nob_not {c : Nat} (hc : Cnt c) : sNob ∉ (List.range c).map fun k => nameM k c := fun h => by
  obtain ⟨k, hk, e⟩ := List.mem_map.mp h
  exact nob_all c hc k hk e
theorem strF_stran {f : FH} {t : Str} {names : List Str} (ht : t ∈ jl) (hn : sNob ∉ names) : (strF f t).stran names = true := by
  unfold FH.stran strF
  refine List.any_eq_true.mpr ⟨.tup [.str t, .str sNob], by simp, ?_⟩
  show (decide (t ∈ jl) && !decide (sNob ∈ names)) = true
  rw [decide_eq_true ht, decide_eq_false hn]
  rfl
theorem strF_gde {f : FH} {t : Str} (ht : t ∈ jl) (g : GdE f) : GdE (strF f t) := by
  refine ⟨g.1, g.2.1, fun d hd => ?_, ?_⟩
  · rcases List.mem_append.mp hd with h | h
    · exact g.2.2.1 d (List.mem_of_mem_take h)
    · rw [List.mem_singleton.mp h]
      have hw : t ∈ worded := by
        have : ∀ t ∈ jl, t ∈ worded := by decide +kernel
        exact this t ht
      exact (tw_now hw _).trans (by decide +kernel : isWord sNob = true)
  · show (f.deeds.take 29 ++ [_]).length ≤ 31
    rw [List.length_append, List.length_take, List.length_singleton]
    omega
theorem fit0 {c : Nat} {fs : List FH} {st : Bool} {as : List A2} {pl : Nat} (hc : Cnt c) (F : Fs4 c fs st) (hpl : pl < c) (la : as.length = fs.length) (s : ∀ (k : Nat) (a : A2) (f : FH), as[k]? = some a → fs[k]? = some f → Sim a f) : Fit4 c fs as 0 pl :=
  ⟨F.l, by rw [la]; exact F.l, F.nm, names_nd hc, hpl, .inl rfl, fun k a f h1 h2 _ => s k a f h1 h2, fun h => absurd h (by decide), fun h => absurd h (by decide)⟩
theorem fit1 {c : Nat} {fs : List FH} {st : Bool} {as : List A2} {pl : Nat} (hc : Cnt c) (F : Fs4 c fs st) (hpl : pl < c) (la : as.length = fs.length) (s : ∀ (k : Nat) (a : A2) (f : FH), as[k]? = some a → fs[k]? = some f → Sim a f) {a' : A2} (h : handlerM a' = false) : Fit4 c fs (as.set pl a') 1 pl := by
  have lac : as.length = c := by rw [la]; exact F.l
  refine ⟨F.l, by rw [List.length_set]; exact lac, F.nm, names_nd hc, hpl, .inr (.inl rfl), fun k a f h1 h2 h3 => ?_, fun _ a ha => ?_, fun h => absurd h (by decide)⟩
  · have hk : k ≠ pl := fun e => absurd (h3 e) (by decide)
    rw [List.getElem?_set_ne (Ne.symm hk)] at h1
    exact s k a f h1 h2
  · rw [List.getElem?_set_self (by omega)] at ha
    cases ha
    exact h
theorem fit2 {c : Nat} {fs : List FH} {st : Bool} {as : List A2} {pl : Nat} (hc : Cnt c) (F : Fs4 c fs st) (hpl : pl < c) (h0 : 0 < pl) {f' : FH} (la : as.length = (fs.set pl f').length) (s : ∀ (k : Nat) (a : A2) (f : FH), as[k]? = some a → (fs.set pl f')[k]? = some f → Sim a f)
    (h1 : f'.name = nameM (pl - 1) c) (h2 : f'.deeds.length ≤ 30) : Fit4 c fs as 2 pl := by
  have lfc := F.l
  have lac : as.length = c := by rw [la, List.length_set]; exact F.l
  refine ⟨F.l, lac, F.nm, names_nd hc, hpl, .inr (.inr rfl), fun k a f g1 g2 g3 => ?_, fun h => absurd h (by decide), fun _ => ⟨h0, fun a ha => ?_⟩⟩
  · have hk : k ≠ pl := fun e => absurd (g3 e) (by decide)
    exact s k a f g1 (by rw [List.getElem?_set_ne (Ne.symm hk)]; exact g2)
  · obtain ⟨s1, s2, _⟩ := s pl a f' ha (by rw [List.getElem?_set_self (by omega)])
    exact ⟨by rw [s1]; exact decide_eq_true h2, by rw [s2]; exact h1⟩
theorem ixN_at {n k : Nat} (h : k < n) : ixN n (k : Int) = some k := by
  unfold ixN
  rw [if_pos (by omega), if_pos (by omega)]
  simp
def PV (σ : L2.St) (H : Hp) (te : TE) (b : Bool) : Prop := ∀ Q : VK, Q (.bl b) H → te σ H Q
theorem PV.and {σ : L2.St} {H : Hp} {t u : TE} {a b : Bool} (h1 : PV σ H t a) (h2 : PV σ H u b) : PV σ H (tAndV t u) (a && b) := fun Q h => h1 _ ⟨_, rfl, by
  cases a with
  | true => exact iteT (h2 _ h)
  | false => exact iteF h⟩
theorem PV.not {σ : L2.St} {H : Hp} {t : TE} {a : Bool} (h1 : PV σ H t a) : PV σ H (tNotV t) (!a) := fun Q h => h1 _ ⟨_, rfl, h⟩
theorem codS_ne {n : Nat} (h0 : n ≠ 0) (h3 : n ≤ 3) : codS n ≠ sNon := by
  have h : n = 1 ∨ n = 2 ∨ n = 3 := by omega
  rcases h with rfl | rfl | rfl <;> decide +kernel
theorem cutN {t : TS} {D : Ends} {σ : L2.St} {H : Hp} (P : L2.St → Hp → Prop) (h2 : ∀ σ' H', P σ' H' → D.nx σ' H') (h1 : ∀ N : L2.St → Hp → Prop, (∀ σ' H', P σ' H' → N σ' H') → t { D with nx := N } σ H) : t D σ H := h1 D.nx h2
def sp_law (K : PySem.W.Frag) : Sp := fun vs H Q _ => ∃ (a : Addr) (ns : List Int), vs = [.ref a] ∧ SqL K H a (ns.map V.int) ∧ ns.length ≤ 63 ∧ ∀ H', Q (.bl true) H'
theorem ok_law (T : Tx K mg) : FnOk P w K mg base CX0 9 T.f_law T.d_law ["_law_script"] (sp_law K) := by
  refine T.F_law.ok sc_law (by walk_at "len") (fun cdv A outer s H vs Q E hr h => ?_)
  obtain ⟨a, ns, rfl, hS, hlen, k⟩ := h
  refine ⟨_, (pss_cons (ps_set (i := 1) sc_law.nd rfl (Or.inl rfl) (pe_call (ok_ltoldAt T) (hr.mono (by decide)) rfl T.g_ltoldAt T.F_ltoldAt.kp T.b_ltoldAt .nil pass0 (pa_cons (pv 0) (pa_cons pe_int pa_nil))))
    (pss_cons (ps_set (i := 2) sc_law.nd rfl (Or.inr rfl) (pe_ix (kIxL K) (pe_lst (pa_cons pe_int (pa_cons pe_int (pa_cons pe_int (pa_cons pe_int (pa_cons pe_int (pa_cons pe_int (pa_cons pe_int (pa_cons pe_int (pa_cons pe_int pa_nil)))))))))) (pe_op op_mod (pv 1) pe_int) (fun _ _ => rfl)))
    (pss_cons (ps_setLc (i := 3) (own := [("_law_k", 14)]) (g := gName 14) (tt := tYes) rfl sc_law.nd rfl rfl (sw_true rfl rfl rfl (by decide +kernel)) (pi_range1 rfl T.z_range (pa_cons (pv 2) pa_nil)) (blkOk_by (own := [("_law_k", 14)]) (N := nm_law) (sc := defScope s_law) (by decide +kernel)) (fun _ _ _ _ _ => (pg_name (i := 14) sc_law.nd rfl (Or.inl rfl))) (fun _ _ _ _ _ => pts_nil) (fun _ _ _ _ _ => (pe_call (ok_lhandlerBy T) (hr.mono (by decide)) rfl T.g_lhandlerBy T.F_lhandlerBy.kp T.b_lhandlerBy .nil pass0 (pa_cons (pe_op op_add (pe_call (ok_ltoldAt T) (hr.mono (by decide)) rfl T.g_ltoldAt T.F_ltoldAt.kp T.b_ltoldAt .nil pass0 (pa_cons (pv 0) (pa_cons (pe_op op_add pe_int (pv 14)) pa_nil))) (pe_op op_mul pe_int (pv 14))) (pa_cons (pv 14) (pa_cons (pv 2) pa_nil))))))
    (pss_cons (ps_set (i := 4) sc_law.nd rfl (Or.inl rfl) (pe_op op_mod (pe_op op_fdiv (pe_call (ok_ltoldAt T) (hr.mono (by decide)) rfl T.g_ltoldAt T.F_ltoldAt.kp T.b_ltoldAt .nil pass0 (pa_cons (pv 0) (pa_cons pe_int pa_nil))) pe_int) (pv 2)))
    (pss_cons (ps_set (i := 5) sc_law.nd rfl (Or.inl rfl) (pe_op op_mod (pe_op op_fdiv (pe_call (ok_ltoldAt T) (hr.mono (by decide)) rfl T.g_ltoldAt T.F_ltoldAt.kp T.b_ltoldAt .nil pass0 (pa_cons (pv 0) (pa_cons pe_int pa_nil))) pe_int) (pv 2)))
    (pss_cons (ps_set (i := 6) sc_law.nd rfl (Or.inl rfl) (pe_cmpR op_eq (pe_op op_mod (pe_call (ok_ltoldAt T) (hr.mono (by decide)) rfl T.g_ltoldAt T.F_ltoldAt.kp T.b_ltoldAt .nil pass0 (pa_cons (pv 0) (pa_cons pe_int pa_nil))) pe_int) pe_int (nomark _)))
    (pss_cons (ps_if (pt_val (pv 6))
        (pss_one (ps_asg (pe_call (ok_lestranged T) (hr.mono (by decide)) rfl T.g_lestranged T.F_lestranged.kp T.b_lestranged .nil pass0 (pa_cons (pe_ix (kIxL K) (pv 3) (pv 5) (fun _ _ => rfl)) (pa_cons (pe_op op_fdiv (pe_call (ok_ltoldAt T) (hr.mono (by decide)) rfl T.g_ltoldAt T.F_ltoldAt.kp T.b_ltoldAt .nil pass0 (pa_cons (pv 0) (pa_cons pe_int pa_nil))) pe_int) pa_nil))) (pg_sub (pv 3) (pv 5) set_list)))
        pss_nil)
    (pss_cons (ps_set (i := 7) sc_law.nd rfl (Or.inl rfl) (pe_callTy (kList K) (by rfl) T.z_list (by decide +kernel) (pa_cons (pv 3) pa_nil)))
    (pss_cons (ps_set (i := 8) sc_law.nd rfl (Or.inl rfl) (pe_op op_mod (pe_call (ok_ltoldAt T) (hr.mono (by decide)) rfl T.g_ltoldAt T.F_ltoldAt.kp T.b_ltoldAt .nil pass0 (pa_cons (pv 0) (pa_cons pe_int pa_nil))) pe_int))
    (pss_cons (ps_if (pt_cmpR op_eq (pv 2) pe_int (nomark _))
        (pss_one (ps_set (i := 8) sc_law.nd rfl (Or.inl rfl) pe_int))
        pss_nil)
    (pss_cons (ps_set (i := 9) sc_law.nd rfl (Or.inl rfl) pe_int)
    (pss_cons (ps_if (pt_cmpR op_lt (pv 8) pe_int (nomark _))
        (pss_cons (ps_set (i := 9) sc_law.nd rfl (Or.inl rfl) pe_int)
        (pss_cons (ps_set (i := 10) sc_law.nd rfl (Or.inl rfl) (pe_op op_mod (pe_op op_mul (pe_call (ok_ltoldAt T) (hr.mono (by decide)) rfl T.g_ltoldAt T.F_ltoldAt.kp T.b_ltoldAt .nil pass0 (pa_cons (pv 0) (pa_cons pe_int pa_nil))) pe_int) pe_int))
        (pss_one (ps_asg (pe_call (ok_lwrong T) (hr.mono (by decide)) rfl T.g_lwrong T.F_lwrong.kp T.b_lwrong .nil pass0 (pa_cons (pe_ix (kIxL K) (pv 3) (pv 4) (fun _ _ => rfl)) (pa_cons (pv 8) (pa_cons (pv 10) pa_nil)))) (pg_sub (pv 3) (pv 4) set_list)))))
        (pss_one (ps_if (PW.pt (pw_and (pt_cmpR op_lt (pv 8) pe_int (nomark _)) (pw_and1 (pt_cmpR op_gt (pv 4) pe_int (nomark _)))))
            (pss_cons (ps_set (i := 9) sc_law.nd rfl (Or.inl rfl) pe_int)
            (pss_cons (ps_set (i := 11) sc_law.nd rfl (Or.inl rfl) (pe_ix (kIxL K) (pv 3) (pv 4) (fun _ _ => rfl)))
            (pss_one (ps_asg (pe_tup (pa_cons (pe_ix (kIxT K) (pe_ix (kIxL K) (pv 3) (pe_op op_sub (pv 4) pe_int) (fun _ _ => rfl)) pe_int (fun _ _ => rfl)) (pa_cons (pe_ix (kIxT K) (pv 11) pe_int (fun _ _ => rfl)) (pa_cons (pe_ix (kIxT K) (pv 11) pe_int (fun _ _ => rfl)) (pa_cons (pe_ix (kIxT K) (pv 11) pe_int (fun _ _ => rfl)) (pa_cons (pe_lst (pa_cons (pe_tup (pa_cons pe_str pa_nil)) pa_nil)) pa_nil)))))) (pg_sub (pv 3) (pv 4) set_list)))))
            pss_nil)))
    (pss_cons (ps_if (PW.pt (pw_and (pt_cmpR op_eq (pv 9) pe_int (nomark _)) (pw_and1 (pt_cmpR op_notBl (pe_call (ok_isHandler T) (hr.mono (by decide)) rfl T.g_isHandler T.F_isHandler.kp T.b_isHandler .nil pass0 (pa_cons (pe_ix (kIxL K) (pv 3) (pv 4) (fun _ _ => rfl)) pa_nil)) pe_bl (nomark _)))))
        (pss_one (ps_ret pe_bl))
        pss_nil)
    (pss_cons (ps_if (pt_cmpR op_notBl (pe_call (ok_isDeed T) (hr.mono (by decide)) rfl T.g_isDeed T.F_isDeed.kp T.b_isDeed .nil pass0 (pa_cons (pe_call (ok_lbadDeed T) (hr.mono (by decide)) rfl T.g_lbadDeed T.F_lbadDeed.kp T.b_lbadDeed .nil pass0 (pa_cons (pe_op op_mod (pe_op op_mul (pe_op op_add (pv 1) (pe_op op_mul pe_int (pe_call (ok_ltoldAt T) (hr.mono (by decide)) rfl T.g_ltoldAt T.F_ltoldAt.kp T.b_ltoldAt .nil pass0 (pa_cons (pv 0) (pa_cons pe_int pa_nil))))) pe_int) pe_int) pa_nil)) pa_nil)) pe_bl (nomark _))
        (pss_one (ps_ret pe_bl))
        pss_nil)
    (pss_cons (ps_set (i := 12) sc_law.nd rfl (Or.inl rfl) (pe_call (ok_ldue T) (hr.mono (by decide)) rfl T.g_ldue T.F_ldue.kp T.b_ldue .nil pass0 (pa_cons (pv 7) (pa_cons (pv 9) (pa_cons (pv 4) (pa_cons (pe_and (pv 6) (pe_one (pe_not (pe_and (pe_cmpR op_gt (pv 9) pe_int (nomark _)) (pe_one (pe_cmpR op_eq (pv 5) (pv 4) (nomark _))))))) pa_nil))))))
    (pss_cons (ps_set (i := 13) sc_law.nd rfl (Or.inl rfl) (pe_callTy (kList K) (by rfl) T.z_list (by decide +kernel) (pa_cons (pv 3) pa_nil)))
    (pss_cons (ps_if (pt_not (pt_val (pe_call (ok_lkinds T) (hr.mono (by decide)) rfl T.g_lkinds T.F_lkinds.kp T.b_lkinds .nil pass0 (pa_cons (pv 7) pa_nil))))
        (pss_one (ps_ret pe_bl))
        pss_nil)
    (pss_cons (ps_if (pt_cmpR op_ne (pv 12) pe_str (nomark _))
        (pss_one (ps_ret (pe_and (pe_cmpR op_eq (pe_call (ok_lrefused T) (hr.mono (by decide)) rfl T.g_lrefused T.F_lrefused.kp T.b_lrefused .nil pass0 (pa_cons (pv 13) (pa_cons (pe_op op_mod (pe_op op_fdiv (pv 1) pe_int) pe_int) pa_nil))) (pv 12) (nomark _)) (pe_one (pe_cmpR (kEqS K (room65 hr)) (pv 13) (pv 3) (nomark _))))))
        pss_nil)
    (pss_one (ps_ret (pe_call (ok_lletBy T) (hr.mono (by decide)) rfl T.g_lletBy T.F_lletBy.kp T.b_lletBy .nil pass0 (pa_cons (pv 3) (pa_cons (pv 4) pa_nil))))))))))))))))))))))), ?_⟩
  refine seq_go (asg_go ?_)
  refine ⟨_, rfl, a, ns, 0, rfl, hS, ?_⟩
  generalize ns.getD 0 0 = b
  dsimp only [gName]
  refine seq_go (asg_go ?_)
  obtain ⟨c, hc, ec⟩ := nine9 (i := b % 9) (Int.emod_nonneg _ (by decide)) (Int.emod_lt_of_pos _ (by decide))
  refine ⟨(by show 9 ≤ sizeLine; decide), fun l0 hl0 => ⟨_, rfl, _, _, rfl, rfl, (by show (0 : Int) < 9; decide), l0, _, _, _, rfl, rfl, SqL.of upd_same, ec, ?_⟩⟩
  have k0 := (Kp.refl [] H).new (o := .lst [V.int 1, .int 2, .int 3, .int 4, .int 5, .int 6, .int 39, .int 40, .int 41]) hl0
  generalize upd H l0 (.lst [V.int 1, .int 2, .int 3, .int 4, .int 5, .int 6, .int 39, .int 40, .int 41]) = H0 at k0 ⊢
  have c0 : 0 < c ∧ c ≤ 41 := (by decide : ∀ c ∈ [1, 2, 3, 4, 5, 6, 39, 40, 41], 0 < c ∧ c ≤ 41) c hc
  have hS0 := SqL.kp k0 (by simp) hS
  -- handlers
  walk_at "nf"
  refine lc_go ?_
  refine ⟨_, rfl, _, rfl, (by show _ ≤ (c : Int); omega), (by show (c : Int) < _; omega), ?_⟩
  refine lc_rg (fun D H v (i : Nat) => ∃ f, HKD D H v f ∧ f.name = nameM i c ∧ NoS c f) id (Nat.lt_of_le_of_lt (show ((c : Int)).toNat ≤ 41 by omega) (by decide)) (fun x => rfl) (fun D H H' v d kk z => by
    obtain ⟨f, h1, h2⟩ := z
    exact ⟨f, h1.kp kk, h2⟩) ?_ ?_
  · intro D ac i H1 Q' hi hD hD1 k1 q
    rw [Int.zero_add]
    have hi : i < c := by omega
    refine ⟨_, rfl, _, rfl, _, _, rfl, rfl, a, ns, 3 + i, rfl, SqL.kp k1 (by simp) hS0, _, rfl, _, _, rfl, rfl, .inl (by decide), _, _, rfl, rfl, _, rfl, _, rfl, _, i, c, rfl, hc, hi, fun v f H2 k2 hv gf ns => ?_⟩
    obtain ⟨p, q', ds, e, hq0, r⟩ := hv
    exact q v H2 k2 ⟨f, ⟨gf.e hc hi, p, q', ds, e, fun e => (by rw [e, hD1] at hq0; cases hq0), r⟩, gf.1, ns⟩
  intro D H1 xs hDn k1 hD1 pd
  obtain ⟨fs, pfs, lfs, gfs⟩ := pd_ix (R := HKD D H1) (G := fun i f => f.name = nameM i c ∧ NoS c f) pd
  have lfs : fs.length = c := by rw [lfs, List.length_map, List.length_range]; omega
  have gfs : ∀ (k : Nat) (f : FH), fs[k]? = some f → f.name = nameM k c ∧ NoS c f := fun k f h => by
    obtain ⟨i, hi, g⟩ := gfs k f h
    rw [List.map_id] at hi
    have hk : k < c := by
      have := (List.getElem?_eq_some_iff.mp h).1
      omega
    rw [List.getElem?_range (by omega)] at hi
    cases hi
    exact g
  have nmn : (List.range c).map (fun k => nameM k c) = fs.map FH.name := (Fs4.names lfs fun k f h => (gfs k f h).1).symm
  have F0 : Fs4 c fs false := ⟨lfs, fun k f h => (gfs k f h).1, by
    rw [List.any_eq_false]
    intro f hf
    obtain ⟨i, hi⟩ := List.getElem?_of_mem hf
    rw [(gfs i f hi).2 (fs.map FH.name) fun j hj => by rw [← nmn]; exact List.mem_map.mpr ⟨j, List.mem_range.mpr hj, rfl⟩]
    exact Bool.false_ne_true⟩
  have lx := Pd.len pfs
  have hS1 := SqL.kp k1 (by simp) hS0
  -- place, far, strange
  obtain ⟨pl, epl, hpl⟩ := modN (ns.getD 1 0 / 12) c0.1
  obtain ⟨far, efar, hfar⟩ := modN (ns.getD 2 0 / 3) c0.1
  refine ⟨_, rfl, a, ns, 1, rfl, hS1, _, _, rfl, rfl, ⟨by decide, by decide⟩, _, rfl, _, _, rfl, rfl, (by show (0 : Int) < (c : Int); omega), ?_⟩
  dsimp only [L2.gName]
  rw [epl]
  refine ⟨_, rfl, a, ns, 2, rfl, hS1, _, _, rfl, rfl, ⟨by decide, by decide⟩, _, rfl, _, _, rfl, rfl, (by show (0 : Int) < (c : Int); omega), ?_⟩
  dsimp only [L2.gName]
  rw [efar]
  refine ⟨_, rfl, a, ns, 2, rfl, hS1, _, _, rfl, rfl, (by show (0 : Int) < 3; decide), rfl, ?_⟩
  dsimp only [L2.gName]
  generalize (decide (V.int (ns.getD 2 0 % 3) = V.int 1)) = st
  refine cutN (fun σ' Hx => ∃ (xs : List V) (fs : List FH), Fs4 c fs st ∧ Hx D = some (.lst xs) ∧ Paired (HKD D Hx) xs fs ∧ Kp [D] H1 Hx ∧ σ' = [some (.ref a), some (.int b), some (nV c), some (.ref D), some (nV pl), some (nV far), some (.bl st), none, none, none, none, none, none, none, none]) ?_ ?_
  rotate_left
  · intro N hN
    cases st with
    | false => exact ⟨_, rfl, _, rfl, iteF (hN _ _ ⟨xs, fs, F0, hD1, pfs, Kp.refl _ _, rfl⟩)⟩
    | true =>
      refine ⟨_, rfl, _, rfl, iteT ?_⟩
      have ef := List.getElem?_eq_getElem (l := fs) (i := far) (by omega)
      obtain ⟨vf, evf, rvf⟩ := Pd.at' pfs ef
      refine ⟨_, rfl, _, rfl, D, _, _, vf, rfl, rfl, SqL.of hD1, atI_nat evf, _, rfl, a, ns, 2, rfl, hS1, _, _, rfl, rfl, ⟨by decide, by decide⟩, vf, _, _, rfl, rvf.hk, fun v' t H2 htj k2 hv' => ?_⟩
      have hD2 := k2.keep0 hD1
      have kD := (Kp.refl [D] H2).lst (o := .lst (xs.set far v')) (.inl (by simp)) hD2
      have gE := rvf.1
      have pn : HKD D H2 v' (strF fs[far] t) := by
        obtain ⟨p, q, ds, e, hq0, r⟩ := hv'
        exact ⟨strF_gde htj gE, p, q, ds, e, fun e => (by rw [e, hD1] at hq0; cases hq0), r⟩
      have nms : ∀ (k : Nat) (f : FH), (fs.set far (strF fs[far] t))[k]? = some f → f.name = nameM k c := fun k f h => by
        by_cases e : far = k
        · subst e
          rw [List.getElem?_set_self (by omega)] at h
          cases h
          exact (gfs far _ ef).1
        · rw [List.getElem?_set_ne e] at h
          exact (gfs k f h).1
      refine ⟨_, rfl, _, rfl, D, xs, _, far, rfl, rfl, hD2, ixN_at (by omega), hN _ _ ⟨xs.set far v', fs.set far (strF fs[far] t), ⟨by rw [List.length_set]; exact lfs, nms, ?_⟩, upd_same, pd_set (Pd.mono (fun _ _ z => (z.kp0 k2).kp kD) pfs) (pn.kp kD), (k2.mono (by simp)).trans kD, rfl⟩⟩
      have nob := nob_not hc
      rw [← Fs4.names (by rw [List.length_set]; exact lfs) nms] at nob
      refine List.any_eq_true.mpr ⟨strF fs[far] t, List.mem_of_getElem? (i := far) (by rw [List.getElem?_set_self (by omega)]), strF_stran htj nob⟩
  rintro σ' H2 ⟨xs1, fs1, F1, hD2, pf1, k12, rfl⟩
  clear pfs lfs gfs nmn F0 lx pd
  have hDn0 := hDn
  have kz2 : Kp [] H0 H2 := (k1.transM k12 fun y hy => .inr (by rw [List.mem_singleton.mp hy]; exact hDn)).mono (by simp)
  clear k12
  have lx1 : xs1.length = c := by rw [Pd.len pf1]; exact F1.l
  -- good
  dsimp only
  refine seq_go (asg_go ?_)
  refine ⟨_, rfl, D, xs1, rfl, .inl (SqL.of hD2), fun G hG => ?_⟩
  have kG := (Kp.refl [] H2).new (o := .lst xs1) hG
  have eG : upd H2 G (.lst xs1) G = some (.lst xs1) := upd_same
  have nGD : G ≠ D := fun e => by rw [e, hD2] at hG; cases hG
  generalize upd H2 G (.lst xs1) = H3 at kG eG ⊢
  have hD3 := kG.keep0 hD2
  have pf3 : Paired (HKD D H3) xs1 fs1 := Pd.mono (fun _ _ z => z.kp0 kG) pf1
  have kz3 := kz2.trans kG
  clear kG hG hD2 pf1 kz2
  have hS3 := SqL.kp kz3 (by simp) hS0
  -- way
  dsimp only [gName]
  refine seq_go (asg_go ?_)
  refine ⟨_, rfl, a, ns, 1, rfl, hS3, _, _, rfl, rfl, (by show (0 : Int) < 12; decide), ?_⟩
  dsimp only [gName]
  have w0 : 0 ≤ ns.getD 1 0 % 12 := Int.emod_nonneg _ (by decide)
  have w1 : ns.getD 1 0 % 12 < 12 := Int.emod_lt_of_pos _ (by decide)
  generalize ns.getD 1 0 % 12 = way0 at w0 w1
  refine seq_cut (fun σ' Hx => ∃ way : Int, 0 ≤ way ∧ H3 = Hx ∧ σ' = [some (.ref a), some (.int b), some (nV c), some (.ref D), some (nV pl), some (nV far), some (.bl st), some (.ref G), some (.int way), none, none, none, none, none, none]) ?_ ?_
  rotate_left
  · intro N hN
    exact ⟨_, rfl, rfl, _, rfl, ite2 (fun hq => hN _ _ ⟨11, by decide, rfl, rfl⟩) (fun hq => hN _ _ ⟨way0, w0, rfl, rfl⟩)⟩
  rintro σ' Hx ⟨way, hw0, rfl, rfl⟩
  refine seq_go (asg_go ?_)
  dsimp only [tC, gName]
  refine seq_cut (fun σ' H4 => ∃ (wr : Int) (xs2 : List V) (as : List A2) (o10 o11 : Option V), Fit4 c fs1 as wr pl ∧ H4 D = some (.lst xs2) ∧ Paired (A2At H4) xs2 as ∧ H4 G = some (.lst xs1) ∧ Paired (HKD D H4) xs1 fs1 ∧ (wr = 0 → xs2 = xs1) ∧ Kp [] H0 H4 ∧
    σ' = [some (.ref a), some (.int b), some (nV c), some (.ref D), some (nV pl), some (nV far), some (.bl st), some (.ref G), some (.int way), some (.int wr), o10, o11, none, none, none]) ?_ ?_
  rotate_left
  · intro N hN
    obtain ⟨fp, efp⟩ : ∃ f, fs1[pl]? = some f := ⟨_, List.getElem?_eq_getElem (by rw [F1.l]; exact hpl)⟩
    obtain ⟨vp, evp, rvp⟩ := Pd.at' pf3 efp
    refine ⟨_, rfl, _, _, rfl, rfl, _, rfl, ite2 (fun hq => ?_) (fun hq => ?_)⟩
    · have w8 : way < 8 := by simpa using hq
      refine seq_go (asg_go ?_)
      dsimp only [tC, gName]
      refine seq_go (asg_go ?_)
      refine ⟨_, rfl, a, ns, 1, rfl, hS3, _, _, rfl, rfl, .inr (by decide), _, _, rfl, rfl, (by show (0 : Int) < 10007; decide), ?_⟩
      dsimp only [gName]
      refine ⟨_, rfl, _, rfl, D, _, _, vp, rfl, rfl, SqL.of hD3, atI_nat evp, _, rfl, _, rfl, vp, fp, way, _, D, xs1, rfl, rvp.hk, ?_, rvp.1, hD3, hw0, w8, fun v' a' H4 k4 hbad hA hU => ?_⟩
      · intro p q w1 w2 w3 w4 e1 e2
        obtain ⟨_, p0, q0, ds, e, n, h1, _⟩ := rvp
        rw [e] at e1
        cases e1
        rw [h1] at e2
        cases e2
        exact n
      have hD4 := k4.keep0 hD3
      have kD := (Kp.refl [D] H4).lst (o := .lst (xs1.set pl v')) (.inl (by simp)) hD4
      have pf5 : Paired (HKD D (upd H4 D (.lst (xs1.set pl v')))) xs1 fs1 := Pd.mono (fun _ _ z => (z.kp0 k4).kp kD) pf3
      obtain ⟨as, pas, las, sas⟩ := hk_as (fun f hf => by
        obtain ⟨i, hi⟩ := List.getElem?_of_mem hf
        obtain ⟨v, _, r⟩ := Pd.at' pf5 hi
        exact r.1) (Pd.mono (fun _ _ z => z.hk) pf5)
      refine ⟨_, rfl, _, rfl, D, xs1, _, pl, rfl, rfl, hD4, ixN_at (by omega), hN _ _ ⟨1, _, as.set pl a', _, _, fit1 hc F1 hpl las sas hbad, upd_same, pd_set pas (hU _), kD.keep _ _ (by simpa using nGD) (k4.keep0 eG), pf5, fun h => absurd h (by decide), ?_, rfl⟩⟩
      exact ((kz3.trans k4).transM kD fun y hy => .inr (by rw [List.mem_singleton.mp hy]; exact hDn0)).mono (by simp)
    · refine if_go ?_
      refine (show PT _ _ _ (decide (way < 11) && decide ((0 : Int) < (pl : Int))) from PT.and ?_ fun _ => ?_) _ ?_
      · exact fun Q h => ⟨_, rfl, _, _, rfl, rfl, _, rfl, h⟩
      · exact fun Q h => ⟨_, rfl, _, _, rfl, rfl, _, rfl, h⟩
      by_cases hb : way < 11 ∧ 0 < pl
      · refine iteT' (by rw [decide_eq_true hb.1, decide_eq_true (show (0 : Int) < (pl : Int) by omega)]; rfl) ?_
        refine seq_go (asg_go ?_)
        dsimp only [tC, gName]
        refine seq_go (asg_go ?_)
        refine ⟨_, rfl, _, rfl, D, _, _, vp, rfl, rfl, SqL.of hD3, atI_nat evp, ?_⟩
        dsimp only [gName]
        obtain ⟨fq, efq⟩ : ∃ f, fs1[pl - 1]? = some f := ⟨_, List.getElem?_eq_getElem (by rw [F1.l]; omega)⟩
        obtain ⟨vq, evq, rvq⟩ := Pd.at' pf3 efq
        have nmq := F1.nm _ _ efq
        obtain ⟨gq, pq, qq, dq, rfl, _, hpq, _⟩ := rvq
        obtain ⟨gp, pp, qp, dp, rfl, _, hpp, _⟩ := id rvp
        refine ⟨_, rfl, _, rfl, _, _, rfl, rfl, D, _, _, _, rfl, rfl, SqL.of hD3, (by show atI _ ((pl : Int) - 1) = _; rw [show ((pl : Int) - 1) = ((pl - 1 : Nat) : Int) by omega]; exact atI_nat evq), pq, _, _, _, rfl, rfl, SqT.of hpq, at0,
          _, rfl, pp, _, _, _, rfl, rfl, SqT.of hpp, at1, _, rfl, pp, _, _, _, rfl, rfl, SqT.of hpp, at2, _, rfl, pp, _, _, _, rfl, rfl, SqT.of hpp, at3, (by show 1 ≤ sizeLine; decide), fun t1 ht1 => ?_⟩
        have j1 := (Kp.refl [] H3).new (o := .tup [V.str "hush"]) ht1
        have e1 : upd H3 t1 (.tup [V.str "hush"]) t1 = some (.tup [V.str "hush"]) := upd_same
        generalize upd H3 t1 (.tup [V.str "hush"]) = H4 at j1 e1 ⊢
        refine ⟨(by show 1 ≤ sizeLine; decide), fun l1 hl1 => ?_⟩
        have j2 := (Kp.refl [] H4).new (o := .lst [V.ref t1]) hl1
        have e2 : upd H4 l1 (.lst [V.ref t1]) l1 = some (.lst [V.ref t1]) := upd_same
        have nl1 : l1 ≠ D := fun e => by rw [e, j1.keep0 hD3] at hl1; cases hl1
        generalize upd H4 l1 (.lst [V.ref t1]) = H5 at j2 e2 ⊢
        refine ⟨(by show 5 ≤ sizeLine; decide), fun t ht => ?_⟩
        have j3 := (Kp.refl [] H5).new (o := .tup [.str fq.name, .int fp.rank, .str fp.hears, .bl fp.once, .ref l1]) ht
        have e3 : upd H5 t (.tup [.str fq.name, .int fp.rank, .str fp.hears, .bl fp.once, .ref l1]) t = some (.tup [.str fq.name, .int fp.rank, .str fp.hears, .bl fp.once, .ref l1]) := upd_same
        generalize upd H5 t (.tup [.str fq.name, .int fp.rank, .str fp.hears, .bl fp.once, .ref l1]) = H6 at j3 e3 ⊢
        have k36 := (j1.trans j2).trans j3
        have hD6 := k36.keep0 hD3
        have kD := (Kp.refl [D] H6).lst (o := .lst (xs1.set pl (V.ref t))) (.inl (by simp)) hD6
        have pf7 : Paired (HKD D (upd H6 D (.lst (xs1.set pl (V.ref t))))) xs1 fs1 := Pd.mono (fun _ _ z => (z.kp0 k36).kp kD) pf3
        have hn : HKD D H6 (.ref t) ⟨fq.name, fp.rank, fp.hears, fp.once, [.tup [.str "hush"]]⟩ := ⟨⟨gq.1, gp.2.1, fun d hd => by rw [List.mem_singleton.mp hd]; decide +kernel, by show 1 ≤ 31; decide⟩, t, l1, _, rfl, nl1, e3, .inl (j3.keep0 e2), .cons ⟨t1, _, rfl, (j2.trans j3).tk _ _ e1, .cons (show A0At _ _ (.str "hush") from ⟨rfl, by decide⟩) .nil⟩ .nil⟩
        have pf8 := pd_set (k := pl) pf7 (hn.kp kD)
        obtain ⟨as, pas, las, sas⟩ := hk_as (fun f hf => by
          obtain ⟨i, hi⟩ := List.getElem?_of_mem hf
          obtain ⟨v, _, r⟩ := Pd.at' pf8 hi
          exact r.1) (Pd.mono (fun _ _ z => z.hk) pf8)
        refine ⟨_, rfl, _, rfl, D, xs1, _, pl, rfl, rfl, hD6, ixN_at (by omega), hN _ _ ⟨2, _, as, _, _, fit2 hc F1 hpl hb.2 las sas nmq (by show 1 ≤ 30; decide), upd_same, pas, kD.keep _ _ (by simpa using nGD) (k36.keep0 eG), pf7, fun h => absurd h (by decide), ?_, rfl⟩⟩
        exact ((kz3.trans k36).transM kD fun y hy => .inr (by rw [List.mem_singleton.mp hy]; exact hDn0)).mono (by simp)
      · refine iteF' ?_ ?_
        · by_cases h1 : way < 11
          · rw [decide_eq_false (show ¬ (0 : Int) < (pl : Int) from fun h => hb ⟨h1, by omega⟩), Bool.and_false]
          · rw [decide_eq_false h1, Bool.false_and]
        obtain ⟨as, pas, las, sas⟩ := hk_as (fun f hf => by
          obtain ⟨i, hi⟩ := List.getElem?_of_mem hf
          obtain ⟨v, _, r⟩ := Pd.at' pf3 hi
          exact r.1) (Pd.mono (fun _ _ z => z.hk) pf3)
        exact hN _ _ ⟨0, xs1, as, _, _, fit0 hc F1 hpl las sas, hD3, pas, eG, pf3, fun _ => rfl, kz3, rfl⟩
  rintro σ' H4 ⟨wr, xs2, as, o10, o11, FT, hD4, pas, hG4, pf4, hwr, kz4, rfl⟩
  have lx2 : xs2.length = c := by rw [Pd.len pas]; exact FT.la
  obtain ⟨ap, eap⟩ : ∃ x, as[pl]? = some x := ⟨_, List.getElem?_eq_getElem (by rw [FT.la]; exact hpl)⟩
  obtain ⟨v2, ev2, rv2⟩ := Pd.at' pas eap
  refine seq_cut (fun σ' H5 => Kp [] H4 H5 ∧ σ' = [some (.ref a), some (.int b), some (nV c), some (.ref D), some (nV pl), some (nV far), some (.bl st), some (.ref G), some (.int way), some (.int wr), o10, o11, none, none, none]) ?_ ?_
  rotate_left
  · intro N hN
    refine ⟨_, rfl, rfl, _, rfl, ?_⟩
    rw [vi]
    by_cases q : wr = 1
    · refine iteT' (decide_eq_true q) ⟨_, rfl, _, rfl, D, _, _, v2, rfl, rfl, SqL.of hD4, atI_nat ev2, _, ap, rfl, rv2, fun H5 k5 => ?_⟩
      rw [FT.one q ap eap]
      exact ⟨false, false, rfl, rfl, _, rfl, iteF' rfl (hN _ _ ⟨k5, rfl⟩)⟩
    · exact iteF' (decide_eq_false q) (iteF (hN _ _ ⟨Kp.refl _ _, rfl⟩))
  rintro σ' H5 ⟨k5, rfl⟩
  have hS5 := SqL.kp (kz4.trans k5) (by simp) hS0
  refine seq_cut (fun σ' H6 => Kp [] H4 H6 ∧ σ' = [some (.ref a), some (.int b), some (nV c), some (.ref D), some (nV pl), some (nV far), some (.bl st), some (.ref G), some (.int way), some (.int wr), o10, o11, none, none, none]) ?_ ?_
  rotate_left
  · intro N hN
    refine ⟨_, rfl, _, rfl, a, ns, 2, rfl, hS5, _, _, rfl, rfl, .inl (by decide), _, _, rfl, rfl, _, _, rfl, rfl, .inr (by decide), _, _, rfl, rfl, (by show (0 : Int) < 10007; decide), _, rfl, fun v H6 k6 hv => ?_⟩
    obtain ⟨d, hd, hb⟩ := hv
    refine ⟨_, d, rfl, hd, fun H7 k7 => ?_⟩
    rw [hb]
    exact ⟨false, false, rfl, rfl, _, rfl, iteF' rfl (hN _ _ ⟨(k5.trans k6).trans k7, rfl⟩)⟩
  rintro σ' H6 ⟨k6, rfl⟩
  clear hS5 k5
  -- due
  have pk6 : Paired (HK H6) xs1 fs1 := Pd.mono (fun _ _ z => (z.kp0 k6).hk) pf4
  refine seq_go (asg_go ?_)
  refine ⟨_, rfl, _, rfl, _, rfl, ?_⟩
  refine (show PV _ _ _ (st && !(decide (0 < wr) && decide (V.int (far : Int) = V.int (pl : Int)))) from PV.and ?_ (PV.not (PV.and ?_ ?_))) _ ?_
  · exact fun Q h => ⟨_, rfl, h⟩
  · exact fun Q h => ⟨_, rfl, _, _, rfl, rfl, h⟩
  · exact fun Q h => ⟨_, rfl, _, rfl, rfl, h⟩
  have gde : ∀ f ∈ fs1, GdE f := fun f hf => by
    obtain ⟨i, hi⟩ := List.getElem?_of_mem hf
    obtain ⟨v, _, r⟩ := Pd.at' pf4 hi
    exact r.1
  have est : wr = 0 → (st && !(decide (0 < wr) && decide (V.int (far : Int) = V.int (pl : Int)))) = st := fun h => by
    rw [h, decide_eq_false (show ¬ (0 : Int) < 0 by omega), Bool.false_and]
    exact Bool.and_true _
  generalize (st && !(decide (0 < wr) && decide (V.int (far : Int) = V.int (pl : Int)))) = st2 at est ⊢
  have en : needC as = dueF wr pl st2 (lens fs1) := need_all FT fun h => by rw [est h]; exact F1.st
  have ln3 : dueF wr pl st2 (lens fs1) ≤ 3 := by rw [← en]; exact needC_le as
  refine ⟨G, xs1, fs1, wr, pl, st2, rfl, k6.keep0 hG4, pk6, by rw [F1.l]; exact c0.2, fun H7 k7 => ?_⟩
  dsimp only [gName]
  refine seq_go (asg_go ?_)
  have k47 := k6.trans k7
  refine ⟨_, rfl, D, xs2, rfl, .inl (SqL.of (k47.keep0 hD4)), fun E hE => ?_⟩
  have kE := (Kp.refl [] H7).new (o := .lst xs2) hE
  have eE : upd H7 E (.lst xs2) E = some (.lst xs2) := upd_same
  generalize upd H7 E (.lst xs2) = H8 at kE eE ⊢
  have k48 := k47.trans kE
  have pk8 : Paired (HK H8) xs1 fs1 := Pd.mono (fun _ _ z => (z.kp0 k48).hk) pf4
  dsimp only [gName]
  refine seq_cut (fun σ' H9 => Kp [] H8 H9 ∧ σ' = [some (.ref a), some (.int b), some (nV c), some (.ref D), some (nV pl), some (nV far), some (.bl st), some (.ref G), some (.int way), some (.int wr), o10, o11, some (.str (codS (dueF wr pl st2 (lens fs1)))), some (.ref E), none]) ?_ ?_
  rotate_left
  · intro N hN
    exact ⟨_, rfl, G, xs1, fs1, rfl, k48.keep0 hG4, pk8, gde, fun H9 k9 => ⟨_, rfl, iteF' rfl (hN _ _ ⟨k9, rfl⟩)⟩⟩
  rintro σ' H9 ⟨k9, rfl⟩
  have k49 := k48.trans k9
  have hD9 := k49.keep0 hD4
  by_cases hz : dueF wr pl st2 (lens fs1) = 0
  · have hw : wr = 0 := by
      rcases FT.w3 with q | q
      · exact q
      · exfalso
        unfold dueF at hz
        have := due_wr (l := lens fs1) (k := 0) (place := pl) q (Nat.zero_le _) (by unfold lens; rw [List.length_map, F1.l, Nat.zero_add]; exact hpl)
        rw [if_neg this] at hz
        exact this hz
    refine ⟨_, rfl, rfl, _, rfl, iteF' (neF (by rw [hz]; rfl)) ?_⟩
    have ex := hwr hw
    subst ex
    refine ⟨_, rfl, _, rfl, D, xs2, fs1, pl, rfl, hD9, Pd.mono (fun _ _ z => (z.kp0 k49).hk) pf4, gde, by rw [F1.l]; exact hpl, by rw [F1.l]; exact c0.2, ?_, fun as' la' sa' => ?_, fun H' _ => k H'⟩
    · rw [Fs4.names F1.l F1.nm]
      exact nob_not hc
    · have e1 := need_all (fit0 hc F1 hpl la' sa') (st := st) fun _ => F1.st
      rw [e1]
      rw [hw, est hw] at hz
      exact hz
  · have hne := codS_ne hz ln3
    refine ⟨_, rfl, rfl, _, rfl, iteT' ?_ ?_⟩
    · rw [decide_eq_false (fun e => hne (V.str.inj e))]
      rfl
    obtain ⟨wy, ewy, hwy⟩ := modN (b / 9) (c := 3) (by decide)
    refine ⟨_, rfl, _, rfl, _, _, rfl, rfl, ⟨by decide, by decide⟩, _, _, rfl, rfl, (by show (0 : Int) < 3; decide), E, xs2, as, _, dueF wr pl st2 (lens fs1), rfl, k9.keep0 eE, Pd.mono (fun _ _ z => z.kp k49) pas, by rw [FT.la]; exact c0.2, ?_, .inl ⟨by rw [en]; exact hz, en.symm⟩, fun H' k' => ?_⟩
    · have ewy : b / 9 % 3 = (wy : Int) := ewy
      rw [ewy]
      omega
    refine ⟨_, rfl, rfl, _, rfl, iteT' (decide_eq_true rfl) ?_⟩
    exact ⟨_, rfl, _, rfl, E, D, xs2, rfl, rfl, SqL.of ((k9.trans k').keep0 eE), SqL.of ((k49.trans k').keep0 hD4), a2_self pas, k _⟩
end
end Ev
namespace Ev
open PySem L2
theorem all_mk {K : PySem.W.Frag} {h : Heap} {mg : Str → Option Value} {fa : Addr} (X : K.In h) (G : h.Ns mainGlobals mg) (hfa : mg "law" = some (.ref fa))
    {C_LoomError C_NoWord C_NoHandler C_Twice C_Stranger C_NoCount C_Waits C_Loom f_Wall f_isWhole f_isWord f_needWord f_isDeed f_isHandler f_needHandlers f_needNames f_WaitsInit f_WaitsSooner f_WaitsLater f_WaitsLineup f_WaitsLead f_WaitsDrop f_LoomInit f_LoomCome f_LoomGo f_LoomMade f_LoomSend f_LoomStep f_LoomBegin f_LoomGoOn f_LoomCall f_LoomDo f_LoomMake f_LoomRun f_LoomWaiting f_LoomAround f_LoomStanding f_LoomIdle f_ltoldAt f_lmixed f_lnameBy f_ldeedBy f_lhandlerBy f_ltwisted f_lbadDeed f_lwrong f_lkind f_lrefused f_ldue f_lestranged f_lkinds f_lletBy f_law t_WORDED : Addr}
    {od1 an1 : Option Addr} {sl1 : Array (Option Value)} {oc1 kV1 dc1 pm1 cd1 ct1 : Value}
    {od2 an2 : Option Addr} {sl2 : Array (Option Value)} {oc2 kV2 dc2 pm2 cd2 ct2 : Value}
    {od3 an3 : Option Addr} {sl3 : Array (Option Value)} {oc3 kV3 dc3 pm3 cd3 ct3 : Value}
    {od4 an4 : Option Addr} {sl4 : Array (Option Value)} {oc4 kV4 dc4 pm4 cd4 ct4 : Value}
    {od5 an5 : Option Addr} {sl5 : Array (Option Value)} {oc5 kV5 dc5 pm5 cd5 ct5 : Value}
    {od6 an6 : Option Addr} {sl6 : Array (Option Value)} {oc6 kV6 dc6 pm6 cd6 ct6 : Value}
    {od7 an7 : Option Addr} {sl7 : Array (Option Value)} {oc7 kV7 dc7 pm7 cd7 ct7 : Value}
    {od8 an8 : Option Addr} {sl8 : Array (Option Value)} {oc8 kV8 dc8 pm8 cd8 ct8 : Value}
    {od9 an9 : Option Addr} {sl9 : Array (Option Value)} {oc9 kV9 dc9 pm9 cd9 ct9 : Value}
    {od10 an10 : Option Addr} {sl10 : Array (Option Value)} {oc10 kV10 dc10 pm10 cd10 ct10 : Value}
    {od11 an11 : Option Addr} {sl11 : Array (Option Value)} {oc11 kV11 dc11 pm11 cd11 ct11 : Value}
    {od12 an12 : Option Addr} {sl12 : Array (Option Value)} {oc12 kV12 dc12 pm12 cd12 ct12 : Value}
    {od13 an13 : Option Addr} {sl13 : Array (Option Value)} {oc13 kV13 dc13 pm13 cd13 ct13 : Value}
    {od14 an14 : Option Addr} {sl14 : Array (Option Value)} {oc14 kV14 dc14 pm14 cd14 ct14 : Value}
    {od15 an15 : Option Addr} {sl15 : Array (Option Value)} {oc15 kV15 dc15 pm15 cd15 ct15 : Value}
    {od16 an16 : Option Addr} {sl16 : Array (Option Value)} {oc16 kV16 dc16 pm16 cd16 ct16 : Value}
    {od17 an17 : Option Addr} {sl17 : Array (Option Value)} {oc17 kV17 dc17 pm17 cd17 ct17 : Value}
    {od18 an18 : Option Addr} {sl18 : Array (Option Value)} {oc18 kV18 dc18 pm18 cd18 ct18 : Value}
    {od19 an19 : Option Addr} {sl19 : Array (Option Value)} {oc19 kV19 dc19 pm19 cd19 ct19 : Value}
    {od20 an20 : Option Addr} {sl20 : Array (Option Value)} {oc20 kV20 dc20 pm20 cd20 ct20 : Value}
    {od21 an21 : Option Addr} {sl21 : Array (Option Value)} {oc21 kV21 dc21 pm21 cd21 ct21 : Value}
    {od22 an22 : Option Addr} {sl22 : Array (Option Value)} {oc22 kV22 dc22 pm22 cd22 ct22 : Value}
    {od23 an23 : Option Addr} {sl23 : Array (Option Value)} {oc23 kV23 dc23 pm23 cd23 ct23 : Value}
    {od24 an24 : Option Addr} {sl24 : Array (Option Value)} {oc24 kV24 dc24 pm24 cd24 ct24 : Value}
    {od25 an25 : Option Addr} {sl25 : Array (Option Value)} {oc25 kV25 dc25 pm25 cd25 ct25 : Value}
    {od26 an26 : Option Addr} {sl26 : Array (Option Value)} {oc26 kV26 dc26 pm26 cd26 ct26 : Value}
    {od27 an27 : Option Addr} {sl27 : Array (Option Value)} {oc27 kV27 dc27 pm27 cd27 ct27 : Value}
    {od28 an28 : Option Addr} {sl28 : Array (Option Value)} {oc28 kV28 dc28 pm28 cd28 ct28 : Value}
    {od29 an29 : Option Addr} {sl29 : Array (Option Value)} {oc29 kV29 dc29 pm29 cd29 ct29 : Value}
    {od30 an30 : Option Addr} {sl30 : Array (Option Value)} {oc30 kV30 dc30 pm30 cd30 ct30 : Value}
    {od31 an31 : Option Addr} {sl31 : Array (Option Value)} {oc31 kV31 dc31 pm31 cd31 ct31 : Value}
    {od32 an32 : Option Addr} {sl32 : Array (Option Value)} {oc32 kV32 dc32 pm32 cd32 ct32 : Value}
    {od33 an33 : Option Addr} {sl33 : Array (Option Value)} {oc33 kV33 dc33 pm33 cd33 ct33 : Value}
    {od34 an34 : Option Addr} {sl34 : Array (Option Value)} {oc34 kV34 dc34 pm34 cd34 ct34 : Value}
    {od35 an35 : Option Addr} {sl35 : Array (Option Value)} {oc35 kV35 dc35 pm35 cd35 ct35 : Value}
    {od36 an36 : Option Addr} {sl36 : Array (Option Value)} {oc36 kV36 dc36 pm36 cd36 ct36 : Value}
    {od37 an37 : Option Addr} {sl37 : Array (Option Value)} {oc37 kV37 dc37 pm37 cd37 ct37 : Value}
    {od38 an38 : Option Addr} {sl38 : Array (Option Value)} {oc38 kV38 dc38 pm38 cd38 ct38 : Value}
    {od39 an39 : Option Addr} {sl39 : Array (Option Value)} {oc39 kV39 dc39 pm39 cd39 ct39 : Value}
    {od40 an40 : Option Addr} {sl40 : Array (Option Value)} {oc40 kV40 dc40 pm40 cd40 ct40 : Value}
    {od41 an41 : Option Addr} {sl41 : Array (Option Value)} {oc41 kV41 dc41 pm41 cd41 ct41 : Value}
    {od42 an42 : Option Addr} {sl42 : Array (Option Value)} {oc42 kV42 dc42 pm42 cd42 ct42 : Value}
    {od43 an43 : Option Addr} {sl43 : Array (Option Value)} {oc43 kV43 dc43 pm43 cd43 ct43 : Value}
    {od44 an44 : Option Addr} {sl44 : Array (Option Value)} {oc44 kV44 dc44 pm44 cd44 ct44 : Value}
    {od45 an45 : Option Addr} {sl45 : Array (Option Value)} {oc45 kV45 dc45 pm45 cd45 ct45 : Value}
    {u_LETTERS : Value}
    {u_MOST_SIGNS : Value}
    {u_MOST_HANDLERS : Value}
    {u_MOST_DEEDS : Value}
    {u_MOST_TICKS : Value}
    {to_WORDED : Obj} {ti_WORDED : Array Value} {tn_WORDED : Nat}
    (aC_LoomError : PySem.W.nsIn K mainGlobals "LoomError" = some (some (.ref C_LoomError)))
    (aC_NoWord : PySem.W.nsIn K mainGlobals "NoWord" = some (some (.ref C_NoWord)))
    (aC_NoHandler : PySem.W.nsIn K mainGlobals "NoHandler" = some (some (.ref C_NoHandler)))
    (aC_Twice : PySem.W.nsIn K mainGlobals "Twice" = some (some (.ref C_Twice)))
    (aC_Stranger : PySem.W.nsIn K mainGlobals "Stranger" = some (some (.ref C_Stranger)))
    (aC_NoCount : PySem.W.nsIn K mainGlobals "NoCount" = some (some (.ref C_NoCount)))
    (aC_Waits : PySem.W.nsIn K mainGlobals "Waits" = some (some (.ref C_Waits)))
    (aC_Loom : PySem.W.nsIn K mainGlobals "Loom" = some (some (.ref C_Loom)))
    (x_LoomError : PySem.W.excIn K C_LoomError [.type "ValueError", .type "Exception", .type "BaseException", .type "object"] "ValueError.__new__" = true)
    (k_LoomError : PySem.W.keepIn K (.ref C_LoomError) = true)
    (sb_LoomError : PySem.W.subIn K (.ref C_LoomError) (.type "BaseException") = some true)
    (ty_LoomError : PySem.W.typeIn K (.ref C_LoomError) = some (.type "type"))
    (hd_LoomError : PySem.W.hasDictIn K C_LoomError = true)
    (x_NoWord : PySem.W.excIn K C_NoWord [.type "ValueError", .type "Exception", .type "BaseException", .type "object"] "ValueError.__new__" = true)
    (k_NoWord : PySem.W.keepIn K (.ref C_NoWord) = true)
    (sb_NoWord : PySem.W.subIn K (.ref C_NoWord) (.type "BaseException") = some true)
    (ty_NoWord : PySem.W.typeIn K (.ref C_NoWord) = some (.type "type"))
    (hd_NoWord : PySem.W.hasDictIn K C_NoWord = true)
    (x_NoHandler : PySem.W.excIn K C_NoHandler [.type "ValueError", .type "Exception", .type "BaseException", .type "object"] "ValueError.__new__" = true)
    (k_NoHandler : PySem.W.keepIn K (.ref C_NoHandler) = true)
    (sb_NoHandler : PySem.W.subIn K (.ref C_NoHandler) (.type "BaseException") = some true)
    (ty_NoHandler : PySem.W.typeIn K (.ref C_NoHandler) = some (.type "type"))
    (hd_NoHandler : PySem.W.hasDictIn K C_NoHandler = true)
    (ga_NoHandler : PySem.W.findIn K (.ref C_NoHandler) "__getattribute__" = some (some (.builtin "BaseException.__getattribute__")))
    (gt_NoHandler : PySem.W.findIn K (.ref C_NoHandler) "__getattr__" = some none)
    (cc_NoHandler : PySem.W.findIn K (.ref C_NoHandler) "__class__" = some (some (.builtin "object.__class__")))
    (mo_NoHandler : PySem.W.mroIn K C_NoHandler (.type "object") = some true)
    (ve_NoHandler : PySem.W.subIn K (.ref C_NoHandler) (.type "ValueError") = some true)
    (su_NoHandler_LoomError : PySem.W.subIn K (.ref C_NoHandler) (.ref C_LoomError) = some true)
    (su_NoHandler_NoWord : PySem.W.subIn K (.ref C_NoHandler) (.ref C_NoWord) = some false)
    (su_NoHandler_NoHandler : PySem.W.subIn K (.ref C_NoHandler) (.ref C_NoHandler) = some true)
    (su_NoHandler_Twice : PySem.W.subIn K (.ref C_NoHandler) (.ref C_Twice) = some false)
    (su_NoHandler_Stranger : PySem.W.subIn K (.ref C_NoHandler) (.ref C_Stranger) = some false)
    (su_NoHandler_NoCount : PySem.W.subIn K (.ref C_NoHandler) (.ref C_NoCount) = some false)
    (x_Twice : PySem.W.excIn K C_Twice [.type "ValueError", .type "Exception", .type "BaseException", .type "object"] "ValueError.__new__" = true)
    (k_Twice : PySem.W.keepIn K (.ref C_Twice) = true)
    (sb_Twice : PySem.W.subIn K (.ref C_Twice) (.type "BaseException") = some true)
    (ty_Twice : PySem.W.typeIn K (.ref C_Twice) = some (.type "type"))
    (hd_Twice : PySem.W.hasDictIn K C_Twice = true)
    (ga_Twice : PySem.W.findIn K (.ref C_Twice) "__getattribute__" = some (some (.builtin "BaseException.__getattribute__")))
    (gt_Twice : PySem.W.findIn K (.ref C_Twice) "__getattr__" = some none)
    (cc_Twice : PySem.W.findIn K (.ref C_Twice) "__class__" = some (some (.builtin "object.__class__")))
    (mo_Twice : PySem.W.mroIn K C_Twice (.type "object") = some true)
    (ve_Twice : PySem.W.subIn K (.ref C_Twice) (.type "ValueError") = some true)
    (su_Twice_LoomError : PySem.W.subIn K (.ref C_Twice) (.ref C_LoomError) = some true)
    (su_Twice_NoWord : PySem.W.subIn K (.ref C_Twice) (.ref C_NoWord) = some false)
    (su_Twice_NoHandler : PySem.W.subIn K (.ref C_Twice) (.ref C_NoHandler) = some false)
    (su_Twice_Twice : PySem.W.subIn K (.ref C_Twice) (.ref C_Twice) = some true)
    (su_Twice_Stranger : PySem.W.subIn K (.ref C_Twice) (.ref C_Stranger) = some false)
    (su_Twice_NoCount : PySem.W.subIn K (.ref C_Twice) (.ref C_NoCount) = some false)
    (x_Stranger : PySem.W.excIn K C_Stranger [.type "ValueError", .type "Exception", .type "BaseException", .type "object"] "ValueError.__new__" = true)
    (k_Stranger : PySem.W.keepIn K (.ref C_Stranger) = true)
    (sb_Stranger : PySem.W.subIn K (.ref C_Stranger) (.type "BaseException") = some true)
    (ty_Stranger : PySem.W.typeIn K (.ref C_Stranger) = some (.type "type"))
    (hd_Stranger : PySem.W.hasDictIn K C_Stranger = true)
    (ga_Stranger : PySem.W.findIn K (.ref C_Stranger) "__getattribute__" = some (some (.builtin "BaseException.__getattribute__")))
    (gt_Stranger : PySem.W.findIn K (.ref C_Stranger) "__getattr__" = some none)
    (cc_Stranger : PySem.W.findIn K (.ref C_Stranger) "__class__" = some (some (.builtin "object.__class__")))
    (mo_Stranger : PySem.W.mroIn K C_Stranger (.type "object") = some true)
    (ve_Stranger : PySem.W.subIn K (.ref C_Stranger) (.type "ValueError") = some true)
    (su_Stranger_LoomError : PySem.W.subIn K (.ref C_Stranger) (.ref C_LoomError) = some true)
    (su_Stranger_NoWord : PySem.W.subIn K (.ref C_Stranger) (.ref C_NoWord) = some false)
    (su_Stranger_NoHandler : PySem.W.subIn K (.ref C_Stranger) (.ref C_NoHandler) = some false)
    (su_Stranger_Twice : PySem.W.subIn K (.ref C_Stranger) (.ref C_Twice) = some false)
    (su_Stranger_Stranger : PySem.W.subIn K (.ref C_Stranger) (.ref C_Stranger) = some true)
    (su_Stranger_NoCount : PySem.W.subIn K (.ref C_Stranger) (.ref C_NoCount) = some false)
    (x_NoCount : PySem.W.excIn K C_NoCount [.type "ValueError", .type "Exception", .type "BaseException", .type "object"] "ValueError.__new__" = true)
    (k_NoCount : PySem.W.keepIn K (.ref C_NoCount) = true)
    (sb_NoCount : PySem.W.subIn K (.ref C_NoCount) (.type "BaseException") = some true)
    (ty_NoCount : PySem.W.typeIn K (.ref C_NoCount) = some (.type "type"))
    (hd_NoCount : PySem.W.hasDictIn K C_NoCount = true)
    (pg_Waits : PySem.W.plainGet K C_Waits Str.empty = true)
    (hd_Waits : PySem.W.hasDictIn K C_Waits = true)
    (po_Waits : PySem.W.plainOver K C_Waits = true)
    (sa_Waits : PySem.W.findIn K (.ref C_Waits) "__setattr__" = some (some (.builtin "object.__setattr__")))
    (mk_Waits : PySem.W.makesIn K C_Waits = true)
    (kc_Waits : PySem.W.keepIn K (.ref C_Waits) = true)
    (n_Waits_first_ones : PySem.W.findIn K (.ref C_Waits) "first_ones" = some none)
    (n_Waits_rows : PySem.W.findIn K (.ref C_Waits) "rows" = some none)
    (pg_Loom : PySem.W.plainGet K C_Loom Str.empty = true)
    (hd_Loom : PySem.W.hasDictIn K C_Loom = true)
    (po_Loom : PySem.W.plainOver K C_Loom = true)
    (sa_Loom : PySem.W.findIn K (.ref C_Loom) "__setattr__" = some (some (.builtin "object.__setattr__")))
    (mk_Loom : PySem.W.makesIn K C_Loom = true)
    (kc_Loom : PySem.W.keepIn K (.ref C_Loom) = true)
    (n_Loom_handlers : PySem.W.findIn K (.ref C_Loom) "handlers" = some none)
    (n_Loom_time : PySem.W.findIn K (.ref C_Loom) "time" = some none)
    (n_Loom_events : PySem.W.findIn K (.ref C_Loom) "events" = some none)
    (n_Loom_log : PySem.W.findIn K (.ref C_Loom) "log" = some none)
    (n_Loom_frames : PySem.W.findIn K (.ref C_Loom) "frames" = some none)
    (n_Loom_fresh : PySem.W.findIn K (.ref C_Loom) "fresh" = some none)
    (n_Loom_line : PySem.W.findIn K (.ref C_Loom) "line" = some none)
    (n_Loom_stood : PySem.W.findIn K (.ref C_Loom) "stood" = some none)
    (n_Loom_standings : PySem.W.findIn K (.ref C_Loom) "standings" = some none)
    (sg : PySem.W.specialIn K (.builtin "object.__class__") "__get__" = some (some (.builtin "getset_descriptor.__get__")))
    (st : PySem.W.takesIn K (.builtin "object.__class__") = some true)
    (a1 : PySem.W.nsIn K mainGlobals "_wall" = some (some (.ref f_Wall)))
    (l1 : K.lookup f_Wall = some ⟨oc1, od1, .func (PySem.W.fnOf "_wall" "_wall" (defArgs s_Wall) (defBody s_Wall) (defScope s_Wall) .none kV1 dc1 pm1 an1 cd1 ct1), sl1⟩)
    (c1 : PySem.W.codeIn K cd1 "_wall" = true)
    (k1 : PySem.W.keepIn K (.ref f_Wall) = true)
    (a2 : PySem.W.nsIn K mainGlobals "is_whole" = some (some (.ref f_isWhole)))
    (l2 : K.lookup f_isWhole = some ⟨oc2, od2, .func (PySem.W.fnOf "is_whole" "is_whole" (defArgs s_isWhole) (defBody s_isWhole) (defScope s_isWhole) .none kV2 dc2 pm2 an2 cd2 ct2), sl2⟩)
    (c2 : PySem.W.codeIn K cd2 "is_whole" = true)
    (k2 : PySem.W.keepIn K (.ref f_isWhole) = true)
    (a3 : PySem.W.nsIn K mainGlobals "is_word" = some (some (.ref f_isWord)))
    (l3 : K.lookup f_isWord = some ⟨oc3, od3, .func (PySem.W.fnOf "is_word" "is_word" (defArgs s_isWord) (defBody s_isWord) (defScope s_isWord) .none kV3 dc3 pm3 an3 cd3 ct3), sl3⟩)
    (c3 : PySem.W.codeIn K cd3 "is_word" = true)
    (k3 : PySem.W.keepIn K (.ref f_isWord) = true)
    (a4 : PySem.W.nsIn K mainGlobals "need_word" = some (some (.ref f_needWord)))
    (l4 : K.lookup f_needWord = some ⟨oc4, od4, .func (PySem.W.fnOf "need_word" "need_word" (defArgs s_needWord) (defBody s_needWord) (defScope s_needWord) .none kV4 dc4 pm4 an4 cd4 ct4), sl4⟩)
    (c4 : PySem.W.codeIn K cd4 "need_word" = true)
    (k4 : PySem.W.keepIn K (.ref f_needWord) = true)
    (a5 : PySem.W.nsIn K mainGlobals "is_deed" = some (some (.ref f_isDeed)))
    (l5 : K.lookup f_isDeed = some ⟨oc5, od5, .func (PySem.W.fnOf "is_deed" "is_deed" (defArgs s_isDeed) (defBody s_isDeed) (defScope s_isDeed) .none kV5 dc5 pm5 an5 cd5 ct5), sl5⟩)
    (c5 : PySem.W.codeIn K cd5 "is_deed" = true)
    (k5 : PySem.W.keepIn K (.ref f_isDeed) = true)
    (a6 : PySem.W.nsIn K mainGlobals "is_handler" = some (some (.ref f_isHandler)))
    (l6 : K.lookup f_isHandler = some ⟨oc6, od6, .func (PySem.W.fnOf "is_handler" "is_handler" (defArgs s_isHandler) (defBody s_isHandler) (defScope s_isHandler) .none kV6 dc6 pm6 an6 cd6 ct6), sl6⟩)
    (c6 : PySem.W.codeIn K cd6 "is_handler" = true)
    (k6 : PySem.W.keepIn K (.ref f_isHandler) = true)
    (a7 : PySem.W.nsIn K mainGlobals "need_handlers" = some (some (.ref f_needHandlers)))
    (l7 : K.lookup f_needHandlers = some ⟨oc7, od7, .func (PySem.W.fnOf "need_handlers" "need_handlers" (defArgs s_needHandlers) (defBody s_needHandlers) (defScope s_needHandlers) .none kV7 dc7 pm7 an7 cd7 ct7), sl7⟩)
    (c7 : PySem.W.codeIn K cd7 "need_handlers" = true)
    (k7 : PySem.W.keepIn K (.ref f_needHandlers) = true)
    (a8 : PySem.W.nsIn K mainGlobals "need_names" = some (some (.ref f_needNames)))
    (l8 : K.lookup f_needNames = some ⟨oc8, od8, .func (PySem.W.fnOf "need_names" "need_names" (defArgs s_needNames) (defBody s_needNames) (defScope s_needNames) .none kV8 dc8 pm8 an8 cd8 ct8), sl8⟩)
    (c8 : PySem.W.codeIn K cd8 "need_names" = true)
    (k8 : PySem.W.keepIn K (.ref f_needNames) = true)
    (a9 : PySem.W.findIn K (.ref C_Waits) "__init__" = some (some (.ref f_WaitsInit)))
    (i9 : PySem.W.isFn K (.ref f_WaitsInit) = true)
    (l9 : K.lookup f_WaitsInit = some ⟨oc9, od9, .func (PySem.W.fnOf "__init__" "Waits.__init__" (defArgs s_WaitsInit) (defBody s_WaitsInit) (defScope s_WaitsInit) .none kV9 dc9 pm9 an9 cd9 ct9), sl9⟩)
    (c9 : PySem.W.codeIn K cd9 "Waits.__init__" = true)
    (k9 : PySem.W.keepIn K (.ref f_WaitsInit) = true)
    (a10 : PySem.W.findIn K (.ref C_Waits) "sooner" = some (some (.ref f_WaitsSooner)))
    (i10 : PySem.W.isFn K (.ref f_WaitsSooner) = true)
    (l10 : K.lookup f_WaitsSooner = some ⟨oc10, od10, .func (PySem.W.fnOf "sooner" "Waits.sooner" (defArgs s_WaitsSooner) (defBody s_WaitsSooner) (defScope s_WaitsSooner) .none kV10 dc10 pm10 an10 cd10 ct10), sl10⟩)
    (c10 : PySem.W.codeIn K cd10 "Waits.sooner" = true)
    (k10 : PySem.W.keepIn K (.ref f_WaitsSooner) = true)
    (a11 : PySem.W.findIn K (.ref C_Waits) "later" = some (some (.ref f_WaitsLater)))
    (i11 : PySem.W.isFn K (.ref f_WaitsLater) = true)
    (l11 : K.lookup f_WaitsLater = some ⟨oc11, od11, .func (PySem.W.fnOf "later" "Waits.later" (defArgs s_WaitsLater) (defBody s_WaitsLater) (defScope s_WaitsLater) .none kV11 dc11 pm11 an11 cd11 ct11), sl11⟩)
    (c11 : PySem.W.codeIn K cd11 "Waits.later" = true)
    (k11 : PySem.W.keepIn K (.ref f_WaitsLater) = true)
    (a12 : PySem.W.findIn K (.ref C_Waits) "lineup" = some (some (.ref f_WaitsLineup)))
    (i12 : PySem.W.isFn K (.ref f_WaitsLineup) = true)
    (l12 : K.lookup f_WaitsLineup = some ⟨oc12, od12, .func (PySem.W.fnOf "lineup" "Waits.lineup" (defArgs s_WaitsLineup) (defBody s_WaitsLineup) (defScope s_WaitsLineup) .none kV12 dc12 pm12 an12 cd12 ct12), sl12⟩)
    (c12 : PySem.W.codeIn K cd12 "Waits.lineup" = true)
    (k12 : PySem.W.keepIn K (.ref f_WaitsLineup) = true)
    (a13 : PySem.W.findIn K (.ref C_Waits) "lead" = some (some (.ref f_WaitsLead)))
    (i13 : PySem.W.isFn K (.ref f_WaitsLead) = true)
    (l13 : K.lookup f_WaitsLead = some ⟨oc13, od13, .func (PySem.W.fnOf "lead" "Waits.lead" (defArgs s_WaitsLead) (defBody s_WaitsLead) (defScope s_WaitsLead) .none kV13 dc13 pm13 an13 cd13 ct13), sl13⟩)
    (c13 : PySem.W.codeIn K cd13 "Waits.lead" = true)
    (k13 : PySem.W.keepIn K (.ref f_WaitsLead) = true)
    (a14 : PySem.W.findIn K (.ref C_Waits) "drop" = some (some (.ref f_WaitsDrop)))
    (i14 : PySem.W.isFn K (.ref f_WaitsDrop) = true)
    (l14 : K.lookup f_WaitsDrop = some ⟨oc14, od14, .func (PySem.W.fnOf "drop" "Waits.drop" (defArgs s_WaitsDrop) (defBody s_WaitsDrop) (defScope s_WaitsDrop) .none kV14 dc14 pm14 an14 cd14 ct14), sl14⟩)
    (c14 : PySem.W.codeIn K cd14 "Waits.drop" = true)
    (k14 : PySem.W.keepIn K (.ref f_WaitsDrop) = true)
    (a15 : PySem.W.findIn K (.ref C_Loom) "__init__" = some (some (.ref f_LoomInit)))
    (i15 : PySem.W.isFn K (.ref f_LoomInit) = true)
    (l15 : K.lookup f_LoomInit = some ⟨oc15, od15, .func (PySem.W.fnOf "__init__" "Loom.__init__" (defArgs s_LoomInit) (defBody s_LoomInit) (defScope s_LoomInit) .none kV15 dc15 pm15 an15 cd15 ct15), sl15⟩)
    (c15 : PySem.W.codeIn K cd15 "Loom.__init__" = true)
    (k15 : PySem.W.keepIn K (.ref f_LoomInit) = true)
    (a16 : PySem.W.findIn K (.ref C_Loom) "come" = some (some (.ref f_LoomCome)))
    (i16 : PySem.W.isFn K (.ref f_LoomCome) = true)
    (l16 : K.lookup f_LoomCome = some ⟨oc16, od16, .func (PySem.W.fnOf "come" "Loom.come" (defArgs s_LoomCome) (defBody s_LoomCome) (defScope s_LoomCome) .none kV16 dc16 pm16 an16 cd16 ct16), sl16⟩)
    (c16 : PySem.W.codeIn K cd16 "Loom.come" = true)
    (k16 : PySem.W.keepIn K (.ref f_LoomCome) = true)
    (a17 : PySem.W.findIn K (.ref C_Loom) "go" = some (some (.ref f_LoomGo)))
    (i17 : PySem.W.isFn K (.ref f_LoomGo) = true)
    (l17 : K.lookup f_LoomGo = some ⟨oc17, od17, .func (PySem.W.fnOf "go" "Loom.go" (defArgs s_LoomGo) (defBody s_LoomGo) (defScope s_LoomGo) .none kV17 dc17 pm17 an17 cd17 ct17), sl17⟩)
    (c17 : PySem.W.codeIn K cd17 "Loom.go" = true)
    (k17 : PySem.W.keepIn K (.ref f_LoomGo) = true)
    (a18 : PySem.W.findIn K (.ref C_Loom) "made" = some (some (.ref f_LoomMade)))
    (i18 : PySem.W.isFn K (.ref f_LoomMade) = true)
    (l18 : K.lookup f_LoomMade = some ⟨oc18, od18, .func (PySem.W.fnOf "made" "Loom.made" (defArgs s_LoomMade) (defBody s_LoomMade) (defScope s_LoomMade) .none kV18 dc18 pm18 an18 cd18 ct18), sl18⟩)
    (c18 : PySem.W.codeIn K cd18 "Loom.made" = true)
    (k18 : PySem.W.keepIn K (.ref f_LoomMade) = true)
    (a19 : PySem.W.findIn K (.ref C_Loom) "send" = some (some (.ref f_LoomSend)))
    (i19 : PySem.W.isFn K (.ref f_LoomSend) = true)
    (l19 : K.lookup f_LoomSend = some ⟨oc19, od19, .func (PySem.W.fnOf "send" "Loom.send" (defArgs s_LoomSend) (defBody s_LoomSend) (defScope s_LoomSend) .none kV19 dc19 pm19 an19 cd19 ct19), sl19⟩)
    (c19 : PySem.W.codeIn K cd19 "Loom.send" = true)
    (k19 : PySem.W.keepIn K (.ref f_LoomSend) = true)
    (a20 : PySem.W.findIn K (.ref C_Loom) "step" = some (some (.ref f_LoomStep)))
    (i20 : PySem.W.isFn K (.ref f_LoomStep) = true)
    (l20 : K.lookup f_LoomStep = some ⟨oc20, od20, .func (PySem.W.fnOf "step" "Loom.step" (defArgs s_LoomStep) (defBody s_LoomStep) (defScope s_LoomStep) .none kV20 dc20 pm20 an20 cd20 ct20), sl20⟩)
    (c20 : PySem.W.codeIn K cd20 "Loom.step" = true)
    (k20 : PySem.W.keepIn K (.ref f_LoomStep) = true)
    (a21 : PySem.W.findIn K (.ref C_Loom) "begin" = some (some (.ref f_LoomBegin)))
    (i21 : PySem.W.isFn K (.ref f_LoomBegin) = true)
    (l21 : K.lookup f_LoomBegin = some ⟨oc21, od21, .func (PySem.W.fnOf "begin" "Loom.begin" (defArgs s_LoomBegin) (defBody s_LoomBegin) (defScope s_LoomBegin) .none kV21 dc21 pm21 an21 cd21 ct21), sl21⟩)
    (c21 : PySem.W.codeIn K cd21 "Loom.begin" = true)
    (k21 : PySem.W.keepIn K (.ref f_LoomBegin) = true)
    (a22 : PySem.W.findIn K (.ref C_Loom) "go_on" = some (some (.ref f_LoomGoOn)))
    (i22 : PySem.W.isFn K (.ref f_LoomGoOn) = true)
    (l22 : K.lookup f_LoomGoOn = some ⟨oc22, od22, .func (PySem.W.fnOf "go_on" "Loom.go_on" (defArgs s_LoomGoOn) (defBody s_LoomGoOn) (defScope s_LoomGoOn) .none kV22 dc22 pm22 an22 cd22 ct22), sl22⟩)
    (c22 : PySem.W.codeIn K cd22 "Loom.go_on" = true)
    (k22 : PySem.W.keepIn K (.ref f_LoomGoOn) = true)
    (a23 : PySem.W.findIn K (.ref C_Loom) "call" = some (some (.ref f_LoomCall)))
    (i23 : PySem.W.isFn K (.ref f_LoomCall) = true)
    (l23 : K.lookup f_LoomCall = some ⟨oc23, od23, .func (PySem.W.fnOf "call" "Loom.call" (defArgs s_LoomCall) (defBody s_LoomCall) (defScope s_LoomCall) .none kV23 dc23 pm23 an23 cd23 ct23), sl23⟩)
    (c23 : PySem.W.codeIn K cd23 "Loom.call" = true)
    (k23 : PySem.W.keepIn K (.ref f_LoomCall) = true)
    (a24 : PySem.W.findIn K (.ref C_Loom) "do" = some (some (.ref f_LoomDo)))
    (i24 : PySem.W.isFn K (.ref f_LoomDo) = true)
    (l24 : K.lookup f_LoomDo = some ⟨oc24, od24, .func (PySem.W.fnOf "do" "Loom.do" (defArgs s_LoomDo) (defBody s_LoomDo) (defScope s_LoomDo) .none kV24 dc24 pm24 an24 cd24 ct24), sl24⟩)
    (c24 : PySem.W.codeIn K cd24 "Loom.do" = true)
    (k24 : PySem.W.keepIn K (.ref f_LoomDo) = true)
    (a25 : PySem.W.findIn K (.ref C_Loom) "make" = some (some (.ref f_LoomMake)))
    (i25 : PySem.W.isFn K (.ref f_LoomMake) = true)
    (l25 : K.lookup f_LoomMake = some ⟨oc25, od25, .func (PySem.W.fnOf "make" "Loom.make" (defArgs s_LoomMake) (defBody s_LoomMake) (defScope s_LoomMake) .none kV25 dc25 pm25 an25 cd25 ct25), sl25⟩)
    (c25 : PySem.W.codeIn K cd25 "Loom.make" = true)
    (k25 : PySem.W.keepIn K (.ref f_LoomMake) = true)
    (a26 : PySem.W.findIn K (.ref C_Loom) "run" = some (some (.ref f_LoomRun)))
    (i26 : PySem.W.isFn K (.ref f_LoomRun) = true)
    (l26 : K.lookup f_LoomRun = some ⟨oc26, od26, .func (PySem.W.fnOf "run" "Loom.run" (defArgs s_LoomRun) (defBody s_LoomRun) (defScope s_LoomRun) .none kV26 dc26 pm26 an26 cd26 ct26), sl26⟩)
    (c26 : PySem.W.codeIn K cd26 "Loom.run" = true)
    (k26 : PySem.W.keepIn K (.ref f_LoomRun) = true)
    (a27 : PySem.W.findIn K (.ref C_Loom) "waiting" = some (some (.ref f_LoomWaiting)))
    (i27 : PySem.W.isFn K (.ref f_LoomWaiting) = true)
    (l27 : K.lookup f_LoomWaiting = some ⟨oc27, od27, .func (PySem.W.fnOf "waiting" "Loom.waiting" (defArgs s_LoomWaiting) (defBody s_LoomWaiting) (defScope s_LoomWaiting) .none kV27 dc27 pm27 an27 cd27 ct27), sl27⟩)
    (c27 : PySem.W.codeIn K cd27 "Loom.waiting" = true)
    (k27 : PySem.W.keepIn K (.ref f_LoomWaiting) = true)
    (a28 : PySem.W.findIn K (.ref C_Loom) "around" = some (some (.ref f_LoomAround)))
    (i28 : PySem.W.isFn K (.ref f_LoomAround) = true)
    (l28 : K.lookup f_LoomAround = some ⟨oc28, od28, .func (PySem.W.fnOf "around" "Loom.around" (defArgs s_LoomAround) (defBody s_LoomAround) (defScope s_LoomAround) .none kV28 dc28 pm28 an28 cd28 ct28), sl28⟩)
    (c28 : PySem.W.codeIn K cd28 "Loom.around" = true)
    (k28 : PySem.W.keepIn K (.ref f_LoomAround) = true)
    (a29 : PySem.W.findIn K (.ref C_Loom) "standing" = some (some (.ref f_LoomStanding)))
    (i29 : PySem.W.isFn K (.ref f_LoomStanding) = true)
    (l29 : K.lookup f_LoomStanding = some ⟨oc29, od29, .func (PySem.W.fnOf "standing" "Loom.standing" (defArgs s_LoomStanding) (defBody s_LoomStanding) (defScope s_LoomStanding) .none kV29 dc29 pm29 an29 cd29 ct29), sl29⟩)
    (c29 : PySem.W.codeIn K cd29 "Loom.standing" = true)
    (k29 : PySem.W.keepIn K (.ref f_LoomStanding) = true)
    (a30 : PySem.W.findIn K (.ref C_Loom) "idle" = some (some (.ref f_LoomIdle)))
    (i30 : PySem.W.isFn K (.ref f_LoomIdle) = true)
    (l30 : K.lookup f_LoomIdle = some ⟨oc30, od30, .func (PySem.W.fnOf "idle" "Loom.idle" (defArgs s_LoomIdle) (defBody s_LoomIdle) (defScope s_LoomIdle) .none kV30 dc30 pm30 an30 cd30 ct30), sl30⟩)
    (c30 : PySem.W.codeIn K cd30 "Loom.idle" = true)
    (k30 : PySem.W.keepIn K (.ref f_LoomIdle) = true)
    (a31 : PySem.W.nsIn K mainGlobals "_law_told_at" = some (some (.ref f_ltoldAt)))
    (l31 : K.lookup f_ltoldAt = some ⟨oc31, od31, .func (PySem.W.fnOf "_law_told_at" "_law_told_at" (defArgs s_ltoldAt) (defBody s_ltoldAt) (defScope s_ltoldAt) .none kV31 dc31 pm31 an31 cd31 ct31), sl31⟩)
    (c31 : PySem.W.codeIn K cd31 "_law_told_at" = true)
    (k31 : PySem.W.keepIn K (.ref f_ltoldAt) = true)
    (a32 : PySem.W.nsIn K mainGlobals "_law_mixed" = some (some (.ref f_lmixed)))
    (l32 : K.lookup f_lmixed = some ⟨oc32, od32, .func (PySem.W.fnOf "_law_mixed" "_law_mixed" (defArgs s_lmixed) (defBody s_lmixed) (defScope s_lmixed) .none kV32 dc32 pm32 an32 cd32 ct32), sl32⟩)
    (c32 : PySem.W.codeIn K cd32 "_law_mixed" = true)
    (k32 : PySem.W.keepIn K (.ref f_lmixed) = true)
    (a33 : PySem.W.nsIn K mainGlobals "_law_name_by" = some (some (.ref f_lnameBy)))
    (l33 : K.lookup f_lnameBy = some ⟨oc33, od33, .func (PySem.W.fnOf "_law_name_by" "_law_name_by" (defArgs s_lnameBy) (defBody s_lnameBy) (defScope s_lnameBy) .none kV33 dc33 pm33 an33 cd33 ct33), sl33⟩)
    (c33 : PySem.W.codeIn K cd33 "_law_name_by" = true)
    (k33 : PySem.W.keepIn K (.ref f_lnameBy) = true)
    (a34 : PySem.W.nsIn K mainGlobals "_law_deed_by" = some (some (.ref f_ldeedBy)))
    (l34 : K.lookup f_ldeedBy = some ⟨oc34, od34, .func (PySem.W.fnOf "_law_deed_by" "_law_deed_by" (defArgs s_ldeedBy) (defBody s_ldeedBy) (defScope s_ldeedBy) .none kV34 dc34 pm34 an34 cd34 ct34), sl34⟩)
    (c34 : PySem.W.codeIn K cd34 "_law_deed_by" = true)
    (k34 : PySem.W.keepIn K (.ref f_ldeedBy) = true)
    (a35 : PySem.W.nsIn K mainGlobals "_law_handler_by" = some (some (.ref f_lhandlerBy)))
    (l35 : K.lookup f_lhandlerBy = some ⟨oc35, od35, .func (PySem.W.fnOf "_law_handler_by" "_law_handler_by" (defArgs s_lhandlerBy) (defBody s_lhandlerBy) (defScope s_lhandlerBy) .none kV35 dc35 pm35 an35 cd35 ct35), sl35⟩)
    (c35 : PySem.W.codeIn K cd35 "_law_handler_by" = true)
    (k35 : PySem.W.keepIn K (.ref f_lhandlerBy) = true)
    (a36 : PySem.W.nsIn K mainGlobals "_law_twisted" = some (some (.ref f_ltwisted)))
    (l36 : K.lookup f_ltwisted = some ⟨oc36, od36, .func (PySem.W.fnOf "_law_twisted" "_law_twisted" (defArgs s_ltwisted) (defBody s_ltwisted) (defScope s_ltwisted) .none kV36 dc36 pm36 an36 cd36 ct36), sl36⟩)
    (c36 : PySem.W.codeIn K cd36 "_law_twisted" = true)
    (k36 : PySem.W.keepIn K (.ref f_ltwisted) = true)
    (a37 : PySem.W.nsIn K mainGlobals "_law_bad_deed" = some (some (.ref f_lbadDeed)))
    (l37 : K.lookup f_lbadDeed = some ⟨oc37, od37, .func (PySem.W.fnOf "_law_bad_deed" "_law_bad_deed" (defArgs s_lbadDeed) (defBody s_lbadDeed) (defScope s_lbadDeed) .none kV37 dc37 pm37 an37 cd37 ct37), sl37⟩)
    (c37 : PySem.W.codeIn K cd37 "_law_bad_deed" = true)
    (k37 : PySem.W.keepIn K (.ref f_lbadDeed) = true)
    (a38 : PySem.W.nsIn K mainGlobals "_law_wrong" = some (some (.ref f_lwrong)))
    (l38 : K.lookup f_lwrong = some ⟨oc38, od38, .func (PySem.W.fnOf "_law_wrong" "_law_wrong" (defArgs s_lwrong) (defBody s_lwrong) (defScope s_lwrong) .none kV38 dc38 pm38 an38 cd38 ct38), sl38⟩)
    (c38 : PySem.W.codeIn K cd38 "_law_wrong" = true)
    (k38 : PySem.W.keepIn K (.ref f_lwrong) = true)
    (a39 : PySem.W.nsIn K mainGlobals "_law_kind" = some (some (.ref f_lkind)))
    (l39 : K.lookup f_lkind = some ⟨oc39, od39, .func (PySem.W.fnOf "_law_kind" "_law_kind" (defArgs s_lkind) (defBody s_lkind) (defScope s_lkind) .none kV39 dc39 pm39 an39 cd39 ct39), sl39⟩)
    (c39 : PySem.W.codeIn K cd39 "_law_kind" = true)
    (k39 : PySem.W.keepIn K (.ref f_lkind) = true)
    (a40 : PySem.W.nsIn K mainGlobals "_law_refused" = some (some (.ref f_lrefused)))
    (l40 : K.lookup f_lrefused = some ⟨oc40, od40, .func (PySem.W.fnOf "_law_refused" "_law_refused" (defArgs s_lrefused) (defBody s_lrefused) (defScope s_lrefused) .none kV40 dc40 pm40 an40 cd40 ct40), sl40⟩)
    (c40 : PySem.W.codeIn K cd40 "_law_refused" = true)
    (k40 : PySem.W.keepIn K (.ref f_lrefused) = true)
    (a41 : PySem.W.nsIn K mainGlobals "_law_due" = some (some (.ref f_ldue)))
    (l41 : K.lookup f_ldue = some ⟨oc41, od41, .func (PySem.W.fnOf "_law_due" "_law_due" (defArgs s_ldue) (defBody s_ldue) (defScope s_ldue) .none kV41 dc41 pm41 an41 cd41 ct41), sl41⟩)
    (c41 : PySem.W.codeIn K cd41 "_law_due" = true)
    (k41 : PySem.W.keepIn K (.ref f_ldue) = true)
    (a42 : PySem.W.nsIn K mainGlobals "_law_estranged" = some (some (.ref f_lestranged)))
    (l42 : K.lookup f_lestranged = some ⟨oc42, od42, .func (PySem.W.fnOf "_law_estranged" "_law_estranged" (defArgs s_lestranged) (defBody s_lestranged) (defScope s_lestranged) .none kV42 dc42 pm42 an42 cd42 ct42), sl42⟩)
    (c42 : PySem.W.codeIn K cd42 "_law_estranged" = true)
    (k42 : PySem.W.keepIn K (.ref f_lestranged) = true)
    (a43 : PySem.W.nsIn K mainGlobals "_law_kinds" = some (some (.ref f_lkinds)))
    (l43 : K.lookup f_lkinds = some ⟨oc43, od43, .func (PySem.W.fnOf "_law_kinds" "_law_kinds" (defArgs s_lkinds) (defBody s_lkinds) (defScope s_lkinds) .none kV43 dc43 pm43 an43 cd43 ct43), sl43⟩)
    (c43 : PySem.W.codeIn K cd43 "_law_kinds" = true)
    (k43 : PySem.W.keepIn K (.ref f_lkinds) = true)
    (a44 : PySem.W.nsIn K mainGlobals "_law_let_by" = some (some (.ref f_lletBy)))
    (l44 : K.lookup f_lletBy = some ⟨oc44, od44, .func (PySem.W.fnOf "_law_let_by" "_law_let_by" (defArgs s_lletBy) (defBody s_lletBy) (defScope s_lletBy) .none kV44 dc44 pm44 an44 cd44 ct44), sl44⟩)
    (c44 : PySem.W.codeIn K cd44 "_law_let_by" = true)
    (k44 : PySem.W.keepIn K (.ref f_lletBy) = true)
    (a45 : PySem.W.nsIn K mainGlobals "law" = some (some (.ref f_law)))
    (l45 : K.lookup f_law = some ⟨oc45, od45, .func (PySem.W.fnOf "law" "law" (defArgs s_law) (defBody s_law) (defScope s_law) .none kV45 dc45 pm45 an45 cd45 ct45), sl45⟩)
    (c45 : PySem.W.codeIn K cd45 "law" = true)
    (k45 : PySem.W.keepIn K (.ref f_law) = true)
    (z_isinstance : PySem.W.nsIn K mainGlobals "isinstance" = some none)
    (z_int : PySem.W.nsIn K mainGlobals "int" = some none)
    (z_bool : PySem.W.nsIn K mainGlobals "bool" = some none)
    (z_str : PySem.W.nsIn K mainGlobals "str" = some none)
    (z_len : PySem.W.nsIn K mainGlobals "len" = some none)
    (z_all : PySem.W.nsIn K mainGlobals "all" = some none)
    (z_tuple : PySem.W.nsIn K mainGlobals "tuple" = some none)
    (z_list : PySem.W.nsIn K mainGlobals "list" = some none)
    (z_range : PySem.W.nsIn K mainGlobals "range" = some none)
    (z_ValueError : PySem.W.nsIn K mainGlobals "ValueError" = some none)
    (a_LETTERS : PySem.W.nsIn K mainGlobals "LETTERS" = some (some u_LETTERS))
    (r_LETTERS : RelV (.str "abcdefghijklmnopqrstuvwxyz") u_LETTERS)
    (a_MOST_SIGNS : PySem.W.nsIn K mainGlobals "MOST_SIGNS" = some (some u_MOST_SIGNS))
    (r_MOST_SIGNS : RelV (.int 12) u_MOST_SIGNS)
    (a_MOST_HANDLERS : PySem.W.nsIn K mainGlobals "MOST_HANDLERS" = some (some u_MOST_HANDLERS))
    (r_MOST_HANDLERS : RelV (.int 40) u_MOST_HANDLERS)
    (a_MOST_DEEDS : PySem.W.nsIn K mainGlobals "MOST_DEEDS" = some (some u_MOST_DEEDS))
    (r_MOST_DEEDS : RelV (.int 30) u_MOST_DEEDS)
    (a_MOST_TICKS : PySem.W.nsIn K mainGlobals "MOST_TICKS" = some (some u_MOST_TICKS))
    (r_MOST_TICKS : RelV (.int 1000000000) u_MOST_TICKS)
    (a_WORDED : PySem.W.nsIn K mainGlobals "WORDED" = some (some (.ref t_WORDED)))
    (t0_WORDED : K.lookup t_WORDED = some to_WORDED)
    (t1_WORDED : to_WORDED.cls = PySem.Value.type "tuple")
    (t2_WORDED : to_WORDED.data = PySem.Data.seq ti_WORDED tn_WORDED)
    (t3_WORDED : ti_WORDED.size ≤ PySem.sizeLine)
    (t4_WORDED : Vals [.str "now", .str "soon", .str "cancel", .str "join", .str "leave"] ti_WORDED.toList)
    : ∃ T : Tx K mg, fa = T.f_law ∧ ∀ (s : Shared) (v : Value), BindsTo s T.d_law ⟨[v], []⟩ [("_law_script", v)] := by
  have F1 := fun_mk (st := s_Wall) l1 c1 k1
  have b1 := F1.binds (ps := ["k"]) fun _ _ _ _ _ _ us hl => match us, hl with | [_], _ => rfl
  have F2 := fun_mk (st := s_isWhole) l2 c2 k2
  have b2 := F2.binds (ps := ["thing"]) fun _ _ _ _ _ _ us hl => match us, hl with | [_], _ => rfl
  have F3 := fun_mk (st := s_isWord) l3 c3 k3
  have b3 := F3.binds (ps := ["thing"]) fun _ _ _ _ _ _ us hl => match us, hl with | [_], _ => rfl
  have F4 := fun_mk (st := s_needWord) l4 c4 k4
  have b4 := F4.binds (ps := ["thing"]) fun _ _ _ _ _ _ us hl => match us, hl with | [_], _ => rfl
  have F5 := fun_mk (st := s_isDeed) l5 c5 k5
  have b5 := F5.binds (ps := ["thing"]) fun _ _ _ _ _ _ us hl => match us, hl with | [_], _ => rfl
  have F6 := fun_mk (st := s_isHandler) l6 c6 k6
  have b6 := F6.binds (ps := ["thing"]) fun _ _ _ _ _ _ us hl => match us, hl with | [_], _ => rfl
  have F7 := fun_mk (st := s_needHandlers) l7 c7 k7
  have b7 := F7.binds (ps := ["handlers"]) fun _ _ _ _ _ _ us hl => match us, hl with | [_], _ => rfl
  have F8 := fun_mk (st := s_needNames) l8 c8 k8
  have b8 := F8.binds (ps := ["handlers", "names"]) fun _ _ _ _ _ _ us hl => match us, hl with | [_, _], _ => rfl
  have F9 := fun_mk (st := s_WaitsInit) l9 c9 k9
  have b9 := F9.binds (ps := ["self"]) fun _ _ _ _ _ _ us hl => match us, hl with | [_], _ => rfl
  have F10 := fun_mk (st := s_WaitsSooner) l10 c10 k10
  have b10 := F10.binds (ps := ["self", "number"]) fun _ _ _ _ _ _ us hl => match us, hl with | [_, _], _ => rfl
  have F11 := fun_mk (st := s_WaitsLater) l11 c11 k11
  have b11 := F11.binds (ps := ["self", "number", "due"]) fun _ _ _ _ _ _ us hl => match us, hl with | [_, _, _], _ => rfl
  have F12 := fun_mk (st := s_WaitsLineup) l12 c12 k12
  have b12 := F12.binds (ps := ["self"]) fun _ _ _ _ _ _ us hl => match us, hl with | [_], _ => rfl
  have F13 := fun_mk (st := s_WaitsLead) l13 c13 k13
  have b13 := F13.binds (ps := ["self"]) fun _ _ _ _ _ _ us hl => match us, hl with | [_], _ => rfl
  have F14 := fun_mk (st := s_WaitsDrop) l14 c14 k14
  have b14 := F14.binds (ps := ["self", "numbers"]) fun _ _ _ _ _ _ us hl => match us, hl with | [_, _], _ => rfl
  have F15 := fun_mk (st := s_LoomInit) l15 c15 k15
  have b15 := F15.binds (ps := ["self", "handlers", "names"]) fun _ _ _ _ _ _ us hl => match us, hl with | [_, _, _], _ => rfl
  have F16 := fun_mk (st := s_LoomCome) l16 c16 k16
  have b16 := F16.binds (ps := ["self", "name"]) fun _ _ _ _ _ _ us hl => match us, hl with | [_, _], _ => rfl
  have F17 := fun_mk (st := s_LoomGo) l17 c17 k17
  have b17 := F17.binds (ps := ["self", "name"]) fun _ _ _ _ _ _ us hl => match us, hl with | [_, _], _ => rfl
  have F18 := fun_mk (st := s_LoomMade) l18 c18 k18
  have b18 := F18.binds (ps := ["self", "word", "maker", "road", "due"]) fun _ _ _ _ _ _ us hl => match us, hl with | [_, _, _, _, _], _ => rfl
  have F19 := fun_mk (st := s_LoomSend) l19 c19 k19
  have b19 := F19.binds (ps := ["self", "word"]) fun _ _ _ _ _ _ us hl => match us, hl with | [_, _], _ => rfl
  have F20 := fun_mk (st := s_LoomStep) l20 c20 k20
  have b20 := F20.binds (ps := ["self"]) fun _ _ _ _ _ _ us hl => match us, hl with | [_], _ => rfl
  have F21 := fun_mk (st := s_LoomBegin) l21 c21 k21
  have b21 := F21.binds (ps := ["self", "number"]) fun _ _ _ _ _ _ us hl => match us, hl with | [_, _], _ => rfl
  have F22 := fun_mk (st := s_LoomGoOn) l22 c22 k22
  have b22 := F22.binds (ps := ["self", "frame"]) fun _ _ _ _ _ _ us hl => match us, hl with | [_, _], _ => rfl
  have F23 := fun_mk (st := s_LoomCall) l23 c23 k23
  have b23 := F23.binds (ps := ["self", "frame", "name"]) fun _ _ _ _ _ _ us hl => match us, hl with | [_, _, _], _ => rfl
  have F24 := fun_mk (st := s_LoomDo) l24 c24 k24
  have b24 := F24.binds (ps := ["self", "frame", "deed"]) fun _ _ _ _ _ _ us hl => match us, hl with | [_, _, _], _ => rfl
  have F25 := fun_mk (st := s_LoomMake) l25 c25 k25
  have b25 := F25.binds (ps := ["self", "maker", "deed"]) fun _ _ _ _ _ _ us hl => match us, hl with | [_, _, _], _ => rfl
  have F26 := fun_mk (st := s_LoomRun) l26 c26 k26
  have b26 := F26.binds (ps := ["self", "most"]) fun _ _ _ _ _ _ us hl => match us, hl with | [_, _], _ => rfl
  have F27 := fun_mk (st := s_LoomWaiting) l27 c27 k27
  have b27 := F27.binds (ps := ["self"]) fun _ _ _ _ _ _ us hl => match us, hl with | [_], _ => rfl
  have F28 := fun_mk (st := s_LoomAround) l28 c28 k28
  have b28 := F28.binds (ps := ["self"]) fun _ _ _ _ _ _ us hl => match us, hl with | [_], _ => rfl
  have F29 := fun_mk (st := s_LoomStanding) l29 c29 k29
  have b29 := F29.binds (ps := ["self"]) fun _ _ _ _ _ _ us hl => match us, hl with | [_], _ => rfl
  have F30 := fun_mk (st := s_LoomIdle) l30 c30 k30
  have b30 := F30.binds (ps := ["self"]) fun _ _ _ _ _ _ us hl => match us, hl with | [_], _ => rfl
  have F31 := fun_mk (st := s_ltoldAt) l31 c31 k31
  have b31 := F31.binds (ps := ["_law_script", "_law_place"]) fun _ _ _ _ _ _ us hl => match us, hl with | [_, _], _ => rfl
  have F32 := fun_mk (st := s_lmixed) l32 c32 k32
  have b32 := F32.binds (ps := ["_law_cell", "_law_k", "_law_many"]) fun _ _ _ _ _ _ us hl => match us, hl with | [_, _, _], _ => rfl
  have F33 := fun_mk (st := s_lnameBy) l33 c33 k33
  have b33 := F33.binds (ps := ["_law_k", "_law_count"]) fun _ _ _ _ _ _ us hl => match us, hl with | [_, _], _ => rfl
  have F34 := fun_mk (st := s_ldeedBy) l34 c34 k34
  have b34 := F34.binds (ps := ["_law_cell", "_law_k", "_law_count"]) fun _ _ _ _ _ _ us hl => match us, hl with | [_, _, _], _ => rfl
  have F35 := fun_mk (st := s_lhandlerBy) l35 c35 k35
  have b35 := F35.binds (ps := ["_law_cell", "_law_k", "_law_count"]) fun _ _ _ _ _ _ us hl => match us, hl with | [_, _, _], _ => rfl
  have F36 := fun_mk (st := s_ltwisted) l36 c36 k36
  have b36 := F36.binds (ps := ["_law_k"]) fun _ _ _ _ _ _ us hl => match us, hl with | [_], _ => rfl
  have F37 := fun_mk (st := s_lbadDeed) l37 c37 k37
  have b37 := F37.binds (ps := ["_law_k"]) fun _ _ _ _ _ _ us hl => match us, hl with | [_], _ => rfl
  have F38 := fun_mk (st := s_lwrong) l38 c38 k38
  have b38 := F38.binds (ps := ["_law_one", "_law_way", "_law_k"]) fun _ _ _ _ _ _ us hl => match us, hl with | [_, _, _], _ => rfl
  have F39 := fun_mk (st := s_lkind) l39 c39 k39
  have b39 := F39.binds (ps := ["_law_error"]) fun _ _ _ _ _ _ us hl => match us, hl with | [_], _ => rfl
  have F40 := fun_mk (st := s_lrefused) l40 c40 k40
  have b40 := F40.binds (ps := ["_law_handlers", "_law_way"]) fun _ _ _ _ _ _ us hl => match us, hl with | [_, _], _ => rfl
  have F41 := fun_mk (st := s_ldue) l41 c41 k41
  have b41 := F41.binds (ps := ["_law_handlers", "_law_wrong_here", "_law_place", "_law_strange"]) fun _ _ _ _ _ _ us hl => match us, hl with | [_, _, _, _], _ => rfl
  have F42 := fun_mk (st := s_lestranged) l42 c42 k42
  have b42 := F42.binds (ps := ["_law_one", "_law_cell"]) fun _ _ _ _ _ _ us hl => match us, hl with | [_, _], _ => rfl
  have F43 := fun_mk (st := s_lkinds) l43 c43 k43
  have b43 := F43.binds (ps := ["_law_good"]) fun _ _ _ _ _ _ us hl => match us, hl with | [_], _ => rfl
  have F44 := fun_mk (st := s_lletBy) l44 c44 k44
  have b44 := F44.binds (ps := ["_law_handlers", "_law_place"]) fun _ _ _ _ _ _ us hl => match us, hl with | [_, _], _ => rfl
  have F45 := fun_mk (st := s_law) l45 c45 k45
  have b45 := F45.binds (ps := ["_law_script"]) fun _ _ _ _ _ _ us hl => match us, hl with | [_], _ => rfl
  have e : fa = f_law := by
    have e0 := hfa.symm.trans (PySem.W.mg_of X G a45)
    cases e0
    rfl
  exact ⟨{
    c_LoomError := C_LoomError
    g_LoomError := PySem.W.mg_of X G aC_LoomError
    x_LoomError := x_LoomError
    k_LoomError := k_LoomError
    sb_LoomError := sb_LoomError
    ty_LoomError := ty_LoomError
    hd_LoomError := hd_LoomError
    c_NoWord := C_NoWord
    g_NoWord := PySem.W.mg_of X G aC_NoWord
    x_NoWord := x_NoWord
    k_NoWord := k_NoWord
    sb_NoWord := sb_NoWord
    ty_NoWord := ty_NoWord
    hd_NoWord := hd_NoWord
    c_NoHandler := C_NoHandler
    g_NoHandler := PySem.W.mg_of X G aC_NoHandler
    x_NoHandler := x_NoHandler
    k_NoHandler := k_NoHandler
    sb_NoHandler := sb_NoHandler
    ty_NoHandler := ty_NoHandler
    hd_NoHandler := hd_NoHandler
    ga_NoHandler := ga_NoHandler
    gt_NoHandler := gt_NoHandler
    cc_NoHandler := cc_NoHandler
    mo_NoHandler := mo_NoHandler
    ve_NoHandler := ve_NoHandler
    su_NoHandler_LoomError := su_NoHandler_LoomError
    su_NoHandler_NoWord := su_NoHandler_NoWord
    su_NoHandler_NoHandler := su_NoHandler_NoHandler
    su_NoHandler_Twice := su_NoHandler_Twice
    su_NoHandler_Stranger := su_NoHandler_Stranger
    su_NoHandler_NoCount := su_NoHandler_NoCount
    c_Twice := C_Twice
    g_Twice := PySem.W.mg_of X G aC_Twice
    x_Twice := x_Twice
    k_Twice := k_Twice
    sb_Twice := sb_Twice
    ty_Twice := ty_Twice
    hd_Twice := hd_Twice
    ga_Twice := ga_Twice
    gt_Twice := gt_Twice
    cc_Twice := cc_Twice
    mo_Twice := mo_Twice
    ve_Twice := ve_Twice
    su_Twice_LoomError := su_Twice_LoomError
    su_Twice_NoWord := su_Twice_NoWord
    su_Twice_NoHandler := su_Twice_NoHandler
    su_Twice_Twice := su_Twice_Twice
    su_Twice_Stranger := su_Twice_Stranger
    su_Twice_NoCount := su_Twice_NoCount
    c_Stranger := C_Stranger
    g_Stranger := PySem.W.mg_of X G aC_Stranger
    x_Stranger := x_Stranger
    k_Stranger := k_Stranger
    sb_Stranger := sb_Stranger
    ty_Stranger := ty_Stranger
    hd_Stranger := hd_Stranger
    ga_Stranger := ga_Stranger
    gt_Stranger := gt_Stranger
    cc_Stranger := cc_Stranger
    mo_Stranger := mo_Stranger
    ve_Stranger := ve_Stranger
    su_Stranger_LoomError := su_Stranger_LoomError
    su_Stranger_NoWord := su_Stranger_NoWord
    su_Stranger_NoHandler := su_Stranger_NoHandler
    su_Stranger_Twice := su_Stranger_Twice
    su_Stranger_Stranger := su_Stranger_Stranger
    su_Stranger_NoCount := su_Stranger_NoCount
    c_NoCount := C_NoCount
    g_NoCount := PySem.W.mg_of X G aC_NoCount
    x_NoCount := x_NoCount
    k_NoCount := k_NoCount
    sb_NoCount := sb_NoCount
    ty_NoCount := ty_NoCount
    hd_NoCount := hd_NoCount
    c_Waits := C_Waits
    g_Waits := PySem.W.mg_of X G aC_Waits
    cl_Waits := ⟨pg_Waits, hd_Waits, po_Waits, sa_Waits⟩
    n_Waits_first_ones := n_Waits_first_ones
    n_Waits_rows := n_Waits_rows
    c_Loom := C_Loom
    g_Loom := PySem.W.mg_of X G aC_Loom
    cl_Loom := ⟨pg_Loom, hd_Loom, po_Loom, sa_Loom⟩
    n_Loom_handlers := n_Loom_handlers
    n_Loom_time := n_Loom_time
    n_Loom_events := n_Loom_events
    n_Loom_log := n_Loom_log
    n_Loom_frames := n_Loom_frames
    n_Loom_fresh := n_Loom_fresh
    n_Loom_line := n_Loom_line
    n_Loom_stood := n_Loom_stood
    n_Loom_standings := n_Loom_standings
    sg := sg
    st := st
    f_Wall := f_Wall
    d_Wall := PySem.W.fnOf "_wall" "_wall" (defArgs s_Wall) (defBody s_Wall) (defScope s_Wall) .none kV1 dc1 pm1 an1 cd1 ct1
    F_Wall := F1
    b_Wall := b1
    g_Wall := PySem.W.mg_of X G a1
    f_isWhole := f_isWhole
    d_isWhole := PySem.W.fnOf "is_whole" "is_whole" (defArgs s_isWhole) (defBody s_isWhole) (defScope s_isWhole) .none kV2 dc2 pm2 an2 cd2 ct2
    F_isWhole := F2
    b_isWhole := b2
    g_isWhole := PySem.W.mg_of X G a2
    f_isWord := f_isWord
    d_isWord := PySem.W.fnOf "is_word" "is_word" (defArgs s_isWord) (defBody s_isWord) (defScope s_isWord) .none kV3 dc3 pm3 an3 cd3 ct3
    F_isWord := F3
    b_isWord := b3
    g_isWord := PySem.W.mg_of X G a3
    f_needWord := f_needWord
    d_needWord := PySem.W.fnOf "need_word" "need_word" (defArgs s_needWord) (defBody s_needWord) (defScope s_needWord) .none kV4 dc4 pm4 an4 cd4 ct4
    F_needWord := F4
    b_needWord := b4
    g_needWord := PySem.W.mg_of X G a4
    f_isDeed := f_isDeed
    d_isDeed := PySem.W.fnOf "is_deed" "is_deed" (defArgs s_isDeed) (defBody s_isDeed) (defScope s_isDeed) .none kV5 dc5 pm5 an5 cd5 ct5
    F_isDeed := F5
    b_isDeed := b5
    g_isDeed := PySem.W.mg_of X G a5
    f_isHandler := f_isHandler
    d_isHandler := PySem.W.fnOf "is_handler" "is_handler" (defArgs s_isHandler) (defBody s_isHandler) (defScope s_isHandler) .none kV6 dc6 pm6 an6 cd6 ct6
    F_isHandler := F6
    b_isHandler := b6
    g_isHandler := PySem.W.mg_of X G a6
    f_needHandlers := f_needHandlers
    d_needHandlers := PySem.W.fnOf "need_handlers" "need_handlers" (defArgs s_needHandlers) (defBody s_needHandlers) (defScope s_needHandlers) .none kV7 dc7 pm7 an7 cd7 ct7
    F_needHandlers := F7
    b_needHandlers := b7
    g_needHandlers := PySem.W.mg_of X G a7
    f_needNames := f_needNames
    d_needNames := PySem.W.fnOf "need_names" "need_names" (defArgs s_needNames) (defBody s_needNames) (defScope s_needNames) .none kV8 dc8 pm8 an8 cd8 ct8
    F_needNames := F8
    b_needNames := b8
    g_needNames := PySem.W.mg_of X G a8
    f_WaitsInit := f_WaitsInit
    d_WaitsInit := PySem.W.fnOf "__init__" "Waits.__init__" (defArgs s_WaitsInit) (defBody s_WaitsInit) (defScope s_WaitsInit) .none kV9 dc9 pm9 an9 cd9 ct9
    F_WaitsInit := F9
    b_WaitsInit := b9
    mk_Waits := ⟨mk_Waits, a9, i9, kc_Waits⟩
    f_WaitsSooner := f_WaitsSooner
    d_WaitsSooner := PySem.W.fnOf "sooner" "Waits.sooner" (defArgs s_WaitsSooner) (defBody s_WaitsSooner) (defScope s_WaitsSooner) .none kV10 dc10 pm10 an10 cd10 ct10
    F_WaitsSooner := F10
    b_WaitsSooner := b10
    m_WaitsSooner := ⟨a10, i10, k10⟩
    f_WaitsLater := f_WaitsLater
    d_WaitsLater := PySem.W.fnOf "later" "Waits.later" (defArgs s_WaitsLater) (defBody s_WaitsLater) (defScope s_WaitsLater) .none kV11 dc11 pm11 an11 cd11 ct11
    F_WaitsLater := F11
    b_WaitsLater := b11
    m_WaitsLater := ⟨a11, i11, k11⟩
    f_WaitsLineup := f_WaitsLineup
    d_WaitsLineup := PySem.W.fnOf "lineup" "Waits.lineup" (defArgs s_WaitsLineup) (defBody s_WaitsLineup) (defScope s_WaitsLineup) .none kV12 dc12 pm12 an12 cd12 ct12
    F_WaitsLineup := F12
    b_WaitsLineup := b12
    m_WaitsLineup := ⟨a12, i12, k12⟩
    f_WaitsLead := f_WaitsLead
    d_WaitsLead := PySem.W.fnOf "lead" "Waits.lead" (defArgs s_WaitsLead) (defBody s_WaitsLead) (defScope s_WaitsLead) .none kV13 dc13 pm13 an13 cd13 ct13
    F_WaitsLead := F13
    b_WaitsLead := b13
    m_WaitsLead := ⟨a13, i13, k13⟩
    f_WaitsDrop := f_WaitsDrop
    d_WaitsDrop := PySem.W.fnOf "drop" "Waits.drop" (defArgs s_WaitsDrop) (defBody s_WaitsDrop) (defScope s_WaitsDrop) .none kV14 dc14 pm14 an14 cd14 ct14
    F_WaitsDrop := F14
    b_WaitsDrop := b14
    m_WaitsDrop := ⟨a14, i14, k14⟩
    f_LoomInit := f_LoomInit
    d_LoomInit := PySem.W.fnOf "__init__" "Loom.__init__" (defArgs s_LoomInit) (defBody s_LoomInit) (defScope s_LoomInit) .none kV15 dc15 pm15 an15 cd15 ct15
    F_LoomInit := F15
    b_LoomInit := b15
    mk_Loom := ⟨mk_Loom, a15, i15, kc_Loom⟩
    f_LoomCome := f_LoomCome
    d_LoomCome := PySem.W.fnOf "come" "Loom.come" (defArgs s_LoomCome) (defBody s_LoomCome) (defScope s_LoomCome) .none kV16 dc16 pm16 an16 cd16 ct16
    F_LoomCome := F16
    b_LoomCome := b16
    m_LoomCome := ⟨a16, i16, k16⟩
    f_LoomGo := f_LoomGo
    d_LoomGo := PySem.W.fnOf "go" "Loom.go" (defArgs s_LoomGo) (defBody s_LoomGo) (defScope s_LoomGo) .none kV17 dc17 pm17 an17 cd17 ct17
    F_LoomGo := F17
    b_LoomGo := b17
    m_LoomGo := ⟨a17, i17, k17⟩
    f_LoomMade := f_LoomMade
    d_LoomMade := PySem.W.fnOf "made" "Loom.made" (defArgs s_LoomMade) (defBody s_LoomMade) (defScope s_LoomMade) .none kV18 dc18 pm18 an18 cd18 ct18
    F_LoomMade := F18
    b_LoomMade := b18
    m_LoomMade := ⟨a18, i18, k18⟩
    f_LoomSend := f_LoomSend
    d_LoomSend := PySem.W.fnOf "send" "Loom.send" (defArgs s_LoomSend) (defBody s_LoomSend) (defScope s_LoomSend) .none kV19 dc19 pm19 an19 cd19 ct19
    F_LoomSend := F19
    b_LoomSend := b19
    m_LoomSend := ⟨a19, i19, k19⟩
    f_LoomStep := f_LoomStep
    d_LoomStep := PySem.W.fnOf "step" "Loom.step" (defArgs s_LoomStep) (defBody s_LoomStep) (defScope s_LoomStep) .none kV20 dc20 pm20 an20 cd20 ct20
    F_LoomStep := F20
    b_LoomStep := b20
    m_LoomStep := ⟨a20, i20, k20⟩
    f_LoomBegin := f_LoomBegin
    d_LoomBegin := PySem.W.fnOf "begin" "Loom.begin" (defArgs s_LoomBegin) (defBody s_LoomBegin) (defScope s_LoomBegin) .none kV21 dc21 pm21 an21 cd21 ct21
    F_LoomBegin := F21
    b_LoomBegin := b21
    m_LoomBegin := ⟨a21, i21, k21⟩
    f_LoomGoOn := f_LoomGoOn
    d_LoomGoOn := PySem.W.fnOf "go_on" "Loom.go_on" (defArgs s_LoomGoOn) (defBody s_LoomGoOn) (defScope s_LoomGoOn) .none kV22 dc22 pm22 an22 cd22 ct22
    F_LoomGoOn := F22
    b_LoomGoOn := b22
    m_LoomGoOn := ⟨a22, i22, k22⟩
    f_LoomCall := f_LoomCall
    d_LoomCall := PySem.W.fnOf "call" "Loom.call" (defArgs s_LoomCall) (defBody s_LoomCall) (defScope s_LoomCall) .none kV23 dc23 pm23 an23 cd23 ct23
    F_LoomCall := F23
    b_LoomCall := b23
    m_LoomCall := ⟨a23, i23, k23⟩
    f_LoomDo := f_LoomDo
    d_LoomDo := PySem.W.fnOf "do" "Loom.do" (defArgs s_LoomDo) (defBody s_LoomDo) (defScope s_LoomDo) .none kV24 dc24 pm24 an24 cd24 ct24
    F_LoomDo := F24
    b_LoomDo := b24
    m_LoomDo := ⟨a24, i24, k24⟩
    f_LoomMake := f_LoomMake
    d_LoomMake := PySem.W.fnOf "make" "Loom.make" (defArgs s_LoomMake) (defBody s_LoomMake) (defScope s_LoomMake) .none kV25 dc25 pm25 an25 cd25 ct25
    F_LoomMake := F25
    b_LoomMake := b25
    m_LoomMake := ⟨a25, i25, k25⟩
    f_LoomRun := f_LoomRun
    d_LoomRun := PySem.W.fnOf "run" "Loom.run" (defArgs s_LoomRun) (defBody s_LoomRun) (defScope s_LoomRun) .none kV26 dc26 pm26 an26 cd26 ct26
    F_LoomRun := F26
    b_LoomRun := b26
    m_LoomRun := ⟨a26, i26, k26⟩
    f_LoomWaiting := f_LoomWaiting
    d_LoomWaiting := PySem.W.fnOf "waiting" "Loom.waiting" (defArgs s_LoomWaiting) (defBody s_LoomWaiting) (defScope s_LoomWaiting) .none kV27 dc27 pm27 an27 cd27 ct27
    F_LoomWaiting := F27
    b_LoomWaiting := b27
    m_LoomWaiting := ⟨a27, i27, k27⟩
    f_LoomAround := f_LoomAround
    d_LoomAround := PySem.W.fnOf "around" "Loom.around" (defArgs s_LoomAround) (defBody s_LoomAround) (defScope s_LoomAround) .none kV28 dc28 pm28 an28 cd28 ct28
    F_LoomAround := F28
    b_LoomAround := b28
    m_LoomAround := ⟨a28, i28, k28⟩
    f_LoomStanding := f_LoomStanding
    d_LoomStanding := PySem.W.fnOf "standing" "Loom.standing" (defArgs s_LoomStanding) (defBody s_LoomStanding) (defScope s_LoomStanding) .none kV29 dc29 pm29 an29 cd29 ct29
    F_LoomStanding := F29
    b_LoomStanding := b29
    m_LoomStanding := ⟨a29, i29, k29⟩
    f_LoomIdle := f_LoomIdle
    d_LoomIdle := PySem.W.fnOf "idle" "Loom.idle" (defArgs s_LoomIdle) (defBody s_LoomIdle) (defScope s_LoomIdle) .none kV30 dc30 pm30 an30 cd30 ct30
    F_LoomIdle := F30
    b_LoomIdle := b30
    m_LoomIdle := ⟨a30, i30, k30⟩
    f_ltoldAt := f_ltoldAt
    d_ltoldAt := PySem.W.fnOf "_law_told_at" "_law_told_at" (defArgs s_ltoldAt) (defBody s_ltoldAt) (defScope s_ltoldAt) .none kV31 dc31 pm31 an31 cd31 ct31
    F_ltoldAt := F31
    b_ltoldAt := b31
    g_ltoldAt := PySem.W.mg_of X G a31
    f_lmixed := f_lmixed
    d_lmixed := PySem.W.fnOf "_law_mixed" "_law_mixed" (defArgs s_lmixed) (defBody s_lmixed) (defScope s_lmixed) .none kV32 dc32 pm32 an32 cd32 ct32
    F_lmixed := F32
    b_lmixed := b32
    g_lmixed := PySem.W.mg_of X G a32
    f_lnameBy := f_lnameBy
    d_lnameBy := PySem.W.fnOf "_law_name_by" "_law_name_by" (defArgs s_lnameBy) (defBody s_lnameBy) (defScope s_lnameBy) .none kV33 dc33 pm33 an33 cd33 ct33
    F_lnameBy := F33
    b_lnameBy := b33
    g_lnameBy := PySem.W.mg_of X G a33
    f_ldeedBy := f_ldeedBy
    d_ldeedBy := PySem.W.fnOf "_law_deed_by" "_law_deed_by" (defArgs s_ldeedBy) (defBody s_ldeedBy) (defScope s_ldeedBy) .none kV34 dc34 pm34 an34 cd34 ct34
    F_ldeedBy := F34
    b_ldeedBy := b34
    g_ldeedBy := PySem.W.mg_of X G a34
    f_lhandlerBy := f_lhandlerBy
    d_lhandlerBy := PySem.W.fnOf "_law_handler_by" "_law_handler_by" (defArgs s_lhandlerBy) (defBody s_lhandlerBy) (defScope s_lhandlerBy) .none kV35 dc35 pm35 an35 cd35 ct35
    F_lhandlerBy := F35
    b_lhandlerBy := b35
    g_lhandlerBy := PySem.W.mg_of X G a35
    f_ltwisted := f_ltwisted
    d_ltwisted := PySem.W.fnOf "_law_twisted" "_law_twisted" (defArgs s_ltwisted) (defBody s_ltwisted) (defScope s_ltwisted) .none kV36 dc36 pm36 an36 cd36 ct36
    F_ltwisted := F36
    b_ltwisted := b36
    g_ltwisted := PySem.W.mg_of X G a36
    f_lbadDeed := f_lbadDeed
    d_lbadDeed := PySem.W.fnOf "_law_bad_deed" "_law_bad_deed" (defArgs s_lbadDeed) (defBody s_lbadDeed) (defScope s_lbadDeed) .none kV37 dc37 pm37 an37 cd37 ct37
    F_lbadDeed := F37
    b_lbadDeed := b37
    g_lbadDeed := PySem.W.mg_of X G a37
    f_lwrong := f_lwrong
    d_lwrong := PySem.W.fnOf "_law_wrong" "_law_wrong" (defArgs s_lwrong) (defBody s_lwrong) (defScope s_lwrong) .none kV38 dc38 pm38 an38 cd38 ct38
    F_lwrong := F38
    b_lwrong := b38
    g_lwrong := PySem.W.mg_of X G a38
    f_lkind := f_lkind
    d_lkind := PySem.W.fnOf "_law_kind" "_law_kind" (defArgs s_lkind) (defBody s_lkind) (defScope s_lkind) .none kV39 dc39 pm39 an39 cd39 ct39
    F_lkind := F39
    b_lkind := b39
    g_lkind := PySem.W.mg_of X G a39
    f_lrefused := f_lrefused
    d_lrefused := PySem.W.fnOf "_law_refused" "_law_refused" (defArgs s_lrefused) (defBody s_lrefused) (defScope s_lrefused) .none kV40 dc40 pm40 an40 cd40 ct40
    F_lrefused := F40
    b_lrefused := b40
    g_lrefused := PySem.W.mg_of X G a40
    f_ldue := f_ldue
    d_ldue := PySem.W.fnOf "_law_due" "_law_due" (defArgs s_ldue) (defBody s_ldue) (defScope s_ldue) .none kV41 dc41 pm41 an41 cd41 ct41
    F_ldue := F41
    b_ldue := b41
    g_ldue := PySem.W.mg_of X G a41
    f_lestranged := f_lestranged
    d_lestranged := PySem.W.fnOf "_law_estranged" "_law_estranged" (defArgs s_lestranged) (defBody s_lestranged) (defScope s_lestranged) .none kV42 dc42 pm42 an42 cd42 ct42
    F_lestranged := F42
    b_lestranged := b42
    g_lestranged := PySem.W.mg_of X G a42
    f_lkinds := f_lkinds
    d_lkinds := PySem.W.fnOf "_law_kinds" "_law_kinds" (defArgs s_lkinds) (defBody s_lkinds) (defScope s_lkinds) .none kV43 dc43 pm43 an43 cd43 ct43
    F_lkinds := F43
    b_lkinds := b43
    g_lkinds := PySem.W.mg_of X G a43
    f_lletBy := f_lletBy
    d_lletBy := PySem.W.fnOf "_law_let_by" "_law_let_by" (defArgs s_lletBy) (defBody s_lletBy) (defScope s_lletBy) .none kV44 dc44 pm44 an44 cd44 ct44
    F_lletBy := F44
    b_lletBy := b44
    g_lletBy := PySem.W.mg_of X G a44
    f_law := f_law
    d_law := PySem.W.fnOf "law" "law" (defArgs s_law) (defBody s_law) (defScope s_law) .none kV45 dc45 pm45 an45 cd45 ct45
    F_law := F45
    b_law := b45
    g_law := PySem.W.mg_of X G a45
    z_isinstance := PySem.W.mg_none_of X G z_isinstance
    z_int := PySem.W.mg_none_of X G z_int
    z_bool := PySem.W.mg_none_of X G z_bool
    z_str := PySem.W.mg_none_of X G z_str
    z_len := PySem.W.mg_none_of X G z_len
    z_all := PySem.W.mg_none_of X G z_all
    z_tuple := PySem.W.mg_none_of X G z_tuple
    z_list := PySem.W.mg_none_of X G z_list
    z_range := PySem.W.mg_none_of X G z_range
    z_ValueError := PySem.W.mg_none_of X G z_ValueError
    u_LETTERS := u_LETTERS
    g_LETTERS := PySem.W.mg_of X G a_LETTERS
    r_LETTERS := r_LETTERS
    u_MOST_SIGNS := u_MOST_SIGNS
    g_MOST_SIGNS := PySem.W.mg_of X G a_MOST_SIGNS
    r_MOST_SIGNS := r_MOST_SIGNS
    u_MOST_HANDLERS := u_MOST_HANDLERS
    g_MOST_HANDLERS := PySem.W.mg_of X G a_MOST_HANDLERS
    r_MOST_HANDLERS := r_MOST_HANDLERS
    u_MOST_DEEDS := u_MOST_DEEDS
    g_MOST_DEEDS := PySem.W.mg_of X G a_MOST_DEEDS
    r_MOST_DEEDS := r_MOST_DEEDS
    u_MOST_TICKS := u_MOST_TICKS
    g_MOST_TICKS := PySem.W.mg_of X G a_MOST_TICKS
    r_MOST_TICKS := r_MOST_TICKS
    a_WORDED := t_WORDED
    g_WORDED := PySem.W.mg_of X G a_WORDED
    t_WORDED := fun H => .inr ⟨_, _, _, t0_WORDED, t1_WORDED, t2_WORDED, t3_WORDED, t4_WORDED⟩
    }, e, fun s v => .of_eq rfl⟩
theorem walk {l : PySem.W.OpenLaw} {q : Program} {loose : List Str} {XP : (Str → Option Value) → Heap → Prop} {YP : World → Heap → Prop} {d : DefRec} {K : Params → PySem.W.Frag} (hn : l.most = some 63) (hdf : d.params.defaults = [])
    (hY : ∀ (w : World) (h : Heap), YP w h → (K w.params).In h)
    (F : ∀ (w : World) (mg : Str → Option Value) (fa : Addr) (h : Heap), (K w.params).In h → h.Ns mainGlobals mg → mg d.name = some (.ref fa) →
      ∃ T : Tx (K w.params) mg, fa = T.f_law ∧ ∀ (s : Shared) (v : Value), BindsTo s T.d_law ⟨[v], []⟩ [("_law_script", v)]) :
    PySem.W.WalkO q loose XP YP l.row.toRowW d [] (fun f vs => PySem.call f vs) := by
  refine L2.walk_of (n := 63) (k := 9) (x := "_law_script") (CX := fun _ => CX0) (sp := fun w => sp_law (K w.params)) hn (by decide) hdf ⟨rfl, by decide, by decide⟩ hY (fun w mg fa h KX G hmg => ?_) (fun _ _ a ns hl _ hS => ⟨a, ns, rfl, hS, hl, fun _ => rfl⟩) fun _ _ _ _ _ z => z
  obtain ⟨T, e, b⟩ := F w mg fa h KX G hmg
  subst e
  exact ⟨T.d_law, b, fun base _ _ => ok_law T⟩
end Ev
open PySem PySem.W PyProof.Rows in
theorem PySem.Challenge.cw_eventloom_k04_handlers_refused_holds : PySem.Challenge.rw_eventloom_k04_handlers_refused.Holds := by
  w_on; o_law; k_head; (case hw => w_witness2)
  k_fill
  refine Ev.walk (l := PySem.Challenge.rw_eventloom_k04_handlers_refused) rfl rfl (fun w h Y => PySem.W.kIn_of Y) ?F
  case F =>
    intro w mg fa h KX G hmg
    refine' Ev.all_mk KX G hmg ?aC_LoomError ?aC_NoWord ?aC_NoHandler ?aC_Twice ?aC_Stranger ?aC_NoCount ?aC_Waits ?aC_Loom ?x_LoomError ?k_LoomError ?sb_LoomError ?ty_LoomError ?hd_LoomError ?x_NoWord ?k_NoWord ?sb_NoWord ?ty_NoWord ?hd_NoWord ?x_NoHandler ?k_NoHandler ?sb_NoHandler ?ty_NoHandler ?hd_NoHandler ?ga_NoHandler ?gt_NoHandler ?cc_NoHandler ?mo_NoHandler ?ve_NoHandler ?su_NoHandler_LoomError ?su_NoHandler_NoWord ?su_NoHandler_NoHandler ?su_NoHandler_Twice ?su_NoHandler_Stranger ?su_NoHandler_NoCount ?x_Twice ?k_Twice ?sb_Twice ?ty_Twice ?hd_Twice ?ga_Twice ?gt_Twice ?cc_Twice ?mo_Twice ?ve_Twice ?su_Twice_LoomError ?su_Twice_NoWord ?su_Twice_NoHandler ?su_Twice_Twice ?su_Twice_Stranger ?su_Twice_NoCount ?x_Stranger ?k_Stranger ?sb_Stranger ?ty_Stranger ?hd_Stranger ?ga_Stranger ?gt_Stranger ?cc_Stranger ?mo_Stranger ?ve_Stranger ?su_Stranger_LoomError ?su_Stranger_NoWord ?su_Stranger_NoHandler ?su_Stranger_Twice ?su_Stranger_Stranger ?su_Stranger_NoCount ?x_NoCount ?k_NoCount ?sb_NoCount ?ty_NoCount ?hd_NoCount ?pg_Waits ?hd_Waits ?po_Waits ?sa_Waits ?mk_Waits ?kc_Waits ?n_Waits_first_ones ?n_Waits_rows ?pg_Loom ?hd_Loom ?po_Loom ?sa_Loom ?mk_Loom ?kc_Loom ?n_Loom_handlers ?n_Loom_time ?n_Loom_events ?n_Loom_log ?n_Loom_frames ?n_Loom_fresh ?n_Loom_line ?n_Loom_stood ?n_Loom_standings ?sg ?st ?a1 ?l1 ?c1 ?k1 ?a2 ?l2 ?c2 ?k2 ?a3 ?l3 ?c3 ?k3 ?a4 ?l4 ?c4 ?k4 ?a5 ?l5 ?c5 ?k5 ?a6 ?l6 ?c6 ?k6 ?a7 ?l7 ?c7 ?k7 ?a8 ?l8 ?c8 ?k8 ?a9 ?i9 ?l9 ?c9 ?k9 ?a10 ?i10 ?l10 ?c10 ?k10 ?a11 ?i11 ?l11 ?c11 ?k11 ?a12 ?i12 ?l12 ?c12 ?k12 ?a13 ?i13 ?l13 ?c13 ?k13 ?a14 ?i14 ?l14 ?c14 ?k14 ?a15 ?i15 ?l15 ?c15 ?k15 ?a16 ?i16 ?l16 ?c16 ?k16 ?a17 ?i17 ?l17 ?c17 ?k17 ?a18 ?i18 ?l18 ?c18 ?k18 ?a19 ?i19 ?l19 ?c19 ?k19 ?a20 ?i20 ?l20 ?c20 ?k20 ?a21 ?i21 ?l21 ?c21 ?k21 ?a22 ?i22 ?l22 ?c22 ?k22 ?a23 ?i23 ?l23 ?c23 ?k23 ?a24 ?i24 ?l24 ?c24 ?k24 ?a25 ?i25 ?l25 ?c25 ?k25 ?a26 ?i26 ?l26 ?c26 ?k26 ?a27 ?i27 ?l27 ?c27 ?k27 ?a28 ?i28 ?l28 ?c28 ?k28 ?a29 ?i29 ?l29 ?c29 ?k29 ?a30 ?i30 ?l30 ?c30 ?k30 ?a31 ?l31 ?c31 ?k31 ?a32 ?l32 ?c32 ?k32 ?a33 ?l33 ?c33 ?k33 ?a34 ?l34 ?c34 ?k34 ?a35 ?l35 ?c35 ?k35 ?a36 ?l36 ?c36 ?k36 ?a37 ?l37 ?c37 ?k37 ?a38 ?l38 ?c38 ?k38 ?a39 ?l39 ?c39 ?k39 ?a40 ?l40 ?c40 ?k40 ?a41 ?l41 ?c41 ?k41 ?a42 ?l42 ?c42 ?k42 ?a43 ?l43 ?c43 ?k43 ?a44 ?l44 ?c44 ?k44 ?a45 ?l45 ?c45 ?k45 ?z_isinstance ?z_int ?z_bool ?z_str ?z_len ?z_all ?z_tuple ?z_list ?z_range ?z_ValueError ?a_LETTERS ?r_LETTERS ?a_MOST_SIGNS ?r_MOST_SIGNS ?a_MOST_HANDLERS ?r_MOST_HANDLERS ?a_MOST_DEEDS ?r_MOST_DEEDS ?a_MOST_TICKS ?r_MOST_TICKS ?a_WORDED ?t0_WORDED ?t1_WORDED ?t2_WORDED ?t3_WORDED ?t4_WORDED
    (case aC_LoomError => k_is)
    (case aC_NoWord => k_is)
    (case aC_NoHandler => k_is)
    (case aC_Twice => k_is)
    (case aC_Stranger => k_is)
    (case aC_NoCount => k_is)
    (case aC_Waits => k_is)
    (case aC_Loom => k_is)
    (case x_LoomError => k_exc)
    (case k_LoomError => k_is)
    (case sb_LoomError => k_is)
    (case ty_LoomError => k_is)
    (case hd_LoomError => k_is)
    (case x_NoWord => k_exc)
    (case k_NoWord => k_is)
    (case sb_NoWord => k_is)
    (case ty_NoWord => k_is)
    (case hd_NoWord => k_is)
    (case x_NoHandler => k_exc)
    (case k_NoHandler => k_is)
    (case sb_NoHandler => k_is)
    (case ty_NoHandler => k_is)
    (case hd_NoHandler => k_is)
    (case ga_NoHandler => k_is)
    (case gt_NoHandler => k_is)
    (case cc_NoHandler => k_is)
    (case mo_NoHandler => k_is)
    (case ve_NoHandler => k_is)
    (case su_NoHandler_LoomError => k_is)
    (case su_NoHandler_NoWord => k_is)
    (case su_NoHandler_NoHandler => k_is)
    (case su_NoHandler_Twice => k_is)
    (case su_NoHandler_Stranger => k_is)
    (case su_NoHandler_NoCount => k_is)
    (case x_Twice => k_exc)
    (case k_Twice => k_is)
    (case sb_Twice => k_is)
    (case ty_Twice => k_is)
    (case hd_Twice => k_is)
    (case ga_Twice => k_is)
    (case gt_Twice => k_is)
    (case cc_Twice => k_is)
    (case mo_Twice => k_is)
    (case ve_Twice => k_is)
    (case su_Twice_LoomError => k_is)
    (case su_Twice_NoWord => k_is)
    (case su_Twice_NoHandler => k_is)
    (case su_Twice_Twice => k_is)
    (case su_Twice_Stranger => k_is)
    (case su_Twice_NoCount => k_is)
    (case x_Stranger => k_exc)
    (case k_Stranger => k_is)
    (case sb_Stranger => k_is)
    (case ty_Stranger => k_is)
    (case hd_Stranger => k_is)
    (case ga_Stranger => k_is)
    (case gt_Stranger => k_is)
    (case cc_Stranger => k_is)
    (case mo_Stranger => k_is)
    (case ve_Stranger => k_is)
    (case su_Stranger_LoomError => k_is)
    (case su_Stranger_NoWord => k_is)
    (case su_Stranger_NoHandler => k_is)
    (case su_Stranger_Twice => k_is)
    (case su_Stranger_Stranger => k_is)
    (case su_Stranger_NoCount => k_is)
    (case x_NoCount => k_exc)
    (case k_NoCount => k_is)
    (case sb_NoCount => k_is)
    (case ty_NoCount => k_is)
    (case hd_NoCount => k_is)
    (case pg_Waits => k_is)
    (case hd_Waits => k_is)
    (case po_Waits => k_is)
    (case sa_Waits => k_is)
    (case mk_Waits => k_is)
    (case kc_Waits => k_is)
    (case n_Waits_first_ones => k_is)
    (case n_Waits_rows => k_is)
    (case pg_Loom => k_is)
    (case hd_Loom => k_is)
    (case po_Loom => k_is)
    (case sa_Loom => k_is)
    (case mk_Loom => k_is)
    (case kc_Loom => k_is)
    (case n_Loom_handlers => k_is)
    (case n_Loom_time => k_is)
    (case n_Loom_events => k_is)
    (case n_Loom_log => k_is)
    (case n_Loom_frames => k_is)
    (case n_Loom_fresh => k_is)
    (case n_Loom_line => k_is)
    (case n_Loom_stood => k_is)
    (case n_Loom_standings => k_is)
    (case sg => k_is)
    (case st => k_is)
    (case a1 => k_is)
    (case l1 => k_is)
    (case c1 => k_is)
    (case k1 => k_is)
    (case a2 => k_is)
    (case l2 => k_is)
    (case c2 => k_is)
    (case k2 => k_is)
    (case a3 => k_is)
    (case l3 => k_is)
    (case c3 => k_is)
    (case k3 => k_is)
    (case a4 => k_is)
    (case l4 => k_is)
    (case c4 => k_is)
    (case k4 => k_is)
    (case a5 => k_is)
    (case l5 => k_is)
    (case c5 => k_is)
    (case k5 => k_is)
    (case a6 => k_is)
    (case l6 => k_is)
    (case c6 => k_is)
    (case k6 => k_is)
    (case a7 => k_is)
    (case l7 => k_is)
    (case c7 => k_is)
    (case k7 => k_is)
    (case a8 => k_is)
    (case l8 => k_is)
    (case c8 => k_is)
    (case k8 => k_is)
    (case a9 => k_is)
    (case i9 => k_is)
    (case l9 => k_is)
    (case c9 => k_is)
    (case k9 => k_is)
    (case a10 => k_is)
    (case i10 => k_is)
    (case l10 => k_is)
    (case c10 => k_is)
    (case k10 => k_is)
    (case a11 => k_is)
    (case i11 => k_is)
    (case l11 => k_is)
    (case c11 => k_is)
    (case k11 => k_is)
    (case a12 => k_is)
    (case i12 => k_is)
    (case l12 => k_is)
    (case c12 => k_is)
    (case k12 => k_is)
    (case a13 => k_is)
    (case i13 => k_is)
    (case l13 => k_is)
    (case c13 => k_is)
    (case k13 => k_is)
    (case a14 => k_is)
    (case i14 => k_is)
    (case l14 => k_is)
    (case c14 => k_is)
    (case k14 => k_is)
    (case a15 => k_is)
    (case i15 => k_is)
    (case l15 => k_is)
    (case c15 => k_is)
    (case k15 => k_is)
    (case a16 => k_is)
    (case i16 => k_is)
    (case l16 => k_is)
    (case c16 => k_is)
    (case k16 => k_is)
    (case a17 => k_is)
    (case i17 => k_is)
    (case l17 => k_is)
    (case c17 => k_is)
    (case k17 => k_is)
    (case a18 => k_is)
    (case i18 => k_is)
    (case l18 => k_is)
    (case c18 => k_is)
    (case k18 => k_is)
    (case a19 => k_is)
    (case i19 => k_is)
    (case l19 => k_is)
    (case c19 => k_is)
    (case k19 => k_is)
    (case a20 => k_is)
    (case i20 => k_is)
    (case l20 => k_is)
    (case c20 => k_is)
    (case k20 => k_is)
    (case a21 => k_is)
    (case i21 => k_is)
    (case l21 => k_is)
    (case c21 => k_is)
    (case k21 => k_is)
    (case a22 => k_is)
    (case i22 => k_is)
    (case l22 => k_is)
    (case c22 => k_is)
    (case k22 => k_is)
    (case a23 => k_is)
    (case i23 => k_is)
    (case l23 => k_is)
    (case c23 => k_is)
    (case k23 => k_is)
    (case a24 => k_is)
    (case i24 => k_is)
    (case l24 => k_is)
    (case c24 => k_is)
    (case k24 => k_is)
    (case a25 => k_is)
    (case i25 => k_is)
    (case l25 => k_is)
    (case c25 => k_is)
    (case k25 => k_is)
    (case a26 => k_is)
    (case i26 => k_is)
    (case l26 => k_is)
    (case c26 => k_is)
    (case k26 => k_is)
    (case a27 => k_is)
    (case i27 => k_is)
    (case l27 => k_is)
    (case c27 => k_is)
    (case k27 => k_is)
    (case a28 => k_is)
    (case i28 => k_is)
    (case l28 => k_is)
    (case c28 => k_is)
    (case k28 => k_is)
    (case a29 => k_is)
    (case i29 => k_is)
    (case l29 => k_is)
    (case c29 => k_is)
    (case k29 => k_is)
    (case a30 => k_is)
    (case i30 => k_is)
    (case l30 => k_is)
    (case c30 => k_is)
    (case k30 => k_is)
    (case a31 => k_is)
    (case l31 => k_is)
    (case c31 => k_is)
    (case k31 => k_is)
    (case a32 => k_is)
    (case l32 => k_is)
    (case c32 => k_is)
    (case k32 => k_is)
    (case a33 => k_is)
    (case l33 => k_is)
    (case c33 => k_is)
    (case k33 => k_is)
    (case a34 => k_is)
    (case l34 => k_is)
    (case c34 => k_is)
    (case k34 => k_is)
    (case a35 => k_is)
    (case l35 => k_is)
    (case c35 => k_is)
    (case k35 => k_is)
    (case a36 => k_is)
    (case l36 => k_is)
    (case c36 => k_is)
    (case k36 => k_is)
    (case a37 => k_is)
    (case l37 => k_is)
    (case c37 => k_is)
    (case k37 => k_is)
    (case a38 => k_is)
    (case l38 => k_is)
    (case c38 => k_is)
    (case k38 => k_is)
    (case a39 => k_is)
    (case l39 => k_is)
    (case c39 => k_is)
    (case k39 => k_is)
    (case a40 => k_is)
    (case l40 => k_is)
    (case c40 => k_is)
    (case k40 => k_is)
    (case a41 => k_is)
    (case l41 => k_is)
    (case c41 => k_is)
    (case k41 => k_is)
    (case a42 => k_is)
    (case l42 => k_is)
    (case c42 => k_is)
    (case k42 => k_is)
    (case a43 => k_is)
    (case l43 => k_is)
    (case c43 => k_is)
    (case k43 => k_is)
    (case a44 => k_is)
    (case l44 => k_is)
    (case c44 => k_is)
    (case k44 => k_is)
    (case a45 => k_is)
    (case l45 => k_is)
    (case c45 => k_is)
    (case k45 => k_is)
    (case z_isinstance => k_is)
    (case z_int => k_is)
    (case z_bool => k_is)
    (case z_str => k_is)
    (case z_len => k_is)
    (case z_all => k_is)
    (case z_tuple => k_is)
    (case z_list => k_is)
    (case z_range => k_is)
    (case z_ValueError => k_is)
    (case a_LETTERS => k_is)
    (case r_LETTERS => exact ⟨_, rfl⟩)
    (case a_MOST_SIGNS => k_is)
    (case r_MOST_SIGNS => exact ⟨_, rfl⟩)
    (case a_MOST_HANDLERS => k_is)
    (case r_MOST_HANDLERS => exact ⟨_, rfl⟩)
    (case a_MOST_DEEDS => k_is)
    (case r_MOST_DEEDS => exact ⟨_, rfl⟩)
    (case a_MOST_TICKS => k_is)
    (case r_MOST_TICKS => exact ⟨_, rfl⟩)
    (case a_WORDED => k_is)
    (case t0_WORDED => k_is)
    (case t1_WORDED => rfl)
    (case t2_WORDED => rfl)
    (case t3_WORDED => decide)
    (case t4_WORDED => exact .cons ⟨_, rfl⟩ (.cons ⟨_, rfl⟩ (.cons ⟨_, rfl⟩ (.cons ⟨_, rfl⟩ (.cons ⟨_, rfl⟩ (.nil))))))
