import PyProof.Rows.All
import Wide.All
import OpenK.AllK
import Wide.FinOn
import HandS.ForMost
import HandS.Wide
import HandS.TupAny
import HandS.Deep
import HandS.Lambda
import HandS.Rev
import HandS.RevRange
import HandS.Zip
import HandS.Conv
import HandS.Defaults
import HandS.MakeKwOnly
import PyProof.ReprRoads
import PyProof.ReprLen
import PyProof.Rows.RegStrFacts
import HandS.RevTup
import PyProof.ListNew
import HandS.SetFor
import HandS.EndTab
import PySem.Challenge.RW_ringsandroads_k12_whole_rows_counted
set_option Elab.async false
set_option linter.all false
set_option maxRecDepth 100000
namespace Y
open PySem PySem.Spec PyProof.Rows L2

/-! ## data, slots -/
abbrev D := PyData
structure Bag where
  cells : List Int
  cur : Int
  mix : Int
inductive M where
  | un
  | imm (d : D)
  | ol (ds : List D)
  | bag (b : Bag)
  | scr (ns : List Int)
abbrev S := List M
abbrev Fg := PySem.W.Frag

mutual
/-- the value v stands for the data d; its lists are none of the owned ones -/
inductive Rp (K : Fg) (O : List Addr) (H : Hp) : V → D → Prop
  | non : Rp K O H .non .none
  | bl (b : Bool) : Rp K O H (.bl b) (.bool b)
  | int (i : Int) : Rp K O H (.int i) (.int i)
  | str (x : Str) : Rp K O H (.str x) (.str x)
  | lst {a : Addr} {xs : List V} {ds : List D} : H a = some (.lst xs) → a ∉ O → Rps K O H xs ds → Rp K O H (.ref a) (.list ds)
  | tup {a : Addr} {xs : List V} {ds : List D} : SqT K H a xs → Rps K O H xs ds → Rp K O H (.ref a) (.tuple ds)
inductive Rps (K : Fg) (O : List Addr) (H : Hp) : List V → List D → Prop
  | nil : Rps K O H [] []
  | cons {v : V} {vs : List V} {d : D} {ds : List D} : Rp K O H v d → Rps K O H vs ds → Rps K O H (v :: vs) (d :: ds)
end

def Ex (H H' : Hp) : Prop := ∀ a o, H a = some o → H' a = some o
theorem Ex.refl (H : Hp) : Ex H H := fun _ _ h => h
theorem Ex.trans {H H1 H2 : Hp} (a : Ex H H1) (b : Ex H1 H2) : Ex H H2 := fun x o h => b x o (a x o h)
theorem Ex.new {H : Hp} {p : Addr} {o : HO} (h : H p = none) : Ex H (upd H p o) := fun a u e => by
  rw [upd_ne (ne_of_none e h)]; exact e
theorem Ex.back {H H' : Hp} (e : Ex H H') {p : Addr} (h : H' p = none) : H p = none := by
  cases q : H p with
  | none => rfl
  | some o => rw [e p o q] at h; cases h

/-- what is kept: all but the owned mutable objects (and, where tb, the tables of code objects) -/
def Kp (tb : Bool) (O : List Addr) (H H' : Hp) : Prop := ∀ a o, H a = some o → (a ∈ O → ¬ Mut (some o)) → (tb = true → ∀ ps, o ≠ .tbl ps) → H' a = some o
structure Stp (tb : Bool) (O : List Addr) (H : Hp) (O' : List Addr) (H' : Hp) : Prop where
  keep : Kp tb O H H'
  new : ∀ a, a ∈ O' → a ∈ O ∨ H a = none
  there : ∀ a, H' a = none → H a = none
theorem Kp.refl {tb : Bool} {O : List Addr} {H : Hp} : Kp tb O H H := fun _ _ e _ _ => e
theorem Stp.refl {tb : Bool} {O : List Addr} {H : Hp} : Stp tb O H O H := ⟨Kp.refl, fun _ h => .inl h, fun _ h => h⟩
theorem Stp.of_ex {tb : Bool} {O : List Addr} {H H' : Hp} (e : Ex H H') : Stp tb O H O H' := ⟨fun a o h _ _ => e a o h, fun _ h => .inl h, fun _ h => e.back h⟩
theorem Stp.trans {tb : Bool} {O O1 O2 : List Addr} {H H1 H2 : Hp} (a : Stp tb O H O1 H1) (b : Stp tb O1 H1 O2 H2) : Stp tb O H O2 H2 := by
  refine ⟨fun x o h h1 h2 => b.keep x o (a.keep x o h h1 h2) (fun m => ?_) h2, fun x h => ?_, fun x h => a.there x (b.there x h)⟩
  · rcases a.new x m with q | q
    · exact h1 q
    · rw [h] at q; cases q
  · rcases b.new x h with q | q
    · exact a.new x q
    · exact .inr (a.there x q)

theorem sqT_kept {K : Fg} {H H' : Hp} {a : Addr} {xs : List V} (k : ∀ a o, H a = some o → ¬ Mut (some o) → (∀ ps, o ≠ .tbl ps) → H' a = some o) (h : SqT K H a xs) : SqT K H' a xs := by
  rcases h with (h | ⟨o, h⟩) | h
  · exact .inl (.inl (k _ _ h (fun z => z) fun ps z => by cases z))
  · exact .inl (.inr ⟨o, k _ _ h (fun z => z) fun ps z => by cases z⟩)
  · exact .inr h
mutual
theorem Rp.step {K : Fg} {tb : Bool} {O O' : List Addr} {H H' : Hp} (s : Stp tb O H O' H') : ∀ {v : V} {d : D}, Rp K O H v d → Rp K O' H' v d
  | _, _, .non => .non
  | _, _, .bl b => .bl b
  | _, _, .int i => .int i
  | _, _, .str x => .str x
  | _, _, .lst (a := a) h n r => .lst (s.keep _ _ h (fun m => absurd m n) fun _ ps z => by cases z) (fun m => (s.new a m).elim n fun q => by rw [h] at q; cases q) (Rps.step s r)
  | _, _, .tup h r => .tup (sqT_kept (fun a o e m t => s.keep a o e (fun _ => m) fun _ => t) h) (Rps.step s r)
theorem Rps.step {K : Fg} {tb : Bool} {O O' : List Addr} {H H' : Hp} (s : Stp tb O H O' H') : ∀ {vs : List V} {ds : List D}, Rps K O H vs ds → Rps K O' H' vs ds
  | _, _, .nil => .nil
  | _, _, .cons h r => .cons (Rp.step s h) (Rps.step s r)
end
theorem Rp.ext {K : Fg} {O : List Addr} {H H' : Hp} (e : Ex H H') {v : V} {d : D} (h : Rp K O H v d) : Rp K O H' v d := h.step (tb := false) (Stp.of_ex e)
theorem Rps.ext {K : Fg} {O : List Addr} {H H' : Hp} (e : Ex H H') {v : List V} {d : List D} (h : Rps K O H v d) : Rps K O H' v d := h.step (tb := false) (Stp.of_ex e)
mutual
theorem Rp.mono {K : Fg} {O O' : List Addr} {H : Hp} (s : ∀ a, a ∈ O' → a ∈ O) : ∀ {v : V} {d : D}, Rp K O H v d → Rp K O' H v d
  | _, _, .non => .non
  | _, _, .bl b => .bl b
  | _, _, .int i => .int i
  | _, _, .str x => .str x
  | _, _, .lst h n r => .lst h (fun m => n (s _ m)) (Rps.mono s r)
  | _, _, .tup h r => .tup h (Rps.mono s r)
theorem Rps.mono {K : Fg} {O O' : List Addr} {H : Hp} (s : ∀ a, a ∈ O' → a ∈ O) : ∀ {vs : List V} {ds : List D}, Rps K O H vs ds → Rps K O' H vs ds
  | _, _, .nil => .nil
  | _, _, .cons h r => .cons (Rp.mono s h) (Rps.mono s r)
end
mutual
theorem Rp.dp {K : Fg} {O : List Addr} {H : Hp} : ∀ {v : V} {d : D}, Rp K O H v d → Dp K H v d
  | _, _, .non => .non
  | _, _, .bl b => .bl b
  | _, _, .int i => .int i
  | _, _, .str x => .str x
  | _, _, .lst h _ r => .lst (SqL.of h) (Rps.dp r)
  | _, _, .tup h r => .tup h (Rps.dp r)
theorem Rps.dp {K : Fg} {O : List Addr} {H : Hp} : ∀ {vs : List V} {ds : List D}, Rps K O H vs ds → DpAll K H vs ds
  | _, _, .nil => .nil
  | _, _, .cons h r => .cons (Rp.dp h) (Rps.dp r)
end
theorem Rps.length {K : Fg} {O : List Addr} {H : Hp} : ∀ {vs : List V} {ds : List D}, Rps K O H vs ds → vs.length = ds.length
  | _, _, .nil => rfl
  | _, _, .cons _ r => by rw [List.length_cons, List.length_cons, Rps.length r]
theorem Rps.get {K : Fg} {O : List Addr} {H : Hp} : ∀ {vs : List V} {ds : List D} {i : Nat} {d : D}, Rps K O H vs ds → ds[i]? = some d → ∃ v, vs[i]? = some v ∧ Rp K O H v d
  | _, _, _, _, .nil, e => by simp at e
  | _, _, 0, _, .cons h _, e => by simp at e; subst e; exact ⟨_, rfl, h⟩
  | _, _, i + 1, d, .cons _ r, e => by
    obtain ⟨v, h1, h2⟩ := Rps.get (i := i) (d := d) r (by simpa using e)
    exact ⟨v, by simpa using h1, h2⟩
theorem Rps.get' {K : Fg} {O : List Addr} {H : Hp} : ∀ {vs : List V} {ds : List D} {i : Nat} {v : V}, Rps K O H vs ds → vs[i]? = some v → ∃ d, ds[i]? = some d ∧ Rp K O H v d
  | _, _, _, _, .nil, e => by simp at e
  | _, _, 0, _, .cons h _, e => by simp at e; subst e; exact ⟨_, rfl, h⟩
  | _, _, i + 1, v, .cons _ r, e => by
    obtain ⟨d, h1, h2⟩ := Rps.get' (i := i) (v := v) r (by simpa using e)
    exact ⟨d, by simpa using h1, h2⟩
theorem Rps.append {K : Fg} {O : List Addr} {H : Hp} : ∀ {vs : List V} {ds : List D} {ws : List V} {es : List D}, Rps K O H vs ds → Rps K O H ws es → Rps K O H (vs ++ ws) (ds ++ es)
  | _, _, _, _, .nil, s => s
  | _, _, _, _, .cons h r, s => .cons h (Rps.append r s)
theorem Rps.one {K : Fg} {O : List Addr} {H : Hp} {v : V} {d : D} (h : Rp K O H v d) : Rps K O H [v] [d] := .cons h .nil
theorem Rps.reverse {K : Fg} {O : List Addr} {H : Hp} : ∀ {vs : List V} {ds : List D}, Rps K O H vs ds → Rps K O H vs.reverse ds.reverse
  | _, _, .nil => .nil
  | _, _, .cons h r => by rw [List.reverse_cons, List.reverse_cons]; exact (Rps.reverse r).append (.one h)
theorem Rps.take {K : Fg} {O : List Addr} {H : Hp} : ∀ {vs : List V} {ds : List D} (n : Nat), Rps K O H vs ds → Rps K O H (vs.take n) (ds.take n)
  | _, _, 0, _ => .nil
  | _, _, _ + 1, .nil => .nil
  | _, _, n + 1, .cons h r => .cons h (Rps.take n r)
theorem Rps.drop {K : Fg} {O : List Addr} {H : Hp} : ∀ {vs : List V} {ds : List D} (n : Nat), Rps K O H vs ds → Rps K O H (vs.drop n) (ds.drop n)
  | _, _, 0, r => r
  | _, _, _ + 1, .nil => .nil
  | _, _, n + 1, .cons _ r => Rps.drop n r
theorem Rps.set {K : Fg} {O : List Addr} {H : Hp} {v : V} {d : D} (h : Rp K O H v d) : ∀ {vs : List V} {ds : List D} (i : Nat), Rps K O H vs ds → Rps K O H (vs.set i v) (ds.set i d)
  | _, _, _, .nil => .nil
  | _, _, 0, .cons _ r => .cons h r
  | _, _, i + 1, .cons g r => .cons g (Rps.set h i r)
theorem Rps.eraseIdx {K : Fg} {O : List Addr} {H : Hp} : ∀ {vs : List V} {ds : List D} (i : Nat), Rps K O H vs ds → Rps K O H (vs.eraseIdx i) (ds.eraseIdx i)
  | _, _, _, .nil => .nil
  | _, _, 0, .cons _ r => r
  | _, _, i + 1, .cons g r => .cons g (Rps.eraseIdx i r)
theorem Rps.dropLast {K : Fg} {O : List Addr} {H : Hp} {vs : List V} {ds : List D} (r : Rps K O H vs ds) : Rps K O H vs.dropLast ds.dropLast := by
  rw [List.dropLast_eq_take, List.dropLast_eq_take, r.length]; exact r.take _
theorem rps_ints {K : Fg} {O : List Addr} {H : Hp} : ∀ {vs : List V} {ns : List Int}, Rps K O H vs (ns.map PyData.int) → vs = ns.map V.int
  | _, [], .nil => rfl
  | _, n :: ns, .cons h r => by cases h; rw [rps_ints r]; rfl
theorem rps_of_ints {K : Fg} {O : List Addr} {H : Hp} : ∀ (ns : List Int), Rps K O H (ns.map V.int) (ns.map PyData.int)
  | [] => .nil
  | n :: ns => .cons (.int n) (rps_of_ints ns)
theorem rps_bls {K : Fg} {O : List Addr} {H : Hp} : ∀ {vs : List V} {ns : List Bool}, Rps K O H vs (ns.map PyData.bool) → vs = ns.map V.bl
  | _, [], .nil => rfl
  | _, n :: ns, .cons h r => by cases h; rw [rps_bls r]; rfl
theorem Rp.ref_tuple {K : Fg} {O : List Addr} {H : Hp} {v : V} {ds : List D} (h : Rp K O H v (.tuple ds)) : ∃ a xs, v = .ref a ∧ SqT K H a xs ∧ Rps K O H xs ds := by
  cases h with
  | tup h r => exact ⟨_, _, rfl, h, r⟩
theorem Rp.ref_list {K : Fg} {O : List Addr} {H : Hp} {v : V} {ds : List D} (h : Rp K O H v (.list ds)) : ∃ a xs, v = .ref a ∧ H a = some (.lst xs) ∧ a ∉ O ∧ Rps K O H xs ds := by
  cases h with
  | lst h n r => exact ⟨_, _, rfl, h, n, r⟩
/-- data without a list -/
def noL : D → Bool
  | .none => true
  | .bool _ => true
  | .int _ => true
  | .str _ => true
  | .list _ => false
  | .tuple xs => noLs xs
  | .dict _ => false
where noLs : List D → Bool
  | [] => true
  | x :: xs => noL x && noLs xs
mutual
theorem Rp.free {K : Fg} {O O' : List Addr} {H : Hp} : ∀ {v : V} {d : D}, Rp K O H v d → noL d = true → Rp K O' H v d
  | _, _, .non, _ => .non
  | _, _, .bl b, _ => .bl b
  | _, _, .int i, _ => .int i
  | _, _, .str x, _ => .str x
  | _, _, .lst _ _ _, h => by simp [noL] at h
  | _, _, .tup h r, n => .tup h (Rps.free r (by simpa [noL] using n))
theorem Rps.free {K : Fg} {O O' : List Addr} {H : Hp} : ∀ {vs : List V} {ds : List D}, Rps K O H vs ds → noL.noLs ds = true → Rps K O' H vs ds
  | _, _, .nil, _ => .nil
  | _, _, .cons h r, n => by
    simp only [noL.noLs, Bool.and_eq_true] at n
    exact .cons (Rp.free h n.1) (Rps.free r n.2)
end

/-! ## the relation of slots -/
structure Zx where
  K : Fg
  T : List (Addr × Str)
  tb : Bool
structure Ent where
  P : List Addr
  H0 : Hp
  O0 : List Addr
  h0 : ∀ a, a ∈ O0 → H0 a ≠ none
def sl (σ : L2.St) (i : Nat) : Option V := match σ[i]? with
  | some (some v) => some v
  | _ => none
/-- a list that nobody writes -/
def FrL (K : Fg) (H : Hp) (a : Addr) (xs : List V) : Prop := (∃ o, H a = some (.frz o (.lst xs))) ∨ SqL K (fun _ => none) a xs
theorem FrL.kept {K : Fg} {H H' : Hp} {a : Addr} {xs : List V} (k : ∀ a o, H a = some o → ¬ Mut (some o) → (∀ ps, o ≠ .tbl ps) → H' a = some o) (h : FrL K H a xs) : FrL K H' a xs := by
  rcases h with ⟨o, q⟩ | q
  · exact .inl ⟨o, k _ _ q (fun z => z) fun ps z => by cases z⟩
  · exact .inr q
theorem FrL.sq {K : Fg} {H : Hp} {a : Addr} {xs : List V} (h : FrL K H a xs) : SqL K H a xs := by
  rcases h with q | (q | ⟨o, q⟩) | q
  · exact .inl (.inr q)
  · cases q
  · cases q
  · exact .inr q
def SlotR (K : Fg) (E : Ent) (O : List Addr) (H : Hp) : M → Option V → List Addr → Prop
  | .un, _, F => F = []
  | .imm d, ov, F => F = [] ∧ ∃ v, ov = some v ∧ Rp K O H v d
  | .ol ds, ov, F => ∃ a vs, F = [a] ∧ ov = some (.ref a) ∧ H a = some (.lst vs) ∧ E.H0 a = none ∧ Rps K O H vs ds
  | .bag b, ov, F => ∃ a c, F = [a, c] ∧ a ≠ c ∧ E.P = [a, c] ∧ True ∧ ov = some (.ref a) ∧ H a = some (.lst [.ref c, .int b.cur, .int b.mix]) ∧ H c = some (.lst (b.cells.map V.int))
  | .scr ns, ov, F => F = [] ∧ ∃ a, ov = some (.ref a) ∧ FrL K H a (ns.map V.int)
structure Sim (Z : Zx) (E : Ent) (O : List Addr) (σ : L2.St) (H : Hp) (s : S) : Prop where
  len : σ.length = s.length
  own : ∃ F : Nat → List Addr, (∀ i m, s[i]? = some m → SlotR Z.K E O H m (sl σ i) (F i)) ∧ (∀ i, s.length ≤ i → F i = []) ∧ (∀ i a, a ∈ F i → a ∈ O) ∧ ∀ i j a, a ∈ F i → a ∈ F j → i = j
  dom : ∀ a, a ∈ O → H a ≠ none
  sub : ∀ a, a ∈ E.O0 → a ∈ O
  fr : Kp Z.tb E.P E.H0 H
  there : ∀ a, H a = none → E.H0 a = none
  tabs : LamX.Tabs Z.T H
theorem SlotR.ext {K : Fg} {E : Ent} {O : List Addr} {H H' : Hp} (e : Ex H H') {m : M} {ov : Option V} {F : List Addr} (h : SlotR K E O H m ov F) : SlotR K E O H' m ov F := by
  cases m with
  | un => exact h
  | imm d => obtain ⟨h1, v, h2, h3⟩ := h; exact ⟨h1, v, h2, h3.ext e⟩
  | ol ds => obtain ⟨a, vs, h1, h2, h3, h4, h5⟩ := h; exact ⟨a, vs, h1, h2, e _ _ h3, h4, h5.ext e⟩
  | bag b => obtain ⟨a, c, h1, h2, h3, h4, h5, h6, h7⟩ := h; exact ⟨a, c, h1, h2, h3, h4, h5, e _ _ h6, e _ _ h7⟩
  | scr ns => obtain ⟨h1, a, h2, h3⟩ := h; exact ⟨h1, a, h2, h3.kept fun a o q _ _ => e a o q⟩
theorem Sim.ext {Z : Zx} {E : Ent} {O : List Addr} {σ : L2.St} {H H' : Hp} {s : S} (h : Sim Z E O σ H s) (e : Ex H H') : Sim Z E O σ H' s := by
  obtain ⟨l, ⟨F, h1, h2, h3, h4⟩, d, sb, f, t, tb⟩ := h
  exact ⟨l, ⟨F, fun i m q => (h1 i m q).ext e, h2, h3, h4⟩, fun a m q => d a m (e.back q), sb, fun a o q n u => e _ _ (f a o q n u), fun a q => t a (e.back q), tb.ext e⟩
theorem sl_some {σ : L2.St} {i : Nat} {v : V} (h : sl σ i = some v) : σ[i]? = some (some v) := by
  unfold sl at h
  split at h
  · next w q => cases h; exact q
  · cases h
theorem sl_of {σ : L2.St} {i : Nat} {v : V} (h : σ[i]? = some (some v)) : sl σ i = some v := by
  unfold sl; rw [h]

theorem Rp.new {K : Fg} {O : List Addr} {H0 H : Hp} {a : Addr} {v : V} {d : D} (h : Rp K O H0 v d) (n : H0 a = none) (e : Ex H0 H) : Rp K (a :: O) H v d :=
  h.step (tb := false) ⟨fun b o h1 _ _ => e b o h1, fun b m => (List.mem_cons.mp m).elim (fun q => .inr (q ▸ n)) .inl, fun b q => e.back q⟩
theorem Rps.new {K : Fg} {O : List Addr} {H0 H : Hp} {a : Addr} {v : List V} {d : List D} (h : Rps K O H0 v d) (n : H0 a = none) (e : Ex H0 H) : Rps K (a :: O) H v d :=
  h.step (tb := false) ⟨fun b o h1 _ _ => e b o h1, fun b m => (List.mem_cons.mp m).elim (fun q => .inr (q ▸ n)) .inl, fun b q => e.back q⟩
/-! ## kinds of answers -/
inductive Kd where
  | r | i | o
  deriving DecidableEq
def Rr (K : Fg) (O : List Addr) (H : Hp) (v : V) (d : D) : Prop := Rp K O H v d ∨ ∃ a vs ds, v = .ref a ∧ d = .list ds ∧ H a = some (.lst vs) ∧ Rps K O H vs ds
def Res (K : Fg) (O : List Addr) (H H' : Hp) (v : V) (d : D) : Kd → Prop
  | .r => Rr K O H' v d
  | .i => Rp K O H' v d
  | .o => ∃ a vs ds, v = .ref a ∧ d = .list ds ∧ H a = none ∧ a ∉ O ∧ H' a = some (.lst vs) ∧ Rps K (a :: O) H' vs ds
theorem Res.toR {K : Fg} {O : List Addr} {H H' : Hp} {v : V} {d : D} {k : Kd} (h : Res K O H H' v d k) : Rr K O H' v d := by
  cases k with
  | r => exact h
  | i => exact .inl h
  | o => obtain ⟨a, vs, ds, h1, h2, h3, _, h4, h5⟩ := h; exact .inr ⟨a, vs, ds, h1, h2, h4, h5.mono fun _ m => List.mem_cons_of_mem _ m⟩
theorem Res.toI {K : Fg} {O : List Addr} {H H' : Hp} {v : V} {d : D} (h : Res K O H H' v d .o) : Rp K O H' v d := by
  obtain ⟨a, vs, ds, rfl, rfl, h3, h6, h4, h5⟩ := h
  exact .lst h4 h6 (h5.mono fun _ m => List.mem_cons_of_mem _ m)
theorem Rr.ext {K : Fg} {O : List Addr} {H H' : Hp} (e : Ex H H') {v : V} {d : D} (h : Rr K O H v d) : Rr K O H' v d := by
  rcases h with h | ⟨a, vs, ds, h1, h2, h3, h4⟩
  · exact .inl (h.ext e)
  · exact .inr ⟨a, vs, ds, h1, h2, e _ _ h3, h4.ext e⟩
theorem Rr.dp {K : Fg} {O : List Addr} {H : Hp} {v : V} {d : D} (h : Rr K O H v d) : Dp K H v d := by
  rcases h with h | ⟨a, vs, ds, rfl, rfl, h3, h4⟩
  · exact h.dp
  · exact .lst (SqL.of h3) h4.dp
theorem Rr.list {K : Fg} {O : List Addr} {H : Hp} {v : V} {ds : List D} (h : Rr K O H v (.list ds)) : ∃ a vs, v = .ref a ∧ H a = some (.lst vs) ∧ Rps K O H vs ds := by
  rcases h with h | ⟨a, vs, ds', rfl, e, h3, h4⟩
  · obtain ⟨a, vs, h1, h2, _, h3⟩ := h.ref_list
    exact ⟨a, vs, h1, h2, h3⟩
  · cases e; exact ⟨a, vs, rfl, h3, h4⟩
theorem Rr.tuple {K : Fg} {O : List Addr} {H : Hp} {v : V} {ds : List D} (h : Rr K O H v (.tuple ds)) : ∃ a vs, v = .ref a ∧ SqT K H a vs ∧ Rps K O H vs ds := by
  rcases h with h | ⟨a, vs, ds', rfl, e, h3, h4⟩
  · exact h.ref_tuple
  · cases e
theorem Rr.int {K : Fg} {O : List Addr} {H : Hp} {v : V} {i : Int} (h : Rr K O H v (.int i)) : v = .int i := by
  rcases h with h | ⟨_, _, _, _, e, _⟩
  · cases h; rfl
  · cases e
theorem Rr.bool {K : Fg} {O : List Addr} {H : Hp} {v : V} {i : Bool} (h : Rr K O H v (.bool i)) : v = .bl i := by
  rcases h with h | ⟨_, _, _, _, e, _⟩
  · cases h; rfl
  · cases e
theorem Rr.str {K : Fg} {O : List Addr} {H : Hp} {v : V} {i : Str} (h : Rr K O H v (.str i)) : v = .str i := by
  rcases h with h | ⟨_, _, _, _, e, _⟩
  · cases h; rfl
  · cases e
theorem Rr.none {K : Fg} {O : List Addr} {H : Hp} {v : V} (h : Rr K O H v .none) : v = .non := by
  rcases h with h | ⟨_, _, _, _, e, _⟩
  · cases h; rfl
  · cases e
end Y

namespace Y
open PySem PySem.Spec PyProof.Rows L2

/-! ## quiet expressions: the canonical reading of a function on slots -/
section
variable {X : Cx} {T : List (Addr × Str)} {tb : Bool}
theorem imp_e {e : Expr} {t t' : TE} (h : PE X e t) (hi : ∀ σ H Q, t' σ H Q → t σ H Q) : PE X e t' := ⟨fun pins s σ H Q I hw => h.run pins s σ H Q I (hi σ H Q hw)⟩
theorem imp_t {e : Expr} {t t' : TT} (h : PT X e t) (hi : ∀ σ H Q, t' σ H Q → t σ H Q) : PT X e t' := ⟨fun pins s σ H Q I hw => h.run pins s σ H Q I (hi σ H Q hw)⟩
theorem imp_w {e : Expr} {t t' : TT} (h : PW X e t) (hi : ∀ σ H Q, t' σ H Q → t σ H Q) : PW X e t' := ⟨fun w pins s σ H Q I hw => h.run w pins s σ H Q I (hi σ H Q hw)⟩
theorem imp_a {e : List Expr} {t t' : TA} (h : PA X e t) (hi : ∀ σ H Q, t' σ H Q → t σ H Q) : PA X e t' := ⟨fun p pins s σ H Q I hw => h.run p pins s σ H Q I (hi σ H Q hw)⟩
theorem imp_o {e : Option Expr} {t t' : TO} (h : PO X e t) (hi : ∀ σ H Q, t' σ H Q → t σ H Q) : PO X e t' := ⟨fun pins s σ H Q I hw => h.run pins s σ H Q I (hi σ H Q hw)⟩
theorem imp_s {e : Stmt} {t t' : TS} (h : PS X e t) (hi : ∀ D σ H, t' D σ H → t D σ H) : PS X e t' := ⟨fun pins s σ H Q I hw => h.run pins s σ H Q I (hi Q σ H hw)⟩
theorem imp_ss {e : List Stmt} {t t' : TS} (h : PSs X e t) (hi : ∀ D σ H, t' D σ H → t D σ H) : PSs X e t' := ⟨fun pins s σ H Q I hw => h.run pins s σ H Q I (hi Q σ H hw)⟩
end

theorem Res.from {K : Fg} {O : List Addr} {H H1 H' : Hp} {v : V} {d : D} {k : Kd} (e : Ex H H1) (h : Res K O H1 H' v d k) : Res K O H H' v d k := by
  cases k with
  | r => exact h
  | i => exact h
  | o => obtain ⟨a, vs, ds, h1, h2, h3, h4, h5⟩ := h; exact ⟨a, vs, ds, h1, h2, e.back h3, h4, h5⟩
theorem Res.toI' {K : Fg} {O : List Addr} {H H' : Hp} {v : V} {d : D} {k : Kd} (n : k ≠ .r) (h : Res K O H H' v d k) : Rp K O H' v d := by
  cases k with
  | r => exact absurd rfl n
  | i => exact h
  | o => exact h.toI
inductive Rrs (K : Fg) (O : List Addr) (H : Hp) : List V → List D → Prop
  | nil : Rrs K O H [] []
  | cons {v : V} {vs : List V} {d : D} {ds : List D} : Rr K O H v d → Rrs K O H vs ds → Rrs K O H (v :: vs) (d :: ds)
theorem Rrs.ext {K : Fg} {O : List Addr} {H H' : Hp} (e : Ex H H') : ∀ {vs : List V} {ds : List D}, Rrs K O H vs ds → Rrs K O H' vs ds
  | _, _, .nil => .nil
  | _, _, .cons h r => .cons (h.ext e) (r.ext e)
theorem Rrs.of {K : Fg} {O : List Addr} {H : Hp} : ∀ {vs : List V} {ds : List D}, Rps K O H vs ds → Rrs K O H vs ds
  | _, _, .nil => .nil
  | _, _, .cons h r => .cons (.inl h) (.of r)
def ResL (K : Fg) (O : List Addr) (H : Hp) (vs : List V) (ds : List D) : Bool → Prop
  | true => Rps K O H vs ds
  | false => Rrs K O H vs ds
theorem ResL.toR {K : Fg} {O : List Addr} {H : Hp} {vs : List V} {ds : List D} {b : Bool} (h : ResL K O H vs ds b) : Rrs K O H vs ds := by
  cases b with
  | true => exact .of h
  | false => exact h

def tQ (Z : Zx) (k : Kd) (m : S → Option D) : TE := fun σ H Q => ∃ E O s d, Sim Z E O σ H s ∧ m s = some d ∧ ∀ v H', Ex H H' → Res Z.K O H H' v d k → Q v H'
def tTQ (Z : Zx) (m : S → Option Bool) : TT := fun σ H Q => ∃ E O s b, Sim Z E O σ H s ∧ m s = some b ∧ ∀ H', Ex H H' → Q b H'
def tAQ (Z : Zx) (k : Bool) (m : S → Option (List D)) : TA := fun σ H Q => ∃ E O s ds, Sim Z E O σ H s ∧ m s = some ds ∧ ∀ vs H', Ex H H' → ResL Z.K O H' vs ds k → Q vs H'
def tOQ (Z : Zx) (m : S → Option (Option Int)) : TO := fun σ H Q => ∃ E O s o, Sim Z E O σ H s ∧ m s = some o ∧ ∀ H', Ex H H' → Q o H'
abbrev QE (X : Cx) (T : List (Addr × Str)) (tb : Bool) (k : Kd) (e : Expr) (m : S → Option D) : Prop := PE X e (tQ ⟨X.K, T, tb⟩ k m)
abbrev QT (X : Cx) (T : List (Addr × Str)) (tb : Bool) (e : Expr) (m : S → Option Bool) : Prop := PT X e (tTQ ⟨X.K, T, tb⟩ m)
abbrev QA (X : Cx) (T : List (Addr × Str)) (tb : Bool) (k : Bool) (es : List Expr) (m : S → Option (List D)) : Prop := PA X es (tAQ ⟨X.K, T, tb⟩ k m)
abbrev QO (X : Cx) (T : List (Addr × Str)) (tb : Bool) (e : Option Expr) (m : S → Option (Option Int)) : Prop := PO X e (tOQ ⟨X.K, T, tb⟩ m)

/-! ## the functions -/
def varM (i : Nat) : S → Option D := fun s => match s[i]? with
  | some (.imm d) => some d
  | _ => none
def varR (i : Nat) : S → Option D := fun s => match s[i]? with
  | some (.imm d) => some d
  | some (.ol ds) => some (.list ds)
  | _ => none
def cM (d : D) : S → Option D := fun _ => some d
def op1 (g : D → Option D) (a : S → Option D) : S → Option D := fun s => (a s).bind g
def op2 (g : D → D → Option D) (a b : S → Option D) : S → Option D := fun s => (a s).bind fun x => (b s).bind fun y => g x y
def argN : S → Option (List D) := fun _ => some []
def argC (a : S → Option D) (r : S → Option (List D)) : S → Option (List D) := fun s => (a s).bind fun x => (r s).bind fun xs => some (x :: xs)
def tupM (r : S → Option (List D)) : S → Option D := fun s => (r s).bind fun xs => if xs.length ≤ 10000 then some (.tuple xs) else none
def lstM (r : S → Option (List D)) : S → Option D := fun s => (r s).bind fun xs => if xs.length ≤ 10000 then some (.list xs) else none
def ifM (t : S → Option Bool) (a b : S → Option D) : S → Option D := fun s => (t s).bind fun c => if c = true then a s else b s
def boolD : D → Option Bool
  | .bool b => some b
  | _ => none
theorem boolD_some {d : D} {b : Bool} (h : boolD d = some b) : d = .bool b := by
  cases d <;> simp [boolD] at h
  rw [h]
def tvM (a : S → Option D) : S → Option Bool := fun s => (a s).bind boolD
def notT (a : S → Option Bool) : S → Option Bool := fun s => (a s).map (!·)
def andT (a b : S → Option Bool) : S → Option Bool := fun s => (a s).bind fun c => if c = true then b s else some false
def orT (a b : S → Option Bool) : S → Option Bool := fun s => (a s).bind fun c => if c = true then some true else b s
def andV (a b : S → Option D) : S → Option D := fun s => (a s).bind fun x => (boolD x).bind fun c => if c = true then b s else some (.bool false)
def orV (a b : S → Option D) : S → Option D := fun s => (a s).bind fun x => (boolD x).bind fun c => if c = true then some (.bool true) else b s
def notV (a : S → Option D) : S → Option D := fun s => (a s).bind fun x => (boolD x).bind fun c => some (.bool (!c))
def chainM (g h : D → D → Option D) (a b c : S → Option D) : S → Option D := fun s => (a s).bind fun x => (b s).bind fun y => (g x y).bind fun z => (boolD z).bind fun k => if k = true then (c s).bind fun w => h y w else some (.bool false)
def pnM : S → Option (Option Int) := fun _ => some none
def intD : D → Option Int
  | .int i => some i
  | _ => none
def psM (a : S → Option D) : S → Option (Option Int) := fun s => (a s).bind fun x => (intD x).map some
def slM (g : D → Option Int → Option Int → Option D) (a : S → Option D) (lo hi : S → Option (Option Int)) : S → Option D := fun s => (a s).bind fun x => (lo s).bind fun l => (hi s).bind fun h => g x l h
def callM (g : List D → Option D) (r : S → Option (List D)) : S → Option D := fun s => (r s).bind g

section
variable {X : Cx} {T : List (Addr × Str)} {tb : Bool}
abbrev Zo (X : Cx) (T : List (Addr × Str)) (tb : Bool) : Zx := ⟨X.K, T, tb⟩

theorem q_var (i : Nat) {x : Str} {pos : Pos} (hN : X.N[i]? = some x := by rfl) (hv : Vis X.env.scope x := by first | exact Or.inl rfl | exact Or.inr (Or.inl rfl) | exact Or.inr (Or.inr rfl)) (hd : (x == ("__debug__" : Str)) = false := by decide)
    (hcd : (x == ("__classdict__" : Str)) = false := by decide) : QE X T tb .i (.Name x pos) (varM i) := by
  refine imp_e (pe_var hN hv hd hcd) fun σ H Q h => ?_
  obtain ⟨E, O, s, d, sm, hm, k⟩ := h
  unfold varM at hm
  split at hm
  · next d' q =>
    cases hm
    obtain ⟨F, f1, _⟩ := sm.own
    obtain ⟨_, v, h2, h3⟩ := f1 i _ q
    exact ⟨v, sl_some h2, k v H (Ex.refl H) h3⟩
  · cases hm
theorem q_varR (i : Nat) {x : Str} {pos : Pos} (hN : X.N[i]? = some x := by rfl) (hv : Vis X.env.scope x := by first | exact Or.inl rfl | exact Or.inr (Or.inl rfl) | exact Or.inr (Or.inr rfl)) (hd : (x == ("__debug__" : Str)) = false := by decide)
    (hcd : (x == ("__classdict__" : Str)) = false := by decide) : QE X T tb .r (.Name x pos) (varR i) := by
  refine imp_e (pe_var hN hv hd hcd) fun σ H Q h => ?_
  obtain ⟨E, O, s, d, sm, hm, k⟩ := h
  obtain ⟨F, f1, _⟩ := sm.own
  unfold varR at hm
  split at hm
  · next d' q =>
    cases hm
    obtain ⟨_, v, h2, h3⟩ := f1 i _ q
    exact ⟨v, sl_some h2, k v H (Ex.refl H) (.inl h3)⟩
  · next d' q =>
    cases hm
    obtain ⟨a, vs, _, h2, h3, _, h5⟩ := f1 i _ q
    exact ⟨_, sl_some h2, k _ H (Ex.refl H) (.inr ⟨a, vs, _, rfl, rfl, h3, h5⟩)⟩
  · cases hm
theorem q_c {e : Expr} {v : V} {d : D} (h : PE X e (tC v)) (r : ∀ K O H, Rp K O H v d) : QE X T tb .i e (cM d) := by
  refine imp_e h fun σ H Q h => ?_
  obtain ⟨E, O, s, d', sm, hm, k⟩ := h
  cases hm
  exact k v H (Ex.refl H) (r _ _ _)
theorem q_int {i : Int} {j pos} : QE X T tb .i (.Constant (.int i) j pos) (cM (.int i)) := q_c pe_int fun _ _ _ => .int i
theorem q_bl {b : Bool} {j pos} : QE X T tb .i (.Constant (.bool b) j pos) (cM (.bool b)) := q_c pe_bl fun _ _ _ => .bl b
theorem q_non {j pos} : QE X T tb .i (.Constant .none j pos) (cM .none) := q_c pe_non fun _ _ _ => .non
theorem q_str {x : Str} {j pos} : QE X T tb .i (.Constant (.str x) j pos) (cM (.str x)) := q_c pe_str fun _ _ _ => .str x
theorem q_ir {k : Kd} {e : Expr} {m : S → Option D} (h : QE X T tb k e m) : QE X T tb .r e m := imp_e h fun σ H Q ⟨E, O, s, d, sm, hm, q⟩ => ⟨E, O, s, d, sm, hm, fun v H' e r => q v H' e r.toR⟩
theorem q_i {k : Kd} {e : Expr} {m : S → Option D} (h : QE X T tb k e m) (n : k ≠ .r := by decide) : QE X T tb .i e m := imp_e h fun σ H Q ⟨E, O, s, d, sm, hm, q⟩ => ⟨E, O, s, d, sm, hm, fun v H' e r => q v H' e (r.toI' n)⟩

/-- what an operation on two values gives of data -/
def OpS (X : Cx) (f : Value → Value → Sem Value) (k : Kd) (g : D → D → Option D) : Prop :=
  ∃ r : R2, OpR X f r ∧ ∀ (O : List Addr) (H : Hp) (x y : V) (dx dy d : D) (Q : VK), (∀ a, a ∈ O → H a ≠ none) → Rr X.K O H x dx → Rr X.K O H y dy → g dx dy = some d → (∀ v H', Ex H H' → Res X.K O H H' v d k → Q v H') → r x y H Q
theorem op_two {r : R2} {k : Kd} {g : D → D → Option D} {ka kb : Kd} {ma mb : S → Option D}
    (hs : ∀ (O : List Addr) (H : Hp) (x y : V) (dx dy d : D) (Q : VK), (∀ a, a ∈ O → H a ≠ none) → Rr X.K O H x dx → Rr X.K O H y dy → g dx dy = some d → (∀ v H', Ex H H' → Res X.K O H H' v d k → Q v H') → r x y H Q)
    {σ : L2.St} {H : Hp} {Q : VK} (h : tQ (Zo X T tb) k (op2 g ma mb) σ H Q) : tOp r (tQ (Zo X T tb) ka ma) (tQ (Zo X T tb) kb mb) σ H Q := by
  obtain ⟨E, O, s, d, sm, hm, k⟩ := h
  unfold op2 at hm
  obtain ⟨x, hx, hm⟩ := Option.bind_eq_some_iff.mp hm
  obtain ⟨y, hy, hm⟩ := Option.bind_eq_some_iff.mp hm
  refine ⟨E, O, s, x, sm, hx, fun v H1 e1 r1 => ⟨E, O, s, y, sm.ext e1, hy, fun u H2 e2 r2 => ?_⟩⟩
  exact hs O H2 v u x y d Q (fun a m => (sm.ext (e1.trans e2)).dom a m) (r1.toR.ext e2) r2.toR hm fun w H3 e3 r3 => k w H3 (e1.trans (e2.trans e3)) (Res.from (e1.trans e2) r3)
theorem q_op {op : Operator} {k : Kd} {g : D → D → Option D} (h : OpS X (binaryOp op) k g) {a b : Expr} {pos : Pos} {ka kb : Kd} {ma mb : S → Option D} (ha : QE X T tb ka a ma) (hb : QE X T tb kb b mb) : QE X T tb k (.BinOp a op b pos) (op2 g ma mb) := by
  obtain ⟨r, ho, hs⟩ := h
  exact imp_e (pe_op ho ha hb) fun σ H Q h => op_two hs h
theorem q_cmp {op : CmpOp} {k : Kd} {g : D → D → Option D} (h : OpS X (compareOp op) k g) {a b : Expr} {pos : Pos} {ka kb : Kd} {ma mb : S → Option D} (ha : QE X T tb ka a ma) (hb : QE X T tb kb b mb) (hm : behindInMarks op b = false) : QE X T tb k (.Compare a [op] [b] pos) (op2 g ma mb) := by
  obtain ⟨r, ho, hs⟩ := h
  exact imp_e (pe_cmpR ho ha hb hm) fun σ H Q h => op_two hs h
theorem tv_two {r : R2} {g : D → D → Option D} {ma mb : S → Option D} {σ : L2.St} {H : Hp} {Q : Bool → Hp → Prop} (h : tTQ (Zo X T tb) (tvM (op2 g ma mb)) σ H Q) :
    tQ (Zo X T tb) .i (op2 g ma mb) σ H fun x H' => ∃ k, x = .bl k ∧ Q k H' := by
  obtain ⟨E, O, s, b, sm, hm, k⟩ := h
  unfold tvM at hm
  obtain ⟨x, hx, hm⟩ := Option.bind_eq_some_iff.mp hm
  refine ⟨E, O, s, x, sm, hx, fun v H1 e1 r1 => ?_⟩
  cases x <;> simp [boolD] at hm
  subst hm
  have r1 : Rp X.K O H1 v (.bool _) := r1
  cases r1
  exact ⟨_, rfl, k H1 e1⟩
theorem qt_cmp {op : CmpOp} {g : D → D → Option D} (h : OpS X (compareOp op) .i g) {a b : Expr} {pos : Pos} {ka kb : Kd} {ma mb : S → Option D} (ha : QE X T tb ka a ma) (hb : QE X T tb kb b mb) (hm : behindInMarks op b = false) : QT X T tb (.Compare a [op] [b] pos) (tvM (op2 g ma mb)) := by
  obtain ⟨r, ho, hs⟩ := h
  exact imp_t (pt_cmpR ho ha hb hm) fun σ H Q h => op_two hs (tv_two (r := r) h)
theorem tv_one {m : S → Option D} {k : Kd} {σ : L2.St} {H : Hp} {Q : Bool → Hp → Prop} (h : tTQ (Zo X T tb) (tvM m) σ H Q) :
    tQ (Zo X T tb) k m σ H fun x H' => ∃ k, x = .bl k ∧ Q k H' := by
  obtain ⟨E, O, s, b, sm, hm, q⟩ := h
  unfold tvM at hm
  obtain ⟨x, hx, hm⟩ := Option.bind_eq_some_iff.mp hm
  refine ⟨E, O, s, x, sm, hx, fun v H1 e1 r1 => ?_⟩
  cases x <;> simp [boolD] at hm
  subst hm
  exact ⟨_, r1.toR.bool, q H1 e1⟩
theorem qt_val {e : Expr} {m : S → Option D} {k : Kd} (h : QE X T tb k e m) (he : ∀ whole, isTrue e X.env whole = (do let v ← whole; standAt e.pos; holding [v] (truthy v)) := by intro _; rfl) : QT X T tb e (tvM m) :=
  imp_t (pt_val h he) fun σ H Q h => tv_one h
theorem qt_not {a : Expr} {pos : Pos} {m : S → Option Bool} (h : QT X T tb a m) : QT X T tb (.UnaryOp .Not a pos) (notT m) := imp_t (pt_not h) fun σ H Q h => by
  obtain ⟨E, O, s, b, sm, hm, q⟩ := h
  unfold notT at hm
  obtain ⟨c, hc, hm⟩ := Option.map_eq_some_iff.mp hm
  subst hm
  exact ⟨E, O, s, c, sm, hc, fun H' e => q H' e⟩
abbrev QW (X : Cx) (T : List (Addr × Str)) (tb : Bool) (e : Expr) (m : S → Option Bool) : Prop := PW X e (tTQ (Zo X T tb) m)
theorem qw_t {e : Expr} {m : S → Option Bool} (h : QW X T tb e m) : QT X T tb e m := h.pt
theorem qw_and1 {a : Expr} {pos : Pos} {m : S → Option Bool} (h : QT X T tb a m) : QW X T tb (.BoolOp .And [a] pos) m := pw_and1 h
theorem qw_or1 {a : Expr} {pos : Pos} {m : S → Option Bool} (h : QT X T tb a m) : QW X T tb (.BoolOp .Or [a] pos) m := pw_or1 h
theorem qw_and {a b : Expr} {rest : List Expr} {pos : Pos} {m n : S → Option Bool} (ha : QT X T tb a m) (hb : QW X T tb (.BoolOp .And (b :: rest) pos) n) : QW X T tb (.BoolOp .And (a :: b :: rest) pos) (andT m n) := imp_w (pw_and ha hb) fun σ H Q h => by
  obtain ⟨E, O, s, b, sm, hm, q⟩ := h
  unfold andT at hm
  obtain ⟨c, hc, hm⟩ := Option.bind_eq_some_iff.mp hm
  refine ⟨E, O, s, c, sm, hc, fun H' e => ?_⟩
  cases c with
  | true => exact iteT ⟨E, O, s, b, sm.ext e, hm, fun H2 e2 => q H2 (e.trans e2)⟩
  | false => cases hm; exact iteF (q H' e)
theorem qw_or {a b : Expr} {rest : List Expr} {pos : Pos} {m n : S → Option Bool} (ha : QT X T tb a m) (hb : QW X T tb (.BoolOp .Or (b :: rest) pos) n) : QW X T tb (.BoolOp .Or (a :: b :: rest) pos) (orT m n) := imp_w (pw_or ha hb) fun σ H Q h => by
  obtain ⟨E, O, s, b, sm, hm, q⟩ := h
  unfold orT at hm
  obtain ⟨c, hc, hm⟩ := Option.bind_eq_some_iff.mp hm
  refine ⟨E, O, s, c, sm, hc, fun H' e => ?_⟩
  cases c with
  | true => cases hm; exact iteT (q H' e)
  | false => exact iteF ⟨E, O, s, b, sm.ext e, hm, fun H2 e2 => q H2 (e.trans e2)⟩
theorem q_one {op : BoolOp} {a : Expr} {pos : Pos} {k : Kd} {m : S → Option D} (h : QE X T tb k a m) : QE X T tb k (.BoolOp op [a] pos) m := pe_one h
theorem q_and {a b : Expr} {rest : List Expr} {pos : Pos} {k : Kd} {m n : S → Option D} (ha : QE X T tb k a m) (hb : QE X T tb .i (.BoolOp .And (b :: rest) pos) n) : QE X T tb .i (.BoolOp .And (a :: b :: rest) pos) (andV m n) := imp_e (pe_and ha hb) fun σ H Q h => by
  obtain ⟨E, O, s, d, sm, hm, q⟩ := h
  unfold andV at hm
  obtain ⟨x, hx, hm⟩ := Option.bind_eq_some_iff.mp hm
  obtain ⟨c, hc, hm⟩ := Option.bind_eq_some_iff.mp hm
  refine ⟨E, O, s, x, sm, hx, fun v H' e r => ?_⟩
  obtain rfl := boolD_some hc
  rw [r.toR.bool]
  refine ⟨_, rfl, ?_⟩
  cases c with
  | true => exact iteT ⟨E, O, s, d, sm.ext e, hm, fun w H2 e2 r2 => q w H2 (e.trans e2) r2⟩
  | false => cases hm; exact iteF (q _ H' e (.bl false))
theorem q_or {a b : Expr} {rest : List Expr} {pos : Pos} {k : Kd} {m n : S → Option D} (ha : QE X T tb k a m) (hb : QE X T tb .i (.BoolOp .Or (b :: rest) pos) n) : QE X T tb .i (.BoolOp .Or (a :: b :: rest) pos) (orV m n) := imp_e (pe_or ha hb) fun σ H Q h => by
  obtain ⟨E, O, s, d, sm, hm, q⟩ := h
  unfold orV at hm
  obtain ⟨x, hx, hm⟩ := Option.bind_eq_some_iff.mp hm
  obtain ⟨c, hc, hm⟩ := Option.bind_eq_some_iff.mp hm
  refine ⟨E, O, s, x, sm, hx, fun v H' e r => ?_⟩
  obtain rfl := boolD_some hc
  rw [r.toR.bool]
  refine ⟨_, rfl, ?_⟩
  cases c with
  | true => cases hm; exact iteT (q _ H' e (.bl true))
  | false => exact iteF ⟨E, O, s, d, sm.ext e, hm, fun w H2 e2 r2 => q w H2 (e.trans e2) r2⟩
theorem q_not {a : Expr} {pos : Pos} {k : Kd} {m : S → Option D} (ha : QE X T tb k a m) : QE X T tb .i (.UnaryOp .Not a pos) (notV m) := imp_e (pe_not ha) fun σ H Q h => by
  obtain ⟨E, O, s, d, sm, hm, q⟩ := h
  unfold notV at hm
  obtain ⟨x, hx, hm⟩ := Option.bind_eq_some_iff.mp hm
  obtain ⟨c, hc, hm⟩ := Option.bind_eq_some_iff.mp hm
  refine ⟨E, O, s, x, sm, hx, fun v H' e r => ?_⟩
  obtain rfl := boolD_some hc
  cases hm
  rw [r.toR.bool]
  exact ⟨_, rfl, q _ H' e (.bl _)⟩
theorem q_if {c a b : Expr} {pos : Pos} {k : Kd} {t : S → Option Bool} {m n : S → Option D} (hc : QT X T tb c t) (ha : QE X T tb k a m) (hb : QE X T tb k b n) : QE X T tb k (.IfExp c a b pos) (ifM t m n) := imp_e (pe_ifExp hc ha hb) fun σ H Q h => by
  obtain ⟨E, O, s, d, sm, hm, q⟩ := h
  unfold ifM at hm
  obtain ⟨c, hc, hm⟩ := Option.bind_eq_some_iff.mp hm
  refine ⟨E, O, s, c, sm, hc, fun H' e => ?_⟩
  cases c with
  | true => exact iteT ⟨E, O, s, d, sm.ext e, hm, fun w H2 e2 r2 => q w H2 (e.trans e2) (r2.from e)⟩
  | false => exact iteF ⟨E, O, s, d, sm.ext e, hm, fun w H2 e2 r2 => q w H2 (e.trans e2) (r2.from e)⟩
theorem op_chain {r r' : R2} {g h : D → D → Option D} {ka kb kc : Kd} {ma mb mc : S → Option D}
    (hs : ∀ (O : List Addr) (H : Hp) (x y : V) (dx dy d : D) (Q : VK), (∀ a, a ∈ O → H a ≠ none) → Rr X.K O H x dx → Rr X.K O H y dy → g dx dy = some d → (∀ v H', Ex H H' → Res X.K O H H' v d .i → Q v H') → r x y H Q)
    (hs' : ∀ (O : List Addr) (H : Hp) (x y : V) (dx dy d : D) (Q : VK), (∀ a, a ∈ O → H a ≠ none) → Rr X.K O H x dx → Rr X.K O H y dy → h dx dy = some d → (∀ v H', Ex H H' → Res X.K O H H' v d .i → Q v H') → r' x y H Q)
    {σ : L2.St} {H : Hp} {Q : VK} (hq : tQ (Zo X T tb) .i (chainM g h ma mb mc) σ H Q) : tChain r r' (tQ (Zo X T tb) ka ma) (tQ (Zo X T tb) kb mb) (tQ (Zo X T tb) kc mc) σ H Q := by
  obtain ⟨E, O, s, d, sm, hm, q⟩ := hq
  unfold chainM at hm
  obtain ⟨x, hx, hm⟩ := Option.bind_eq_some_iff.mp hm
  obtain ⟨y, hy, hm⟩ := Option.bind_eq_some_iff.mp hm
  obtain ⟨z, hz, hm⟩ := Option.bind_eq_some_iff.mp hm
  obtain ⟨c, hc, hm5⟩ := Option.bind_eq_some_iff.mp hm
  refine ⟨E, O, s, x, sm, hx, fun v H1 e1 r1 => ⟨E, O, s, y, sm.ext e1, hy, fun u H2 e2 r2 => ?_⟩⟩
  have s2 := sm.ext (e1.trans e2)
  refine hs O H2 v u x y z _ s2.dom (r1.toR.ext e2) r2.toR hz fun w H3 e3 r3 => ?_
  obtain rfl := boolD_some hc
  have r3 : Rp X.K O H3 w (.bool _) := r3
  cases r3
  refine ⟨_, rfl, ?_⟩
  cases c with
  | true =>
    rw [if_pos rfl] at hm5
    obtain ⟨p, hp, hm6⟩ := Option.bind_eq_some_iff.mp hm5
    refine iteT ⟨E, O, s, p, s2.ext e3, hp, fun w H4 e4 r4 => ?_⟩
    exact hs' O H4 u w y p d Q (s2.ext (e3.trans e4)).dom (r2.toR.ext (e3.trans e4)) r4.toR hm6 fun w' H5 e5 r5 => q w' H5 (e1.trans (e2.trans (e3.trans (e4.trans e5)))) r5
  | false => cases hm5; exact iteF (q _ H3 (e1.trans (e2.trans e3)) (.bl false))
theorem q_chain {op op' : CmpOp} {g h : D → D → Option D} (ho : OpS X (compareOp op) .i g) (ho' : OpS X (compareOp op') .i h) {a b c : Expr} {pos : Pos} {ka kb kc : Kd} {ma mb mc : S → Option D} (ha : QE X T tb ka a ma) (hb : QE X T tb kb b mb) (hc : QE X T tb kc c mc)
    (hl : lastMarks [op, op'] [b, c] = false := by rfl) : QE X T tb .i (.Compare a [op, op'] [b, c] pos) (chainM g h ma mb mc) := by
  obtain ⟨r, ho, hs⟩ := ho
  obtain ⟨r', ho', hs'⟩ := ho'
  exact imp_e (pe_chain ho ho' ha hb hc hl) fun σ H Q h => op_chain hs hs' h
theorem q_un {op : UnaryOp} {k : Kd} {g : D → Option D} {r : V → Hp → VK → Prop} (ho : UnR X (unaryOp op) r)
    (hs : ∀ (O : List Addr) (H : Hp) (x : V) (dx d : D) (Q : VK), Rr X.K O H x dx → g dx = some d → (∀ v H', Ex H H' → Res X.K O H H' v d k → Q v H') → r x H Q)
    {a : Expr} {pos : Pos} {ka : Kd} {ma : S → Option D} (ha : QE X T tb ka a ma) : QE X T tb k (.UnaryOp op a pos) (op1 g ma) := imp_e (pe_un ho ha) fun σ H Q h => by
  obtain ⟨E, O, s, d, sm, hm, q⟩ := h
  unfold op1 at hm
  obtain ⟨x, hx, hm⟩ := Option.bind_eq_some_iff.mp hm
  exact ⟨E, O, s, x, sm, hx, fun v H1 e1 r1 => hs O H1 v x d Q r1.toR hm fun w H2 e2 r2 => q w H2 (e1.trans e2) (r2.from e1)⟩

/-! ## argument lists, displays -/
theorem a_nil {b : Bool} : QA X T tb b [] argN := imp_a pa_nil fun σ H Q h => by
  obtain ⟨E, O, s, d, sm, hm, q⟩ := h
  cases hm
  refine q [] H (Ex.refl H) ?_
  cases b with
  | true => exact Rps.nil
  | false => exact Rrs.nil
theorem a_consR {e : Expr} {es : List Expr} {k : Kd} {m : S → Option D} {n : S → Option (List D)} (ha : QE X T tb k e m) (hr : QA X T tb false es n) (hs : starEach (e :: es) X.env = (false, eval e X.env) :: starEach es X.env := by rfl) : QA X T tb false (e :: es) (argC m n) := imp_a (pa_cons ha hr hs) fun σ H Q h => by
  obtain ⟨E, O, s, d, sm, hm, q⟩ := h
  unfold argC at hm
  obtain ⟨x, hx, hm⟩ := Option.bind_eq_some_iff.mp hm
  obtain ⟨xs, hxs, hm⟩ := Option.bind_eq_some_iff.mp hm
  cases hm
  exact ⟨E, O, s, x, sm, hx, fun v H1 e1 r1 => ⟨E, O, s, xs, sm.ext e1, hxs, fun vs H2 e2 r2 => q (v :: vs) H2 (e1.trans e2) (Rrs.cons (r1.toR.ext e2) r2)⟩⟩
theorem a_consI {e : Expr} {es : List Expr} {k : Kd} {m : S → Option D} {n : S → Option (List D)} (ha : QE X T tb k e m) (hr : QA X T tb true es n) (nk : k ≠ .r := by decide) (hs : starEach (e :: es) X.env = (false, eval e X.env) :: starEach es X.env := by rfl) : QA X T tb true (e :: es) (argC m n) := imp_a (pa_cons ha hr hs) fun σ H Q h => by
  obtain ⟨E, O, s, d, sm, hm, q⟩ := h
  unfold argC at hm
  obtain ⟨x, hx, hm⟩ := Option.bind_eq_some_iff.mp hm
  obtain ⟨xs, hxs, hm⟩ := Option.bind_eq_some_iff.mp hm
  cases hm
  exact ⟨E, O, s, x, sm, hx, fun v H1 e1 r1 => ⟨E, O, s, xs, sm.ext e1, hxs, fun vs H2 e2 r2 => q (v :: vs) H2 (e1.trans e2) (Rps.cons ((r1.toI' nk).ext e2) r2)⟩⟩
theorem len_line {n : Nat} (h : n ≤ 10000) : n ≤ sizeLine := Nat.le_trans h (by decide)
theorem q_tup {es : List Expr} {x1 pos} {n : S → Option (List D)} (h : QA X T tb true es n) : QE X T tb .i (.Tuple es x1 pos) (tupM n) := imp_e (pe_tup h) fun σ H Q h => by
  obtain ⟨E, O, s, d, sm, hm, q⟩ := h
  unfold tupM at hm
  obtain ⟨xs, hxs, hm⟩ := Option.bind_eq_some_iff.mp hm
  split at hm
  · next hl =>
    cases hm
    refine ⟨E, O, s, xs, sm, hxs, fun vs H1 e1 r1 => ?_⟩
    have r1 : Rps X.K O H1 vs xs := r1
    refine ⟨by rw [r1.length]; exact len_line hl, fun p hp => ?_⟩
    have e2 : Ex H1 (upd H1 p (.tup vs)) := Ex.new hp
    exact q _ _ (e1.trans e2) (.tup (SqT.of upd_same) (r1.ext e2))
  · cases hm
theorem q_lst {es : List Expr} {pos} {n : S → Option (List D)} (h : QA X T tb true es n) : QE X T tb .o (.List es pos) (lstM n) := imp_e (pe_lst h) fun σ H Q h => by
  obtain ⟨E, O, s, d, sm, hm, q⟩ := h
  unfold lstM at hm
  obtain ⟨xs, hxs, hm⟩ := Option.bind_eq_some_iff.mp hm
  split at hm
  · next hl =>
    cases hm
    refine ⟨E, O, s, xs, sm, hxs, fun vs H1 e1 r1 => ?_⟩
    have r1 : Rps X.K O H1 vs xs := r1
    refine ⟨by rw [r1.length]; exact len_line hl, fun p hp => ?_⟩
    have e2 : Ex H1 (upd H1 p (.lst vs)) := Ex.new hp
    exact q _ _ (e1.trans e2) ⟨p, vs, xs, rfl, rfl, e1.back hp, fun m => sm.dom p m (e1.back hp), upd_same, r1.new hp e2⟩
  · cases hm

/-! ## slices, subscripts, calls of built-ins -/
theorem o_none : QO X T tb none pnM := imp_o po_none fun σ H Q h => by
  obtain ⟨E, O, s, d, sm, hm, q⟩ := h
  cases hm
  exact q H (Ex.refl H)
theorem o_some {e : Expr} {k : Kd} {m : S → Option D} (h : QE X T tb k e m) : QO X T tb (some e) (psM m) := imp_o (po_some h) fun σ H Q h => by
  obtain ⟨E, O, s, d, sm, hm, q⟩ := h
  unfold psM at hm
  obtain ⟨x, hx, hm⟩ := Option.bind_eq_some_iff.mp hm
  obtain ⟨i, hi, hm⟩ := Option.map_eq_some_iff.mp hm
  subst hm
  cases x <;> simp [intD] at hi
  subst hi
  exact ⟨E, O, s, _, sm, hx, fun v H1 e1 r1 => ⟨_, r1.toR.int, q H1 e1⟩⟩
def SlS (X : Cx) (k : Kd) (g : D → Option Int → Option Int → Option D) : Prop :=
  ∃ r : V → Option Int → Option Int → Hp → VK → Prop, SlR X r ∧ ∀ (O : List Addr) (H : Hp) (x : V) (dx d : D) (lo hi : Option Int) (Q : VK), (∀ a, a ∈ O → H a ≠ none) → Rr X.K O H x dx → g dx lo hi = some d → (∀ v H', Ex H H' → Res X.K O H H' v d k → Q v H') → r x lo hi H Q
theorem q_slice {k : Kd} {g : D → Option Int → Option Int → Option D} (h : SlS X k g) {e : Expr} {lo hi : Option Expr} {ke : Kd} {m : S → Option D} {l u : S → Option (Option Int)} {p2 pos : Pos} (he : QE X T tb ke e m) (hl : QO X T tb lo l) (hu : QO X T tb hi u) :
    QE X T tb k (.Subscript e (.Slice lo hi none p2) pos) (slM g m l u) := by
  obtain ⟨r, hr, hs⟩ := h
  refine imp_e (pe_slice hr he hl hu) fun σ H Q h => ?_
  obtain ⟨E, O, s, d, sm, hm, q⟩ := h
  unfold slM at hm
  obtain ⟨x, hx, hm⟩ := Option.bind_eq_some_iff.mp hm
  obtain ⟨l, hl, hm⟩ := Option.bind_eq_some_iff.mp hm
  obtain ⟨u, hu, hm⟩ := Option.bind_eq_some_iff.mp hm
  refine ⟨E, O, s, x, sm, hx, fun v H1 e1 r1 => ⟨E, O, s, l, sm.ext e1, hl, fun H2 e2 => ⟨E, O, s, u, sm.ext (e1.trans e2), hu, fun H3 e3 => ?_⟩⟩⟩
  exact hs O H3 v x d l u Q (sm.ext (e1.trans (e2.trans e3))).dom (r1.toR.ext (e2.trans e3)) hm fun w H4 e4 r4 => q w H4 (e1.trans (e2.trans (e3.trans e4))) (r4.from (e1.trans (e2.trans e3)))
def IxS (X : Cx) (k : Kd) (g : D → D → Option D) : Prop :=
  ∃ r : R2, IxR X r ∧ ∀ (O : List Addr) (H : Hp) (x y : V) (dx dy d : D) (Q : VK), (∀ a, a ∈ O → H a ≠ none) → Rr X.K O H x dx → Rr X.K O H y dy → g dx dy = some d → (∀ v H', Ex H H' → Res X.K O H H' v d k → Q v H') → r x y H Q
theorem q_ix {k : Kd} {g : D → D → Option D} (h : IxS X k g) {a b : Expr} {pos : Pos} {ka kb : Kd} {ma mb : S → Option D} (ha : QE X T tb ka a ma) (hb : QE X T tb kb b mb) (hs : PlainIx b := by exact fun _ _ => rfl) : QE X T tb k (.Subscript a b pos) (op2 g ma mb) := by
  obtain ⟨r, ho, hg⟩ := h
  exact imp_e (pe_ix ho ha hb hs) fun σ H Q h => op_two hg h
def CallS (X : Cx) (f : Value) (k : Kd) (g : List D → Option D) : Prop :=
  ∃ r : List V → Hp → VK → Prop, CallR X f r ∧ ∀ (O : List Addr) (H : Hp) (xs : List V) (ds : List D) (d : D) (Q : VK), (∀ a, a ∈ O → H a ≠ none) → Rrs X.K O H xs ds → g ds = some d → (∀ v H', Ex H H' → Res X.K O H H' v d k → Q v H') → r xs H Q
theorem call_two {r : List V → Hp → VK → Prop} {k : Kd} {g : List D → Option D} {b : Bool} {n : S → Option (List D)}
    (hs : ∀ (O : List Addr) (H : Hp) (xs : List V) (ds : List D) (d : D) (Q : VK), (∀ a, a ∈ O → H a ≠ none) → Rrs X.K O H xs ds → g ds = some d → (∀ v H', Ex H H' → Res X.K O H H' v d k → Q v H') → r xs H Q)
    {σ : L2.St} {H : Hp} {Q : VK} (h : tQ (Zo X T tb) k (callM g n) σ H Q) : tCB r (tAQ (Zo X T tb) b n) σ H Q := by
  obtain ⟨E, O, s, d, sm, hm, q⟩ := h
  unfold callM at hm
  obtain ⟨xs, hxs, hm⟩ := Option.bind_eq_some_iff.mp hm
  exact ⟨E, O, s, xs, sm, hxs, fun vs H1 e1 r1 => hs O H1 vs xs d Q (sm.ext e1).dom r1.toR hm fun w H2 e2 r2 => q w H2 (e1.trans e2) (r2.from e1)⟩
theorem q_callB {id : String} {k : Kd} {g : List D → Option D} (h : CallS X (.builtin id) k g) {x : Str} {p pos : Pos} {e : Expr} {es : List Expr} {b : Bool} {n : S → Option (List D)} (hg : Gl X x) (hm : X.mg x = none) (hv : bootBuiltins x = some (.builtin id)) (ha : QA X T tb b (e :: es) n) (hn : x ≠ "__name__" := by decide) (hdb : (x == ("__debug__" : Str)) = false := by decide)
    (he : starEach (e :: es) X.env = (false, eval e X.env) :: starEach es X.env := by rfl) (hpl : (backTo pos (starEach es X.env)).any (·.1) = false := by rfl) : QE X T tb k (.Call (.Name x p) (e :: es) [] pos) (callM g n) := by
  obtain ⟨r, hr, hs⟩ := h
  exact imp_e (pe_callB hr hg hm hv ha hn hdb he hpl) fun σ H Q h => call_two hs h
theorem q_callTy {t : String} {k : Kd} {g : List D → Option D} (h : CallS X (.type t) k g) {x : Str} {p pos : Pos} {e : Expr} {es : List Expr} {b : Bool} {n : S → Option (List D)} (hg : Gl X x) (hm : X.mg x = none) (hv : bootBuiltins x = some (.type t)) (ha : QA X T tb b (e :: es) n) (hn : x ≠ "__name__" := by decide) (hdb : (x == ("__debug__" : Str)) = false := by decide)
    (he : starEach (e :: es) X.env = (false, eval e X.env) :: starEach es X.env := by rfl) (hpl : (backTo pos (starEach es X.env)).any (·.1) = false := by rfl) : QE X T tb k (.Call (.Name x p) (e :: es) [] pos) (callM g n) := by
  obtain ⟨r, hr, hs⟩ := h
  exact imp_e (pe_callTy hr hg hm hv ha hn hdb he hpl) fun σ H Q h => call_two hs h
/-- a quiet method of a built-in type -/
def MtS (X : Cx) (tn : String) (id : String) (k : Kd) (g : D → List D → Option D) : Prop :=
  ∃ r : V → List V → Hp → VK → Prop, MtR X id r ∧ ∀ (O : List Addr) (H : Hp) (x : V) (xs : List V) (dx : D) (ds : List D) (d : D) (Q : VK), (∀ a, a ∈ O → H a ≠ none) → Rr X.K O H x dx → Rrs X.K O H xs ds → g dx ds = some d → (∀ v H', Ex H H' → Res X.K O H H' v d k → Q v H') → r x xs H Q
def methM (ok : D → Bool) (g : D → List D → Option D) (a : S → Option D) (r : S → Option (List D)) : S → Option D := fun s => (a s).bind fun x => if ok x = true then (r s).bind fun xs => g x xs else none
theorem q_meth {tn : String} {id : String} {k : Kd} {g : D → List D → Option D} {ok : D → Bool} (h : MtS X tn id k g) (hty : ∀ (O : List Addr) (H : Hp) (x : V) (d : D), ok d = true → Rr X.K O H x d → tyV X.K tn x H) {name : Str} {o e : Expr} {es : List Expr} {apos pos : Pos} {ko : Kd} {b : Bool} {m : S → Option D} {n : S → Option (List D)}
    (pa : PlainAttrs tn) (slot : Slot tn name id) (hd : typeOf (.builtin id) = pure (.type "method_descriptor")) (ho : QE X T tb ko o m) (ha : QA X T tb b (e :: es) n)
    (hp : ∀ {r : V → List V → Hp → VK → Prop}, MtR X id r → PE X (.Call (.Attribute o name apos) (e :: es) [] pos) (tBM X.K tn r (tQ (Zo X T tb) ko m) (tAQ (Zo X T tb) b n))) : QE X T tb k (.Call (.Attribute o name apos) (e :: es) [] pos) (methM ok g m n) := by
  obtain ⟨r, hr, hs⟩ := h
  refine imp_e (hp hr) fun σ H Q h => ?_
  obtain ⟨E, O, s, d, sm, hm, q⟩ := h
  unfold methM at hm
  obtain ⟨x, hx, hm⟩ := Option.bind_eq_some_iff.mp hm
  split at hm
  · next hok =>
    obtain ⟨xs, hxs, hm⟩ := Option.bind_eq_some_iff.mp hm
    refine ⟨E, O, s, x, sm, hx, fun v H1 e1 r1 => ⟨hty O H1 v x hok r1.toR, E, O, s, xs, sm.ext e1, hxs, fun vs H2 e2 r2 => ?_⟩⟩
    exact hs O H2 v vs x xs d Q (sm.ext (e1.trans e2)).dom (r1.toR.ext e2) r2.toR hm fun w H3 e3 r3 => q w H3 (e1.trans (e2.trans e3)) (r3.from (e1.trans e2))
  · cases hm
end
end Y

namespace Y
open PySem PySem.Spec PyProof.Rows L2

/-! ## operations on data -/
def tooLong (a b : List D) : Bool := Nat.ble (a.length + b.length) 1000000
def addD : D → D → Option D
  | .int i, .int j => some (.int (i + j))
  | .tuple a, .tuple b => if tooLong a b = true then some (.tuple (a ++ b)) else none
  | .list a, .list b => if tooLong a b = true then some (.list (a ++ b)) else none
  | _, _ => none
def addL : D → D → Option D
  | .list a, .list b => if tooLong a b = true then some (.list (a ++ b)) else none
  | _, _ => none
def subD : D → D → Option D
  | .int i, .int j => some (.int (i - j))
  | _, _ => none
def big (n : Nat) : Bool := Nat.blt n (2 ^ 6000)
theorem big_log {n : Nat} (h : big n = true) : n.log2 < 6001 := by
  have h1 : n < 2 ^ 6000 := by simpa [big] using h
  by_cases h0 : n = 0
  · subst h0; decide
  · have := (Nat.log2_lt h0).mpr h1
    omega
def mulD : D → D → Option D
  | .int i, .int j => if (big i.natAbs && big j.natAbs) = true then some (.int (i * j)) else none
  | _, _ => none
def divD : D → D → Option D
  | .int i, .int j => if (decide (0 < j) && big j.natAbs) = true then some (.int (i / j)) else none
  | _, _ => none
def modD : D → D → Option D
  | .int i, .int j => if decide (0 < j) = true then some (.int (i % j)) else none
  | _, _ => none
def powD : D → D → Option D
  | .int i, .int j => if (decide (0 ≤ j) && Nat.ble j.natAbs 1000 && Nat.ble i.natAbs 1000) = true then some (.int (i ^ j.toNat)) else none
  | _, _ => none
def shlD : D → D → Option D
  | .int i, .int j => if (decide (0 ≤ j) && Nat.ble j.natAbs 1000 && Nat.ble i.natAbs 1000) = true then some (.int (i * 2 ^ j.toNat)) else none
  | _, _ => none
def cmpD (f : Int → Int → Bool) : D → D → Option D
  | .int i, .int j => some (.bool (f i j))
  | _, _ => none
def ltD := cmpD fun i j => decide (i < j)
def leD := cmpD fun i j => decide (i ≤ j)
def gtD := cmpD fun i j => decide (j < i)
def geD := cmpD fun i j => decide (j ≤ i)
def eqD : D → D → Option D
  | .int i, .int j => some (.bool (i == j))
  | .bool i, .bool j => some (.bool (i == j))
  | .str i, .str j => some (.bool (i == j))
  | d, e => if (SeqAt.shaped d && SeqAt.shaped e) = true then some (.bool (PyData.eqv d e)) else none
def neD : D → D → Option D
  | .int i, .int j => some (.bool (!(i == j)))
  | .bool i, .bool j => some (.bool (!(i == j)))
  | .str i, .str j => some (.bool (!(i == j)))
  | d, e => if (SeqAt.shaped d && SeqAt.shaped e) = true then some (.bool (!PyData.eqv d e)) else none
def negD : D → Option D
  | .int i => some (.int (-i))
  | _ => none
def isN : D → D → Option D
  | .none, .none => some (.bool true)
  | _, .none => some (.bool false)
  | _, _ => none
def notN : D → D → Option D
  | .none, .none => some (.bool false)
  | _, .none => some (.bool true)
  | _, _ => none
/-- flat items -/
def flatD : D → Bool
  | .none => true
  | .bool _ => true
  | .int _ => true
  | .str _ => true
  | _ => false
def seqD : D → Option (List D)
  | .list ds => some ds
  | .tuple ds => some ds
  | _ => none
def allInt (ds : List D) : Bool := ds.all fun d => match d with
  | .int _ => true
  | _ => false
/-- x in xs: ints among ints; else a list of any data -/
def inD (neg : Bool) : D → D → Option D := fun x y =>
  match x, y with
  | .int i, .tuple ds => if allInt ds = true then some (.bool (neg ^^ ds.any fun d => PyData.eqv d (.int i))) else none
  | x, .list ds => if (SeqAt.shaped x && SeqAt.shaped (.list ds)) = true then some (.bool (neg ^^ ds.any fun d => PyData.eqv d x)) else none
  | _, _ => none
def ixD : D → D → Option D
  | .list ds, .int i => atI ds i
  | .tuple ds, .int i => atI ds i
  | _, _ => none
def cutD (ds : List D) (lo hi : Option Int) : List D := (ds.drop (HT.sIx ds.length 0 lo)).take (HT.sIx ds.length ds.length hi - HT.sIx ds.length 0 lo)
def slD : D → Option Int → Option Int → Option D
  | .tuple ds, lo, hi => some (.tuple (cutD ds lo hi))
  | .list ds, lo, hi => some (.list (cutD ds lo hi))
  | _, _, _ => none
def slL : D → Option Int → Option Int → Option D
  | .list ds, lo, hi => some (.list (cutD ds lo hi))
  | _, _, _ => none

section
variable {X : Cx}
theorem line_ok {n : Nat} (h : n ≤ 1000000) : n ≤ sizeLine := Nat.le_trans h (by decide)
theorem opS_or {f : Value → Value → Sem Value} {r r' : R2} {k : Kd} {g : D → D → Option D} (h : OpR X f r) (h' : OpR X f r')
    (hs : ∀ (O : List Addr) (H : Hp) (x y : V) (dx dy d : D) (Q : VK), (∀ a, a ∈ O → H a ≠ none) → Rr X.K O H x dx → Rr X.K O H y dy → g dx dy = some d → (∀ v H', Ex H H' → Res X.K O H H' v d k → Q v H') → r x y H Q ∨ r' x y H Q) : OpS X f k g :=
  ⟨_, h.or h', hs⟩
theorem opS_int {f : Value → Value → Sem Value} {C : Int → Int → Prop} {g : Int → Int → Int} {gd : D → D → Option D} (h : OpR X f (rI C fun i j => .int (g i j)))
    (hg : ∀ x y d, gd x y = some d → ∃ i j, x = .int i ∧ y = .int j ∧ C i j ∧ d = .int (g i j)) : OpS X f .i gd :=
  ⟨_, h, fun O H x y dx dy d Q dom rx ry e k => by
    obtain ⟨i, j, rfl, rfl, hc, rfl⟩ := hg _ _ _ e
    exact ⟨i, j, rx.int, ry.int, hc, k _ H (Ex.refl H) (.int _)⟩⟩
theorem op_of0 {f : Value → Value → Sem Value} {g : Int → Int → V} (h : OpR X f (rI0 g)) : OpR X f (rI (fun _ _ => True) g) := fun pins s σ H x y v u Q I rx ry ⟨i, j, e1, e2, _, q⟩ => h pins s σ H x y v u Q I rx ry ⟨i, j, e1, e2, q⟩
theorem opS_cmp {f : Value → Value → Sem Value} {g : Int → Int → Bool} (h : OpR X f (rI0 fun i j => .bl (g i j))) : OpS X f .i (cmpD g) :=
  ⟨_, h, fun O H x y dx dy d Q dom rx ry e k => by
    unfold cmpD at e
    split at e
    · next i j => cases e; exact ⟨i, j, rx.int, ry.int, k _ H (Ex.refl H) (.bl _)⟩
    · cases e⟩
theorem opS_lt : OpS X (compareOp .Lt) .i ltD := opS_cmp op_lt
theorem opS_le : OpS X (compareOp .LtE) .i leD := opS_cmp op_le
theorem opS_gt : OpS X (compareOp .Gt) .i gtD := opS_cmp op_gt
theorem opS_ge : OpS X (compareOp .GtE) .i geD := opS_cmp op_ge
theorem opS_sub : OpS X (binaryOp .Sub) .i subD := opS_int (op_of0 op_sub) fun x y d e => by
  unfold subD at e
  split at e
  · next i j => cases e; exact ⟨i, j, rfl, rfl, trivial, rfl⟩
  · cases e
theorem opS_mul : OpS X (binaryOp .Mult) .i mulD := opS_int op_mulW fun x y d e => by
  unfold mulD at e
  split at e
  · next i j =>
    split at e
    · next c =>
      cases e
      rw [Bool.and_eq_true] at c
      have h1 := big_log c.1
      have h2 := big_log c.2
      exact ⟨i, j, rfl, rfl, (by unfold CMulW; omega), rfl⟩
    · cases e
  · cases e
theorem opS_div : OpS X (binaryOp .FloorDiv) .i divD := opS_int op_fdivW fun x y d e => by
  unfold divD at e
  split at e
  · next i j =>
    split at e
    · next c =>
      cases e
      rw [Bool.and_eq_true, decide_eq_true_eq] at c
      have h2 := big_log c.2
      exact ⟨i, j, rfl, rfl, ⟨c.1, by omega⟩, rfl⟩
    · cases e
  · cases e
theorem opS_mod : OpS X (binaryOp .Mod) .i modD := opS_int op_mod fun x y d e => by
  unfold modD at e
  split at e
  · next i j =>
    split at e
    · next c => cases e; exact ⟨i, j, rfl, rfl, of_decide_eq_true c, rfl⟩
    · cases e
  · cases e
theorem small_pow {i j : Int} (h : (decide (0 ≤ j) && Nat.ble j.natAbs 1000 && Nat.ble i.natAbs 1000) = true) : CPow i j := by
  simp only [Bool.and_eq_true, decide_eq_true_eq, Nat.ble_eq] at h
  exact ⟨h.1.1, by omega, Nat.lt_of_le_of_lt h.2 (by decide)⟩
theorem opS_pow : OpS X (binaryOp .Pow) .i powD := opS_int op_pow fun x y d e => by
  unfold powD at e
  split at e
  · next i j =>
    split at e
    · next c => cases e; exact ⟨i, j, rfl, rfl, small_pow c, rfl⟩
    · cases e
  · cases e
theorem opS_shl : OpS X (binaryOp .LShift) .i shlD := opS_int op_shl fun x y d e => by
  unfold shlD at e
  split at e
  · next i j =>
    split at e
    · next c => cases e; exact ⟨i, j, rfl, rfl, small_pow c, rfl⟩
    · cases e
  · cases e
theorem q_neg {T : List (Addr × Str)} {tb : Bool} {a : Expr} {pos : Pos} {ka : Kd} {ma : S → Option D} (ha : QE X T tb ka a ma) : QE X T tb .i (.UnaryOp .USub a pos) (op1 negD ma) := q_un un_neg (fun O H x dx d Q rx e k => by
  unfold negD at e
  split at e
  · next i => cases e; exact ⟨i, rx.int, k _ H (Ex.refl H) (.int _)⟩
  · cases e) ha
theorem opS_add : OpS X (binaryOp .Add) .i addD := opS_or op_add (op_catA.or op_cat) fun O H x y dx dy d Q dom rx ry e k => by
  unfold addD at e
  split at e
  · next i j => cases e; exact .inl ⟨i, j, rx.int, ry.int, k _ H (Ex.refl H) (.int _)⟩
  · next a b =>
    split at e
    · next c =>
      cases e
      have c : a.length + b.length ≤ 1000000 := by simpa [tooLong, Nat.ble_eq] using c
      obtain ⟨p, xs, rfl, hx, ra⟩ := rx.tuple
      obtain ⟨q, ys, rfl, hy, rb⟩ := ry.tuple
      refine .inr (.inl ⟨p, q, xs, ys, rfl, rfl, hx, hy, by rw [ra.length, rb.length]; exact line_ok c, fun e0 => ?_, fun _ e1 => ?_, fun _ _ w hw => ?_⟩)
      · subst e0
        cases ra
        exact k _ H (Ex.refl H) (.tup hy rb)
      · subst e1
        cases rb
        rw [List.append_nil] at k
        exact k _ H (Ex.refl H) (.tup hx ra)
      · have e2 : Ex H (upd H w (.tup (xs ++ ys))) := Ex.new hw
        exact k _ _ e2 (.tup (SqT.of upd_same) ((ra.ext e2).append (rb.ext e2)))
    · cases e
  · next a b =>
    split at e
    · next c =>
      cases e
      have c : a.length + b.length ≤ 1000000 := by simpa [tooLong, Nat.ble_eq] using c
      obtain ⟨p, xs, rfl, hx, ra⟩ := rx.list
      obtain ⟨q, ys, rfl, hy, rb⟩ := ry.list
      refine .inr (.inr ⟨p, q, xs, ys, rfl, rfl, hx, hy, by rw [ra.length, rb.length]; exact line_ok c, fun w hw => ?_⟩)
      have e2 : Ex H (upd H w (.lst (xs ++ ys))) := Ex.new hw
      exact k _ _ e2 (.lst upd_same (fun m => dom w m hw) ((ra.ext e2).append (rb.ext e2)))
    · cases e
  · cases e
theorem opS_addL : OpS X (binaryOp .Add) .o addL := ⟨_, op_cat, fun O H x y dx dy d Q dom rx ry e k => by
  unfold addL at e
  split at e
  · next a b =>
    split at e
    · next c =>
      cases e
      have c : a.length + b.length ≤ 1000000 := by simpa [tooLong, Nat.ble_eq] using c
      obtain ⟨p, xs, rfl, hx, ra⟩ := rx.list
      obtain ⟨q, ys, rfl, hy, rb⟩ := ry.list
      refine ⟨p, q, xs, ys, rfl, rfl, hx, hy, by rw [ra.length, rb.length]; exact line_ok c, fun w hw => ?_⟩
      have e2 : Ex H (upd H w (.lst (xs ++ ys))) := Ex.new hw
      exact k _ _ e2 ⟨w, _, _, rfl, rfl, hw, fun m => dom w m hw, upd_same, (ra.new hw e2).append (rb.new hw e2)⟩
    · cases e
  · cases e⟩
theorem opS_eq (hu : X.A.units + 64 < cLine) : OpS X (compareOp .Eq) .i eqD := opS_or op_eq (op_eqD hu) fun O H x y dx dy d Q dom rx ry e k => by
  unfold eqD at e
  split at e
  · next i j =>
    cases e
    rw [rx.int, ry.int]
    refine .inl ⟨rfl, ?_⟩
    rw [dec_int]
    exact k _ H (Ex.refl H) (.bl _)
  · next i j =>
    cases e
    rw [rx.bool, ry.bool]
    refine .inl ⟨rfl, ?_⟩
    rw [dec_bl]
    exact k _ H (Ex.refl H) (.bl _)
  · next i j =>
    cases e
    rw [rx.str, ry.str]
    refine .inl ⟨rfl, ?_⟩
    rw [dec_str]
    exact k _ H (Ex.refl H) (.bl _)
  · split at e
    · next c =>
      cases e
      rw [Bool.and_eq_true] at c
      exact .inr ⟨_, _, rx.dp, ry.dp, c.1, c.2, k _ H (Ex.refl H) (.bl _)⟩
    · cases e
theorem opS_ne (hu : X.A.units + 64 < cLine) : OpS X (compareOp .NotEq) .i neD := opS_or op_ne (op_neD hu) fun O H x y dx dy d Q dom rx ry e k => by
  unfold neD at e
  split at e
  · next i j =>
    cases e
    rw [rx.int, ry.int]
    refine .inl ⟨rfl, ?_⟩
    rw [dec_int]
    exact k _ H (Ex.refl H) (.bl _)
  · next i j =>
    cases e
    rw [rx.bool, ry.bool]
    refine .inl ⟨rfl, ?_⟩
    rw [dec_bl]
    exact k _ H (Ex.refl H) (.bl _)
  · next i j =>
    cases e
    rw [rx.str, ry.str]
    refine .inl ⟨rfl, ?_⟩
    rw [dec_str]
    exact k _ H (Ex.refl H) (.bl _)
  · split at e
    · next c =>
      cases e
      rw [Bool.and_eq_true] at c
      exact .inr ⟨_, _, rx.dp, ry.dp, c.1, c.2, k _ H (Ex.refl H) (.bl _)⟩
    · cases e
theorem non_iff {K : Fg} {O : List Addr} {H : Hp} {x : V} {d : D} (r : Rr K O H x d) (h : d ≠ .none) : decide (x = .non) = false := by
  apply decide_eq_false
  rintro rfl
  rcases r with r | ⟨_, _, _, e, _⟩
  · cases r; exact h rfl
  · cases e
theorem opS_isN : OpS X (compareOp .Is) .i isN := ⟨_, op_isN, fun O H x y dx dy d Q dom rx ry e k => by
  unfold isN at e
  split at e
  · cases e
    rw [rx.none, ry.none]
    exact ⟨rfl, k _ H (Ex.refl H) (.bl _)⟩
  · next h =>
    cases e
    rw [ry.none]
    refine ⟨rfl, ?_⟩
    rw [non_iff rx (by intro z; subst z; simp at h)]
    exact k _ H (Ex.refl H) (.bl _)
  · cases e⟩
theorem opS_notN : OpS X (compareOp .IsNot) .i notN := ⟨_, op_notN, fun O H x y dx dy d Q dom rx ry e k => by
  unfold notN at e
  split at e
  · cases e
    rw [rx.none, ry.none]
    exact ⟨rfl, k _ H (Ex.refl H) (.bl _)⟩
  · next h =>
    cases e
    rw [ry.none]
    refine ⟨rfl, ?_⟩
    rw [non_iff rx (by intro z; subst z; simp at h)]
    exact k _ H (Ex.refl H) (.bl _)
  · cases e⟩
theorem inV_ints {K : Fg} {O : List Addr} {H : Hp} (i : Int) : ∀ {vs : List V} {ds : List D}, Rps K O H vs ds → allInt ds = true → vs.all flatV = true ∧ inV (.int i) vs = ds.any fun d => PyData.eqv d (.int i)
  | _, _, .nil, _ => ⟨rfl, rfl⟩
  | _, _, .cons (d := d) h r, n => by
    unfold allInt at n
    rw [List.all_cons, Bool.and_eq_true] at n
    cases d <;> simp at n
    cases h
    obtain ⟨h1, h2⟩ := inV_ints i r (by unfold allInt; rw [List.all_eq_true]; exact fun d hd => by simpa using n d hd)
    refine ⟨by rw [List.all_cons, h1]; rfl, ?_⟩
    unfold inV at h2 ⊢
    rw [List.any_cons, List.any_cons, h2]
    congr 1
theorem opS_in (hu : X.A.units + 65 < cLine) : OpS X (compareOp .In) .i (inD false) := opS_or op_in_seq (op_inD hu) fun O H x y dx dy d Q dom rx ry e k => by
  unfold inD at e
  split at e
  · next i ds =>
    split at e
    · next c =>
      cases e
      obtain ⟨p, xs, rfl, hx, ra⟩ := ry.tuple
      obtain ⟨h1, h2⟩ := inV_ints i ra c
      rw [rx.int]
      refine .inl ⟨p, xs, rfl, .inr hx, rfl, h1, ?_⟩
      rw [h2]
      simp only [Bool.false_xor] at k
      exact k _ H (Ex.refl H) (.bl _)
    · cases e
  · split at e
    · next c =>
      cases e
      rw [Bool.and_eq_true] at c
      simp only [Bool.false_xor] at k
      exact .inr ⟨_, _, rx.dp, ry.dp, c.1, c.2, k _ H (Ex.refl H) (.bl _)⟩
    · cases e
  · cases e
theorem opS_notIn (hu : X.A.units + 65 < cLine) : OpS X (compareOp .NotIn) .i (inD true) := opS_or op_notIn_seq (op_notInD hu) fun O H x y dx dy d Q dom rx ry e k => by
  unfold inD at e
  split at e
  · next i ds =>
    split at e
    · next c =>
      cases e
      obtain ⟨p, xs, rfl, hx, ra⟩ := ry.tuple
      obtain ⟨h1, h2⟩ := inV_ints i ra c
      rw [rx.int]
      refine .inl ⟨p, xs, rfl, .inr hx, rfl, h1, ?_⟩
      rw [h2]
      simp only [Bool.true_xor] at k
      exact k _ H (Ex.refl H) (.bl _)
    · cases e
  · split at e
    · next c =>
      cases e
      rw [Bool.and_eq_true] at c
      simp only [Bool.true_xor] at k
      exact .inr ⟨_, _, rx.dp, ry.dp, c.1, c.2, k _ H (Ex.refl H) (.bl _)⟩
    · cases e
  · cases e
theorem atI_rps {K : Fg} {O : List Addr} {H : Hp} {vs : List V} {ds : List D} {i : Int} {d : D} (r : Rps K O H vs ds) (h : atI ds i = some d) : ∃ v, atI vs i = some v ∧ Rp K O H v d := by
  unfold atI at h ⊢
  obtain ⟨j, hj, h⟩ := Option.bind_eq_some_iff.mp h
  obtain ⟨v, h1, h2⟩ := r.get h
  refine ⟨v, ?_, h2⟩
  rw [r.length, hj]
  exact h1
theorem ixS : IxS X .i ixD := ⟨_, ix_list.or ix_tup, fun O H x y dx dy d Q dom rx ry e k => by
  unfold ixD at e
  split at e
  · next ds i =>
    obtain ⟨p, xs, rfl, hx, ra⟩ := rx.list
    obtain ⟨v, h1, h2⟩ := atI_rps ra e
    rw [ry.int]
    exact .inl ⟨p, xs, i, v, rfl, rfl, SqL.of hx, h1, k v H (Ex.refl H) h2⟩
  · next ds i =>
    obtain ⟨p, xs, rfl, hx, ra⟩ := rx.tuple
    obtain ⟨v, h1, h2⟩ := atI_rps ra e
    rw [ry.int]
    exact .inr ⟨p, xs, i, v, rfl, rfl, hx, h1, k v H (Ex.refl H) h2⟩
  · cases e⟩
theorem cut_rps {K : Fg} {O : List Addr} {H : Hp} {vs : List V} {ds : List D} (lo hi : Option Int) (r : Rps K O H vs ds) : Rps K O H (cutV vs lo hi) (cutD ds lo hi) := by
  unfold cutV cutD
  rw [r.length]
  exact (r.drop _).take _
theorem cut_whole {ds : List D} {lo hi : Option Int} (h : HT.sIx ds.length 0 lo = 0 ∧ HT.sIx ds.length ds.length hi = ds.length) : cutD ds lo hi = ds := by
  unfold cutD
  rw [h.1, h.2]
  simp
theorem slS : SlS X .i slD := ⟨_, sl_tupA.or sl_list, fun O H x dx d lo hi Q dom rx e k => by
  cases dx with
  | tuple ds =>
    cases e
    obtain ⟨p, xs, rfl, hx, ra⟩ := rx.tuple
    refine .inl ⟨p, xs, rfl, hx, fun h => ?_, fun _ w hw => ?_⟩
    · rw [ra.length] at h
      rw [cut_whole h] at k
      exact k _ H (Ex.refl H) (.tup hx ra)
    · have e2 : Ex H (upd H w (.tup (cutV xs lo hi))) := Ex.new hw
      exact k _ _ e2 (.tup (SqT.of upd_same) ((cut_rps lo hi ra).ext e2))
  | list ds =>
    cases e
    obtain ⟨p, xs, rfl, hx, ra⟩ := rx.list
    refine .inr ⟨p, xs, rfl, SqL.of hx, fun w hw => ?_⟩
    have e2 : Ex H (upd H w (.lst (cutV xs lo hi))) := Ex.new hw
    exact k _ _ e2 (.lst upd_same (fun m => dom w m hw) ((cut_rps lo hi ra).ext e2))
  | _ => cases e⟩
theorem slSL : SlS X .o slL := ⟨_, sl_list, fun O H x dx d lo hi Q dom rx e k => by
  cases dx with
  | list ds =>
    cases e
    obtain ⟨p, xs, rfl, hx, ra⟩ := rx.list
    refine ⟨p, xs, rfl, SqL.of hx, fun w hw => ?_⟩
    have e2 : Ex H (upd H w (.lst (cutV xs lo hi))) := Ex.new hw
    exact k _ _ e2 ⟨w, _, _, rfl, rfl, hw, fun m => dom w m hw, upd_same, (cut_rps lo hi ra).new hw e2⟩
  | _ => cases e⟩

/-! ## built-ins -/
def lenD : List D → Option D
  | [.list ds] => some (.int (ds.length : Int))
  | [.tuple ds] => some (.int (ds.length : Int))
  | _ => none
def absD : List D → Option D
  | [.int i] => some (.int (if i < 0 then -i else i))
  | _ => none
def int1D : List D → Option D
  | [.int i] => some (.int i)
  | _ => none
def tupleD : List D → Option D
  | [.list ds] => some (.tuple ds)
  | [.tuple ds] => some (.tuple ds)
  | _ => none
def listD : List D → Option D
  | [.list ds] => some (.list ds)
  | [.tuple ds] => some (.list ds)
  | _ => none
def max2D : List D → Option D
  | [.int i, .int j] => some (.int (if j > i then j else i))
  | _ => none
def min2D : List D → Option D
  | [.int i, .int j] => some (.int (if j < i then j else i))
  | _ => none
def intsD : List D → Option (List Int)
  | [] => some []
  | .int i :: r => (intsD r).map (i :: ·)
  | _ => none
def sumD : List D → Option D
  | [.list ds] => (intsD ds).map fun ns => .int ns.sum
  | _ => none
def boolsD : List D → Option (List Bool)
  | [] => some []
  | .bool i :: r => (boolsD r).map (i :: ·)
  | _ => none
def anyD : List D → Option D
  | [.list ds] => (boolsD ds).map fun ns => .bool (ns.any id)
  | _ => none
def allD : List D → Option D
  | [.list ds] => (boolsD ds).map fun ns => .bool (ns.all id)
  | _ => none
theorem intsD_some : ∀ {ds : List D} {ns : List Int}, intsD ds = some ns → ds = ns.map PyData.int
  | [], ns, h => by cases h; rfl
  | .int i :: r, ns, h => by
    unfold intsD at h
    obtain ⟨ms, h1, rfl⟩ := Option.map_eq_some_iff.mp h
    rw [intsD_some h1]; rfl
  | .none :: _, _, h => by simp [intsD] at h
  | .bool _ :: _, _, h => by simp [intsD] at h
  | .str _ :: _, _, h => by simp [intsD] at h
  | .list _ :: _, _, h => by simp [intsD] at h
  | .tuple _ :: _, _, h => by simp [intsD] at h
  | .dict _ :: _, _, h => by simp [intsD] at h
theorem intsD_of (ns : List Int) : intsD (ns.map PyData.int) = some ns := by
  induction ns with
  | nil => rfl
  | cons n r ih => simp [intsD, ih]
theorem boolsD_some : ∀ {ds : List D} {ns : List Bool}, boolsD ds = some ns → ds = ns.map PyData.bool
  | [], ns, h => by cases h; rfl
  | .bool i :: r, ns, h => by
    unfold boolsD at h
    obtain ⟨ms, h1, rfl⟩ := Option.map_eq_some_iff.mp h
    rw [boolsD_some h1]; rfl
  | .none :: _, _, h => by simp [boolsD] at h
  | .int _ :: _, _, h => by simp [boolsD] at h
  | .str _ :: _, _, h => by simp [boolsD] at h
  | .list _ :: _, _, h => by simp [boolsD] at h
  | .tuple _ :: _, _, h => by simp [boolsD] at h
  | .dict _ :: _, _, h => by simp [boolsD] at h
theorem rrs1 {K : Fg} {O : List Addr} {H : Hp} {xs : List V} {d : D} (h : Rrs K O H xs [d]) : ∃ x, xs = [x] ∧ Rr K O H x d := by
  cases h with
  | cons h r => cases r; exact ⟨_, rfl, h⟩
theorem rrs2 {K : Fg} {O : List Addr} {H : Hp} {xs : List V} {d e : D} (h : Rrs K O H xs [d, e]) : ∃ x y, xs = [x, y] ∧ Rr K O H x d ∧ Rr K O H y e := by
  cases h with
  | cons h r => obtain ⟨y, rfl, h2⟩ := rrs1 r; exact ⟨_, _, rfl, h, h2⟩
theorem cs_len : CallS X (.builtin "len") .i lenD := ⟨_, call_len_seq, fun O H xs ds d Q dom r e k => by
  unfold lenD at e
  split at e
  · next zs =>
    cases e
    obtain ⟨x, rfl, rx⟩ := rrs1 r
    obtain ⟨p, ys, rfl, hx, ra⟩ := rx.list
    refine ⟨p, ys, rfl, .inl (SqL.of hx), ?_⟩
    rw [ra.length]
    exact k _ H (Ex.refl H) (.int _)
  · next zs =>
    cases e
    obtain ⟨x, rfl, rx⟩ := rrs1 r
    obtain ⟨p, ys, rfl, hx, ra⟩ := rx.tuple
    refine ⟨p, ys, rfl, .inr hx, ?_⟩
    rw [ra.length]
    exact k _ H (Ex.refl H) (.int _)
  · cases e⟩
theorem cs_abs : CallS X (.builtin "abs") .i absD := ⟨_, call_abs, fun O H xs ds d Q dom r e k => by
  unfold absD at e
  split at e
  · next i =>
    cases e
    obtain ⟨x, rfl, rx⟩ := rrs1 r
    rw [rx.int]
    exact ⟨i, rfl, k _ H (Ex.refl H) (.int _)⟩
  · cases e⟩
theorem cs_int : CallS X (.type "int") .i int1D := ⟨_, call_int1, fun O H xs ds d Q dom r e k => by
  unfold int1D at e
  split at e
  · next i =>
    cases e
    obtain ⟨x, rfl, rx⟩ := rrs1 r
    rw [rx.int]
    exact .inl ⟨i, rfl, k _ H (Ex.refl H) (.int _)⟩
  · cases e⟩
theorem cs_tuple : CallS X (.type "tuple") .i tupleD := ⟨_, call_tuple_of, fun O H xs ds d Q dom r e k => by
  unfold tupleD at e
  split at e
  · next zs =>
    cases e
    obtain ⟨x, rfl, rx⟩ := rrs1 r
    obtain ⟨p, ys, rfl, hx, ra⟩ := rx.list
    refine ⟨p, ys, rfl, .inl ⟨SqL.of hx, fun w hw => ?_⟩⟩
    have e2 : Ex H (upd H w (.tup ys)) := Ex.new hw
    exact k _ _ e2 (.tup (SqT.of upd_same) (ra.ext e2))
  · next zs =>
    cases e
    obtain ⟨x, rfl, rx⟩ := rrs1 r
    obtain ⟨p, ys, rfl, hx, ra⟩ := rx.tuple
    exact ⟨p, ys, rfl, .inr ⟨hx, k _ H (Ex.refl H) (.tup hx ra)⟩⟩
  · cases e⟩
theorem cs_list : CallS X (.type "list") .o listD := ⟨_, call_list_of, fun O H xs ds d Q dom r e k => by
  unfold listD at e
  split at e
  · next zs =>
    cases e
    obtain ⟨x, rfl, rx⟩ := rrs1 r
    obtain ⟨p, ys, rfl, hx, ra⟩ := rx.list
    refine ⟨p, ys, rfl, .inl (SqL.of hx), fun w hw => ?_⟩
    have e2 : Ex H (upd H w (.lst ys)) := Ex.new hw
    exact k _ _ e2 ⟨w, _, _, rfl, rfl, hw, fun m => dom w m hw, upd_same, ra.new hw e2⟩
  · next zs =>
    cases e
    obtain ⟨x, rfl, rx⟩ := rrs1 r
    obtain ⟨p, ys, rfl, hx, ra⟩ := rx.tuple
    refine ⟨p, ys, rfl, .inr hx, fun w hw => ?_⟩
    have e2 : Ex H (upd H w (.lst ys)) := Ex.new hw
    exact k _ _ e2 ⟨w, _, _, rfl, rfl, hw, fun m => dom w m hw, upd_same, ra.new hw e2⟩
  · cases e⟩
theorem cs_max2 (hc : X.calm = true) : CallS X (.builtin "max") .i max2D := ⟨_, call_max2 hc, fun O H xs ds d Q dom r e k => by
  unfold max2D at e
  split at e
  · next i j =>
    cases e
    obtain ⟨x, y, rfl, rx, ry⟩ := rrs2 r
    rw [rx.int, ry.int]
    exact ⟨i, j, rfl, k _ H (Ex.refl H) (.int _)⟩
  · cases e⟩
theorem cs_min2 (hc : X.calm = true) : CallS X (.builtin "min") .i min2D := ⟨_, call_min2 hc, fun O H xs ds d Q dom r e k => by
  unfold min2D at e
  split at e
  · next i j =>
    cases e
    obtain ⟨x, y, rfl, rx, ry⟩ := rrs2 r
    rw [rx.int, ry.int]
    exact ⟨i, j, rfl, k _ H (Ex.refl H) (.int _)⟩
  · cases e⟩
theorem cs_sum (hc : X.calm = true) : CallS X (.builtin "sum") .i sumD := ⟨_, cr_sum hc, fun O H xs ds d Q dom r e k => by
  unfold sumD at e
  split at e
  · next zs =>
    obtain ⟨ns, h1, rfl⟩ := Option.map_eq_some_iff.mp e
    obtain ⟨x, rfl, rx⟩ := rrs1 r
    obtain ⟨p, ys, rfl, hx, ra⟩ := rx.list
    rw [intsD_some h1] at ra
    rw [rps_ints ra] at hx
    exact ⟨p, ns, rfl, SqL.of hx, k _ H (Ex.refl H) (.int _)⟩
  · cases e⟩
theorem cs_any (hc : X.calm = true) : CallS X (.builtin "any") .i anyD := ⟨_, cr_any hc, fun O H xs ds d Q dom r e k => by
  unfold anyD at e
  split at e
  · next zs =>
    obtain ⟨ns, h1, rfl⟩ := Option.map_eq_some_iff.mp e
    obtain ⟨x, rfl, rx⟩ := rrs1 r
    obtain ⟨p, ys, rfl, hx, ra⟩ := rx.list
    rw [boolsD_some h1] at ra
    rw [rps_bls ra] at hx
    exact ⟨p, ns, rfl, SqL.of hx, k _ H (Ex.refl H) (.bl _)⟩
  · cases e⟩
theorem cs_all (hc : X.calm = true) : CallS X (.builtin "all") .i allD := ⟨_, cr_all hc, fun O H xs ds d Q dom r e k => by
  unfold allD at e
  split at e
  · next zs =>
    obtain ⟨ns, h1, rfl⟩ := Option.map_eq_some_iff.mp e
    obtain ⟨x, rfl, rx⟩ := rrs1 r
    obtain ⟨p, ys, rfl, hx, ra⟩ := rx.list
    rw [boolsD_some h1] at ra
    rw [rps_bls ra] at hx
    exact ⟨p, ns, rfl, SqL.of hx, k _ H (Ex.refl H) (.bl _)⟩
  · cases e⟩
end
end Y

namespace Y
open PySem PySem.Spec PyProof.Rows L2

/-! ## changes of slots and heaps -/
theorem sl_set_same {σ : L2.St} {i : Nat} {v : Option V} (h : i < σ.length) : sl (σ.set i v) i = v := by
  unfold sl
  rw [List.getElem?_set_self h]
  cases v <;> rfl
theorem sl_set_ne {σ : L2.St} {i j : Nat} {v : Option V} (h : i ≠ j) : sl (σ.set i v) j = sl σ j := by unfold sl; rw [List.getElem?_set_ne h]
theorem lt_of_get {s : S} {i : Nat} {m : M} (h : s[i]? = some m) : i < s.length := (List.getElem?_eq_some_iff.mp h).1
theorem SlotR.uniq {K : Fg} {E : Ent} {O O' : List Addr} {H : Hp} {m : M} {ov : Option V} {F F' : List Addr} (h : SlotR K E O H m ov F) (h' : SlotR K E O' H m ov F') : F = F' := by
  cases m with
  | un => exact Eq.trans (show F = [] from h) (show F' = [] from h').symm
  | imm d => exact h.1.trans h'.1.symm
  | ol ds =>
    obtain ⟨a, vs, h1, h2, _⟩ := h
    obtain ⟨a', vs', h1', h2', _⟩ := h'
    rw [h2] at h2'
    cases h2'
    rw [h1, h1']
  | bag b =>
    obtain ⟨a, c, h1, _, _, _, h2, h3, _⟩ := h
    obtain ⟨a', c', h1', _, _, _, h2', h3', _⟩ := h'
    rw [h2] at h2'
    cases h2'
    rw [h3] at h3'
    cases h3'
    rw [h1, h1']
  | scr ns => exact h.1.trans h'.1.symm
/-- one slot is written: m stands over F1, all of it owned and in no other slot -/
theorem Sim.slot {Z : Zx} {E : Ent} {O : List Addr} {σ : L2.St} {H : Hp} {s : S} {i : Nat} {ov : Option V} {m : M} {F1 : List Addr} (h : Sim Z E O σ H s) (hi : i < s.length)
    (hm : SlotR Z.K E O H m ov F1) (hF : ∀ a, a ∈ F1 → a ∈ O) (hd : ∀ a, a ∈ F1 → ∀ j m' F, j ≠ i → s[j]? = some m' → SlotR Z.K E O H m' (sl σ j) F → a ∉ F) : Sim Z E O (σ.set i ov) H (s.set i m) := by
  obtain ⟨l, ⟨F, f1, f2, f3, f4⟩, d, sb, f, t, tbs⟩ := h
  have hiσ : i < σ.length := by omega
  have apart : ∀ j a, j ≠ i → a ∈ F1 → a ∉ F j := fun j a c q r => by
    cases e : s[j]? with
    | none => rw [f2 j (List.getElem?_eq_none_iff.mp e)] at r; cases r
    | some m' => exact hd a q j m' _ c e (f1 j m' e) r
  refine ⟨by rw [List.length_set, List.length_set, l], ⟨fun j => if j = i then F1 else F j, fun j m' q => ?_, fun j q => ?_, fun j a q => ?_, fun j k a q r => ?_⟩, d, sb, f, t, tbs⟩
  · dsimp only
    by_cases c : j = i
    · rw [c] at q ⊢
      rw [List.getElem?_set_self hi] at q
      cases q
      rw [if_pos rfl, sl_set_same hiσ]
      exact hm
    · rw [List.getElem?_set_ne (Ne.symm c)] at q
      rw [if_neg c, sl_set_ne (Ne.symm c)]
      exact f1 j m' q
  · dsimp only
    rw [List.length_set] at q
    rw [if_neg (by omega)]
    exact f2 j q
  · dsimp only at q
    split at q
    · exact hF a q
    · exact f3 j a q
  · dsimp only at q r
    split at q <;> split at r
    · next c1 c2 => rw [c1, c2]
    · next c1 c2 => exact absurd r (apart k a c2 q)
    · next c1 c2 => exact absurd q (apart j a c1 r)
    · exact f4 j k a q r
theorem Sim.setI {Z : Zx} {E : Ent} {O : List Addr} {σ : L2.St} {H : Hp} {s : S} {i : Nat} {v : V} {d : D} (h : Sim Z E O σ H s) (hi : i < s.length) (r : Rp Z.K O H v d) : Sim Z E O (σ.set i (some v)) H (s.set i (.imm d)) :=
  h.slot hi (F1 := []) ⟨rfl, v, rfl, r⟩ (fun a q => by cases q) (fun a q => by cases q)
theorem Sim.setN {Z : Zx} {E : Ent} {O : List Addr} {σ : L2.St} {H : Hp} {s : S} {i : Nat} (h : Sim Z E O σ H s) (hi : i < s.length) : Sim Z E O (σ.set i none) H (s.set i .un) :=
  h.slot hi (F1 := []) rfl (fun a q => by cases q) (fun a q => by cases q)
theorem Sim.setO {Z : Zx} {E : Ent} {O : List Addr} {σ : L2.St} {H : Hp} {s : S} {i : Nat} {a : Addr} {vs : List V} {ds : List D} (h : Sim Z E O σ H s) (h2 : Sim Z E (a :: O) σ H s) (nO : a ∉ O) (hi : i < s.length) (ha : H a = some (.lst vs)) (n0 : E.H0 a = none) (r : Rps Z.K (a :: O) H vs ds) :
    Sim Z E (a :: O) (σ.set i (some (.ref a))) H (s.set i (.ol ds)) := by
  refine h2.slot hi (F1 := [a]) ⟨a, vs, rfl, rfl, ha, n0, r⟩ (fun b q => by rw [List.mem_singleton.mp q]; exact List.mem_cons_self) (fun b q j m' F c e hr => ?_)
  rw [List.mem_singleton.mp q]
  obtain ⟨G, g1, _, g3, _⟩ := h.own
  rw [hr.uniq (g1 j m' e)]
  exact fun z => nO (g3 j a z)
/-- a new object may be called owned -/
theorem Sim.grow {Z : Zx} {E : Ent} {O : List Addr} {σ : L2.St} {H H' : Hp} {s : S} {a : Addr} (h : Sim Z E O σ H s) (n : H a = none) (e : Ex H H') (ha : H' a ≠ none) : Sim Z E (a :: O) σ H' s := by
  obtain ⟨l, ⟨F, f1, f2, f3, f4⟩, d, sb, f, t, tbs⟩ := h
  refine ⟨l, ⟨F, fun j m q => ?_, f2, fun j b q => List.mem_cons_of_mem _ (f3 j b q), f4⟩, fun b q => ?_, fun b q => List.mem_cons_of_mem _ (sb b q), fun b o h1 h2 h3 => e b o (f b o h1 h2 h3), fun b q => t b (e.back q), tbs.ext e⟩
  · have g := f1 j m q
    cases m with
    | un => exact g
    | imm dd => obtain ⟨h1, v, h2, h3⟩ := g; exact ⟨h1, v, h2, h3.new n e⟩
    | ol ds => obtain ⟨b, vs, h1, h2, h3, h4, h5⟩ := g; exact ⟨b, vs, h1, h2, e _ _ h3, h4, h5.new n e⟩
    | bag b => obtain ⟨b, c', h1, h2, h3, h4, h5, h6, h7⟩ := g; exact ⟨b, c', h1, h2, h3, h4, h5, e _ _ h6, e _ _ h7⟩
    | scr ns => obtain ⟨h1, a, h2, h3⟩ := g; exact ⟨h1, a, h2, h3.kept fun a o q _ _ => e a o q⟩
  · rcases List.mem_cons.mp q with rfl | q
    · exact ha
    · exact fun z => d b q (e.back z)
theorem Kp.stp {tb : Bool} {O F1 : List Addr} {H H' : Hp} (k : Kp tb F1 H H') (hF : ∀ a, a ∈ F1 → a ∈ O) (th : ∀ a, H' a = none → H a = none) : Stp tb O H O H' :=
  ⟨fun a o e h1 h2 => k a o e (fun m => h1 (hF a m)) h2, fun _ q => .inl q, th⟩
theorem SlotR.chg {K : Fg} {E : Ent} {tb : Bool} {O F1 : List Addr} {H H' : Hp} {m : M} {ov : Option V} {F : List Addr} (g : SlotR K E O H m ov F) (k : Kp tb F1 H H') (hF : ∀ a, a ∈ F1 → a ∈ O) (th : ∀ a, H' a = none → H a = none) (nd : ∀ a, a ∈ F → a ∉ F1) : SlotR K E O H' m ov F := by
  have st := k.stp hF th
  cases m with
  | un => exact g
  | imm dd => obtain ⟨h1, v, h2, h3⟩ := g; exact ⟨h1, v, h2, h3.step st⟩
  | ol ds =>
    obtain ⟨b, vs, h1, h2, h3, h4, h5⟩ := g
    rw [h1] at nd
    exact ⟨b, vs, h1, h2, k _ _ h3 (fun z => absurd z (nd b List.mem_cons_self)) (fun _ ps z => by cases z), h4, h5.step st⟩
  | bag b =>
    obtain ⟨b, c', h1, h2, h3, h4, h5, h6, h7⟩ := g
    rw [h1] at nd
    exact ⟨b, c', h1, h2, h3, h4, h5, k _ _ h6 (fun z => absurd z (nd b List.mem_cons_self)) (fun _ ps z => by cases z), k _ _ h7 (fun z => absurd z (nd c' (List.mem_cons_of_mem _ List.mem_cons_self))) (fun _ ps z => by cases z)⟩
  | scr ns => obtain ⟨h1, a, h2, h3⟩ := g; exact ⟨h1, a, h2, h3.kept fun a o q n nt => k a o q (fun _ => n) fun _ => nt⟩
/-- what changes at F1 alone (and the tables): F1 in no slot but perhaps the i-th one, which holds m then -/
theorem Sim.chg {Z : Zx} {E : Ent} {O F1 Fi : List Addr} {σ : L2.St} {H H' : Hp} {s : S} {i : Nat} {m : M} (h : Sim Z E O σ H s) (k : Kp Z.tb F1 H H') (hF : ∀ a, a ∈ F1 → a ∈ O) (h0 : ∀ a, a ∈ F1 → a ∈ E.P ∨ E.H0 a = none) (th : ∀ a, H' a = none → H a = none) (tabs : LamX.Tabs Z.T H')
    (nd : ∀ j m' F, j ≠ i → s[j]? = some m' → SlotR Z.K E O H m' (sl σ j) F → ∀ a, a ∈ F → a ∉ F1) (hm : i < s.length → SlotR Z.K E O H' m (sl σ i) Fi) (hFi : i < s.length → ∀ a, a ∈ Fi → a ∈ F1) : Sim Z E O σ H' (s.set i m) := by
  obtain ⟨l, ⟨F, f1, f2, f3, f4⟩, d, sb, f, t, tbs⟩ := h
  have apart : ∀ j a, j ≠ i → a ∈ F j → a ∉ F1 := fun j a c q => by
    cases e : s[j]? with
    | none => rw [f2 j (List.getElem?_eq_none_iff.mp e)] at q; cases q
    | some m' => exact nd j m' _ c e (f1 j m' e) a q
  refine ⟨by rw [List.length_set, l], ⟨fun j => if j = i ∧ i < s.length then Fi else F j, fun j m' q => ?_, fun j q => ?_, fun j a q => ?_, fun j j' a q r => ?_⟩, fun a q z => d a q (th a z), sb, fun b u h1 h2 h3 => ?_, fun a q => t a (th a q), tabs⟩
  · dsimp only
    by_cases c : j = i
    · rw [c] at q ⊢
      have hi : i < s.length := by have := (List.getElem?_eq_some_iff.mp q).1; rwa [List.length_set] at this
      rw [List.getElem?_set_self hi] at q
      cases q
      rw [if_pos ⟨rfl, hi⟩]
      exact hm hi
    · rw [List.getElem?_set_ne (Ne.symm c)] at q
      rw [if_neg fun z => c z.1]
      exact (f1 j m' q).chg k hF th fun a z => apart j a c z
  · dsimp only
    rw [List.length_set] at q
    rw [if_neg (by omega)]
    exact f2 j q
  · dsimp only at q
    split at q
    · next c => exact hF a (hFi c.2 a q)
    · exact f3 j a q
  · dsimp only at q r
    split at q <;> split at r
    · next c1 c2 => rw [c1.1, c2.1]
    · next c1 c2 =>
      have n : j' ≠ i := fun z => c2 ⟨z, c1.2⟩
      exact absurd (hFi c1.2 a q) (apart j' a n r)
    · next c1 c2 =>
      have n : j ≠ i := fun z => c1 ⟨z, c2.2⟩
      exact absurd (hFi c2.2 a r) (apart j a n q)
    · exact f4 j j' a q r
  · refine k b u (f b u h1 h2 h3) (fun m' => ?_) h3
    rcases h0 b m' with z | z
    · exact h2 z
    · rw [h1] at z; cases z
theorem Sim.chg0 {Z : Zx} {E : Ent} {O F1 : List Addr} {σ : L2.St} {H H' : Hp} {s : S} (h : Sim Z E O σ H s) (k : Kp Z.tb F1 H H') (hF : ∀ a, a ∈ F1 → a ∈ O) (h0 : ∀ a, a ∈ F1 → a ∈ E.P ∨ E.H0 a = none) (th : ∀ a, H' a = none → H a = none) (tabs : LamX.Tabs Z.T H')
    (nd : ∀ j m' F, s[j]? = some m' → SlotR Z.K E O H m' (sl σ j) F → ∀ a, a ∈ F → a ∉ F1) : Sim Z E O σ H' s := by
  have q := h.chg (i := s.length) (m := .un) (Fi := []) k hF h0 th tabs (fun j m' F _ e g => nd j m' F e g) (fun z => absurd z (Nat.lt_irrefl _)) fun z => absurd z (Nat.lt_irrefl _)
  rwa [List.set_eq_of_length_le (Nat.le_refl _)] at q
/-- an object o at a (no code object, no table) is written -/
theorem upd_kp {tb : Bool} {H : Hp} {a : Addr} {o o' : HO} (hH : H a = some o) (mu : Mut (some o)) : Kp tb [a] H (upd H a o') := fun b u e k _ => by
  rw [upd_ne]
  · exact e
  · rintro rfl
    rw [hH] at e
    cases e
    exact k List.mem_cons_self mu
theorem upd_there {H : Hp} {a : Addr} {o' : HO} : ∀ b, upd H a o' b = none → H b = none := fun b q => by
  by_cases c : b = a
  · rw [c, upd_same] at q; cases q
  · rw [upd_ne c] at q; exact q
theorem upd_tabs {T : List (Addr × Str)} {H : Hp} {a : Addr} {xs : List V} {o' : HO} (t : LamX.Tabs T H) (hH : H a = some (.lst xs)) : LamX.Tabs T (upd H a o') := fun p hp => by
  obtain ⟨ps, e1, e2, e3⟩ := t p hp
  refine ⟨ps, (upd_ne fun z => ?_).trans e1, e2, fun pos cv hc => ?_⟩
  · rw [z, hH] at e1
    cases e1
  · obtain ⟨c, g1, g2⟩ := e3 pos cv hc
    refine ⟨c, g1, (upd_ne fun z => ?_).trans g2⟩
    rw [z, hH] at g2
    cases g2
/-- the list in a slot is written -/
theorem Sim.lset {Z : Zx} {E : Ent} {O : List Addr} {σ : L2.St} {H : Hp} {s : S} {i : Nat} {ds es : List D} (h : Sim Z E O σ H s) (hi : s[i]? = some (.ol ds)) :
    ∃ a vs, σ[i]? = some (some (.ref a)) ∧ H a = some (.lst vs) ∧ Rps Z.K O H vs ds ∧ ∀ ws, Rps Z.K O H ws es → Sim Z E O σ (upd H a (.lst ws)) (s.set i (.ol es)) ∧ Stp Z.tb O H O (upd H a (.lst ws)) := by
  obtain ⟨F, f1, f2, f3, f4⟩ := h.own
  obtain ⟨a, vs, h1, h2, h3, h4, h5⟩ := f1 i _ hi
  have aO : a ∈ O := f3 i a (by rw [h1]; exact List.mem_cons_self)
  refine ⟨a, vs, sl_some h2, h3, h5, fun ws r => ?_⟩
  have k : Kp Z.tb [a] H (upd H a (.lst ws)) := upd_kp h3 trivial
  have hF : ∀ b, b ∈ [a] → b ∈ O := fun b q => by rw [List.mem_singleton.mp q]; exact aO
  have st := k.stp hF upd_there
  refine ⟨h.chg (F1 := [a]) (Fi := [a]) k hF (fun b q => by rw [List.mem_singleton.mp q]; exact .inr h4) upd_there (upd_tabs h.tabs h3) (fun j m' F' c e g b q => ?_) (fun _ => ⟨a, ws, rfl, h2, upd_same, h4, r.step st⟩) fun _ b q => q, st⟩
  rw [g.uniq (f1 j m' e)] at q
  intro z
  rw [List.mem_singleton.mp z] at q
  exact c (f4 j i a q (by rw [h1]; exact List.mem_cons_self))
end Y

namespace Y
open PySem PySem.Spec PyProof.Rows L2

/-! ## targets -/
def Agr (ts : List Nat) (σ σ' : L2.St) : Prop := σ'.length = σ.length ∧ ∀ j, j ∉ ts → σ'[j]? = σ[j]?
def tG (Z : Zx) (ts : List Nat) (g : D → S → Option S) : TG := fun v σ H Q => ∃ E O s d s', Sim Z E O σ H s ∧ Rp Z.K O H v d ∧ g d s = some s' ∧ ∀ σ', Agr ts σ σ' → Sim Z E O σ' H s' → Q σ' H
def tGs (Z : Zx) (ts : List Nat) (g : List D → S → Option S) : TGs := fun vs σ H Q => ∃ E O s ds s', Sim Z E O σ H s ∧ Rps Z.K O H vs ds ∧ g ds s = some s' ∧ ∀ σ', Agr ts σ σ' → Sim Z E O σ' H s' → Q σ' H
def putM (i : Nat) : D → S → Option S := fun d s => if i < s.length then some (s.set i (.imm d)) else none
def tgNil : List D → S → Option S
  | [], s => some s
  | _, _ => none
def tgCons (g : D → S → Option S) (r : List D → S → Option S) : List D → S → Option S
  | d :: ds, s => (g d s).bind (r ds)
  | [], _ => none
def tgTup (n : Nat) (r : List D → S → Option S) : D → S → Option S
  | .tuple ds, s => if ds.length = n then r ds s else none
  | _, _ => none
section
variable {X : Cx} {T : List (Addr × Str)} {tb : Bool}
theorem imp_g {e : Expr} {t t' : TG} (h : PG X e t) (hi : ∀ v σ H Q, t' v σ H Q → t v σ H Q) : PG X e t' := ⟨fun pins s σ H v u Q I r hw => h.run pins s σ H v u Q I r (hi v σ H Q hw)⟩
theorem imp_gs {e : List Expr} {t t' : TGs} (h : PGs X e t) (hi : ∀ v σ H Q, t' v σ H Q → t v σ H Q) : PGs X e t' := ⟨fun pins s σ H v u Q I r hw => h.run pins s σ H v u Q I r (hi v σ H Q hw)⟩
theorem Agr.refl {ts : List Nat} {σ : L2.St} : Agr ts σ σ := ⟨rfl, fun _ _ => rfl⟩
theorem Agr.trans {ts us : List Nat} {σ σ1 σ2 : L2.St} (a : Agr ts σ σ1) (b : Agr us σ1 σ2) : Agr (ts ++ us) σ σ2 :=
  ⟨b.1.trans a.1, fun j n => (b.2 j fun z => n (List.mem_append_right _ z)).trans (a.2 j fun z => n (List.mem_append_left _ z))⟩
theorem g_name (i : Nat) {x : Str} {pos : Pos} (hN : X.N.Nodup) (hi : X.N[i]? = some x := by rfl) (hx : Loc X.env.scope x := by first | exact Or.inl rfl | exact Or.inr rfl) (hf : X.fn x = true ∨ X.env.scope.names.lookup x = some .local := by first | exact .inl rfl | exact .inr rfl) : PG X (.Name x pos) (tG (Zo X T tb) [i] (putM i)) := by
  refine imp_g (pg_name hN hi hx hf) fun v σ H Q h => ?_
  obtain ⟨E, O, s, d, s', sm, r, hg, k⟩ := h
  unfold putM at hg
  split at hg
  · next hl =>
    cases hg
    exact k _ ⟨List.length_set, fun j n => List.getElem?_set_ne fun z => n (by rw [z]; exact List.mem_cons_self)⟩ (sm.setI hl r)
  · cases hg
theorem gs_nil : PGs X [] (tGs (Zo X T tb) [] tgNil) := imp_gs pgs_nil fun v σ H Q h => by
  obtain ⟨E, O, s, d, s', sm, r, hg, k⟩ := h
  cases d with
  | nil => cases r; cases hg; exact ⟨rfl, k σ Agr.refl sm⟩
  | cons _ _ => cases hg
theorem gs_cons {e : Expr} {es : List Expr} {ts us : List Nat} {g : D → S → Option S} {r : List D → S → Option S} (h1 : PG X e (tG (Zo X T tb) ts g)) (h2 : PGs X es (tGs (Zo X T tb) us r))
    (hs : (assignEach (e :: es) X.env).map (·.2) = assign e X.env :: (assignEach es X.env).map (·.2) := by rfl) : PGs X (e :: es) (tGs (Zo X T tb) (ts ++ us) (tgCons g r)) := imp_gs (pgs_cons h1 h2 hs) fun v σ H Q h => by
  obtain ⟨E, O, s, d, s', sm, hr, hg, k⟩ := h
  cases d with
  | nil => cases hg
  | cons d ds =>
    cases hr with
    | cons h3 h4 =>
      obtain ⟨s1, e1, e2⟩ := Option.bind_eq_some_iff.mp (show (g d s).bind (r ds) = some s' from hg)
      exact ⟨_, _, rfl, E, O, s, d, s1, sm, h3, e1, fun σ1 a1 sm1 => ⟨E, O, s1, ds, s', sm1, h4, e2, fun σ2 a2 sm2 => k σ2 (a1.trans a2) sm2⟩⟩
theorem g_tup {es : List Expr} {k n : Nat} {pos : Pos} {ts : List Nat} {r : List D → S → Option S} (hc : X.calm = true) (h : PGs X es (tGs (Zo X T tb) ts r)) (hn : (assignEach es X.env).length = n := by rfl) (hst : (assignEach es X.env).findIdx? (·.1) = none := by rfl) :
    PG X (.Tuple es k pos) (tG (Zo X T tb) ts (tgTup n r)) := imp_g (pg_tup hc h hn hst) fun v σ H Q h => by
  obtain ⟨E, O, s, d, s', sm, hr, hg, k⟩ := h
  cases d with
  | tuple ds =>
    unfold tgTup at hg
    dsimp only at hg
    split at hg
    · next hl =>
      obtain ⟨a, xs, rfl, hx, ra⟩ := hr.ref_tuple
      exact ⟨a, xs, rfl, hx, by rw [ra.length, hl], E, O, s, ds, s', sm, ra, hg, k⟩
    · cases hg
  | _ => cases hg
end

/-! ## what is walked -/
def WalkQ (K : Fg) (J : It) (O : List Addr) (H1 : Hp) (ds : List D) : Prop :=
  ∀ (i : Nat) (O2 : List Addr) (H : Hp), Ex H1 H → (∀ a, a ∈ O2 → a ∈ O ∨ H1 a = none) → (∀ d, ds[i]? = some d → J.go i H ∧ ∀ x H', J.yld i H x H' → Ex H H' ∧ Rp K O2 H' x d) ∧ (ds.length ≤ i → J.stop i H)
def WalkS (K : Fg) (J : It) (O : List Addr) (H1 : Hp) (ds : List D) : Prop :=
  ∀ (i : Nat) (tb : Bool) (O2 : List Addr) (H : Hp), Stp tb O H1 O2 H → (∀ d, ds[i]? = some d → J.go i H ∧ ∀ x H', J.yld i H x H' → Ex H H' ∧ Rp K O2 H' x d) ∧ (ds.length ≤ i → J.stop i H)
theorem WalkS.q {K : Fg} {J : It} {O : List Addr} {H1 : Hp} {ds : List D} (w : WalkS K J O H1 ds) : WalkQ K J O H1 ds := fun i O2 H e n => w i false O2 H ⟨fun a o h _ _ => e a o h, n, fun a h => e.back h⟩
theorem sqL_inj {K : Fg} {H : Hp} {a : Addr} {xs : List V} (h : H a = some (.lst xs)) : ∃ ys, SqL K H a ys := ⟨xs, SqL.of h⟩
/-- what a list iterator yields of a tracked list -/
theorem walk_list {K : Fg} {O : List Addr} {H1 : Hp} {a : Addr} {xs : List V} {ds : List D} (h : H1 a = some (.lst xs)) (r : Rps K O H1 xs ds) : WalkQ K (Itl K a) O H1 ds := fun i O2 H e n => by
  have h2 := e _ _ h
  refine ⟨fun d hd => ?_, fun hl => ⟨xs, SqL.of h2, by rw [r.length]; exact hl⟩⟩
  obtain ⟨v, h3, h4⟩ := r.get hd
  refine ⟨⟨xs, v, SqL.of h2, h3⟩, fun x H' y => ?_⟩
  obtain ⟨rfl, y⟩ := y
  have y1 := y xs (SqL.of h2)
  rw [h3] at y1
  cases y1
  exact ⟨Ex.refl _, h4.step (tb := false) ⟨fun a o h _ _ => e a o h, n, fun a h => e.back h⟩⟩
theorem walk_listS {K : Fg} {O : List Addr} {H1 : Hp} {a : Addr} {xs : List V} {ds : List D} (h : H1 a = some (.lst xs)) (nO : a ∉ O) (r : Rps K O H1 xs ds) : WalkS K (Itl K a) O H1 ds := fun i tb O2 H st => by
  have h2 : H a = some (.lst xs) := st.keep _ _ h (fun m => absurd m nO) fun _ ps z => by cases z
  refine ⟨fun d hd => ?_, fun hl => ⟨xs, SqL.of h2, by rw [r.length]; exact hl⟩⟩
  obtain ⟨v, h3, h4⟩ := r.get hd
  refine ⟨⟨xs, v, SqL.of h2, h3⟩, fun x H' y => ?_⟩
  obtain ⟨rfl, y⟩ := y
  have y1 := y xs (SqL.of h2)
  rw [h3] at y1
  cases y1
  exact ⟨Ex.refl _, h4.step st⟩
theorem walk_tupS {K : Fg} {O : List Addr} {H1 : Hp} {a : Addr} {xs : List V} {ds : List D} (h : SqT K H1 a xs) (r : Rps K O H1 xs ds) : WalkS K (Itt K a) O H1 ds := fun i tb O2 H st => by
  have h2 : SqT K H a xs := sqT_kept (fun a o e m t => st.keep a o e (fun _ => m) fun _ => t) h
  refine ⟨fun d hd => ?_, fun hl => ⟨xs, h2, by rw [r.length]; exact hl⟩⟩
  obtain ⟨v, h3, h4⟩ := r.get hd
  refine ⟨⟨xs, v, h2, h3⟩, fun x H' y => ?_⟩
  obtain ⟨rfl, y⟩ := y
  have y1 := y xs h2
  rw [h3] at y1
  cases y1
  exact ⟨Ex.refl _, h4.step st⟩
def rngL (lo : Int) (c : Int) : Nat → List D
  | 0 => []
  | n + 1 => .int lo :: rngL (lo + c) c n
theorem rngL_length (c : Int) : ∀ (n : Nat) (lo : Int), (rngL lo c n).length = n
  | 0, _ => rfl
  | n + 1, lo => by rw [rngL, List.length_cons, rngL_length c n]
theorem rngL_get (c : Int) : ∀ (n : Nat) (lo : Int) (i : Nat) (d : D), (rngL lo c n)[i]? = some d → i < n ∧ d = .int (lo + (i : Int) * c)
  | 0, lo, i, d, h => by simp [rngL] at h
  | n + 1, lo, 0, d, h => by simp [rngL] at h; rw [← h]; exact ⟨by omega, by simp⟩
  | n + 1, lo, i + 1, d, h => by
    have h : (rngL (lo + c) c n)[i]? = some d := by simpa [rngL] using h
    obtain ⟨h1, h2⟩ := rngL_get c n (lo + c) i d h
    refine ⟨by omega, ?_⟩
    rw [h2]
    congr 1
    rw [show ((i + 1 : Nat) : Int) = (i : Int) + 1 by omega, Int.add_mul]
    omega
theorem walk_rng {K : Fg} {O : List Addr} {H1 : Hp} {lo : Int} {n : Nat} : WalkS K (Itr lo n) O H1 (rngL lo 1 n) := fun i tb O2 H st => by
  refine ⟨fun d hd => ?_, fun hl => ?_⟩
  · obtain ⟨h1, h2⟩ := rngL_get 1 n lo i d hd
    refine ⟨h1, fun x H' y => ?_⟩
    obtain ⟨rfl, rfl⟩ := y
    rw [h2, Int.mul_one]
    exact ⟨Ex.refl _, .int _⟩
  · rw [rngL_length] at hl
    exact hl
theorem walk_rngC {K : Fg} {O : List Addr} {H1 : Hp} {lo c : Int} {n : Nat} : WalkS K (Itc lo c n) O H1 (rngL lo c n) := fun i tb O2 H st => by
  refine ⟨fun d hd => ?_, fun hl => ?_⟩
  · obtain ⟨h1, h2⟩ := rngL_get c n lo i d hd
    refine ⟨h1, fun x H' y => ?_⟩
    obtain ⟨rfl, rfl⟩ := y
    rw [h2]
    exact ⟨Ex.refl _, .int _⟩
  · rw [rngL_length] at hl
    exact hl

def tIQ (Z : Zx) (m : S → Option (List D)) : TI := fun σ H R => ∃ E O s ds, Sim Z E O σ H s ∧ m s = some ds ∧ ∀ J H', Ex H H' → WalkQ Z.K J O H' ds → R J H'
def tIE (Z : Zx) (m : S → Option (List D × S)) : TI := fun σ H R => ∃ E O s ds s', Sim Z E O σ H s ∧ m s = some (ds, s') ∧ ∀ J H' O', Stp Z.tb O H O' H' → Sim Z E O' σ H' s' → WalkS Z.K J O' H' ds → R J H'
def tEi (Z : Zx) (m : S → Option (D × S)) : TE := fun σ H Q => ∃ E O s d s', Sim Z E O σ H s ∧ m s = some (d, s') ∧ ∀ v H' O', Stp Z.tb O H O' H' → Sim Z E O' σ H' s' → Rp Z.K O' H' v d → Q v H'
def tEo (Z : Zx) (m : S → Option (List D × S)) : TE := fun σ H Q => ∃ E O s ds s', Sim Z E O σ H s ∧ m s = some (ds, s') ∧
  ∀ a vs H' O', Stp Z.tb O H (a :: O') H' → a ∉ O' → Sim Z E O' σ H' s' → Sim Z E (a :: O') σ H' s' → E.H0 a = none → H' a = some (.lst vs) → Rps Z.K (a :: O') H' vs ds → Q (.ref a) H'
def tTE (Z : Zx) (m : S → Option (Bool × S)) : TT := fun σ H Q => ∃ E O s b s', Sim Z E O σ H s ∧ m s = some (b, s') ∧ ∀ H' O', Stp Z.tb O H O' H' → Sim Z E O' σ H' s' → Q b H'
def tAE (Z : Zx) (m : S → Option (List D × S)) : TA := fun σ H Q => ∃ E O s ds s', Sim Z E O σ H s ∧ m s = some (ds, s') ∧ ∀ vs H' O', Stp Z.tb O H O' H' → Sim Z E O' σ H' s' → Rps Z.K O' H' vs ds → Q vs H'
/-- a walk of plain values (a range, the items of a fresh list) told quietly serves loops too -/
structure QI (X : Cx) (T : List (Addr × Str)) (tb : Bool) (tg e : Expr) (m : S → Option (List D)) : Prop where
  p : PI X tg e (tIQ (Zo X T tb) m)
abbrev EI (X : Cx) (T : List (Addr × Str)) (tb : Bool) (tg e : Expr) (m : S → Option (List D × S)) : Prop := PI X tg e (tIE (Zo X T tb) m)
abbrev EE (X : Cx) (T : List (Addr × Str)) (tb : Bool) (e : Expr) (m : S → Option (D × S)) : Prop := PE X e (tEi (Zo X T tb) m)
abbrev EO (X : Cx) (T : List (Addr × Str)) (tb : Bool) (e : Expr) (m : S → Option (List D × S)) : Prop := PE X e (tEo (Zo X T tb) m)
abbrev ET (X : Cx) (T : List (Addr × Str)) (tb : Bool) (e : Expr) (m : S → Option (Bool × S)) : Prop := PT X e (tTE (Zo X T tb) m)
abbrev EA (X : Cx) (T : List (Addr × Str)) (tb : Bool) (e : List Expr) (m : S → Option (List D × S)) : Prop := PA X e (tAE (Zo X T tb) m)

def seqM (a : S → Option D) : S → Option (List D) := fun s => (a s).bind seqD
def rng1M (a : S → Option (List D)) : S → Option (List D) := fun s => (a s).bind fun
  | [.int j] => if Nat.ble j.natAbs 1000000 = true then some (rngL 0 1 j.toNat) else none
  | _ => none
def rng2M (a : S → Option (List D)) : S → Option (List D) := fun s => (a s).bind fun
  | [.int i, .int j] => if (Nat.ble i.natAbs 1000000 && Nat.ble j.natAbs 1000000) = true then some (rngL i 1 (j - i).toNat) else none
  | _ => none
def noSt {α : Type} (a : S → Option α) : S → Option (α × S) := fun s => (a s).map fun x => (x, s)
def lstOf : D → Option (List D)
  | .list ds => some ds
  | _ => none
def ownM (a : S → Option D) : S → Option (List D × S) := fun s => (a s).bind fun d => (lstOf d).map fun ds => (ds, s)

section
variable {X : Cx} {T : List (Addr × Str)} {tb : Bool}
theorem imp_i {tg e : Expr} {t t' : TI} (h : PI X tg e t) (hi : ∀ σ H R, t' σ H R → t σ H R) : PI X tg e t' := ⟨fun pins s σ H Q I hw => h.run pins s σ H Q I (hi σ H Q hw)⟩
def iAny (K : Fg) (tl : TE) : TI := fun σ H R => tl σ H fun x H1 => ∃ a, x = .ref a ∧ ((∃ xs, SqL K H1 a xs ∧ R (Itl K a) H1) ∨ ∃ xs, SqT K H1 a xs ∧ R (Itt K a) H1)
theorem pi_any {tg l : Expr} {tl : TE} (hl : PE X l tl) : PI X tg l (iAny X.K tl) := by
  constructor
  intro pins s σ H R I h
  refine thn (hl.run pins s σ H _ I h) fun v s1 q0 => ?_
  obtain ⟨x, H1, I1, r1, a, e, q⟩ := q0
  subst e
  cases r1
  have fresh : ∀ b, b ∈ [s1.heap.objs.size] → FpOk X pins H1 b := fun b hb => by
    obtain rfl := List.mem_singleton.mp hb
    exact I1.fpOk (Nat.le_refl _) (I1.hok.fresh (Nat.le_refl _))
  rcases q with ⟨xs, hq, q⟩ | ⟨xs, hq, q⟩
  · obtain ⟨its, rv, p, hz⟩ := I1.list hq
    refine wpAny_pyIter_list p.isList ⟨_, [s1.heap.objs.size], _, _, H1, rfl, I1.kept (t' := s1.toks) fun b o e => Heap.get?_push_of_some _ e, turn_list a _, ⟨_, Heap.get?_push_size _ rfl, rfl, rfl⟩, fresh, q⟩
  · obtain ⟨its, rv, p, hz⟩ := I1.tuple hq
    refine wpAny_pyIter_tuple (show s1.heap.IsTuple a its.toArray from p) ⟨_, [s1.heap.objs.size], _, _, H1, rfl, I1.kept (t' := s1.toks) fun b o e => Heap.get?_push_of_some _ e, turn_tuple a _, ⟨_, Heap.get?_push_size _ rfl, rfl, rfl⟩, fresh, q⟩
theorem seqD_some {d : D} {ds : List D} (h : seqD d = some ds) : d = .list ds ∨ d = .tuple ds := by
  cases d <;> simp [seqD] at h
  · exact .inl (by rw [h])
  · exact .inr (by rw [h])
theorem qi_seq {tg e : Expr} {k : Kd} {m : S → Option D} (h : QE X T tb k e m) : QI X T tb tg e (seqM m) := ⟨imp_i (pi_any h) fun σ H R q => by
  obtain ⟨E, O, s, ds, sm, hm, k⟩ := q
  obtain ⟨d, hd, hm⟩ := Option.bind_eq_some_iff.mp (show (m s).bind seqD = some ds from hm)
  refine ⟨E, O, s, d, sm, hd, fun v H' e r => ?_⟩
  rcases seqD_some hm with rfl | rfl
  · obtain ⟨a, xs, rfl, h1, h2⟩ := r.toR.list
    exact ⟨a, rfl, .inl ⟨xs, SqL.of h1, k _ H' e (walk_list h1 h2)⟩⟩
  · obtain ⟨a, xs, rfl, h1, h2⟩ := r.toR.tuple
    exact ⟨a, rfl, .inr ⟨xs, h1, k _ H' e (walk_tupS h1 h2).q⟩⟩⟩
theorem rng_int1 {m : S → Option (List D)} {ds : List D} {s : S} (h : rng1M m s = some ds) : ∃ j : Int, m s = some [.int j] ∧ j.natAbs ≤ 1000000 ∧ ds = rngL 0 1 j.toNat := by
  obtain ⟨xs, h1, h2⟩ := Option.bind_eq_some_iff.mp h
  split at h2
  · next j =>
    split at h2
    · next c => cases h2; exact ⟨j, h1, by simpa [Nat.ble_eq] using c, rfl⟩
    · cases h2
  · cases h2
theorem rng_int2 {m : S → Option (List D)} {ds : List D} {s : S} (h : rng2M m s = some ds) : ∃ i j : Int, m s = some [.int i, .int j] ∧ i.natAbs ≤ 1000000 ∧ j.natAbs ≤ 1000000 ∧ ds = rngL i 1 (j - i).toNat := by
  obtain ⟨xs, h1, h2⟩ := Option.bind_eq_some_iff.mp h
  split at h2
  · next i j =>
    split at h2
    · next c =>
      cases h2
      rw [Bool.and_eq_true] at c
      exact ⟨i, j, h1, by simpa [Nat.ble_eq] using c.1, by simpa [Nat.ble_eq] using c.2, rfl⟩
    · cases h2
  · cases h2
theorem rrs_ints1 {K : Fg} {O : List Addr} {H : Hp} {vs : List V} {j : Int} (h : Rrs K O H vs [.int j]) : vs = [.int j] := by
  obtain ⟨x, rfl, r⟩ := rrs1 h
  rw [r.int]
theorem rrs_ints2 {K : Fg} {O : List Addr} {H : Hp} {vs : List V} {i j : Int} (h : Rrs K O H vs [.int i, .int j]) : vs = [.int i, .int j] := by
  obtain ⟨x, y, rfl, r, q⟩ := rrs2 h
  rw [r.int, q.int]
theorem qi_rng1 {tg a : Expr} {p pos : Pos} {b : Bool} {m : S → Option (List D)} (hg : Gl X "range") (hm : X.mg "range" = none) (ha : QA X T tb b [a] m) (hs : starEach [a] X.env = [(false, eval a X.env)] := by rfl) : QI X T tb tg (.Call (.Name "range" p) [a] [] pos) (rng1M m) := ⟨imp_i (pi_range1 hg hm ha hs) fun σ H R q => by
  obtain ⟨E, O, s, ds, sm, hm, k⟩ := q
  obtain ⟨j, h1, h2, rfl⟩ := rng_int1 hm
  refine ⟨E, O, s, _, sm, h1, fun vs H' e r => ?_⟩
  exact ⟨j, rrs_ints1 r.toR, by omega, by omega, k _ H' e walk_rng.q⟩⟩
theorem qi_rng2 {tg a a2 : Expr} {p pos : Pos} {b : Bool} {m : S → Option (List D)} (hg : Gl X "range") (hm : X.mg "range" = none) (ha : QA X T tb b [a, a2] m) (hs : starEach [a, a2] X.env = [(false, eval a X.env), (false, eval a2 X.env)] := by rfl) (hs2 : starEach [a2] X.env = [(false, eval a2 X.env)] := by rfl) :
    QI X T tb tg (.Call (.Name "range" p) [a, a2] [] pos) (rng2M m) := ⟨imp_i (pi_range2 hg hm ha hs hs2) fun σ H R q => by
  obtain ⟨E, O, s, ds, sm, hm, k⟩ := q
  obtain ⟨i, j, h1, h2, h3, rfl⟩ := rng_int2 hm
  refine ⟨E, O, s, _, sm, h1, fun vs H' e r => ?_⟩
  exact ⟨i, j, rrs_ints2 r.toR, by omega, k _ H' e walk_rng.q⟩⟩
/-! ### from quiet ones to effectful ones -/
theorem e_q {e : Expr} {k : Kd} {m : S → Option D} (h : QE X T tb k e m) (nk : k ≠ .r := by decide) : EE X T tb e (noSt m) := imp_e h fun σ H Q q => by
  obtain ⟨E, O, s, d, s', sm, hm, k⟩ := q
  obtain ⟨x, hx, he⟩ := Option.map_eq_some_iff.mp hm
  cases he
  exact ⟨E, O, s, d, sm, hx, fun v H' e r => k v H' O (Stp.of_ex e) (sm.ext e) (r.toI' nk)⟩
theorem eo_q {e : Expr} {m : S → Option D} (h : QE X T tb .o e m) : EO X T tb e (ownM m) := imp_e h fun σ H Q q => by
  obtain ⟨E, O, s, ds, s', sm, hm, k⟩ := q
  obtain ⟨x, hx, he⟩ := Option.bind_eq_some_iff.mp hm
  obtain ⟨y, hy, he⟩ := Option.map_eq_some_iff.mp he
  cases he
  refine ⟨E, O, s, x, sm, hx, fun v H' e r => ?_⟩
  obtain ⟨a, vs, ds', rfl, rfl, h3, h4, h5, h6⟩ := r
  cases hy
  exact k a vs H' O ⟨fun b o h _ _ => e b o h, fun b m => (List.mem_cons.mp m).elim (fun z => .inr (z ▸ h3)) .inl, fun b z => e.back z⟩ h4 (sm.ext e) (sm.grow h3 e (by rw [h5]; exact fun z => by cases z)) (sm.there a h3) h5 h6
end
end Y

namespace Y
open PySem PySem.Spec PyProof.Rows L2

/-! ## list comprehensions -/
def wipeS (s : S) : List Nat → S
  | [] => s
  | v :: vs => (wipeS s vs).set v .un
def lcGo (g : D → S → Option S) (t : S → Option Bool) (e : S → Option D) (s : S) : List D → Option (List D)
  | [] => some []
  | d :: ds => (g d s).bind fun s1 => (t s1).bind fun b => if b = true then (e s1).bind fun y => (lcGo g t e s ds).bind fun r => some (y :: r) else lcGo g t e s ds
def lcM (vs : List Nat) (src : S → Option (List D)) (g : D → S → Option S) (t : S → Option Bool) (e : S → Option D) : S → Option D := fun s =>
  (src s).bind fun ds => if Nat.ble ds.length 1000000 = true then (lcGo g t e (wipeS s vs) ds).map PyData.list else none
def yesM : S → Option Bool := fun _ => some true

theorem Sim.setN' {Z : Zx} {E : Ent} {O : List Addr} {σ : L2.St} {H : Hp} {s : S} {i : Nat} (h : Sim Z E O σ H s) : Sim Z E O (σ.set i none) H (s.set i .un) := by
  by_cases hi : i < s.length
  · exact h.setN hi
  · rw [List.set_eq_of_length_le (l := s) (by omega), List.set_eq_of_length_le (l := σ) (by rw [h.len]; omega)]
    exact h
theorem Sim.wipe {Z : Zx} {E : Ent} {O : List Addr} {σ : L2.St} {H : Hp} {s : S} (h : Sim Z E O σ H s) : ∀ vs : List Nat, Sim Z E O (L2.wipe σ vs) H (wipeS s vs)
  | [] => h
  | v :: vs => (h.wipe vs).setN'
theorem wipe_in {σ : L2.St} {j : Nat} : ∀ {vs : List Nat}, j ∈ vs → (L2.wipe σ vs)[j]? = if j < σ.length then some none else none
  | v :: vs, h => by
    unfold L2.wipe
    by_cases c : v = j
    · rw [c]
      by_cases hl : j < σ.length
      · rw [List.getElem?_set_self (by rw [wipe_length]; exact hl), if_pos hl]
      · rw [List.getElem?_eq_none (by rw [List.length_set, wipe_length]; omega), if_neg hl]
    · rw [List.getElem?_set_ne c]
      rcases List.mem_cons.mp h with q | q
      · exact absurd q.symm c
      · exact wipe_in q
theorem wipe_agr {σ σ2 : L2.St} {ts vs : List Nat} (h : Agr ts (L2.wipe σ vs) σ2) (hs : ∀ i, i ∈ ts → i ∈ vs) : L2.wipe σ2 vs = L2.wipe σ vs := by
  have hl : σ2.length = σ.length := h.1.trans (wipe_length σ vs)
  apply List.ext_getElem?
  intro j
  by_cases c : j ∈ vs
  · rw [wipe_in c, wipe_in c, hl]
  · rw [wipe_out c, h.2 j fun z => c (hs j z)]
section
variable {X : Cx} {T : List (Addr × Str)} {tb : Bool}
theorem pts_q {c : Expr} {t : S → Option Bool} (h : QT X T tb c t) : PTs X [c] (tTQ (Zo X T tb) t) := pts_one h
theorem pts_yes : PTs X [] (tTQ (Zo X T tb) yesM) := ⟨fun pins s σ H Q I h => by
  obtain ⟨E, O, s, b, sm, hm, k⟩ := h
  cases hm
  exact pts_nil.run pins _ σ H Q I (k H (Ex.refl H))⟩
theorem lc_read {wi : TI} {src : S → Option (List D)} {g : D → S → Option S} {t : S → Option Bool} {e : S → Option D} {k : Kd} {vs ts : List Nat} (nk : k ≠ .r) (hts : ∀ i, i ∈ ts → i ∈ vs) {σ : L2.St} {H : Hp} {Q : VK} (h : tQ (Zo X T tb) .o (lcM vs src g t e) σ H Q) :
    tLc (tIQ (Zo X T tb) src) (tG (Zo X T tb) ts g) (tTQ (Zo X T tb) t) (tQ (Zo X T tb) k e) vs σ H Q := by
  obtain ⟨E, O, s, d, sm, hm, kk⟩ := h
  unfold lcM at hm
  obtain ⟨ds, hds, hm⟩ := Option.bind_eq_some_iff.mp hm
  split at hm
  case isFalse => cases hm
  next hle =>
  obtain ⟨rs, hrs, rfl⟩ := Option.map_eq_some_iff.mp hm
  have hle : ds.length ≤ 1000000 := by simpa [Nat.ble_eq] using hle
  refine ⟨E, O, s, ds, sm, hds, fun J H1 e1 w D hD => ?_⟩
  have newc : ∀ a, a ∈ D :: O → a ∈ O ∨ H1 a = none := fun a m => (List.mem_cons.mp m).elim (fun q => .inr (q ▸ hD)) .inl
  have sm1 := sm.ext e1
  refine ⟨fun i m H => m = ds.length - i ∧ i ≤ ds.length ∧ Ex H1 H ∧ ∃ acc dn rest, H D = some (.lst acc) ∧ Rps X.K (D :: O) H acc dn ∧ lcGo g t e (wipeS s vs) (ds.drop i) = some rest ∧ rs = dn ++ rest ∧ acc.length ≤ i,
    ⟨ds.length, by simp, Nat.zero_le _, Ex.new hD, [], [], rs, upd_same, .nil, hrs, rfl, Nat.le_refl _⟩, ?_⟩
  rintro i m H2 ⟨rfl, hi, e2, acc, dn, rest, hacc, racc, hgo, hcat, hal⟩
  by_cases hlt : i < ds.length
  · refine .inr ?_
    have hd : ds[i]? = some ds[i] := List.getElem?_eq_getElem hlt
    obtain ⟨w1, w2⟩ := w i (D :: O) H2 e2 newc
    obtain ⟨go, w1⟩ := w1 _ hd
    rw [List.drop_eq_getElem_cons hlt] at hgo
    unfold lcGo at hgo
    obtain ⟨s1, hg1, hgo⟩ := Option.bind_eq_some_iff.mp hgo
    obtain ⟨b, ht1, hgo⟩ := Option.bind_eq_some_iff.mp hgo
    refine ⟨go, fun H' => Ex H1 H' ∧ ∃ acc dn rest, H' D = some (.lst acc) ∧ Rps X.K (D :: O) H' acc dn ∧ lcGo g t e (wipeS s vs) (ds.drop (i + 1)) = some rest ∧ rs = dn ++ rest ∧ acc.length ≤ i + 1, fun H' q => ⟨ds.length - (i + 1), by omega, rfl, hlt, q⟩, fun x H3 y => ?_⟩
    obtain ⟨e3, rx⟩ := w1 x H3 y
    have n3 : H3 D = some (.lst acc) := e3 _ _ hacc
    have smw : Sim (Zo X T tb) E (D :: O) (L2.wipe σ vs) H3 (wipeS s vs) := (sm1.wipe vs).grow hD (e2.trans e3) (by rw [n3]; exact fun z => by cases z)
    refine ⟨E, D :: O, wipeS s vs, ds[i], s1, smw, rx, hg1, fun σ2 ag sm2 => ⟨wipe_agr ag hts, E, D :: O, s1, b, sm2, ht1, fun H4 e4 => ?_⟩⟩
    cases b with
    | true =>
      rw [if_pos rfl] at hgo ⊢
      obtain ⟨z, hz, hgo⟩ := Option.bind_eq_some_iff.mp hgo
      obtain ⟨r', hr', hgo⟩ := Option.bind_eq_some_iff.mp hgo
      cases hgo
      refine ⟨E, D :: O, s1, z, sm2.ext e4, hz, fun v H5 e5 r5 => ⟨acc, (e4.trans e5) _ _ n3, Nat.lt_of_le_of_lt (Nat.le_trans hal hi) (Nat.lt_of_le_of_lt hle (by decide)), ?_⟩⟩
      have n5 : H5 D = some (.lst acc) := (e4.trans e5) _ _ n3
      have st : Stp false (D :: O) H5 (D :: O) (upd H5 D (.lst (acc ++ [v]))) := (upd_kp (tb := false) n5 trivial).stp (fun a q => by rw [List.mem_singleton.mp q]; exact List.mem_cons_self) upd_there
      refine ⟨fun a o q => ?_, acc ++ [v], dn ++ [z], r', upd_same, ((racc.ext (e3.trans (e4.trans e5))).step st).append (.one ((r5.toI' nk).step st)), hr', by rw [hcat]; simp, by rw [List.length_append]; simp; omega⟩
      rw [upd_ne (ne_of_none q hD)]
      exact (e2.trans (e3.trans (e4.trans e5))) a o q
    | false =>
      rw [if_neg Bool.false_ne_true] at hgo ⊢
      exact ⟨e2.trans (e3.trans e4), acc, dn, rest, e4 _ _ n3, racc.ext (e3.trans e4), hgo, hcat, by omega⟩
  · have hi : i = ds.length := by omega
    refine .inl ⟨(w i (D :: O) H2 e2 newc).2 (by omega), ?_⟩
    rw [hi, List.drop_length] at hgo
    cases hgo
    rw [List.append_nil] at hcat
    subst hcat
    exact kk _ H2 (e1.trans e2) ⟨D, acc, rs, rfl, rfl, e1.back hD, fun m => sm.dom D m (e1.back hD), hacc, racc⟩
theorem q_lc {elt tg iter : Expr} {ifs : List Expr} {scope : Scope} {own : List (Str × Nat)} {pos : Pos} {src : S → Option (List D)} {g : D → S → Option S} {t : S → Option Bool} {e : S → Option D} {k : Kd} {ts : List Nat} (hc : X.calm = true) (hN : X.N.Nodup) (hi : QI X T tb tg iter src) (ok : BlkOk X.N X.env.scope scope own)
    (hg : ∀ (s : Shared) (H : Hp) (C : Addr) (cl : List (Str × Addr)) (fp : List Addr), PG (X.blk s H scope (compEnvC scope cl C X.env) fp) tg (tG (Zo X T tb) ts g)) (ht : ∀ (s : Shared) (H : Hp) (C : Addr) (cl : List (Str × Addr)) (fp : List Addr), PTs (X.blk s H scope (compEnvC scope cl C X.env) fp) ifs (tTQ (Zo X T tb) t))
    (he : ∀ (s : Shared) (H : Hp) (C : Addr) (cl : List (Str × Addr)) (fp : List Addr), PE (X.blk s H scope (compEnvC scope cl C X.env) fp) elt (tQ (Zo X T tb) k e)) (nk : k ≠ .r := by decide) (hts : ∀ i, i ∈ ts → i ∈ own.map (·.2) := by decide) (hs : ∀ x, foldedSetIterable iter X.env x = pure x := by intro _; rfl) :
    QE X T tb .o (.ListComp elt [⟨tg, iter, ifs, 0⟩] scope pos) (lcM (own.map (·.2)) src g t e) :=
  imp_e (pe_lc hc hN hi.p ok hg ht he hs) fun σ H Q h => lc_read (wi := tIQ (Zo X T tb) src) nk hts h

/-! ## effectful operations -/
def op2E (g : D → D → Option D) (a b : S → Option (D × S)) : S → Option (D × S) := fun s => (a s).bind fun p => (b p.2).bind fun q => (g p.1 q.1).map fun d => (d, q.2)
def op1E (g : D → Option D) (a : S → Option (D × S)) : S → Option (D × S) := fun s => (a s).bind fun p => (g p.1).map fun d => (d, p.2)
def argNE : S → Option (List D × S) := fun s => some ([], s)
def argCE (a : S → Option (D × S)) (r : S → Option (List D × S)) : S → Option (List D × S) := fun s => (a s).bind fun p => (r p.2).bind fun q => some (p.1 :: q.1, q.2)
def tupE (r : S → Option (List D × S)) : S → Option (D × S) := fun s => (r s).bind fun p => if p.1.length ≤ 10000 then some (.tuple p.1, p.2) else none
def lstE (r : S → Option (List D × S)) : S → Option (List D × S) := fun s => (r s).bind fun p => if p.1.length ≤ 10000 then some (p.1, p.2) else none
def callE (g : List D → Option D) (r : S → Option (List D × S)) : S → Option (D × S) := fun s => (r s).bind fun p => (g p.1).map fun d => (d, p.2)
def tvE (a : S → Option (D × S)) : S → Option (Bool × S) := fun s => (a s).bind fun p => (boolD p.1).map fun b => (b, p.2)
def notE (a : S → Option (Bool × S)) : S → Option (Bool × S) := fun s => (a s).map fun p => (!p.1, p.2)
def andE (a b : S → Option (Bool × S)) : S → Option (Bool × S) := fun s => (a s).bind fun p => if p.1 = true then b p.2 else some (false, p.2)
def orE (a b : S → Option (Bool × S)) : S → Option (Bool × S) := fun s => (a s).bind fun p => if p.1 = true then some (true, p.2) else b p.2
def ifE (t : S → Option (Bool × S)) (a b : S → Option (D × S)) : S → Option (D × S) := fun s => (t s).bind fun p => if p.1 = true then a p.2 else b p.2
/-- an own list is given away to all -/
def frzM (i : Nat) : S → Option (D × S) := fun s => match s[i]? with
  | some (.imm d) => some (d, s)
  | some (.ol ds) => some (.list ds, s.set i (.imm (.list ds)))
  | _ => none
theorem op_twoE {r : R2} {g : D → D → Option D} {ma mb : S → Option (D × S)} (hs : ∀ (O : List Addr) (H : Hp) (x y : V) (dx dy d : D) (Q : VK), (∀ a, a ∈ O → H a ≠ none) → Rr X.K O H x dx → Rr X.K O H y dy → g dx dy = some d → (∀ v H', Ex H H' → Res X.K O H H' v d .i → Q v H') → r x y H Q)
    {σ : L2.St} {H : Hp} {Q : VK} (h : tEi (Zo X T tb) (op2E g ma mb) σ H Q) : tOp r (tEi (Zo X T tb) ma) (tEi (Zo X T tb) mb) σ H Q := by
  obtain ⟨E, O, s, d, s', sm, hm, k⟩ := h
  unfold op2E at hm
  obtain ⟨⟨x, s1⟩, hx, hm⟩ := Option.bind_eq_some_iff.mp hm
  obtain ⟨⟨y, s2⟩, hy, hm⟩ := Option.bind_eq_some_iff.mp hm
  obtain ⟨z, hz, hm⟩ := Option.map_eq_some_iff.mp hm
  cases hm
  refine ⟨E, O, s, x, s1, sm, hx, fun v H1 O1 st1 sm1 r1 => ⟨E, O1, s1, y, s2, sm1, hy, fun u H2 O2 st2 sm2 r2 => ?_⟩⟩
  exact hs O2 H2 v u x y d Q sm2.dom (.inl (r1.step st2)) (.inl r2) hz fun w H3 e3 r3 => k w H3 O2 ((st1.trans st2).trans (Stp.of_ex e3)) (sm2.ext e3) r3
theorem e_op {op : Operator} {g : D → D → Option D} (h : OpS X (binaryOp op) .i g) {a b : Expr} {pos : Pos} {ma mb : S → Option (D × S)} (ha : EE X T tb a ma) (hb : EE X T tb b mb) : EE X T tb (.BinOp a op b pos) (op2E g ma mb) := by
  obtain ⟨r, ho, hs⟩ := h
  exact imp_e (pe_op ho ha hb) fun σ H Q h => op_twoE hs h
theorem e_cmp {op : CmpOp} {g : D → D → Option D} (h : OpS X (compareOp op) .i g) {a b : Expr} {pos : Pos} {ma mb : S → Option (D × S)} (ha : EE X T tb a ma) (hb : EE X T tb b mb) (hm : behindInMarks op b = false) : EE X T tb (.Compare a [op] [b] pos) (op2E g ma mb) := by
  obtain ⟨r, ho, hs⟩ := h
  exact imp_e (pe_cmpR ho ha hb hm) fun σ H Q h => op_twoE hs h
theorem e_ix {g : D → D → Option D} (h : IxS X .i g) {a b : Expr} {pos : Pos} {ma mb : S → Option (D × S)} (ha : EE X T tb a ma) (hb : EE X T tb b mb) (hs : PlainIx b := by exact fun _ _ => rfl) : EE X T tb (.Subscript a b pos) (op2E g ma mb) := by
  obtain ⟨r, ho, hg⟩ := h
  exact imp_e (pe_ix ho ha hb hs) fun σ H Q h => op_twoE hg h
theorem tv_E {m : S → Option (D × S)} {σ : L2.St} {H : Hp} {Q : Bool → Hp → Prop} (h : tTE (Zo X T tb) (tvE m) σ H Q) : tEi (Zo X T tb) m σ H fun x H' => ∃ k, x = .bl k ∧ Q k H' := by
  obtain ⟨E, O, s, b, s', sm, hm, k⟩ := h
  unfold tvE at hm
  obtain ⟨⟨x, s1⟩, hx, hm⟩ := Option.bind_eq_some_iff.mp hm
  obtain ⟨c, hc, hm⟩ := Option.map_eq_some_iff.mp hm
  cases hm
  refine ⟨E, O, s, x, s1, sm, hx, fun v H1 O1 st1 sm1 r1 => ?_⟩
  have hx' := boolD_some hc
  dsimp only at hx'
  rw [hx'] at r1
  cases r1
  exact ⟨_, rfl, k H1 O1 st1 sm1⟩
theorem et_cmp {op : CmpOp} {g : D → D → Option D} (h : OpS X (compareOp op) .i g) {a b : Expr} {pos : Pos} {ma mb : S → Option (D × S)} (ha : EE X T tb a ma) (hb : EE X T tb b mb) (hm : behindInMarks op b = false) : ET X T tb (.Compare a [op] [b] pos) (tvE (op2E g ma mb)) := by
  obtain ⟨r, ho, hs⟩ := h
  exact imp_t (pt_cmpR ho ha hb hm) fun σ H Q h => op_twoE hs (tv_E h)
theorem et_val {e : Expr} {m : S → Option (D × S)} (h : EE X T tb e m) (he : ∀ whole, isTrue e X.env whole = (do let v ← whole; standAt e.pos; holding [v] (truthy v)) := by intro _; rfl) : ET X T tb e (tvE m) :=
  imp_t (pt_val h he) fun σ H Q h => tv_E h
theorem et_q {e : Expr} {m : S → Option Bool} (h : QT X T tb e m) : ET X T tb e (noSt m) := imp_t h fun σ H Q q => by
  obtain ⟨E, O, s, b, s', sm, hm, k⟩ := q
  obtain ⟨x, hx, he⟩ := Option.map_eq_some_iff.mp hm
  cases he
  exact ⟨E, O, s, b, sm, hx, fun H' e => k H' O (Stp.of_ex e) (sm.ext e)⟩
theorem et_not {a : Expr} {pos : Pos} {m : S → Option (Bool × S)} (h : ET X T tb a m) : ET X T tb (.UnaryOp .Not a pos) (notE m) := imp_t (pt_not h) fun σ H Q h => by
  obtain ⟨E, O, s, b, s', sm, hm, q⟩ := h
  obtain ⟨⟨c, s1⟩, hc, hm⟩ := Option.map_eq_some_iff.mp hm
  cases hm
  exact ⟨E, O, s, c, s1, sm, hc, fun H' O' st sm' => q H' O' st sm'⟩
abbrev EW (X : Cx) (T : List (Addr × Str)) (tb : Bool) (e : Expr) (m : S → Option (Bool × S)) : Prop := PW X e (tTE (Zo X T tb) m)
theorem ew_t {e : Expr} {m : S → Option (Bool × S)} (h : EW X T tb e m) : ET X T tb e m := h.pt
theorem ew_and1 {a : Expr} {pos : Pos} {m : S → Option (Bool × S)} (h : ET X T tb a m) : EW X T tb (.BoolOp .And [a] pos) m := pw_and1 h
theorem ew_or1 {a : Expr} {pos : Pos} {m : S → Option (Bool × S)} (h : ET X T tb a m) : EW X T tb (.BoolOp .Or [a] pos) m := pw_or1 h
theorem ew_and {a b : Expr} {rest : List Expr} {pos : Pos} {m n : S → Option (Bool × S)} (ha : ET X T tb a m) (hb : EW X T tb (.BoolOp .And (b :: rest) pos) n) : EW X T tb (.BoolOp .And (a :: b :: rest) pos) (andE m n) := imp_w (pw_and ha hb) fun σ H Q h => by
  obtain ⟨E, O, s, b, s', sm, hm, q⟩ := h
  unfold andE at hm
  obtain ⟨⟨c, s1⟩, hc, hm⟩ := Option.bind_eq_some_iff.mp hm
  refine ⟨E, O, s, c, s1, sm, hc, fun H' O' st sm' => ?_⟩
  cases c with
  | true => exact iteT ⟨E, O', s1, b, s', sm', hm, fun H2 O2 st2 sm2 => q H2 O2 (st.trans st2) sm2⟩
  | false => cases hm; exact iteF (q H' O' st sm')
theorem ew_or {a b : Expr} {rest : List Expr} {pos : Pos} {m n : S → Option (Bool × S)} (ha : ET X T tb a m) (hb : EW X T tb (.BoolOp .Or (b :: rest) pos) n) : EW X T tb (.BoolOp .Or (a :: b :: rest) pos) (orE m n) := imp_w (pw_or ha hb) fun σ H Q h => by
  obtain ⟨E, O, s, b, s', sm, hm, q⟩ := h
  unfold orE at hm
  obtain ⟨⟨c, s1⟩, hc, hm⟩ := Option.bind_eq_some_iff.mp hm
  refine ⟨E, O, s, c, s1, sm, hc, fun H' O' st sm' => ?_⟩
  cases c with
  | true => cases hm; exact iteT (q H' O' st sm')
  | false => exact iteF ⟨E, O', s1, b, s', sm', hm, fun H2 O2 st2 sm2 => q H2 O2 (st.trans st2) sm2⟩
theorem e_if {c a b : Expr} {pos : Pos} {t : S → Option (Bool × S)} {m n : S → Option (D × S)} (hc : ET X T tb c t) (ha : EE X T tb a m) (hb : EE X T tb b n) : EE X T tb (.IfExp c a b pos) (ifE t m n) := imp_e (pe_ifExp hc ha hb) fun σ H Q h => by
  obtain ⟨E, O, s, d, s', sm, hm, q⟩ := h
  unfold ifE at hm
  obtain ⟨⟨c, s1⟩, hc, hm⟩ := Option.bind_eq_some_iff.mp hm
  refine ⟨E, O, s, c, s1, sm, hc, fun H' O' st sm' => ?_⟩
  cases c with
  | true => exact iteT ⟨E, O', s1, d, s', sm', hm, fun w H2 O2 st2 sm2 r2 => q w H2 O2 (st.trans st2) sm2 r2⟩
  | false => exact iteF ⟨E, O', s1, d, s', sm', hm, fun w H2 O2 st2 sm2 r2 => q w H2 O2 (st.trans st2) sm2 r2⟩
theorem ea_nil : EA X T tb [] argNE := imp_a pa_nil fun σ H Q h => by
  obtain ⟨E, O, s, d, s', sm, hm, q⟩ := h
  cases hm
  exact q [] H O Stp.refl sm .nil
theorem ea_cons {e : Expr} {es : List Expr} {m : S → Option (D × S)} {n : S → Option (List D × S)} (ha : EE X T tb e m) (hr : EA X T tb es n) (hs : starEach (e :: es) X.env = (false, eval e X.env) :: starEach es X.env := by rfl) : EA X T tb (e :: es) (argCE m n) := imp_a (pa_cons ha hr hs) fun σ H Q h => by
  obtain ⟨E, O, s, d, s', sm, hm, q⟩ := h
  unfold argCE at hm
  obtain ⟨⟨x, s1⟩, hx, hm⟩ := Option.bind_eq_some_iff.mp hm
  obtain ⟨⟨xs, s2⟩, hxs, hm⟩ := Option.bind_eq_some_iff.mp hm
  cases hm
  exact ⟨E, O, s, x, s1, sm, hx, fun v H1 O1 st1 sm1 r1 => ⟨E, O1, s1, xs, s2, sm1, hxs, fun vs H2 O2 st2 sm2 r2 => q (v :: vs) H2 O2 (st1.trans st2) sm2 (.cons (r1.step st2) r2)⟩⟩
theorem e_tup {es : List Expr} {x1 pos} {n : S → Option (List D × S)} (h : EA X T tb es n) : EE X T tb (.Tuple es x1 pos) (tupE n) := imp_e (pe_tup h) fun σ H Q h => by
  obtain ⟨E, O, s, d, s', sm, hm, q⟩ := h
  unfold tupE at hm
  obtain ⟨⟨xs, s1⟩, hxs, hm⟩ := Option.bind_eq_some_iff.mp hm
  split at hm
  · next hl =>
    cases hm
    refine ⟨E, O, s, xs, s1, sm, hxs, fun vs H1 O1 st1 sm1 r1 => ⟨by rw [r1.length]; exact len_line hl, fun p hp => ?_⟩⟩
    have e2 : Ex H1 (upd H1 p (.tup vs)) := Ex.new hp
    exact q _ _ O1 (st1.trans (Stp.of_ex e2)) (sm1.ext e2) (.tup (SqT.of upd_same) (r1.ext e2))
  · cases hm
theorem eo_lst {es : List Expr} {pos} {n : S → Option (List D × S)} (h : EA X T tb es n) : EO X T tb (.List es pos) (lstE n) := imp_e (pe_lst h) fun σ H Q h => by
  obtain ⟨E, O, s, d, s', sm, hm, q⟩ := h
  unfold lstE at hm
  obtain ⟨⟨xs, s1⟩, hxs, hm⟩ := Option.bind_eq_some_iff.mp hm
  split at hm
  · next hl =>
    cases hm
    refine ⟨E, O, s, xs, s1, sm, hxs, fun vs H1 O1 st1 sm1 r1 => ⟨by rw [r1.length]; exact len_line hl, fun p hp => ?_⟩⟩
    have e2 : Ex H1 (upd H1 p (.lst vs)) := Ex.new hp
    exact q p vs _ O1 (st1.trans ⟨fun b o h _ _ => e2 b o h, fun b m => (List.mem_cons.mp m).elim (fun z => .inr (z ▸ hp)) .inl, fun b z => e2.back z⟩) (fun m => sm1.dom p m hp) (sm1.ext e2) (sm1.grow hp e2 (by rw [upd_same]; exact fun z => by cases z)) (sm1.there p hp) upd_same (r1.new hp e2)
  · cases hm
theorem e_callB {id : String} {g : List D → Option D} (h : CallS X (.builtin id) .i g) {x : Str} {p pos : Pos} {e : Expr} {es : List Expr} {n : S → Option (List D × S)} (hg : Gl X x) (hm : X.mg x = none) (hv : bootBuiltins x = some (.builtin id)) (ha : EA X T tb (e :: es) n) (hn : x ≠ "__name__" := by decide) (hdb : (x == ("__debug__" : Str)) = false := by decide)
    (he : starEach (e :: es) X.env = (false, eval e X.env) :: starEach es X.env := by rfl) (hpl : (backTo pos (starEach es X.env)).any (·.1) = false := by rfl) : EE X T tb (.Call (.Name x p) (e :: es) [] pos) (callE g n) := by
  obtain ⟨r, hr, hs⟩ := h
  refine imp_e (pe_callB hr hg hm hv ha hn hdb he hpl) fun σ H Q h => ?_
  obtain ⟨E, O, s, d, s', sm, hm, q⟩ := h
  unfold callE at hm
  obtain ⟨⟨xs, s1⟩, hxs, hm⟩ := Option.bind_eq_some_iff.mp hm
  obtain ⟨z, hz, hm⟩ := Option.map_eq_some_iff.mp hm
  cases hm
  exact ⟨E, O, s, xs, s1, sm, hxs, fun vs H1 O1 st1 sm1 r1 => hs O1 H1 vs xs _ Q sm1.dom (.of r1) hz fun w H2 e2 r2 => q w H2 O1 (st1.trans (Stp.of_ex e2)) (sm1.ext e2) r2⟩
theorem e_callTy {t : String} {g : List D → Option D} {k : Kd} (h : CallS X (.type t) k g) (nk : k ≠ .r) {x : Str} {p pos : Pos} {e : Expr} {es : List Expr} {n : S → Option (List D × S)} (hg : Gl X x) (hm : X.mg x = none) (hv : bootBuiltins x = some (.type t)) (ha : EA X T tb (e :: es) n) (hn : x ≠ "__name__" := by decide) (hdb : (x == ("__debug__" : Str)) = false := by decide)
    (he : starEach (e :: es) X.env = (false, eval e X.env) :: starEach es X.env := by rfl) (hpl : (backTo pos (starEach es X.env)).any (·.1) = false := by rfl) : EE X T tb (.Call (.Name x p) (e :: es) [] pos) (callE g n) := by
  obtain ⟨r, hr, hs⟩ := h
  refine imp_e (pe_callTy hr hg hm hv ha hn hdb he hpl) fun σ H Q h => ?_
  obtain ⟨E, O, s, d, s', sm, hm, q⟩ := h
  unfold callE at hm
  obtain ⟨⟨xs, s1⟩, hxs, hm⟩ := Option.bind_eq_some_iff.mp hm
  obtain ⟨z, hz, hm⟩ := Option.map_eq_some_iff.mp hm
  cases hm
  exact ⟨E, O, s, xs, s1, sm, hxs, fun vs H1 O1 st1 sm1 r1 => hs O1 H1 vs xs _ Q sm1.dom (.of r1) hz fun w H2 e2 r2 => q w H2 O1 (st1.trans (Stp.of_ex e2)) (sm1.ext e2) (r2.toI' nk)⟩
/-- what is owned is given up: the list at a -/
theorem Sim.giveUp {Z : Zx} {E : Ent} {O : List Addr} {σ : L2.St} {H : Hp} {s : S} {i : Nat} {ds : List D} (h : Sim Z E O σ H s) (hi : s[i]? = some (.ol ds)) :
    ∃ a vs O', σ[i]? = some (some (.ref a)) ∧ H a = some (.lst vs) ∧ E.H0 a = none ∧ Rps Z.K O H vs ds ∧ (∀ b, b ∈ O' → b ∈ O) ∧ a ∉ O' ∧ Sim Z E O' σ H (s.set i (.imm (.list ds))) := by
  obtain ⟨l, ⟨F, f1, f2, f3, f4⟩, d, sb, f, t, tbs⟩ := h
  obtain ⟨a, vs, h1, h2, h3, h4, h5⟩ := f1 i _ hi
  have hil : i < s.length := lt_of_get hi
  have mem : ∀ {b}, b ∈ O.filter (fun b => decide (b ≠ a)) ↔ b ∈ O ∧ b ≠ a := fun {b} => by rw [List.mem_filter]; simp
  have own : ∀ {j b}, j ≠ i → b ∈ F j → b ≠ a := fun {j b} c m z => c (f4 j i b m (by rw [h1, z]; exact List.mem_cons_self))
  refine ⟨a, vs, O.filter (fun b => decide (b ≠ a)), sl_some h2, h3, h4, h5, fun b m => (mem.mp m).1, fun m => (mem.mp m).2 rfl, by rw [List.length_set, l], ⟨fun j => if j = i then [] else F j, fun j m q => ?_, fun j q => ?_, fun j b q => ?_, fun j k b q r => ?_⟩, fun b m => d b (mem.mp m).1, fun b m => mem.mpr ⟨sb b m, fun z => E.h0 b m (by rw [z]; exact h4)⟩, f, t, tbs⟩
  · dsimp only
    by_cases c : j = i
    · rw [c] at q ⊢
      rw [List.getElem?_set_self hil] at q
      cases q
      rw [if_pos rfl]
      exact ⟨rfl, _, h2, .lst h3 (fun m => (mem.mp m).2 rfl) (h5.mono fun b m => (mem.mp m).1)⟩
    · rw [List.getElem?_set_ne (Ne.symm c)] at q
      rw [if_neg c]
      have g := f1 j m q
      cases m with
      | un => exact g
      | imm dd => obtain ⟨g1, v, g2, g3⟩ := g; exact ⟨g1, v, g2, g3.mono fun b m => (mem.mp m).1⟩
      | ol es => obtain ⟨b, vs, g1, g2, g3, g4, g5⟩ := g; exact ⟨b, vs, g1, g2, g3, g4, g5.mono fun b m => (mem.mp m).1⟩
      | bag b => exact g
      | scr ns => exact g
  · dsimp only
    rw [List.length_set] at q
    split
    · rfl
    · exact f2 j q
  · dsimp only at q
    split at q
    · cases q
    · next c => exact mem.mpr ⟨f3 j b q, own c q⟩
  · dsimp only at q r
    split at q
    · cases q
    · split at r
      · cases r
      · exact f4 j k b q r
theorem e_frz (i : Nat) {x : Str} {pos : Pos} (hN : X.N[i]? = some x := by rfl) (hv : Vis X.env.scope x := by first | exact Or.inl rfl | exact Or.inr (Or.inl rfl) | exact Or.inr (Or.inr rfl)) (hd : (x == ("__debug__" : Str)) = false := by decide)
    (hcd : (x == ("__classdict__" : Str)) = false := by decide) : EE X T tb (.Name x pos) (frzM i) := by
  refine imp_e (pe_var hN hv hd hcd) fun σ H Q h => ?_
  obtain ⟨E, O, s, d, s', sm, hm, k⟩ := h
  unfold frzM at hm
  split at hm
  · next d' q =>
    cases hm
    obtain ⟨F, f1, _⟩ := sm.own
    obtain ⟨_, v, h2, h3⟩ := f1 i _ q
    exact ⟨v, sl_some h2, k v H O Stp.refl sm h3⟩
  · next ds q =>
    cases hm
    obtain ⟨a, vs, O', h1, h2, h3, h4, h5, h6, sm'⟩ := sm.giveUp q
    exact ⟨_, h1, k _ H O' ⟨Kp.refl, fun b m => .inl (h5 b m), fun b z => z⟩ sm' (.lst h2 h6 (h4.mono h5))⟩
  · cases hm
end
end Y

namespace Y
open PySem PySem.Spec PyProof.Rows L2

/-! ## statements -/
inductive Fl where
  | nx (s : S)
  | rt (d : D) (s : S)
  | bk (s : S)
  | ct (s : S)
def RetR (K : Fg) (E : Ent) (H' : Hp) (v : V) (d : D) : Bool → Prop
  | false => Rp K E.O0 H' v d
  | true => ∃ a vs ds, v = .ref a ∧ d = .list ds ∧ E.H0 a = none ∧ H' a = some (.lst vs) ∧ Rps K (a :: E.O0) H' vs ds
def EndOk (Z : Zx) (kr : Bool) (E : Ent) (O : List Addr) (H : Hp) (B : Ends) : Fl → Prop
  | .nx s' => ∀ σ' H' O', Stp Z.tb O H O' H' → Sim Z E O' σ' H' s' → B.nx σ' H'
  | .bk s' => ∀ σ' H' O', Stp Z.tb O H O' H' → Sim Z E O' σ' H' s' → B.bk σ' H'
  | .ct s' => ∀ σ' H' O', Stp Z.tb O H O' H' → Sim Z E O' σ' H' s' → B.ct σ' H'
  | .rt d s' => ∀ v σ' H' O', Sim Z E O' σ' H' s' → RetR Z.K E H' v d kr → B.rt v H'
def tS (Z : Zx) (kr : Bool) (m : S → Option Fl) : TS := fun B σ H => ∃ E O s f, Sim Z E O σ H s ∧ m s = some f ∧ EndOk Z kr E O H B f
theorem EndOk.later {Z : Zx} {kr : Bool} {E : Ent} {O O1 : List Addr} {H H1 : Hp} {B : Ends} {f : Fl} (st : Stp Z.tb O H O1 H1) (h : EndOk Z kr E O H B f) : EndOk Z kr E O1 H1 B f := by
  cases f with
  | nx s => exact fun σ' H' O' st' => h σ' H' O' (st.trans st')
  | bk s => exact fun σ' H' O' st' => h σ' H' O' (st.trans st')
  | ct s => exact fun σ' H' O' st' => h σ' H' O' (st.trans st')
  | rt d s => exact h
abbrev PY (X : Cx) (T : List (Addr × Str)) (tb : Bool) (kr : Bool) (st : Stmt) (m : S → Option Fl) : Prop := PS X st (tS ⟨X.K, T, tb⟩ kr m)
abbrev PYs (X : Cx) (T : List (Addr × Str)) (tb : Bool) (kr : Bool) (st : List Stmt) (m : S → Option Fl) : Prop := PSs X st (tS ⟨X.K, T, tb⟩ kr m)

def nxM : S → Option Fl := fun s => some (.nx s)
def bkM : S → Option Fl := fun s => some (.bk s)
def ctM : S → Option Fl := fun s => some (.ct s)
def seqS (a b : S → Option Fl) : S → Option Fl := fun s => (a s).bind fun f => match f with
  | .nx s' => b s'
  | f => some f
def ifS (t : S → Option (Bool × S)) (a b : S → Option Fl) : S → Option Fl := fun s => (t s).bind fun p => if p.1 = true then a p.2 else b p.2
def retS (a : S → Option (D × S)) : S → Option Fl := fun s => (a s).map fun p => .rt p.1 p.2
def retO (a : S → Option (List D × S)) : S → Option Fl := fun s => (a s).map fun p => .rt (.list p.1) p.2
def retV (i : Nat) : S → Option Fl := fun s => match s[i]? with
  | some (.ol ds) => some (.rt (.list ds) (s.set i (.imm (.list ds))))
  | _ => none
def setS (i : Nat) (a : S → Option (D × S)) : S → Option Fl := fun s => (a s).bind fun p => if i < p.2.length then some (.nx (p.2.set i (.imm p.1))) else none
def setO (i : Nat) (a : S → Option (List D × S)) : S → Option Fl := fun s => (a s).bind fun p => if i < p.2.length then some (.nx (p.2.set i (.ol p.1))) else none
def asgS (g : D → S → Option S) (a : S → Option (D × S)) : S → Option Fl := fun s => (a s).bind fun p => (g p.1 p.2).map .nx
def dropS (a : S → Option (D × S)) : S → Option Fl := fun s => (a s).map fun p => .nx p.2
def parS (i j : Nat) (a : S → Option (List D × S)) : S → Option Fl := fun s => (a s).bind fun p => match p.1 with
  | [x, y] => if i < p.2.length ∧ j < p.2.length then some (.nx ((p.2.set i (.imm x)).set j (.imm y))) else none
  | _ => none
def olAt (s : S) (i : Nat) : Option (List D) := match s[i]? with
  | some (.ol ds) => some ds
  | _ => none
theorem olAt_some {s : S} {i : Nat} {ds : List D} (h : olAt s i = some ds) : s[i]? = some (.ol ds) := by
  unfold olAt at h
  split at h
  · next q => cases h; exact q
  · cases h
def appS (i : Nat) (a : S → Option (D × S)) : S → Option Fl := fun s => (olAt s i).bind fun _ => (a s).bind fun p => (olAt p.2 i).bind fun ds =>
  if Nat.ble ds.length 1000000 = true then some (.nx (p.2.set i (.ol (ds ++ [p.1])))) else none
def extS (i : Nat) (a : S → Option (D × S)) : S → Option Fl := fun s => (olAt s i).bind fun _ => (a s).bind fun p => (olAt p.2 i).bind fun ds => (lstOf p.1).bind fun es =>
  if Nat.ble (ds.length + es.length) 1000000 = true then some (.nx (p.2.set i (.ol (ds ++ es)))) else none
def forGo (g : D → S → Option S) (m : S → Option Fl) : List D → S → Option Fl
  | [], s => some (.nx s)
  | d :: ds, s => (g d s).bind fun s1 => (m s1).bind fun f => match f with
    | .nx s2 => forGo g m ds s2
    | .ct s2 => forGo g m ds s2
    | .bk s2 => some (.nx s2)
    | .rt d s2 => some (.rt d s2)
def forS (src : S → Option (List D × S)) (g : D → S → Option S) (m : S → Option Fl) : S → Option Fl := fun s => (src s).bind fun p => forGo g m p.1 p.2
def whGo (t : S → Option (Bool × S)) (m : S → Option Fl) : Nat → S → Option Fl
  | 0, _ => none
  | n + 1, s => (t s).bind fun p => if p.1 = true then (m p.2).bind fun f => match f with
    | .nx s2 => whGo t m n s2
    | .ct s2 => whGo t m n s2
    | .bk s2 => some (.nx s2)
    | .rt d s2 => some (.rt d s2) else some (.nx p.2)

section
variable {X : Cx} {T : List (Addr × Str)} {tb kr : Bool}
theorem ss_nil : PYs X T tb kr [] nxM := imp_ss pss_nil fun B σ H h => by
  obtain ⟨E, O, s, f, sm, hm, k⟩ := h
  cases hm
  exact k σ H O Stp.refl sm
theorem ss_cons {st : Stmt} {rest : List Stmt} {a b : S → Option Fl} (h1 : PY X T tb kr st a) (h2 : PYs X T tb kr rest b) : PYs X T tb kr (st :: rest) (seqS a b) := imp_ss (pss_cons h1 h2) fun B σ H h => by
  obtain ⟨E, O, s, f, sm, hm, k⟩ := h
  obtain ⟨f1, h1, hm⟩ := Option.bind_eq_some_iff.mp hm
  refine ⟨E, O, s, f1, sm, h1, ?_⟩
  cases f1 with
  | nx s1 => exact fun σ' H' O' st sm' => ⟨E, O', s1, f, sm', hm, k.later st⟩
  | bk s1 => cases hm; exact k
  | ct s1 => cases hm; exact k
  | rt d s1 => cases hm; exact k
theorem ss_one {st : Stmt} {a : S → Option Fl} (h1 : PY X T tb kr st a) : PYs X T tb kr [st] a := pss_one h1
theorem s_pass {pos} : PY X T tb kr (.Pass pos) nxM := imp_s ps_pass fun B σ H h => by
  obtain ⟨E, O, s, f, sm, hm, k⟩ := h
  cases hm
  exact k σ H O Stp.refl sm
theorem s_break {pos} : PY X T tb kr (.Break pos) bkM := imp_s ps_break fun B σ H h => by
  obtain ⟨E, O, s, f, sm, hm, k⟩ := h
  cases hm
  exact k σ H O Stp.refl sm
theorem s_cont {pos} : PY X T tb kr (.Continue pos) ctM := imp_s ps_continue fun B σ H h => by
  obtain ⟨E, O, s, f, sm, hm, k⟩ := h
  cases hm
  exact k σ H O Stp.refl sm
theorem s_if {c : Expr} {a b : List Stmt} {pos : Pos} {t : S → Option (Bool × S)} {m n : S → Option Fl} (hc : ET X T tb c t) (ha : PYs X T tb kr a m) (hb : PYs X T tb kr b n) : PY X T tb kr (.If c a b pos) (ifS t m n) := imp_s (ps_if hc ha hb) fun B σ H h => by
  obtain ⟨E, O, s, f, sm, hm, k⟩ := h
  obtain ⟨⟨b, s1⟩, h1, hm⟩ := Option.bind_eq_some_iff.mp hm
  refine ⟨E, O, s, b, s1, sm, h1, fun H' O' st sm' => ?_⟩
  cases b with
  | true => exact iteT ⟨E, O', s1, f, sm', hm, k.later st⟩
  | false => exact iteF ⟨E, O', s1, f, sm', hm, k.later st⟩
theorem s_ret {e : Expr} {pos : Pos} {m : S → Option (D × S)} (h : EE X T tb e m) : PY X T tb false (.Return (some e) pos) (retS m) := imp_s (ps_ret h) fun B σ H h => by
  obtain ⟨E, O, s, f, sm, hm, k⟩ := h
  obtain ⟨⟨d, s1⟩, h1, hm⟩ := Option.map_eq_some_iff.mp hm
  cases hm
  exact ⟨E, O, s, d, s1, sm, h1, fun v H' O' st sm' r => k v σ H' O' sm' (r.mono sm'.sub)⟩
theorem s_retO {e : Expr} {pos : Pos} {m : S → Option (List D × S)} (h : EO X T tb e m) : PY X T tb true (.Return (some e) pos) (retO m) := imp_s (ps_ret h) fun B σ H h => by
  obtain ⟨E, O, s, f, sm, hm, k⟩ := h
  obtain ⟨⟨d, s1⟩, h1, hm⟩ := Option.map_eq_some_iff.mp hm
  cases hm
  refine ⟨E, O, s, d, s1, sm, h1, fun a vs H' O' st nO sm' sm2 n0 ha r => k _ σ H' O' sm' ⟨a, vs, d, rfl, rfl, n0, ha, r.mono fun b m => ?_⟩⟩
  rcases List.mem_cons.mp m with rfl | m
  · exact List.mem_cons_self
  · exact List.mem_cons_of_mem _ (sm'.sub b m)
theorem s_retV (i : Nat) {x : Str} {p pos : Pos} (hN : X.N[i]? = some x := by rfl) (hv : Vis X.env.scope x := by first | exact Or.inl rfl | exact Or.inr (Or.inl rfl) | exact Or.inr (Or.inr rfl)) (hd : (x == ("__debug__" : Str)) = false := by decide)
    (hcd : (x == ("__classdict__" : Str)) = false := by decide) : PY X T tb true (.Return (some (.Name x p)) pos) (retV i) := imp_s (ps_ret (pe_var hN hv hd hcd)) fun B σ H h => by
  obtain ⟨E, O, s, f, sm, hm, k⟩ := h
  unfold retV at hm
  split at hm
  · next ds q =>
    cases hm
    obtain ⟨a, vs, O', h1, h2, h3, h4, h5, h6, sm'⟩ := sm.giveUp q
    refine ⟨_, h1, k _ σ H O' sm' ⟨a, vs, ds, rfl, rfl, h3, h2, h4.mono fun b m => ?_⟩⟩
    rcases List.mem_cons.mp m with rfl | m
    · obtain ⟨F, f1, _, f3, _⟩ := sm.own
      obtain ⟨a', _, g1, g2, _⟩ := f1 i _ q
      rw [sl_of h1] at g2
      cases g2
      exact f3 i b (by rw [g1]; exact List.mem_cons_self)
    · exact sm.sub b m
  · cases hm
theorem s_set (i : Nat) {x : Str} {e : Expr} {pos' pos : Pos} {m : S → Option (D × S)} (hN : X.N.Nodup) (he : EE X T tb e m) (hi : X.N[i]? = some x := by rfl) (hx : Loc X.env.scope x := by first | exact Or.inl rfl | exact Or.inr rfl) (hs : swapsWith e (some (.Name x pos')) pos.line X.env = pure false := by rfl)
    (hf : X.fn x = true ∨ X.env.scope.names.lookup x = some .local := by first | exact .inl rfl | exact .inr rfl) : PY X T tb kr (.Assign [.Name x pos'] e pos) (setS i m) := imp_s (ps_set hN hi hx he hs hf) fun B σ H h => by
  obtain ⟨E, O, s, f, sm, hm, k⟩ := h
  obtain ⟨⟨d, s1⟩, h1, hm⟩ := Option.bind_eq_some_iff.mp hm
  dsimp only at hm
  split at hm
  · next hl =>
    cases hm
    exact ⟨E, O, s, d, s1, sm, h1, fun v H' O' st sm' r => k _ H' O' st (sm'.setI hl r)⟩
  · cases hm
theorem s_setO (i : Nat) {x : Str} {e : Expr} {pos' pos : Pos} {m : S → Option (List D × S)} (hN : X.N.Nodup) (he : EO X T tb e m) (hi : X.N[i]? = some x := by rfl) (hx : Loc X.env.scope x := by first | exact Or.inl rfl | exact Or.inr rfl) (hs : swapsWith e (some (.Name x pos')) pos.line X.env = pure false := by rfl)
    (hf : X.fn x = true ∨ X.env.scope.names.lookup x = some .local := by first | exact .inl rfl | exact .inr rfl) : PY X T tb kr (.Assign [.Name x pos'] e pos) (setO i m) := imp_s (ps_set hN hi hx he hs hf) fun B σ H h => by
  obtain ⟨E, O, s, f, sm, hm, k⟩ := h
  obtain ⟨⟨d, s1⟩, h1, hm⟩ := Option.bind_eq_some_iff.mp hm
  dsimp only at hm
  split at hm
  · next hl =>
    cases hm
    exact ⟨E, O, s, d, s1, sm, h1, fun a vs H' O' st nO sm' sm2 n0 ha r => k _ H' (a :: O') st (sm'.setO sm2 nO hl ha n0 r)⟩
  · cases hm
/-- name = [.. for ..], the name a plain local: the comprehension's own form of the store -/
theorem s_setLc (i : Nat) {y : Str} {py : Pos} {elt tg iter : Expr} {ifs : List Expr} {scope : Scope} {own : List (Str × Nat)} {pos spos : Pos} {src : S → Option (List D)} {g : D → S → Option S} {t : S → Option Bool} {e : S → Option D} {k : Kd} {ts : List Nat} (hc : X.calm = true) (hN : X.N.Nodup) (hi : QI X T tb tg iter src) (ok : BlkOk X.N X.env.scope scope own)
    (hg : ∀ (s : Shared) (H : Hp) (C : Addr) (cl : List (Str × Addr)) (fp : List Addr), PG (X.blk s H scope (compEnvC scope cl C X.env) fp) tg (tG (Zo X T tb) ts g)) (ht : ∀ (s : Shared) (H : Hp) (C : Addr) (cl : List (Str × Addr)) (fp : List Addr), PTs (X.blk s H scope (compEnvC scope cl C X.env) fp) ifs (tTQ (Zo X T tb) t))
    (he : ∀ (s : Shared) (H : Hp) (C : Addr) (cl : List (Str × Addr)) (fp : List Addr), PE (X.blk s H scope (compEnvC scope cl C X.env) fp) elt (tQ (Zo X T tb) k e)) (hy : X.N[i]? = some y := by rfl) (hyl : X.env.scope.names.lookup y = some .local := by rfl)
    (hsw : swapsWith (.ListComp elt [⟨tg, iter, ifs, 0⟩] scope pos) (some (.Name y py)) spos.line X.env = pure true := by exact sw_true rfl rfl rfl (by decide +kernel)) (nk : k ≠ .r := by decide) (hts : ∀ i, i ∈ ts → i ∈ own.map (·.2) := by decide) (hs : ∀ x, foldedSetIterable iter X.env x = pure x := by intro _; rfl) :
    PY X T tb kr (.Assign [.Name y py] (.ListComp elt [⟨tg, iter, ifs, 0⟩] scope pos) spos) (setS i (noSt (lcM (own.map (·.2)) src g t e))) := imp_s (ps_setLc hc hN hy hyl hsw hi.p ok hg ht he hs) fun B σ H h => by
  obtain ⟨E, O, s, f, sm, hm, kk⟩ := h
  obtain ⟨⟨d, s1⟩, h1, hm⟩ := Option.bind_eq_some_iff.mp hm
  obtain ⟨x, hx, hxe⟩ := Option.map_eq_some_iff.mp h1
  cases hxe
  dsimp only at hm
  split at hm
  · next hl =>
    cases hm
    exact lc_read (wi := tIQ (Zo X T tb) src) nk hts ⟨E, O, s, d, sm, hx, fun v H' e r => kk _ H' O (Stp.of_ex e) ((sm.ext e).setI hl r.toI)⟩
  · cases hm
theorem s_setLcO (i : Nat) {y : Str} {py : Pos} {elt tg iter : Expr} {ifs : List Expr} {scope : Scope} {own : List (Str × Nat)} {pos spos : Pos} {src : S → Option (List D)} {g : D → S → Option S} {t : S → Option Bool} {e : S → Option D} {k : Kd} {ts : List Nat} (hc : X.calm = true) (hN : X.N.Nodup) (hi : QI X T tb tg iter src) (ok : BlkOk X.N X.env.scope scope own)
    (hg : ∀ (s : Shared) (H : Hp) (C : Addr) (cl : List (Str × Addr)) (fp : List Addr), PG (X.blk s H scope (compEnvC scope cl C X.env) fp) tg (tG (Zo X T tb) ts g)) (ht : ∀ (s : Shared) (H : Hp) (C : Addr) (cl : List (Str × Addr)) (fp : List Addr), PTs (X.blk s H scope (compEnvC scope cl C X.env) fp) ifs (tTQ (Zo X T tb) t))
    (he : ∀ (s : Shared) (H : Hp) (C : Addr) (cl : List (Str × Addr)) (fp : List Addr), PE (X.blk s H scope (compEnvC scope cl C X.env) fp) elt (tQ (Zo X T tb) k e)) (hy : X.N[i]? = some y := by rfl) (hyl : X.env.scope.names.lookup y = some .local := by rfl)
    (hsw : swapsWith (.ListComp elt [⟨tg, iter, ifs, 0⟩] scope pos) (some (.Name y py)) spos.line X.env = pure true := by exact sw_true rfl rfl rfl (by decide +kernel)) (nk : k ≠ .r := by decide) (hts : ∀ i, i ∈ ts → i ∈ own.map (·.2) := by decide) (hs : ∀ x, foldedSetIterable iter X.env x = pure x := by intro _; rfl) :
    PY X T tb kr (.Assign [.Name y py] (.ListComp elt [⟨tg, iter, ifs, 0⟩] scope pos) spos) (setO i (ownM (lcM (own.map (·.2)) src g t e))) := imp_s (ps_setLc hc hN hy hyl hsw hi.p ok hg ht he hs) fun B σ H h => by
  obtain ⟨E, O, s, f, sm, hm, kk⟩ := h
  obtain ⟨⟨ds, s1⟩, h1, hm⟩ := Option.bind_eq_some_iff.mp hm
  obtain ⟨x, hx, hxe⟩ := Option.bind_eq_some_iff.mp h1
  obtain ⟨y, hy, hxe⟩ := Option.map_eq_some_iff.mp hxe
  cases hxe
  dsimp only at hm
  split at hm
  · next hl =>
    cases hm
    refine lc_read (wi := tIQ (Zo X T tb) src) nk hts ⟨E, O, s, x, sm, hx, fun v H' e r => ?_⟩
    obtain ⟨a, vs, ds', rfl, rfl, h3, h4, h5, h6⟩ := r
    cases hy
    exact kk _ H' (a :: O) ⟨fun b o h _ _ => e b o h, fun b m => (List.mem_cons.mp m).elim (fun z => .inr (z ▸ h3)) .inl, fun b z => e.back z⟩ ((sm.ext e).setO (sm.grow h3 e (by rw [h5]; exact fun z => by cases z)) h4 hl h5 (sm.there a h3) h6)
  · cases hm
theorem s_asg {tg e : Expr} {pos : Pos} {m : S → Option (D × S)} {ts : List Nat} {g : D → S → Option S} (he : EE X T tb e m) (hg : PG X tg (tG (Zo X T tb) ts g)) (hs : swapsWithSole [tg] e pos.line X.env = pure false := by rfl) (hw : swappedStores [tg] e X.env = pure none := by rfl)
    (h1 : (assignEach [tg] X.env).map (·.2) = [assign tg X.env] := by rfl) : PY X T tb kr (.Assign [tg] e pos) (asgS g m) := imp_s (ps_asg he hg hs hw h1) fun B σ H h => by
  obtain ⟨E, O, s, f, sm, hm, k⟩ := h
  obtain ⟨⟨d, s1⟩, h1, hm⟩ := Option.bind_eq_some_iff.mp hm
  obtain ⟨s2, h2, hm⟩ := Option.map_eq_some_iff.mp hm
  cases hm
  exact ⟨E, O, s, d, s1, sm, h1, fun v H' O' st sm' r => ⟨E, O', s1, d, s2, sm', r, h2, fun σ' _ sm2 => k σ' H' O' st sm2⟩⟩
theorem s_expr {e : Expr} {pos : Pos} {m : S → Option (D × S)} (he : EE X T tb e m) (hs : swapsWith e none pos.line X.env = pure false := by rfl) : PY X T tb kr (.Expr e pos) (dropS m) := imp_s (ps_expr he hs) fun B σ H h => by
  obtain ⟨E, O, s, f, sm, hm, k⟩ := h
  obtain ⟨⟨d, s1⟩, h1, hm⟩ := Option.map_eq_some_iff.mp hm
  cases hm
  exact ⟨E, O, s, d, s1, sm, h1, fun v H' O' st sm' r => k σ H' O' st sm'⟩
theorem s_par (i j : Nat) {x y : Str} {a b : Expr} {px py pt pos : Pos} {kt k2 pt2} {m : S → Option (List D × S)} (hc : X.calm = true) (hN : X.N.Nodup) (ha : EA X T tb [a, b] m) (hi : X.N[i]? = some x := by rfl) (hj : X.N[j]? = some y := by rfl) (hij : i ≠ j := by decide)
    (hx : X.env.scope.names.lookup x = some .local := by rfl) (hy : X.env.scope.names.lookup y = some .local := by rfl)
    (hw : swappedStores [.Tuple [.Name x px, .Name y py] kt pt] (.Tuple [a, b] k2 pt2) X.env = pure (some [x, y]) := by rfl) (hs : swapsWithSole [.Tuple [.Name x px, .Name y py] kt pt] (.Tuple [a, b] k2 pt2) pos.line X.env = pure false := by rfl) :
    PY X T tb kr (.Assign [.Tuple [.Name x px, .Name y py] kt pt] (.Tuple [a, b] k2 pt2) pos) (parS i j m) := imp_s (ps_par hc hN hi hj hij hx hy ha hw hs) fun B σ H h => by
  obtain ⟨E, O, s, f, sm, hm, k⟩ := h
  obtain ⟨⟨ds, s1⟩, h1, hm⟩ := Option.bind_eq_some_iff.mp hm
  dsimp only at hm
  split at hm
  · next x y =>
    split at hm
    · next hl =>
      cases hm
      refine ⟨E, O, s, _, s1, sm, h1, fun vs H' O' st sm' r => ?_⟩
      cases r with
      | cons r1 r =>
        cases r with
        | cons r2 r =>
          cases r
          exact ⟨_, _, rfl, k _ H' O' st ((sm'.setI hl.1 r1).setI (by rw [List.length_set]; exact hl.2) r2)⟩
    · cases hm
  · cases hm
theorem tyL {K : Fg} {H : Hp} {a : Addr} {vs : List V} (h : H a = some (.lst vs)) : tyV K "list" (.ref a) H := .inl ⟨rfl, _, SqL.of h⟩
theorem s_append (i : Nat) {x : Str} {e : Expr} {p apos cpos pos : Pos} {m : S → Option (D × S)} (he : EE X T tb e m) (hN : X.N[i]? = some x := by rfl) (hv : Vis X.env.scope x := by first | exact Or.inl rfl | exact Or.inr (Or.inl rfl) | exact Or.inr (Or.inr rfl)) (hd : (x == ("__debug__" : Str)) = false := by decide)
    (hcd : (x == ("__classdict__" : Str)) = false := by decide) (hbase : attributeBase (.Name x p) "append" X.env (eval (.Name x p) X.env) = eval (.Name x p) X.env := by rfl)
    (hfew : ((backTo cpos (starEach [e] X.env)).all (fun x => !x.1) && (backToKw cpos (keywordEach [] X.env)).all (fun x => x.1.isSome)
      && decide ([e].length + ([] : List Keyword).length + (if ([] : List Keyword).isEmpty then 0 else 1) < 30)) = true := by rfl)
    (hline : (apos.endLine == cpos.line) = true := by rfl) (hs : starEach [e] X.env = (false, eval e X.env) :: starEach [] X.env := by rfl) (hplain : (backTo cpos (starEach [] X.env)).any (·.1) = false := by rfl) (hsw : swapsWith (.Call (.Attribute (.Name x p) "append" apos) [e] [] cpos) none pos.line X.env = pure false := by rfl) :
    PY X T tb kr (.Expr (.Call (.Attribute (.Name x p) "append" apos) [e] [] cpos) pos) (appS i m) :=
  imp_s (ps_expr (pe_bm PySem.F.plainAttrs_list PySem.F.slot_list_append PySem.F.type_list_append mt_append (pe_var hN hv hd hcd) (pa_cons he pa_nil hs) hbase hfew hline hs hplain) hsw) fun B σ H h => by
  obtain ⟨E, O, s, f, sm, hm, k⟩ := h
  obtain ⟨ds0, h0, hm⟩ := Option.bind_eq_some_iff.mp hm
  obtain ⟨⟨d, s1⟩, h1, hm⟩ := Option.bind_eq_some_iff.mp hm
  obtain ⟨ds, h2, hm⟩ := Option.bind_eq_some_iff.mp hm
  split at hm
  · next hl =>
    cases hm
    have hl : ds.length ≤ 1000000 := by simpa [Nat.ble_eq] using hl
    obtain ⟨a, vs0, g1, g2, _⟩ := sm.lset (es := []) (olAt_some h0)
    refine ⟨_, g1, tyL g2, E, O, s, d, s1, sm, h1, fun v H' O' st sm' r => ?_⟩
    obtain ⟨a', vs, e1, e2, e3, e4⟩ := sm'.lset (es := ds ++ [d]) (olAt_some h2)
    rw [g1] at e1
    cases e1
    obtain ⟨sm2, st2⟩ := e4 (vs ++ [v]) (e3.append (.one r))
    exact ⟨a, vs, v, rfl, rfl, e2, by rw [e3.length]; exact Nat.lt_of_le_of_lt hl (by decide), k σ _ O' (st.trans st2) sm2⟩
  · cases hm
theorem s_extend (i : Nat) {x : Str} {e : Expr} {p apos cpos pos : Pos} {m : S → Option (D × S)} (he : EE X T tb e m) (hN : X.N[i]? = some x := by rfl) (hv : Vis X.env.scope x := by first | exact Or.inl rfl | exact Or.inr (Or.inl rfl) | exact Or.inr (Or.inr rfl)) (hd : (x == ("__debug__" : Str)) = false := by decide)
    (hcd : (x == ("__classdict__" : Str)) = false := by decide) (hbase : attributeBase (.Name x p) "extend" X.env (eval (.Name x p) X.env) = eval (.Name x p) X.env := by rfl)
    (hfew : ((backTo cpos (starEach [e] X.env)).all (fun x => !x.1) && (backToKw cpos (keywordEach [] X.env)).all (fun x => x.1.isSome)
      && decide ([e].length + ([] : List Keyword).length + (if ([] : List Keyword).isEmpty then 0 else 1) < 30)) = true := by rfl)
    (hline : (apos.endLine == cpos.line) = true := by rfl) (hs : starEach [e] X.env = (false, eval e X.env) :: starEach [] X.env := by rfl) (hplain : (backTo cpos (starEach [] X.env)).any (·.1) = false := by rfl) (hsw : swapsWith (.Call (.Attribute (.Name x p) "extend" apos) [e] [] cpos) none pos.line X.env = pure false := by rfl) :
    PY X T tb kr (.Expr (.Call (.Attribute (.Name x p) "extend" apos) [e] [] cpos) pos) (extS i m) :=
  imp_s (ps_expr (pe_bm PySem.F.plainAttrs_list PySem.F.slot_list_extend PySem.F.type_list_extend mt_extend (pe_var hN hv hd hcd) (pa_cons he pa_nil hs) hbase hfew hline hs hplain) hsw) fun B σ H h => by
  obtain ⟨E, O, s, f, sm, hm, k⟩ := h
  obtain ⟨ds0, h0, hm⟩ := Option.bind_eq_some_iff.mp hm
  obtain ⟨⟨d, s1⟩, h1, hm⟩ := Option.bind_eq_some_iff.mp hm
  obtain ⟨ds, h2, hm⟩ := Option.bind_eq_some_iff.mp hm
  obtain ⟨es, h3, hm⟩ := Option.bind_eq_some_iff.mp hm
  split at hm
  · next hl =>
    cases hm
    have hl : ds.length + es.length ≤ 1000000 := by simpa [Nat.ble_eq] using hl
    obtain ⟨a, vs0, g1, g2, _⟩ := sm.lset (es := []) (olAt_some h0)
    have hd : d = .list es := by cases d <;> simp [lstOf] at h3; rw [h3]
    subst hd
    refine ⟨_, g1, tyL g2, E, O, s, _, s1, sm, h1, fun v H' O' st sm' r => ?_⟩
    obtain ⟨a', vs, e1, e2, e3, e4⟩ := sm'.lset (es := ds ++ es) (olAt_some h2)
    rw [g1] at e1
    cases e1
    obtain ⟨b, ws, rfl, f1, _, f2⟩ := r.ref_list
    obtain ⟨sm2, st2⟩ := e4 (vs ++ ws) (e3.append f2)
    exact ⟨a, b, vs, ws, rfl, rfl, e2, f1, by rw [e3.length, f2.length]; exact Nat.le_trans hl (by decide), k σ _ O' (st.trans st2) sm2⟩
  · cases hm
/-! ### loops -/
theorem s_for {tg iter : Expr} {body : List Stmt} {pos : Pos} {src : S → Option (List D × S)} {ts : List Nat} {g : D → S → Option S} {m : S → Option Fl} (hc : X.calm = true) (hi : EI X T tb tg iter src) (hg : PG X tg (tG (Zo X T tb) ts g)) (hb : PYs X T tb kr body m) (hp : PassesOwn (model X.prog X.w) X.A X.env X.xe := by exact PassesOwn.never)
    (hs : ∀ x, foldedSetIterable iter X.env x = pure x := by intro _; rfl) : PY X T tb kr (.For tg iter body [] pos) (forS src g m) := imp_s (ps_for hp hc hi hg hb hs) fun B σ H h => by
  obtain ⟨E, O, s, f, sm, hm, k⟩ := h
  obtain ⟨⟨ds, s1⟩, h1, hm⟩ := Option.bind_eq_some_iff.mp hm
  refine ⟨E, O, s, ds, s1, sm, h1, fun J H1 O1 st1 sm1 w => ?_⟩
  refine ⟨fun i n σ' H' => n = ds.length - i ∧ i ≤ ds.length ∧ ∃ O2 s2, Sim (Zo X T tb) E O2 σ' H' s2 ∧ Stp tb O1 H1 O2 H' ∧ forGo g m (ds.drop i) s2 = some f, ⟨ds.length, by simp, Nat.zero_le _, O1, s1, sm1, Stp.refl, hm⟩, ?_⟩
  rintro i n σ2 H2 ⟨rfl, hi, O2, s2, sm2, st2, hgo⟩
  obtain ⟨w1, w2⟩ := w i tb O2 H2 st2
  by_cases hlt : i < ds.length
  · refine .inr ?_
    obtain ⟨go, w1⟩ := w1 _ (List.getElem?_eq_getElem hlt)
    rw [List.drop_eq_getElem_cons hlt] at hgo
    unfold forGo at hgo
    obtain ⟨s3, hg3, hgo⟩ := Option.bind_eq_some_iff.mp hgo
    obtain ⟨f3, hf3, hgo⟩ := Option.bind_eq_some_iff.mp hgo
    refine ⟨go, fun σ' H' => ∃ O2 s2, Sim (Zo X T tb) E O2 σ' H' s2 ∧ Stp tb O1 H1 O2 H' ∧ forGo g m (ds.drop (i + 1)) s2 = some f, fun σ' H' q => ⟨ds.length - (i + 1), by omega, rfl, hlt, q⟩, fun x H3 y => ?_⟩
    obtain ⟨e3, rx⟩ := w1 x H3 y
    refine ⟨E, O2, s2, _, s3, sm2.ext e3, rx, hg3, fun σ4 _ sm4 => ⟨E, O2, s3, f3, sm4, hf3, ?_⟩⟩
    have st3 : Stp tb O1 H1 O2 H3 := st2.trans (Stp.of_ex e3)
    cases f3 with
    | nx s5 => exact fun σ' H' O' st' sm' => ⟨O', s5, sm', st3.trans st', hgo⟩
    | ct s5 => exact fun σ' H' O' st' sm' => ⟨O', s5, sm', st3.trans st', hgo⟩
    | bk s5 => cases hgo; exact fun σ' H' O' st' sm' => k σ' H' O' (st1.trans (st3.trans st')) sm'
    | rt d s5 => cases hgo; exact k
  · have hi : i = ds.length := by omega
    refine .inl ⟨w2 (by omega), ?_⟩
    rw [hi, List.drop_length] at hgo
    cases hgo
    exact k σ2 H2 O2 (st1.trans st2) sm2
theorem s_while (n : Nat) {c : Expr} {body : List Stmt} {pos : Pos} {t : S → Option (Bool × S)} {m : S → Option Fl} (hc : ET X T tb c t) (hb : PYs X T tb kr body m) (hp : PassesOwn (model X.prog X.w) X.A X.env X.xe := by exact PassesOwn.never) : PY X T tb kr (.While c body [] pos) (whGo t m n) := imp_s (ps_while hp hc hb) fun B σ H h => by
  obtain ⟨E, O, s, f, sm, hm, k⟩ := h
  refine ⟨fun n σ' H' => ∃ O2 s2, Sim (Zo X T tb) E O2 σ' H' s2 ∧ Stp tb O H O2 H' ∧ whGo t m n s2 = some f, ⟨n, O, s, sm, Stp.refl, hm⟩, ?_⟩
  rintro n σ2 H2 ⟨O2, s2, sm2, st2, hgo⟩
  cases n with
  | zero => cases hgo
  | succ n =>
    unfold whGo at hgo
    obtain ⟨⟨b, s3⟩, h3, hgo⟩ := Option.bind_eq_some_iff.mp hgo
    refine ⟨E, O2, s2, b, s3, sm2, h3, fun H3 O3 st3 sm3 => ?_⟩
    cases b with
    | true =>
      rw [if_pos rfl] at hgo ⊢
      obtain ⟨f4, hf4, hgo⟩ := Option.bind_eq_some_iff.mp hgo
      refine ⟨fun σ' H' => ∃ O2 s2, Sim (Zo X T tb) E O2 σ' H' s2 ∧ Stp tb O H O2 H' ∧ whGo t m n s2 = some f, fun σ' H' q => ⟨n, Nat.lt_succ_self n, q⟩, E, O3, s3, f4, sm3, hf4, ?_⟩
      cases f4 with
      | nx s5 => exact fun σ' H' O' st' sm' => ⟨O', s5, sm', (st2.trans st3).trans st', hgo⟩
      | ct s5 => exact fun σ' H' O' st' sm' => ⟨O', s5, sm', (st2.trans st3).trans st', hgo⟩
      | bk s5 => cases hgo; exact fun σ' H' O' st' sm' => k σ' H' O' ((st2.trans st3).trans st') sm'
      | rt d s5 => cases hgo; exact k
    | false =>
      rw [if_neg Bool.false_ne_true] at hgo ⊢
      cases hgo
      exact k σ2 H3 O3 (st2.trans st3) sm3
end
end Y

namespace Y
open PySem PySem.Spec PyProof.Rows L2

/-! ## what loops walk -/
def seqE (a : S → Option (D × S)) : S → Option (List D × S) := fun s => (a s).bind fun p => (seqD p.1).map fun ds => (ds, p.2)
def rng1E (a : S → Option (List D × S)) : S → Option (List D × S) := fun s => (a s).bind fun p => (rng1M (fun _ => some p.1) s).map fun ds => (ds, p.2)
def rng2E (a : S → Option (List D × S)) : S → Option (List D × S) := fun s => (a s).bind fun p => (rng2M (fun _ => some p.1) s).map fun ds => (ds, p.2)
section
variable {X : Cx} {T : List (Addr × Str)} {tb kr : Bool}
theorem ei_seq {tg e : Expr} {m : S → Option (D × S)} (h : EE X T tb e m) : EI X T tb tg e (seqE m) := imp_i (pi_any h) fun σ H R q => by
  obtain ⟨E, O, s, ds, s', sm, hm, k⟩ := q
  obtain ⟨⟨d, s1⟩, hd, hm⟩ := Option.bind_eq_some_iff.mp hm
  obtain ⟨xs, hx, hm⟩ := Option.map_eq_some_iff.mp hm
  cases hm
  refine ⟨E, O, s, d, s1, sm, hd, fun v H' O' st sm' r => ?_⟩
  rcases seqD_some hx with q | q <;> (dsimp only at q; subst q)
  · obtain ⟨a, xs, rfl, h1, h2, h3⟩ := r.ref_list
    exact ⟨a, rfl, .inl ⟨xs, SqL.of h1, k _ H' O' st sm' (walk_listS h1 h2 h3)⟩⟩
  · obtain ⟨a, xs, rfl, h1, h2⟩ := r.ref_tuple
    exact ⟨a, rfl, .inr ⟨xs, h1, k _ H' O' st sm' (walk_tupS h1 h2)⟩⟩
theorem ei_rng1 {tg a : Expr} {p pos : Pos} {m : S → Option (List D × S)} (hg : Gl X "range") (hm : X.mg "range" = none) (ha : EA X T tb [a] m) (hs : starEach [a] X.env = [(false, eval a X.env)] := by rfl) : EI X T tb tg (.Call (.Name "range" p) [a] [] pos) (rng1E m) := imp_i (pi_range1 hg hm ha hs) fun σ H R q => by
  obtain ⟨E, O, s, ds, s', sm, hm, k⟩ := q
  obtain ⟨⟨xs, s1⟩, h0, hm⟩ := Option.bind_eq_some_iff.mp hm
  obtain ⟨ys, hm2, he⟩ := Option.map_eq_some_iff.mp hm
  cases he
  obtain ⟨j, h1, h2, rfl⟩ := rng_int1 hm2
  cases h1
  refine ⟨E, O, s, _, s1, sm, h0, fun vs H' O' st sm' r => ?_⟩
  exact ⟨j, rrs_ints1 (.of r), by omega, by omega, k _ H' O' st sm' walk_rng⟩
theorem ei_rng2 {tg a a2 : Expr} {p pos : Pos} {m : S → Option (List D × S)} (hg : Gl X "range") (hm : X.mg "range" = none) (ha : EA X T tb [a, a2] m) (hs : starEach [a, a2] X.env = [(false, eval a X.env), (false, eval a2 X.env)] := by rfl) (hs2 : starEach [a2] X.env = [(false, eval a2 X.env)] := by rfl) :
    EI X T tb tg (.Call (.Name "range" p) [a, a2] [] pos) (rng2E m) := imp_i (pi_range2 hg hm ha hs hs2) fun σ H R q => by
  obtain ⟨E, O, s, ds, s', sm, hm, k⟩ := q
  obtain ⟨⟨xs, s1⟩, h0, hm⟩ := Option.bind_eq_some_iff.mp hm
  obtain ⟨ys, hm2, he⟩ := Option.map_eq_some_iff.mp hm
  cases he
  obtain ⟨i, j, h1, h2, h3, rfl⟩ := rng_int2 hm2
  cases h1
  refine ⟨E, O, s, _, s1, sm, h0, fun vs H' O' st sm' r => ?_⟩
  exact ⟨i, j, rrs_ints2 (.of r), by omega, k _ H' O' st sm' walk_rng⟩
end

/-! ## defs that change nothing -/
def RetK (K : Fg) (O : List Addr) (H H' : Hp) (v : V) (d : D) : Bool → Prop
  | false => Rp K O H' v d
  | true => ∃ a vs ds, v = .ref a ∧ d = .list ds ∧ H a = none ∧ H' a = some (.lst vs) ∧ Rps K (a :: O) H' vs ds
def spF (K : Fg) (kr : Bool) (n : Nat) (F : List D → Option D) : Sp := fun vs H Q _ =>
  ∃ O ds d, vs.length = n ∧ (∀ a, a ∈ O → H a ≠ none) ∧ Rps K O H vs ds ∧ F ds = some d ∧ ∀ v H', Ex H H' → RetK K O H H' v d kr → Q v H'
def slots (n : Nat) (ds : List D) : S := ds.map M.imm ++ List.replicate (n - ds.length) M.un
def outF : Option Fl → Option D
  | some (.rt d _) => some d
  | _ => none
def runF (n : Nat) (m : S → Option Fl) : List D → Option D := fun ds => outF (m (slots n ds))
theorem sim_start {Z : Zx} {E : Ent} {O : List Addr} {H : Hp} {N : List Str} {vs : List V} {ds : List D} (r : Rps Z.K O H vs ds) (dom : ∀ a, a ∈ O → H a ≠ none) (h0 : E.H0 = H) (hO : E.O0 = O) (tabs : LamX.Tabs Z.T H) : Sim Z E O (L2.start N vs) H (slots N.length ds) := by
  have hl := r.length
  refine ⟨by simp [L2.start, slots, hl], ⟨fun _ => [], fun i m q => ?_, fun _ _ => rfl, fun i a q => (by cases q), fun i j a q => (by cases q)⟩, dom, fun a q => hO ▸ q, fun a o q _ _ => by rw [h0] at q; exact q, fun a q => by rw [h0]; exact q, tabs⟩
  unfold slots at q
  by_cases hi : i < ds.length
  · rw [List.getElem?_append_left (by simpa using hi), List.getElem?_map] at q
    obtain ⟨d, hd, rfl⟩ := Option.map_eq_some_iff.mp q
    obtain ⟨v, hv, hr⟩ := r.get hd
    refine ⟨rfl, v, sl_of ?_, hr⟩
    unfold L2.start
    rw [List.getElem?_append_left (by rw [List.length_map, hl]; exact hi), List.getElem?_map, hv]
    rfl
  · rw [List.getElem?_append_right (by simpa using hi), List.getElem?_replicate] at q
    split at q
    · cases q; rfl
    · cases q
theorem fnF {P : Program} {w : World} {K : Fg} {mg : Str → Option Value} {base : Heap} {x qual : Str} {st : Stmt} {f : Addr} {fd : FuncData} {N ps : List Str} {k : Nat} {kr : Bool} {m : S → Option Fl} (F : Fun K x qual st f fd) (S : FnScope N ps (defScope st))
    (hb : ∀ (cdv : Value) (A : Around) (outer : List Env) (s : Shared) (H : Hp) (E : XK), Room k (A.deeper (envOfC qual (defScope st) s.heap.objs.size f cdv)) → PYs (cxOf CX0 P w K mg base N qual (defScope st) f cdv A outer s H E).nox [] false kr (defBody st) m) :
    FnOk P w K mg base CX0 (k + 1) f fd ps (spF K kr ps.length (runF N.length m)) := by
  refine F.ok S (fun vs H Q E h => ?_) (fun cdv A outer s H vs Q E hr h => ⟨_, hb cdv A outer s H E hr, ?_⟩)
  · obtain ⟨_, _, _, h, _⟩ := h
    exact h
  · obtain ⟨O, ds, d, hl, dom, r, hF, k⟩ := h
    unfold runF outF at hF
    split at hF
    · next d' s' q =>
      cases hF
      refine ⟨⟨[], H, O, dom⟩, O, _, _, sim_start (Z := ⟨K, [], false⟩) r dom rfl rfl (fun p hp => by cases hp), q, fun v σ' H' O' sm rr => ?_⟩
      have e : Ex H H' := fun a o q => sm.fr a o q (fun z => by cases z) (fun z => by cases z)
      refine k v H' e ?_
      cases kr with
      | false => exact rr
      | true => exact rr
    · cases hF

/-- a def of the text that a body may call -/
structure CallF (P : Program) (w : World) (K : Fg) (mg : Str → Option Value) (base : Heap) (x : Str) (st : Stmt) (ps : List Str) (k : Nat) (kr : Bool) (F : List D → Option D) : Prop where
  ex : ∃ (f : Addr) (fd : FuncData), mg x = some (.ref f) ∧ Fun K x x st f fd ∧ Binds K fd ps [] ∧ FnOk P w K mg base CX0 k f fd ps (spF K kr ps.length F)
theorem CallF.imp {P : Program} {w : World} {K : Fg} {mg : Str → Option Value} {base : Heap} {x : Str} {st : Stmt} {ps : List Str} {k : Nat} {kr : Bool} {F G : List D → Option D} (C : CallF P w K mg base x st ps k kr F) (h : ∀ ds d, G ds = some d → F ds = some d) : CallF P w K mg base x st ps k kr G := by
  obtain ⟨f, fd, h1, h2, h3, h4⟩ := C.ex
  refine ⟨f, fd, h1, h2, h3, h4.imp fun vs H Q E q => ?_⟩
  obtain ⟨O, ds, d, q1, q2, q3, q4, q5⟩ := q
  exact ⟨O, ds, d, q1, q2, q3, h ds d q4, q5⟩
def kdOf : Bool → Kd
  | true => .o
  | false => .i
theorem RetK.res {K : Fg} {O : List Addr} {H H' : Hp} {v : V} {d : D} {kr : Bool} (dom : ∀ a, a ∈ O → H a ≠ none) (h : RetK K O H H' v d kr) : Res K O H H' v d (kdOf kr) := by
  cases kr with
  | false => exact h
  | true =>
    obtain ⟨a, vs, ds, h1, h2, h3, h4, h5⟩ := h
    exact ⟨a, vs, ds, h1, h2, h3, fun m => dom a m h3, h4, h5⟩
def noLD : D → Bool
  | .list ds => noL.noLs ds
  | d => noL d
/-- the same where lists of one's own are lent: nothing of them may come back -/
def lentOk : Bool → D → Bool
  | true, d => noLD d
  | false, d => noL d
def lentM (kr : Bool) (F : List D → Option D) : List D → Option D := fun ds => (F ds).bind fun d => if lentOk kr d = true then some d else none
theorem Rrs.lend {K : Fg} {O : List Addr} {H : Hp} : ∀ {vs : List V} {ds : List D}, Rrs K O H vs ds → Rps K [] H vs ds
  | _, _, .nil => .nil
  | _, _, .cons h r => .cons (by
      rcases h with h | ⟨a, vs, ds, rfl, rfl, h3, h4⟩
      · exact h.mono fun a m => by cases m
      · exact .lst h3 (fun m => by cases m) (h4.mono fun a m => by cases m)) r.lend
section
variable {X : Cx} {T : List (Addr × Str)} {tb kr : Bool} {x : Str} {st : Stmt} {ps : List Str} {k : Nat} {F : List D → Option D}
theorem vals_nil : Vals ([] : List V) ([] : List Value) := .nil
theorem q_call {e : Expr} {es : List Expr} {p pos : Pos} {n : S → Option (List D)} {j : Nat} (C : CallF X.prog X.w X.K X.mg X.base x st ps k kr F) (hr : Room j X.A) (hg : Gl X x) (ha : QA X T tb true (e :: es) n) (hk : k ≤ j := by decide) (hl : ∀ s ds, n s = some ds → ds.length = ps.length) (hdb : (x == ("__debug__" : Str)) = false := by decide)
    (he : starEach (e :: es) X.env = (false, eval e X.env) :: starEach es X.env := by rfl) (hpl : (backTo pos (starEach es X.env)).any (·.1) = false := by rfl) : QE X T tb (kdOf kr) (.Call (.Name x p) (e :: es) [] pos) (callM F n) := by
  obtain ⟨f, fd, hm, Fn, hb, ok⟩ := C.ex
  refine imp_e (pe_call ok (hr.mono hk) hg hm Fn.kp hb vals_nil pass0 ha hdb he hpl) fun σ H Q h => ?_
  obtain ⟨E, O, s, d, sm, hmm, q⟩ := h
  obtain ⟨xs, hxs, hF⟩ := Option.bind_eq_some_iff.mp hmm
  refine ⟨E, O, s, xs, sm, hxs, fun vs H1 e1 r1 => ?_⟩
  have r1 : Rps X.K O H1 vs xs := r1
  have dom := (sm.ext e1).dom
  refine ⟨O, xs, d, by rw [List.append_nil, r1.length]; exact hl s xs hxs, dom, by rw [List.append_nil]; exact r1, hF, fun v H' e r => q v H' (e1.trans e) ((r.res dom).from e1)⟩
theorem q_callL {e : Expr} {es : List Expr} {p pos : Pos} {n : S → Option (List D)} {j : Nat} (C : CallF X.prog X.w X.K X.mg X.base x st ps k kr F) (hr : Room j X.A) (hg : Gl X x) (ha : QA X T tb false (e :: es) n) (hk : k ≤ j := by decide) (hl : ∀ s ds, n s = some ds → ds.length = ps.length) (hdb : (x == ("__debug__" : Str)) = false := by decide)
    (he : starEach (e :: es) X.env = (false, eval e X.env) :: starEach es X.env := by rfl) (hpl : (backTo pos (starEach es X.env)).any (·.1) = false := by rfl) : QE X T tb (kdOf kr) (.Call (.Name x p) (e :: es) [] pos) (callM (lentM kr F) n) := by
  obtain ⟨f, fd, hm, Fn, hb, ok⟩ := C.ex
  refine imp_e (pe_call ok (hr.mono hk) hg hm Fn.kp hb vals_nil pass0 ha hdb he hpl) fun σ H Q h => ?_
  obtain ⟨E, O, s, d, sm, hmm, q⟩ := h
  obtain ⟨xs, hxs, hF⟩ := Option.bind_eq_some_iff.mp hmm
  obtain ⟨d', hF, hn⟩ := Option.bind_eq_some_iff.mp hF
  split at hn
  case isFalse => cases hn
  next hnl =>
  cases hn
  refine ⟨E, O, s, xs, sm, hxs, fun vs H1 e1 r1 => ?_⟩
  have r2 : Rps X.K [] H1 vs xs := ResL.toR r1 |>.lend
  have dom := (sm.ext e1).dom
  refine ⟨[], xs, d, by rw [List.append_nil, r2.length]; exact hl s xs hxs, fun a m => (by cases m), by rw [List.append_nil]; exact r2, hF, fun v H' e r => q v H' (e1.trans e) ?_⟩
  cases kr with
  | false =>
    have r : Rp X.K [] H' v d := r
    exact (show Rp X.K O H' v d from r.free hnl)
  | true =>
    obtain ⟨a, vs', ds', h1, rfl, h3, h4, h5⟩ := r
    exact ⟨a, vs', ds', h1, rfl, e1.back h3, fun m => dom a m h3, h4, Rps.free h5 hnl⟩
end
end Y

namespace Y
open PySem PySem.Spec PyProof.Rows L2

/-! ## equality of data, repr -/
mutual
def deq : D → D → Bool
  | .none, .none => true
  | .bool a, .bool b => a == b
  | .int a, .int b => a == b
  | .str a, .str b => a == b
  | .list a, .list b => deqs a b
  | .tuple a, .tuple b => deqs a b
  | _, _ => false
def deqs : List D → List D → Bool
  | [], [] => true
  | x :: xs, y :: ys => deq x y && deqs xs ys
  | _, _ => false
end
mutual
theorem deq_eq : ∀ {d e : D}, deq d e = true → d = e
  | .none, e, h => by cases e <;> simp [deq] at h; rfl
  | .bool a, e, h => by cases e <;> simp [deq] at h; rw [h]
  | .int a, e, h => by cases e <;> simp [deq] at h; rw [h]
  | .str a, e, h => by cases e <;> simp [deq] at h; rw [h]
  | .list a, e, h => by cases e <;> simp [deq] at h; rw [deqs_eq h]
  | .tuple a, e, h => by cases e <;> simp [deq] at h; rw [deqs_eq h]
  | .dict a, e, h => by cases e <;> simp [deq] at h
theorem deqs_eq : ∀ {d e : List D}, deqs d e = true → d = e
  | [], e, h => by cases e <;> simp [deqs] at h; rfl
  | x :: xs, e, h => by
    cases e with
    | nil => simp [deqs] at h
    | cons y ys =>
      simp only [deqs, Bool.and_eq_true] at h
      rw [deq_eq h.1, deqs_eq h.2]
end
mutual
def noDict : D → Bool
  | .list xs => noDicts xs
  | .tuple xs => noDicts xs
  | .dict _ => false
  | _ => true
def noDicts : List D → Bool
  | [] => true
  | x :: xs => noDict x && noDicts xs
end
mutual
theorem deq_refl : ∀ d : D, noDict d = true → deq d d = true
  | .none, _ => rfl
  | .bool a, _ => by simp [deq]
  | .int a, _ => by simp [deq]
  | .str a, _ => by simp [deq]
  | .list a, h => by simp only [deq]; exact deqs_refl a (by simpa [noDict] using h)
  | .tuple a, h => by simp only [deq]; exact deqs_refl a (by simpa [noDict] using h)
  | .dict a, h => by simp [noDict] at h
theorem deqs_refl : ∀ d : List D, noDicts d = true → deqs d d = true
  | [], _ => rfl
  | x :: xs, h => by
    simp only [noDicts, Bool.and_eq_true] at h
    simp only [deqs, deq_refl x h.1, deqs_refl xs h.2, Bool.and_self]
end
mutual
/-- more than the signs of a value's text; 1000001 where it is not served -/
def shCost : D → Nat
  | .none => 4
  | .bool _ => 5
  | .int i => if i.natAbs.log2 < 1920 then 1930 else 1000001
  | .str x => if x.cps.toList.all (fun c => decide (c < 0x110000)) = true then 10 * x.length + 2 else 1000001
  | .list xs => shCosts xs + 3
  | .tuple xs => shCosts xs + 3
  | .dict _ => 1000001
def shCosts : List D → Nat
  | [] => 0
  | x :: xs => shCost x + 2 + shCosts xs
end
def okShow (d : D) : Bool := Nat.ble (shCost d) 1000000 && Nat.ble (PyData.depth d) 50
theorem shCost_int {i : Int} (h : ¬ shCost (.int i) ≥ 1000001) : i.natAbs.log2 < 1920 := by
  unfold shCost at h
  split at h
  · next c => exact c
  · omega
theorem sumLen : ∀ (xs : List D), (∀ d, d ∈ xs → (PyData.shown d).length ≤ shCost d) → ((PyData.shownAll xs).map (·.length)).sum + 2 * (PyData.shownAll xs).length ≤ shCosts xs
  | [], _ => by simp [PyData.shownAll, shCosts]
  | x :: xs, h => by
    have h1 := sumLen xs fun d m => h d (List.mem_cons_of_mem _ m)
    have h2 := h x List.mem_cons_self
    simp only [PyData.shownAll, shCosts, List.map_cons, List.sum_cons, List.length_cons]
    omega
theorem mem_cost : ∀ {xs : List D} {d : D}, d ∈ xs → shCost d ≤ shCosts xs
  | x :: xs, d, h => by
    unfold shCosts
    rcases List.mem_cons.mp h with rfl | h
    · omega
    · have := mem_cost h; omega
mutual
theorem shown_ok : ∀ d : D, shCost d ≤ 1000000 → (PyData.shown d).length ≤ shCost d ∧ d.showable = true ∧ d.hasDict = false ∧ d.canLay0 = true
  | .none, _ => ⟨by simp only [PyData.shown, shCost]; decide, by simp [PyData.showable], by simp [PyData.hasDict], by simp [PyData.canLay0]⟩
  | .bool true, _ => ⟨by simp only [PyData.shown, shCost]; decide, by simp [PyData.showable], by simp [PyData.hasDict], by simp [PyData.canLay0]⟩
  | .bool false, _ => ⟨by simp only [PyData.shown, shCost]; decide, by simp [PyData.showable], by simp [PyData.hasDict], by simp [PyData.canLay0]⟩
  | .int i, h => by
    have c : i.natAbs.log2 < 1920 := shCost_int (by omega)
    refine ⟨?_, by simp [PyData.showable, c], by simp [PyData.hasDict], by simp [PyData.canLay0]⟩
    have := PyProof.Rows.int_text_len_1921 c
    simp only [PyData.shown, shCost, if_pos c]
    exact Nat.le_trans this (by omega)
  | .str x, h => by
    have c : x.cps.toList.all (fun c => decide (c < 0x110000)) = true := by
      unfold shCost at h
      split at h
      · next c => exact c
      · omega
    refine ⟨?_, by simp [PyData.showable], by simp [PyData.hasDict], ?_⟩
    · simp only [PyData.shown, shCost, if_pos c]
      refine StrLaws.reprText_len x fun k hk => ?_
      have := List.all_eq_true.mp c k hk
      have := of_decide_eq_true this
      omega
    · simp only [PyData.canLay0, PyData.strOk]
      rw [Array.all_eq_true]
      intro i hi
      have := List.all_eq_true.mp c (x.cps[i]) (by simp [Array.mem_toList_iff])
      exact this
  | .list xs, h => by
    have hc : shCosts xs ≤ 1000000 := by unfold shCost at h; omega
    obtain ⟨h1, h2, h3, h4⟩ := showns_ok xs hc
    have h5 := listText_len_le (PyData.shownAll xs)
    have h6 := sumLen xs h1
    exact ⟨by simp only [PyData.shown, shCost]; omega, by simp only [PyData.showable]; exact h2, by simp only [PyData.hasDict]; exact h3, by simp only [PyData.canLay0]; exact h4⟩
  | .tuple xs, h => by
    have hc : shCosts xs ≤ 1000000 := by unfold shCost at h; omega
    obtain ⟨h1, h2, h3, h4⟩ := showns_ok xs hc
    have h5 := tupleText_len_le (PyData.shownAll xs)
    have h6 := sumLen xs h1
    exact ⟨by simp only [PyData.shown, shCost]; omega, by simp only [PyData.showable]; exact h2, by simp only [PyData.hasDict]; exact h3, by simp only [PyData.canLay0]; exact h4⟩
  | .dict _, h => by unfold shCost at h; omega
theorem showns_ok : ∀ xs : List D, shCosts xs ≤ 1000000 → (∀ d, d ∈ xs → (PyData.shown d).length ≤ shCost d) ∧ PyData.showableAll xs = true ∧ PyData.hasDictAll xs = false ∧ PyData.canLayAll0 xs = true
  | [], _ => ⟨fun d m => (by cases m), by simp [PyData.showableAll], by simp [PyData.hasDictAll], by simp [PyData.canLayAll0]⟩
  | x :: xs, h => by
    unfold shCosts at h
    obtain ⟨a1, a2, a3, a4⟩ := shown_ok x (by omega)
    obtain ⟨b1, b2, b3, b4⟩ := showns_ok xs (by omega)
    refine ⟨fun d m => ?_, by simp [PyData.showableAll, a2, b2], by simp [PyData.hasDictAll, a3, b3], by simp [PyData.canLayAll0, a4, b4]⟩
    rcases List.mem_cons.mp m with rfl | m
    · exact a1
    · exact b1 d m
end
def isRef : D → Bool
  | .list _ => true
  | .tuple _ => true
  | _ => false
def reprD : List D → Option D
  | [d] => if (okShow d && isRef d) = true then some (.str (PyData.shown d)) else none
  | _ => none
section
variable {X : Cx}
theorem call_reprD (hg : X.A.guards = some []) (hu : X.A.units + 64 < cLine) : CallR X (.builtin "repr") (fun xs H Q => ∃ x d, xs = [x] ∧ Dp X.K H x d ∧ okShow d = true ∧ isRef d = true ∧ Q (.str (PyData.shown d)) H) := by
  intro pins s σ H xs us Q I r h
  obtain ⟨x, d, rfl, hd, ok, ir, q⟩ := h
  obtain ⟨u, rfl, ru⟩ := vals1 r
  obtain ⟨as, rd⟩ := Dp.reads I d x u hd ru
  unfold okShow at ok
  rw [Bool.and_eq_true, Nat.ble_eq, Nat.ble_eq] at ok
  obtain ⟨h1, h2, h3, h4⟩ := shown_ok d ok.1
  obtain ⟨a, rfl⟩ : ∃ a, u = .ref a := by
    cases d <;> simp [isRef] at ir <;> (cases rd; exact ⟨_, rfl⟩)
  refine repr_of_reads' rd h2 (fun z => by rw [h3] at z; cases z) hg (by omega) (fun _ _ e => e) (fun h' t tk hk => ?_) (Nat.le_trans h1 (Nat.le_trans ok.1 (by decide)))
  exact ⟨.str _, H, I.kept hk, ⟨t, rfl⟩, q⟩
theorem cs_repr (hg : X.A.guards = some []) (hu : X.A.units + 64 < cLine) : CallS X (.builtin "repr") .i reprD := ⟨_, call_reprD hg hu, fun O H xs ds d Q dom r e k => by
  unfold reprD at e
  split at e
  · next d' =>
    split at e
    · next c =>
      cases e
      rw [Bool.and_eq_true] at c
      obtain ⟨x, rfl, rx⟩ := rrs1 r
      exact ⟨x, d', rfl, rx.dp, c.1, c.2, k _ H (Ex.refl H) (.str _)⟩
    · cases e
  · cases e⟩
end
end Y

namespace Y
open PySem PySem.Spec PyProof.Rows L2

/-! ## defs that may show data: nothing is being shown where they are called -/
structure FnG (P : Program) (w : World) (K : Fg) (mg : Str → Option Value) (base : Heap) (k : Nat) (f : Addr) (fd : FuncData) (ps : List Str) (sp : Sp) : Prop where
  len : ∀ vs H Q E, sp vs H Q E → vs.length = ps.length
  run : ∀ (A : Around) (outer : List Env) (s : Shared) (H : Hp) (args : Args) (us : List Value) (vs : List V) (Q : VK) (E : XK), Room k A → A.guards = some [] → Env0 P w K mg base A outer s H → BindsTo s fd args (ps.zip us) → Vals vs us → sp vs H Q E →
    codeAny (model P w) A (.call (.ref f) args) (CR CX0 outer P w H s Q E) s
/-- a def of the text with its code object -/
structure FunC (K : Fg) (x : Str) (st : Stmt) (f : Addr) (fd : FuncData) (cd : Value) : Prop where
  ex : ∃ (oc : Value) (od : Option Addr) (kV doc pm : Value) (an : Option Addr) (ct : Value) (osl : Array (Option Value)),
    fd = PySem.W.fnOf x x (defArgs st) (defBody st) (defScope st) .none kV doc pm an cd ct ∧ K.lookup f = some ⟨oc, od, .func fd, osl⟩ ∧ PySem.W.codeIn K cd x = true
  kp : PySem.W.keepIn K (.ref f) = true
theorem FunC.fun {K : Fg} {x : Str} {st : Stmt} {f : Addr} {fd : FuncData} {cd : Value} (F : FunC K x st f fd cd) : Fun K x x st f fd := by
  obtain ⟨oc, od, kV, doc, pm, an, ct, osl, h1, h2, h3⟩ := F.ex
  exact ⟨⟨oc, od, kV, doc, pm, an, cd, ct, osl, h1, h2, h3⟩, F.kp⟩
theorem Fun.c {K : Fg} {x : Str} {st : Stmt} {f : Addr} {fd : FuncData} (F : Fun K x x st f fd) : ∃ cd, FunC K x st f fd cd := by
  obtain ⟨oc, od, kV, doc, pm, an, cd, ct, osl, h1, h2, h3⟩ := F.ex
  exact ⟨cd, ⟨oc, od, kV, doc, pm, an, ct, osl, h1, h2, h3⟩, F.kp⟩
section
variable {P : Program} {w : World} {K : Fg} {mg : Str → Option Value} {base : Heap}
theorem FunC.okG {x : Str} {st : Stmt} {f : Addr} {fd : FuncData} {cd : Value} {N ps : List Str} {k : Nat} {sp : Sp} (F : FunC K x st f fd cd) (S : FnScope N ps (defScope st)) (len : ∀ vs H Q E, sp vs H Q E → vs.length = ps.length)
    (hb : ∀ (A : Around) (outer : List Env) (s : Shared) (H : Hp) (vs : List V) (Q : VK) (E : XK), Room k (A.deeper (envOfC x (defScope st) s.heap.objs.size f cd)) → A.guards = some [] → sp vs H Q E →
      ∃ t, PSs (cxOf CX0 P w K mg base N x (defScope st) f cd A outer s H E).nox (defBody st) t ∧ t { nx := fun _ H' => Q .non H', rt := Q } (L2.start N vs) H) : FnG P w K mg base (k + 1) f fd ps sp := by
  obtain ⟨oc, od, kV, doc, pm, an, ct, osl, e, lk, hcd⟩ := F.ex
  subst e
  refine ⟨len, fun A outer s H args us vs Q E hr hg e0 hbn r hsp => ?_⟩
  refine LamX.run_ofS lk hcd S hr e0 hbn r (len _ _ _ _ hsp) fun hr' => ?_
  obtain ⟨t, h1, h2⟩ := hb A outer s H vs Q E hr' hg hsp
  exact ⟨t, h1.nox, h2⟩
/-- pure, but shows data -/
theorem fnFG {x : Str} {st : Stmt} {f : Addr} {fd : FuncData} {N ps : List Str} {k : Nat} {kr : Bool} {m : S → Option Fl} (F : Fun K x x st f fd) (S : FnScope N ps (defScope st))
    (hb : ∀ (cd : Value) (A : Around) (outer : List Env) (s : Shared) (H : Hp) (E : XK), Room k (A.deeper (envOfC x (defScope st) s.heap.objs.size f cd)) → A.guards = some [] → PYs (cxOf CX0 P w K mg base N x (defScope st) f cd A outer s H E).nox [] false kr (defBody st) m) :
    FnG P w K mg base (k + 1) f fd ps (spF K kr ps.length (runF N.length m)) := by
  obtain ⟨cd, Fc⟩ := Fun.c F
  refine Fc.okG S (fun vs H Q E h => ?_) (fun A outer s H vs Q E hr hg h => ⟨_, hb cd A outer s H E hr hg, ?_⟩)
  · obtain ⟨_, _, _, h, _⟩ := h
    exact h
  · obtain ⟨O, ds, d, hl, dom, r, hF, k⟩ := h
    unfold runF outF at hF
    split at hF
    · next d' s' q =>
      cases hF
      refine ⟨⟨[], H, O, dom⟩, O, _, _, sim_start (Z := ⟨K, [], false⟩) r dom rfl rfl (fun p hp => by cases hp), q, fun v σ' H' O' sm rr => ?_⟩
      have e : Ex H H' := fun a o q => sm.fr a o q (fun z => by cases z) (fun z => by cases z)
      refine k v H' e ?_
      cases kr with
      | false => exact rr
      | true => exact rr
    · cases hF
end
structure CallG (P : Program) (w : World) (K : Fg) (mg : Str → Option Value) (base : Heap) (x : Str) (ps : List Str) (k : Nat) (sp : Sp) : Prop where
  ex : ∃ (f : Addr) (fd : FuncData), mg x = some (.ref f) ∧ PySem.W.keepIn K (.ref f) = true ∧ Binds K fd ps [] ∧ FnG P w K mg base k f fd ps sp
theorem CallG.imp {P : Program} {w : World} {K : Fg} {mg : Str → Option Value} {base : Heap} {x : Str} {ps : List Str} {k : Nat} {sp sp' : Sp} (C : CallG P w K mg base x ps k sp) (h : ∀ vs H Q E, sp' vs H Q E → sp vs H Q E) : CallG P w K mg base x ps k sp' := by
  obtain ⟨f, fd, h1, h2, h3, h4⟩ := C.ex
  exact ⟨f, fd, h1, h2, h3, fun vs H Q E q => h4.len _ _ _ _ (h _ _ _ _ q), fun A outer s H args us vs Q E r g e b v q => h4.run A outer s H args us vs Q E r g e b v (h _ _ _ _ q)⟩
section
variable {X : Cx} {x : Str} {ps : List Str} {k j : Nat} {sp : Sp} {e : Expr} {es : List Expr} {p pos : Pos} {t : TA}
theorem runG {f : Addr} {fd : FuncData} {pins : List (Addr × Obj)} {σ : L2.St} {H : Hp} {s : Shared} {Q : VK} {us : List Value} {vs : List V} (F : FnG X.prog X.w X.K X.mg X.base k f fd ps sp) (hr : Room k X.A) (gd : X.A.guards = some []) (hb : Binds X.K fd ps [])
    (I : Inv X pins σ H s) (r : Vals vs us) (h : sp vs H Q E0) : wpAny (model X.prog X.w) X.A (PySem.call (.ref f) us) (EP X pins σ Q) X.xe s := by
  have hl : us.length = ps.length := r.length.symm.trans (F.len _ _ _ _ h)
  have bt := hb s us I.kIn (by rw [List.append_nil]; exact hl)
  rw [List.append_nil] at bt
  refine wpAny_call (codeAny_mono (F.run X.A X.stack s H ⟨us, []⟩ us vs Q E0 hr gd I.env0 bt r h) fun res s' q => ?_)
  match res, q with
  | .ok (.ret u), q => exact I.after q
  | .ok .next, q => exact False.elim q
  | .ok .brk, q => exact False.elim q
  | .ok .cont, q => exact False.elim q
  | .error _, q => exact False.elim q
theorem pe_callG (C : CallG X.prog X.w X.K X.mg X.base x ps k sp) (hr : Room j X.A) (gd : X.A.guards = some []) (hg : Gl X x) (ha : PA X (e :: es) t) (hk : k ≤ j := by decide) (hdb : (x == ("__debug__" : Str)) = false := by decide)
    (he : starEach (e :: es) X.env = (false, eval e X.env) :: starEach es X.env := by rfl) (hpl : (backTo pos (starEach es X.env)).any (·.1) = false := by rfl) : PE X (.Call (.Name x p) (e :: es) [] pos) (fun σ H Q => t σ H fun vs H1 => sp vs H1 Q E0) := by
  obtain ⟨f, fd, hm, kp, hb, F⟩ := C.ex
  constructor
  intro pins s σ H Q I h
  refine wpAny_Call_Name_kw (ld_glob I hg hm ?_ hdb)
  refine PySem.W.callWith_K (h₀ := X.base) I.ok.mod.kin kp (thn (ha.run pos pins s σ H _ I h) fun us s1 q => ?_) he hpl
  obtain ⟨vs, H1, I1, r, q⟩ := q
  exact ⟨I1.kIn, runG F (hr.mono hk) gd hb I1 r q⟩
theorem pe_callG0 (C : CallG X.prog X.w X.K X.mg X.base x ps k sp) (hr : Room j X.A) (gd : X.A.guards = some []) (hg : Gl X x) (hk : k ≤ j := by decide) (hdb : (x == ("__debug__" : Str)) = false := by decide) : PE X (.Call (.Name x p) [] [] pos) (fun σ H Q => sp [] H Q E0) := by
  obtain ⟨f, fd, hm, kp, hb, F⟩ := C.ex
  constructor
  intro pins s σ H Q I h
  refine wpAny_Call_Name_kw (ld_glob I hg hm ?_ hdb)
  exact PySem.W.callWith_K0 I.kIn kp (runG (us := []) F (hr.mono hk) gd hb I .nil h)
end

/-! ## defs of the law: tables of code objects may grow; a bag may be drawn from -/
def BagAt (H : Hp) (a c : Addr) (b : Bag) : Prop := a ≠ c ∧ H a = some (.lst [.ref c, .int b.cur, .int b.mix]) ∧ H c = some (.lst (b.cells.map V.int))
def spT (K : Fg) (T : List (Addr × Str)) (n : Nat) (F : List D → Option D) : Sp := fun vs H Q _ =>
  ∃ O ds d, vs.length = n ∧ (∀ a, a ∈ O → H a ≠ none) ∧ Rps K O H vs ds ∧ LamX.Tabs T H ∧ F ds = some d ∧ ∀ v H', Kp true [] H H' → (∀ x, H' x = none → H x = none) → LamX.Tabs T H' → Rp K O H' v d → Q v H'
def spB (K : Fg) (T : List (Addr × Str)) (n : Nat) (F : Bag → List D → Option (D × Bag)) : Sp := fun vs H Q _ =>
  ∃ O ds d b b' a c ws, vs = .ref a :: ws ∧ ws.length + 1 = n ∧ (∀ a, a ∈ O → H a ≠ none) ∧ a ∈ O ∧ c ∈ O ∧ BagAt H a c b ∧ Rps K O H ws ds ∧ LamX.Tabs T H ∧ F b ds = some (d, b') ∧
    ∀ v H', Kp true [a, c] H H' → (∀ x, H' x = none → H x = none) → LamX.Tabs T H' → BagAt H' a c b' → Rp K O H' v d → Q v H'
def bagOf (s : S) (i : Nat) : Option Bag := match s[i]? with
  | some (.bag b) => some b
  | _ => none
theorem bagOf_some {s : S} {i : Nat} {b : Bag} (h : bagOf s i = some b) : s[i]? = some (.bag b) := by
  unfold bagOf at h
  split at h
  · next q => cases h; exact q
  · cases h
def callT (F : List D → Option D) (n : S → Option (List D × S)) : S → Option (D × S) := fun s => (n s).bind fun p => (F p.1).map fun d => (d, p.2)
def callB (i : Nat) (F : Bag → List D → Option (D × Bag)) (n : S → Option (List D × S)) : S → Option (D × S) := fun s => (bagOf s i).bind fun _ => (n s).bind fun p => (bagOf p.2 i).bind fun b => (F b p.1).map fun q => (q.1, p.2.set i (.bag q.2))
theorem Sim.bag {Z : Zx} {E : Ent} {O : List Addr} {σ : L2.St} {H : Hp} {s : S} {i : Nat} {b : Bag} (h : Sim Z E O σ H s) (hi : s[i]? = some (.bag b)) :
    ∃ a c, σ[i]? = some (some (.ref a)) ∧ a ∈ O ∧ c ∈ O ∧ E.P = [a, c] ∧ BagAt H a c b ∧ ∀ b' H', Kp Z.tb [a, c] H H' → (∀ x, H' x = none → H x = none) → LamX.Tabs Z.T H' → BagAt H' a c b' → Sim Z E O σ H' (s.set i (.bag b')) ∧ Stp Z.tb O H O H' := by
  obtain ⟨F, f1, f2, f3, f4⟩ := h.own
  obtain ⟨a, c, h1, h2, h3, h4, h5, h6, h7⟩ := f1 i _ hi
  have aO : a ∈ O := f3 i a (by rw [h1]; exact List.mem_cons_self)
  have cO : c ∈ O := f3 i c (by rw [h1]; exact List.mem_cons_of_mem _ List.mem_cons_self)
  have two : ∀ {x}, x ∈ [a, c] → x = a ∨ x = c := fun {x} q => by simpa using q
  refine ⟨a, c, sl_some h5, aO, cO, h3, ⟨h2, h6, h7⟩, fun b' H' k th tabs bg => ?_⟩
  have hF : ∀ x, x ∈ [a, c] → x ∈ O := fun x q => by rcases two q with rfl | rfl <;> assumption
  refine ⟨h.chg (F1 := [a, c]) (Fi := [a, c]) k hF (fun x q => .inl (by rw [h3]; exact q)) th tabs (fun j m' F' cj e g x q => ?_) (fun _ => ⟨a, c, rfl, h2, h3, h4, h5, bg.2.1, bg.2.2⟩) fun _ x q => q, k.stp hF th⟩
  rw [g.uniq (f1 j m' e)] at q
  intro z
  exact cj (f4 j i x q (by rw [h1]; exact z))
section
variable {X : Cx} {T : List (Addr × Str)} {x : Str} {ps : List Str} {k j : Nat} {p pos : Pos}
theorem Sim.kept {Z : Zx} {E : Ent} {O : List Addr} {σ : L2.St} {H H' : Hp} {s : S} (h : Sim Z E O σ H s) (k : Kp Z.tb [] H H') (th : ∀ x, H' x = none → H x = none) (tabs : LamX.Tabs Z.T H') : Sim Z E O σ H' s :=
  h.chg0 k (fun a q => by cases q) (fun a q => by cases q) th tabs fun j m' F _ _ a _ q => by cases q
theorem read_T {F : List D → Option D} {n : S → Option (List D × S)} {nn : Nat} (hl : ∀ s ds s', n s = some (ds, s') → ds.length = nn) {σ : L2.St} {H : Hp} {Q : VK} (h : tEi (Zo X T true) (callT F n) σ H Q) : tAE (Zo X T true) n σ H fun vs H1 => spT X.K T nn F vs H1 Q E0 := by
  obtain ⟨E, O, s, d, s', sm, hm, q⟩ := h
  obtain ⟨⟨ds, s1⟩, h1, hm⟩ := Option.bind_eq_some_iff.mp hm
  obtain ⟨d', h2, hm⟩ := Option.map_eq_some_iff.mp hm
  cases hm
  refine ⟨E, O, s, ds, s1, sm, h1, fun vs H1 O1 st1 sm1 r1 => ?_⟩
  exact ⟨O1, ds, d, by rw [r1.length]; exact hl _ _ _ h1, sm1.dom, r1, sm1.tabs, h2, fun v H' kp th tabs r => q v H' O1 (st1.trans (kp.stp (fun a z => by cases z) th)) (sm1.kept kp th tabs) r⟩
theorem e_callT {F : List D → Option D} {e : Expr} {es : List Expr} {n : S → Option (List D × S)} (C : CallG X.prog X.w X.K X.mg X.base x ps k (spT X.K T ps.length F)) (hr : Room j X.A) (gd : X.A.guards = some []) (hg : Gl X x) (ha : EA X T true (e :: es) n) (hl : ∀ s ds s', n s = some (ds, s') → ds.length = ps.length) (hk : k ≤ j := by decide) (hdb : (x == ("__debug__" : Str)) = false := by decide)
    (he : starEach (e :: es) X.env = (false, eval e X.env) :: starEach es X.env := by rfl) (hpl : (backTo pos (starEach es X.env)).any (·.1) = false := by rfl) : EE X T true (.Call (.Name x p) (e :: es) [] pos) (callT F n) :=
  imp_e (pe_callG C hr gd hg ha hk hdb he hpl) fun σ H Q h => read_T hl h
theorem e_callT0 {F : List D → Option D} (C : CallG X.prog X.w X.K X.mg X.base x ps k (spT X.K T 0 F)) (hr : Room j X.A) (gd : X.A.guards = some []) (hg : Gl X x) (hk : k ≤ j := by decide) (hdb : (x == ("__debug__" : Str)) = false := by decide) : EE X T true (.Call (.Name x p) [] [] pos) (callT F argNE) :=
  imp_e (pe_callG0 C hr gd hg hk hdb) fun σ H Q h => by
    obtain ⟨E, O, s, ds, s', sm, hm, q⟩ := read_T (nn := 0) (fun s ds s' q => by cases q; rfl) h
    cases hm
    exact q [] H O Stp.refl sm .nil
/-- a def of the law that only shows data -/
theorem q_callG {kr : Bool} {F : List D → Option D} {tb b : Bool} {e : Expr} {es : List Expr} {n : S → Option (List D)} (C : CallG X.prog X.w X.K X.mg X.base x ps k (spF X.K kr ps.length F)) (hr : Room j X.A) (gd : X.A.guards = some []) (hg : Gl X x) (ha : QA X T tb true (e :: es) n) (hl : ∀ s ds, n s = some ds → ds.length = ps.length) (hk : k ≤ j := by decide) (hdb : (x == ("__debug__" : Str)) = false := by decide)
    (he : starEach (e :: es) X.env = (false, eval e X.env) :: starEach es X.env := by rfl) (hpl : (backTo pos (starEach es X.env)).any (·.1) = false := by rfl) : QE X T tb (kdOf kr) (.Call (.Name x p) (e :: es) [] pos) (callM F n) :=
  imp_e (pe_callG C hr gd hg ha hk hdb he hpl) fun σ H Q h => by
    obtain ⟨E, O, s, d, sm, hmm, q⟩ := h
    obtain ⟨xs, hxs, hF⟩ := Option.bind_eq_some_iff.mp hmm
    refine ⟨E, O, s, xs, sm, hxs, fun vs H1 e1 r1 => ?_⟩
    have r1 : Rps X.K O H1 vs xs := r1
    have dom := (sm.ext e1).dom
    exact ⟨O, xs, d, by rw [r1.length]; exact hl s xs hxs, dom, r1, hF, fun v H' e r => q v H' (e1.trans e) ((r.res dom).from e1)⟩
theorem e_bag (i : Nat) {F : Bag → List D → Option (D × Bag)} {y : Str} {q1 : Pos} {es : List Expr} {n : S → Option (List D × S)} (C : CallG X.prog X.w X.K X.mg X.base x ps k (spB X.K T ps.length F)) (hr : Room j X.A) (gd : X.A.guards = some []) (hg : Gl X x) (ha : EA X T true es n) (hl : ∀ s ds s', n s = some (ds, s') → ds.length + 1 = ps.length) (hk : k ≤ j := by decide)
    (hN : X.N[i]? = some y := by rfl) (hv : Vis X.env.scope y := by first | exact Or.inl rfl | exact Or.inr (Or.inl rfl) | exact Or.inr (Or.inr rfl)) (hd : (y == ("__debug__" : Str)) = false := by decide) (hcd : (y == ("__classdict__" : Str)) = false := by decide) (hdb : (x == ("__debug__" : Str)) = false := by decide)
    (he : starEach (.Name y q1 :: es) X.env = (false, eval (.Name y q1) X.env) :: starEach es X.env := by rfl) (hpl : (backTo pos (starEach es X.env)).any (·.1) = false := by rfl) : EE X T true (.Call (.Name x p) (.Name y q1 :: es) [] pos) (callB i F n) :=
  imp_e (pe_callG C hr gd hg (pa_cons (pe_var hN hv hd hcd) ha he) hk hdb he hpl) fun σ H Q h => by
    obtain ⟨E, O, s, d, s', sm, hm, q⟩ := h
    obtain ⟨b0, h0, hm⟩ := Option.bind_eq_some_iff.mp hm
    obtain ⟨⟨ds, s1⟩, h1, hm⟩ := Option.bind_eq_some_iff.mp hm
    obtain ⟨b, h2, hm⟩ := Option.bind_eq_some_iff.mp hm
    obtain ⟨⟨d', b'⟩, h3, hm⟩ := Option.map_eq_some_iff.mp hm
    cases hm
    obtain ⟨a, c, g1, _⟩ := sm.bag (bagOf_some h0)
    refine ⟨_, g1, E, O, s, ds, s1, sm, h1, fun vs H1 O1 st1 sm1 r1 => ?_⟩
    obtain ⟨a', c, g1', aO, cO, _, bg, back⟩ := sm1.bag (bagOf_some h2)
    rw [g1] at g1'
    cases g1'
    refine ⟨O1, ds, _, b, _, a, c, vs, rfl, by rw [r1.length]; exact hl _ _ _ h1, sm1.dom, aO, cO, bg, r1, sm1.tabs, h3, fun v H' kp th tabs bg' r => ?_⟩
    obtain ⟨sm2, st2⟩ := back b' H' kp th tabs bg'
    exact q v H' O1 (st1.trans st2) sm2 r
end
/-! ### the law's defs by their bodies -/
def runT (n : Nat) (m : S → Option Fl) : List D → Option D := runF n m
def bagF (n : Nat) (b : Bag) (ds : List D) : S := .bag b :: slots (n - 1) ds
def runB (n : Nat) (m : S → Option Fl) : Bag → List D → Option (D × Bag) := fun b ds => match m (bagF n b ds) with
  | some (.rt d s) => (bagOf s 0).map fun b' => (d, b')
  | _ => none
section
variable {P : Program} {w : World} {K : Fg} {mg : Str → Option Value} {base : Heap} {T : List (Addr × Str)}
theorem fnT {x : Str} {st : Stmt} {f : Addr} {fd : FuncData} {cd : Value} {N ps : List Str} {k : Nat} {m : S → Option Fl} (F : FunC K x st f fd cd) (S : FnScope N ps (defScope st))
    (hb : ∀ (A : Around) (outer : List Env) (s : Shared) (H : Hp) (E : XK), Room k (A.deeper (envOfC x (defScope st) s.heap.objs.size f cd)) → A.guards = some [] → PYs (cxOf CX0 P w K mg base N x (defScope st) f cd A outer s H E).nox T true false (defBody st) m) :
    FnG P w K mg base (k + 1) f fd ps (spT K T ps.length (runT N.length m)) := by
  refine F.okG S (fun vs H Q E h => ?_) (fun A outer s H vs Q E hr hg h => ⟨_, hb A outer s H E hr hg, ?_⟩)
  · obtain ⟨_, _, _, h, _⟩ := h
    exact h
  · obtain ⟨O, ds, d, hl, dom, r, tabs, hF, k⟩ := h
    unfold runT runF outF at hF
    split at hF
    · next d' s' q =>
      cases hF
      exact ⟨⟨[], H, O, dom⟩, O, _, _, sim_start (Z := ⟨K, T, true⟩) r dom rfl rfl tabs, q, fun v σ' H' O' sm rr => k v H' sm.fr sm.there sm.tabs rr⟩
    · cases hF
theorem sim_startB {Z : Zx} {E : Ent} {O : List Addr} {H : Hp} {y : Str} {N : List Str} {a c : Addr} {b : Bag} {vs : List V} {ds : List D} (r : Rps Z.K O H vs ds) (dom : ∀ a, a ∈ O → H a ≠ none) (aO : a ∈ O) (cO : c ∈ O) (bg : BagAt H a c b) (h0 : E.H0 = H) (hP : E.P = [a, c]) (hO : E.O0 = O) (tabs : LamX.Tabs Z.T H) :
    Sim Z E O (L2.start (y :: N) (.ref a :: vs)) H (bagF (N.length + 1) b ds) := by
  have hs : L2.start (y :: N) (.ref a :: vs) = some (.ref a) :: L2.start N vs := by simp [L2.start]
  have s0 : Sim Z E O (L2.start N vs) H (slots N.length ds) := by
    obtain ⟨l, o, d, sb, f, t, tb⟩ := sim_start (Z := Z) (E := E) (N := N) r dom h0 hO tabs
    exact ⟨l, o, d, sb, f, t, tb⟩
  obtain ⟨l, ⟨F, f1, f2, f3, f4⟩, d, sb, f, t, tb⟩ := s0
  have F0 : ∀ j, F j = [] := fun j => by
    cases e : (slots N.length ds)[j]? with
    | none => exact f2 j (List.getElem?_eq_none_iff.mp e)
    | some m =>
      have g := f1 j m e
      have hm : m = .un ∨ ∃ d, m = .imm d := by
        unfold slots at e
        have := List.mem_of_getElem? e
        rcases List.mem_append.mp this with q | q
        · obtain ⟨d, _, rfl⟩ := List.mem_map.mp q; exact .inr ⟨d, rfl⟩
        · exact .inl (List.mem_replicate.mp q).2
      rcases hm with rfl | ⟨d, rfl⟩
      · exact g
      · exact g.1
  rw [hs]
  refine ⟨by simp [bagF, l], ⟨fun j => match j with
    | 0 => [a, c]
    | _ + 1 => [], fun j m q => ?_, fun j q => ?_, fun j x q => ?_, fun j j' x q q' => ?_⟩, d, sb, f, t, tb⟩
  · cases j with
    | zero =>
      have q : M.bag b = m := by simpa [bagF] using q
      subst q
      exact ⟨a, c, rfl, bg.1, hP, trivial, rfl, bg.2.1, bg.2.2⟩
    | succ j =>
      have q : (slots N.length ds)[j]? = some m := by simpa [bagF] using q
      have g := f1 j m q
      rw [F0 j] at g
      have e : sl (some (V.ref a) :: L2.start N vs) (j + 1) = sl (L2.start N vs) j := by unfold sl; rw [List.getElem?_cons_succ]
      rw [e]
      exact g
  · cases j with
    | zero => simp [bagF] at q
    | succ j => rfl
  · cases j with
    | zero =>
      have q : x = a ∨ x = c := by simpa using q
      rcases q with rfl | rfl <;> assumption
    | succ j => cases q
  · cases j with
    | zero =>
      cases j' with
      | zero => rfl
      | succ _ => cases q'
    | succ _ => cases q
theorem fnB {x y : Str} {st : Stmt} {f : Addr} {fd : FuncData} {cd : Value} {N ps : List Str} {k : Nat} {m : S → Option Fl} (F : FunC K x st f fd cd) (S : FnScope (y :: N) (y :: ps) (defScope st))
    (hb : ∀ (A : Around) (outer : List Env) (s : Shared) (H : Hp) (E : XK), Room k (A.deeper (envOfC x (defScope st) s.heap.objs.size f cd)) → A.guards = some [] → PYs (cxOf CX0 P w K mg base (y :: N) x (defScope st) f cd A outer s H E).nox T true false (defBody st) m) :
    FnG P w K mg base (k + 1) f fd (y :: ps) (spB K T (y :: ps).length (runB (N.length + 1) m)) := by
  refine F.okG S (fun vs H Q E h => ?_) (fun A outer s H vs Q E hr hg h => ⟨_, hb A outer s H E hr hg, ?_⟩)
  · obtain ⟨_, _, _, _, _, _, _, ws, rfl, h, _⟩ := h
    exact h
  · obtain ⟨O, ds, d, b, b', a, c, ws, rfl, hl, dom, aO, cO, bg, r, tabs, hF, k⟩ := h
    unfold runB at hF
    split at hF
    · next d' s' q =>
      obtain ⟨b1, h1, h2⟩ := Option.map_eq_some_iff.mp hF
      cases h2
      refine ⟨⟨[a, c], H, O, dom⟩, O, _, _, sim_startB (Z := ⟨K, T, true⟩) r dom aO cO bg rfl rfl rfl tabs, q, fun v σ' H' O' sm rr => ?_⟩
      obtain ⟨a1, c1, _, _, _, g1, g2, _⟩ := sm.bag (bagOf_some h1)
      have g1 : [a, c] = [a1, c1] := g1
      simp only [List.cons.injEq, and_true] at g1
      rw [← g1.1, ← g1.2] at g2
      exact k v H' sm.fr sm.there sm.tabs g2 rr
    · cases hF
end
end Y

namespace Y
open PySem PySem.Spec PyProof.Rows L2

/-! ## lambdas that the law hands to its own judge -/
/-- whoever calls f (nothing that the pure code may change has been changed), gets a value for d -/
structure Thk (P : Program) (w : World) (K : Fg) (mg : Str → Option Value) (base : Heap) (fr : List Addr) (O : List Addr) (H0 : Hp) (h0 : Heap) (k : Nat) (f : Addr) (d : D) : Prop where
  obj : ∃ (oc : Value) (od : Option Addr) (fd : FuncData) (osl : Array (Option Value)), h0.get? f = some ⟨oc, od, .func fd, osl⟩ ∧ oc = .type "function"
  nH : H0 f = none
  nF : f ∉ fr
  run : ∀ (A : Around) (outer : List Env) (s1 : Shared) (HZ : Hp) (Q : VK) (E : XK), Env0 P w K mg base A outer s1 HZ → Room k A → A.guards = some [] → Un fr [] H0 HZ h0 s1.heap → Ex H0 HZ →
    (∀ v H', Ex HZ H' → Rp K O H' v d → Q v H') → codeAny (model P w) A (.call (.ref f) ⟨[], []⟩) (CR CX0 outer P w HZ s1 Q E) s1
section
variable {X : Cx} {pins : List (Addr × Obj)} {σ : L2.St} {H : Hp} {s : Shared} {O : List Addr} {f : Addr} {k : Nat} {d : D}
/-- what lies between is untouched -/
theorem Inv.un_from {g' : Shared} {H' : Hp} (I : Inv X pins σ H s) (hx : X.ex = []) (u : Un (frs X.stack) [] H H' s.heap g'.heap) (hok : HOk X.prog X.w H' g'.heap) (hg : AllBare g'.gens) : Un X.fs [] X.H_0 H' X.s_0.heap g'.heap := by
  have J := I.call (h' := g'.heap) (g' := g'.gens) (t' := g'.toks) (d' := g'.drawn) (ch := []) u hok hg (fun b z => by cases z)
  have := J.base
  rw [hx] at this
  exact this
theorem Thk.weak (I : Inv X pins σ H s) (hx : X.ex = []) (e : Ex X.H_0 H) (t : Thk X.prog X.w X.K X.mg X.base X.fs O X.H_0 X.s_0.heap k f d) (nL : f ≠ X.env.locals) : Thk X.prog X.w X.K X.mg X.base (frs X.stack) O H s.heap k f d := by
  obtain ⟨oc, od, fd, osl, h1, h2⟩ := t.obj
  have b := I.base
  rw [hx] at b
  refine ⟨⟨oc, od, fd, osl, b.keep f _ h1 t.nH t.nF (by simp), h2⟩, b.free f _ h1 t.nH (by simp), fun z => ?_, fun A outer s1 HZ Q E e0 hr hg un ex k => ?_⟩
  · rcases List.mem_cons.mp (I.stkSub _ z) with q | q
    · exact nL q
    · exact t.nF q
  · exact t.run A outer s1 HZ Q E e0 hr hg (Inv.un_from I hx un e0.hok e0.bare) (e.trans ex) k
theorem cx_no {P : Program} {w : World} {outer : List Env} {H : Hp} {s s' : Shared} {u : Value} (x : L2.CX P w outer H s (fun _ _ _ => False) u s') : False := by
  obtain ⟨_, _, _, _, _, _, _, _, _, _, _, _, z⟩ := x
  exact z
/-- the lambda that was just made -/
theorem lam_thk {T : List (Addr × Str)} {tb : Bool} {params : Arguments} {body : Expr} {scope : Scope} {c' : Addr} {pm ctv : Value} {kd : Kd} {m : S → Option D} {E : Ent} {st : S} (I : Inv X pins σ H s) (L : LamX.LamS X.env.scope scope)
    (hf : s.heap.get? f = some (PySem.W.kla_obj "<lambda>" (X.env.qual ++ "<lambda>") params body scope (cloFrom X.env.cells scope.names []) pm c' ctv)) (hfn : H f = none) (hfr : f ∉ frs X.stack) (hc : H c' = some (LamX.CodeO c' (X.env.qual ++ "<lambda>")))
    (hbind : bindArgs (PySem.W.kla_fn "<lambda>" (X.env.qual ++ "<lambda>") params body scope (cloFrom X.env.cells scope.names []) pm (.ref c') ctv) ⟨[], []⟩ = pure [])
    (hbody : ∀ (A : Around) (outer : List Env) (s : Shared) (H : Hp), Room k (A.deeper (LamX.lamEnv X scope s.heap.objs.size f c')) → A.guards = some [] → QE (LamX.lamCx X A outer s H (fun _ _ _ => False) scope f c') T tb kd body m)
    (sm : Sim ⟨X.K, T, tb⟩ E O σ H st) (hm : m st = some d) (hk : kd ≠ .r) : Thk X.prog X.w X.K X.mg X.base (frs X.stack) O H s.heap (k + 1) f d := by
  refine ⟨⟨_, _, _, _, hf, rfl⟩, hfn, hfr, fun A outer s1 HZ Q E' e0 hr hg un ex q => ?_⟩
  have of1 := un.keep f _ hf hfn hfr (by simp)
  obtain ⟨⟨oc, vs, t, hoc, hdc, hvc⟩, _, _⟩ := e0.hok c' _ (ex _ _ hc)
  refine PySem.W.kla_callFunE hr.depth of1 rfl L.co L.gen rfl ⟨c', oc, vs, t, rfl, hoc, hdc, hvc⟩ ?_
  rw [hbind]
  refine wpAny_pure (wpAny_newFunctionEnv (fun y hy => (L.own y hy).2) (fun y hy => absurd hy (by simp)) (fun h₁ hns hsb => ⟨(e0.mod.nolimit.keeps fun b o e => (e0.bs b o e).1).fresh _ hsb, ?_⟩) L.kind)
  show codeAny _ _ (.expr body (LamX.lamEnv X scope s1.heap.objs.size f c')) _ _
  have kp : ∀ b o, s1.heap.get? b = some o → h₁.get? b = some o := fun b o e => hsb.extBut b o (Nat.ne_of_lt (Heap.lt_size e)) (Heap.get?_push_of_some _ e)
  have J : Inv (LamX.lamCx X A outer s1 HZ (fun _ _ _ => False) scope f c') [] σ HZ { s1 with heap := h₁, toks := s1.toks + ([] : List (Str × Value)).length } :=
    LamX.lam_start2 I L e0 hr.hd un hns kp
  refine PySem.W.kla_codeExpr (wpAny_mono ((hbody A outer s1 HZ (hr.deeper _) hg).run [] _ _ HZ Q J ⟨E, O, st, d, sm.ext ex, hm, fun v H' e r => q v H' e (r.toI' hk)⟩) (fun v s' hq => ?_) fun e s' hq => wpAny_mono hq (fun _ s'' x => ?_) (fun _ s'' x => ?_))
  case refine_2 => exact (cx_no x).elim
  case refine_3 => exact (cx_no x).elim
  obtain ⟨w', H', J', rv, q⟩ := hq
  exact ⟨w', H', J'.os, J'.bare, J'.base, J'.hok, rv, q⟩
end
section
variable {P : Program} {w : World} {K : Fg} {mg : Str → Option Value} {base : Heap} {O : List Addr}
/-- the call of what was given, at the slot i -/
theorem pe_thk {X : Cx} {g : Addr} {k : Nat} {d : D} {i : Nat} {a : Str} {p1 p2 : Pos} (t : Thk X.prog X.w X.K X.mg X.base X.fs O X.H_0 X.s_0.heap k g d) (hr : Room k X.A) (gd : X.A.guards = some []) (hx : X.ex = []) (hst : X.stack = X.env :: X.outer) (hns : g ≠ X.env.locals)
    (hN : X.N[i]? = some a) (hv : Vis X.env.scope a) (hd : (a == ("__debug__" : Str)) = false := by decide) (hcd : (a == ("__classdict__" : Str)) = false := by decide) :
    PE X (.Call (.Name a p1) [] [] p2) (fun σ H Q => σ[i]? = some (some (.ref g)) ∧ Ex X.H_0 H ∧ ∀ v H', Ex H H' → Rp X.K O H' v d → Q v H') := by
  refine ⟨fun pins s σ H Q I h => ?_⟩
  obtain ⟨hs, ex, q⟩ := h
  refine wpAny_Call_Name_kw (thn ((pe_var (pos := p1) (i := i) hN hv hd hcd).run pins s σ H (fun v H1 => v = .ref g ∧ H1 = H) I ⟨.ref g, hs, rfl, rfl⟩) fun u s1 ⟨v, H1, I1, r1, q1⟩ => ?_)
  obtain ⟨rfl, rfl⟩ := q1
  obtain rfl : u = Value.ref g := r1
  have t1 := t.weak I1 hx ex hns
  obtain ⟨oc, od, fd, osl, h1, h2⟩ := t1.obj
  subst h2
  refine PySem.W.callWith_F0 ⟨_, _, _, _, h1⟩ ?_
  refine wpAny_call (codeAny_mono (t1.run X.A X.stack s1 H1 Q E0 I1.env0 hr gd Un.refl (Ex.refl _) q) fun r s' hq => ?_)
  cases r with
  | error e => exact hq.elim
  | ok fl =>
    cases fl with
    | ret u => exact I1.after hq
    | next => exact False.elim hq
    | brk => exact False.elim hq
    | cont => exact False.elim hq
theorem told_run {st : Stmt} {f g : Addr} {fd : FuncData} {cd : Value} {N : List Str} {x : Str} (F : FunC K x st f fd cd) (Sc : FnScope N [("call" : Str)] (defScope st)) (hN : N[0]? = some ("call" : Str)) (hv : Vis (defScope st) "call") {j : Nat} {p1 p2 p3 p4 p5 p6 : Pos} {h0 : ExceptHandler} {hs : List ExceptHandler}
    (hb : defBody st = [.Try [.Return (some (.List [.Constant (.str "told") j p1, .Call (.Name "call" p2) [] [] p3] p4)) p5] (h0 :: hs) [] [] p6])
    {A : Around} {outer : List Env} {s : Shared} {H : Hp} {args : Args} {k : Nat} {d : D} {Q : VK} {E : XK} (hr : Room (k + 1) A) (gd : A.guards = some []) (e0 : Env0 P w K mg base A outer s H) (hbn : BindsTo s fd args ([("call" : Str)].zip [Value.ref g]))
    (t : Thk P w K mg base (frs outer) O H s.heap k g d) (dom : ∀ a, a ∈ O → H a ≠ none) (q : ∀ v H', Ex H H' → Rp K O H' v (.list [.str "told", d]) → Q v H') : codeAny (model P w) A (.call (.ref f) args) (CR CX0 outer P w H s Q E) s := by
  obtain ⟨oc, od, kV, doc, pm, an, ct, osl, e, lk, hcd⟩ := F.ex
  subst e
  refine LamX.run_ofS (vs := [.ref g]) lk hcd Sc hr e0 hbn (.cons rfl .nil) rfl fun hr' => ?_
  have lt : g < s.heap.objs.size := by
    obtain ⟨oc, od, fd, osl, h1, _⟩ := t.obj
    exact Heap.lt_size h1
  have act : PE (cxOf CX0 P w K mg base N x (defScope st) f cd A outer s H E).nox (.Call (.Name "call" p2) [] [] p3) _ :=
    pe_thk (i := 0) (a := "call") (g := g) (O := O) (k := k) (d := d) t hr' gd rfl rfl (Nat.ne_of_lt lt) hN hv
  refine ⟨_, by rw [hb]; exact pss_one (ps_try_thru0 (pss_one (ps_ret (pe_lst (pa_cons pe_str (pa_cons act pa_nil)))))), ?_⟩
  have h0 : (L2.start N [V.ref g])[0]? = some (some (V.ref g)) := by
    cases N with
    | nil => simp at hN
    | cons a b => rfl
  refine ⟨h0, Ex.refl H, fun v H' e1 r => ⟨by show 2 ≤ sizeLine; rw [sizeLine_eq]; omega, fun p hp => ?_⟩⟩
  refine q _ _ (e1.trans (Ex.new hp)) (.lst upd_same (fun m => dom p m (e1.back hp)) ?_)
  exact .cons (.str _) (.one (r.ext (Ex.new hp)))
end
end Y

namespace Y
open PySem PySem.Spec PyProof.Rows L2

/-! ## a lambda is made: only tables have grown -/
structure Grown (T : List (Addr × Str)) (H H1 : Hp) : Prop where
  kp : Kp true [] H H1
  th : ∀ x, H1 x = none → H x = none
  tabs : LamX.Tabs T H1
theorem Grown.refl {T : List (Addr × Str)} {H : Hp} (t : LamX.Tabs T H) : Grown T H H := ⟨Kp.refl, fun _ h => h, t⟩
section
variable {X : Cx} {pins : List (Addr × Obj)} {σ : L2.St} {H : Hp} {s : Shared}
theorem make_lam {T : List (Addr × Str)} {c P : Addr} {params : Arguments} {body : Expr} {scope : Scope} {pos : Pos} {E : Value → Shared → Prop} {Q : Value → Shared → Prop} (I : Inv X pins σ H s) (TB : LamX.TabB X.base X.mg c P) (hcode : X.env.code = .ref c)
    (hm : (P, X.env.qual ++ "<lambda>") ∈ T) (hu : ∀ p ∈ T, p.1 = P → p.2 = X.env.qual ++ "<lambda>") (hT : LamX.Tabs T H) (hdef : defaultsOf params X.env = ([], [])) (L : LamX.LamS X.env.scope scope)
    (k : ∀ (f c' : Addr) (pm ctv : Value) (H1 : Hp) (s' : Shared), Inv X pins σ H1 s' → Grown T H H1 → s'.heap.get? f = some (PySem.W.kla_obj "<lambda>" (X.env.qual ++ "<lambda>") params body scope (cloFrom X.env.cells scope.names []) pm c' ctv) →
      H1 f = none → f ∉ frs X.stack → H1 c' = some (LamX.CodeO c' (X.env.qual ++ "<lambda>")) → Q (.ref f) s') : wpAny (model X.prog X.w) X.A (eval (.Lambda params body scope pos) X.env) Q E s := by
  obtain ⟨tb, atP, trip, told⟩ := hT _ hm
  have getP : s.heap.get? P = some { cls := .none, data := .fields tb } := I.hok P _ atP
  have builtP : s.heap.BuiltinsAt X.mg P := TB.bm.keeps I.bk
  have codeP := TB.code.keeps I.bk
  have clo := L.has I.ok
  have outside : ∀ g, s.heap.objs.size ≤ g → g ∉ frs X.stack := fun g hg z => by
    rcases List.mem_cons.mp (I.stkSub _ z) with q | q
    · exact absurd (q ▸ I.lt : g < _) (Nat.not_lt.mpr hg)
    · exact I.nofs hg q
  refine PySem.W.kla_eval hdef ?_
  cases hit : codeAmong pos tb.toList with
  | some cv =>
    obtain ⟨c1, rfl, known⟩ := told pos cv hit
    refine PySem.W.kla_makeFunctionHit (mg := X.mg) (c := c) (P := P) (ps := tb) (closure_ok clo) I.ok.glob (I.mod.glob.keeps I.bk) hcode codeP getP trip hit builtP fun ctv h1 tk grow size => ?_
    refine k h1.objs.size c1 _ ctv H _ (I.kept fun b u z => Heap.get?_push_of_some _ (grow b u z)) (Grown.refl hT) (Heap.get?_push_size _ rfl) (I.hok.fresh size) (outside _ size) known
  | none =>
    refine PySem.W.kla_makeFunction (mg := X.mg) (c := c) (P := P) (ps := tb) (closure_ok clo) I.ok.glob (I.mod.glob.keeps I.bk) hcode codeP getP trip hit TB.gP builtP fun c1 ctv h1 tk grow ge lt rec tabl => ?_
    obtain ⟨c2, oc, fs, t, same, hoc, hd, hv⟩ := rec
    cases same
    have new1 : H c1 = none := I.hok.fresh ge
    have size : s.heap.objs.size ≤ h1.objs.size := by omega
    have neP : P ≠ c1 := ne_of_none atP new1
    have ltP := Heap.lt_size getP
    refine k h1.objs.size c1 _ ctv _ _ (LamX.inv_table (t' := tk) (more := #[rawInt pos.line, rawInt pos.col, .ref c1]) I atP (fun b u n z => Heap.get?_push_of_some _ (grow b u n z)) (Heap.get?_push_of_some _ tabl) ge ⟨oc, fs, t, Heap.get?_push_of_some _ hoc, hd, hv⟩)
      ⟨fun a o z _ nt => ?_, fun a z => ?_, fun p hp => ?_⟩ (Heap.get?_push_size _ rfl) ?_ (outside _ size) upd_same
    · rw [upd_ne (ne_of_none z new1), upd_ne fun q => ?_]
      · exact z
      · rw [q, atP] at z
        exact nt rfl tb (Option.some.inj z).symm
    · by_cases e1 : a = c1
      · rw [e1, upd_same] at z; cases z
      · rw [upd_ne e1] at z
        by_cases e2 : a = P
        · rw [e2, upd_same] at z; cases z
        · rwa [upd_ne e2] at z
    · have other : ∀ b q, H b = some (LamX.CodeO b q) → (upd (upd H P (.tbl (tb ++ #[rawInt pos.line, rawInt pos.col, .ref c1]))) c1 (LamX.CodeO c1 (X.env.qual ++ "<lambda>"))) b = some (LamX.CodeO b q) := fun b q z => by
        rw [upd_ne (ne_of_none z new1), upd_ne fun y => ?_]
        · exact z
        · rw [y, atP] at z
          exact absurd (Option.some.inj z).symm (LamX.codeO_ne _)
      by_cases e : p.1 = P
      · rw [hu p hp e, e]
        have lst : (tb ++ #[rawInt pos.line, rawInt pos.col, .ref c1]).toList = tb.toList ++ [rawInt pos.line, rawInt pos.col, .ref c1] := by simp
        refine ⟨_, by rw [upd_ne neP, upd_same], by rw [lst]; exact PySem.TriplesOk_snoc _ _ _ _ trip, fun p' cv z => ?_⟩
        rw [lst] at z
        rcases LamX.among_app _ trip z with z | z
        · obtain ⟨c0, z1, z2⟩ := told p' cv z
          exact ⟨c0, z1, other c0 _ z2⟩
        · exact ⟨c1, z, upd_same⟩
      · obtain ⟨tb', z1, z2, z3⟩ := hT p hp
        refine ⟨tb', by rw [upd_ne (ne_of_none z1 new1), upd_ne e]; exact z1, z2, fun p' cv z => ?_⟩
        obtain ⟨c0, y1, y2⟩ := z3 p' cv z
        exact ⟨c0, y1, other c0 _ y2⟩
    · rw [upd_ne (Nat.ne_of_gt lt), upd_ne (Nat.ne_of_gt (Nat.lt_of_lt_of_le ltP size))]
      exact I.hok.fresh size
end

/-! ## _law_told, _law_same, _law_is -/
def lawC : Str := "call"
/-- the text of _law_told, as far as it is walked -/
structure ToldSt (st : Stmt) (N : List Str) : Prop where
  sc : FnScope N [("call" : Str)] (defScope st)
  n0 : N[0]? = some ("call" : Str)
  vis : Vis (defScope st) "call"
  body : ∃ (j : Nat) (p1 p2 p3 p4 p5 p6 : Pos) (h0 : ExceptHandler) (hs : List ExceptHandler), defBody st = [.Try [.Return (some (.List [.Constant (.str "told") j p1, .Call (.Name "call" p2) [] [] p3] p4)) p5] (h0 :: hs) [] [] p6]
structure ToldC (P : Program) (w : World) (K : Fg) (mg : Str → Option Value) (base : Heap) : Prop where
  ex : ∃ (f : Addr) (fd : FuncData), mg "_law_told" = some (.ref f) ∧ PySem.W.keepIn K (.ref f) = true ∧ Binds K fd [("call" : Str)] [] ∧
    ∀ (A : Around) (outer : List Env) (s : Shared) (H : Hp) (args : Args) (k : Nat) (g : Addr) (O : List Addr) (d : D) (Q : VK) (E : XK), Room (k + 1) A → A.guards = some [] → Env0 P w K mg base A outer s H → BindsTo s fd args ([("call" : Str)].zip [Value.ref g]) →
      Thk P w K mg base (frs outer) O H s.heap k g d → (∀ a, a ∈ O → H a ≠ none) → (∀ v H', Ex H H' → Rp K O H' v (.list [.str "told", d]) → Q v H') → codeAny (model P w) A (.call (.ref f) args) (CR CX0 outer P w H s Q E) s
def sameF : List D → Option D
  | [a, b] => if (deq a b && okShow a && noDict a && isRef a) = true then some (.bool true) else none
  | _ => none
def toldD (d : D) : D := .list [.str "told", d]
section
variable {P : Program} {w : World} {K : Fg} {mg : Str → Option Value} {base : Heap}
theorem c_told {st : Stmt} {f : Addr} {fd : FuncData} {N : List Str} (hm : mg "_law_told" = some (.ref f)) (F : Fun K "_law_told" "_law_told" st f fd) (T : ToldSt st N) (hb : Binds K fd [("call" : Str)] []) : ToldC P w K mg base := by
  obtain ⟨cd, Fc⟩ := Fun.c F
  obtain ⟨j, p1, p2, p3, p4, p5, p6, h0, hs, e⟩ := T.body
  exact ⟨f, fd, hm, F.kp, hb, fun A outer s H args k g O d Q E hr gd e0 bt t dom q => told_run Fc T.sc T.n0 T.vis e hr gd e0 bt t dom q⟩
theorem pe_told {X : Cx} (C : ToldC X.prog X.w X.K X.mg X.base) {g : Addr} {k : Nat} {O : List Addr} {d : D} {i : Nat} {a : Str} {p1 p2 p3 : Pos} (t : Thk X.prog X.w X.K X.mg X.base X.fs O X.H_0 X.s_0.heap k g d) (dom : ∀ a, a ∈ O → X.H_0 a ≠ none) (hr : Room (k + 1) X.A) (gd : X.A.guards = some []) (hx : X.ex = []) (hns : g ≠ X.env.locals)
    (hg : Gl X "_law_told") (hN : X.N[i]? = some a) (hv : Vis X.env.scope a) (hd : (a == ("__debug__" : Str)) = false := by decide) (hcd : (a == ("__classdict__" : Str)) = false := by decide) :
    PE X (.Call (.Name "_law_told" p1) [.Name a p2] [] p3) (fun σ H Q => σ[i]? = some (some (.ref g)) ∧ Ex X.H_0 H ∧ ∀ v H', Ex H H' → Rp X.K O H' v (toldD d) → Q v H') := by
  obtain ⟨f, fd, hm, kp, hb, run⟩ := C.ex
  refine ⟨fun pins s σ H Q I h => ?_⟩
  obtain ⟨hs, ex, q⟩ := h
  refine wpAny_Call_Name_kw (ld_glob I hg hm ?_ (by decide))
  refine PySem.W.callWith_K (h₀ := X.base) I.ok.mod.kin kp (thn ((pa_cons (pe_var hN hv hd hcd) pa_nil).run p3 pins s σ H (fun vs H1 => vs = [.ref g] ∧ H1 = H) I ⟨_, hs, rfl, rfl⟩) fun us s1 ⟨vs, H1, I1, r, q1⟩ => ?_) rfl rfl
  obtain ⟨rfl, rfl⟩ := q1
  obtain ⟨u, rfl, ru⟩ := vals1 r
  obtain rfl : u = Value.ref g := ru
  have bt := hb s1 [.ref g] I1.kIn rfl
  rw [List.append_nil] at bt
  refine ⟨I1.kIn, wpAny_call (codeAny_mono (run X.A X.stack s1 H1 ⟨[.ref g], []⟩ k g O d Q E0 hr gd I1.env0 bt (t.weak I1 hx ex hns) (fun a m z => dom a m (ex.back z)) q) fun r s' hq => ?_)⟩
  cases r with
  | error e => exact hq.elim
  | ok fl =>
    cases fl with
    | ret u => exact I1.after hq
    | next => exact False.elim hq
    | brk => exact False.elim hq
    | cont => exact False.elim hq
/-- the text of _law_is -/
structure IsSt (st : Stmt) (N : List Str) : Prop where
  sc : FnScope N [("due" : Str), "call", "named"] (defScope st)
  n0 : N[0]? = some ("due" : Str)
  n1 : N[1]? = some ("call" : Str)
  n2 : N[2]? = some ("named" : Str)
  v0 : Vis (defScope st) "due"
  v1 : Vis (defScope st) "call"
  v2 : Vis (defScope st) "named"
  gs : (defScope st).names.lookup ("_law_same" : Str) = some .globalImplicit
  gt : (defScope st).names.lookup ("_law_told" : Str) = some .globalImplicit
  body : ∃ (j1 j2 : Nat) (p1 p2 p3 p4 p5 p6 p7 p8 p9 q1 q2 q3 q4 q5 q6 q7 : Pos), defBody st = [.Return (some (.Call (.Name "_law_same" p1) [.List [.Call (.Name "_law_told" p2) [.Name "call" p3] [] p4, .Call (.Name "_law_told" p5) [.Name "named" p6] [] p7] p8,
    .BinOp (.List [.List [.Constant (.str "told") j1 p9, .Name "due" q1] q2] q3) .Mult (.Constant (.int 2) j2 q4) q5] [] q6)) q7]
structure IsC (P : Program) (w : World) (K : Fg) (mg : Str → Option Value) (base : Heap) : Prop where
  ex : ∃ (f : Addr) (fd : FuncData), mg "_law_is" = some (.ref f) ∧ PySem.W.keepIn K (.ref f) = true ∧ Binds K fd [("due" : Str), "call", "named"] [] ∧
    ∀ (A : Around) (outer : List Env) (s : Shared) (H : Hp) (args : Args) (k : Nat) (u : Value) (v : V) (g1 g2 : Addr) (O : List Addr) (d : D) (Q : VK) (E : XK), Room (k + 2) A → 2 ≤ k → A.guards = some [] → Env0 P w K mg base A outer s H → BindsTo s fd args ([("due" : Str), "call", "named"].zip [u, Value.ref g1, .ref g2]) → RelV v u → Rp K O H v d →
      Thk P w K mg base (frs outer) O H s.heap k g1 d → Thk P w K mg base (frs outer) O H s.heap k g2 d → (∀ a, a ∈ O → H a ≠ none) → sameF [.list [toldD d, toldD d], .list [toldD d, toldD d]] = some (.bool true) → (∀ H', Ex H H' → Q (.bl true) H') → codeAny (model P w) A (.call (.ref f) args) (CR CX0 outer P w H s Q E) s
theorem c_is {st : Stmt} {f : Addr} {fd : FuncData} {N : List Str} (hm : mg "_law_is" = some (.ref f)) (F : Fun K "_law_is" "_law_is" st f fd) (T : IsSt st N) (hb : Binds K fd [("due" : Str), "call", "named"] []) (Ct : ToldC P w K mg base) (Cs : CallG P w K mg base "_law_same" ["one", "other"] 2 (spF K false 2 sameF)) : IsC P w K mg base := by
  obtain ⟨cd, Fc⟩ := Fun.c F
  obtain ⟨oc, od, kV, doc, pm, an, ct, osl, e, lk, hcd⟩ := Fc.ex
  subst e
  refine ⟨f, _, hm, F.kp, hb, fun A outer s H args k u v g1 g2 O d Q E hr hk gd e0 bt ru rp t1 t2 dom sm q => ?_⟩
  refine LamX.run_ofS (vs := [v, .ref g1, .ref g2]) lk hcd T.sc hr e0 bt (.cons ru (.cons rfl (.cons rfl .nil))) rfl fun hr' => ?_
  have lt : ∀ {g}, Thk P w K mg base (frs outer) O H s.heap k g d → g ≠ s.heap.objs.size := fun t => by
    obtain ⟨_, _, _, _, h1, _⟩ := t.obj
    exact Nat.ne_of_lt (Heap.lt_size h1)
  obtain ⟨j1, j2, p1, p2, p3, p4, p5, p6, p7, p8, p9, q1, q2, q3, q4, q5, q6, q7, eb⟩ := T.body
  have a1 : PE (cxOf CX0 P w K mg base N "_law_is" (defScope st) f cd A outer s H E).nox (.Call (.Name "_law_told" p2) [.Name "call" p3] [] p4) _ :=
    pe_told (i := 1) (a := "call") (g := g1) (O := O) (k := k) (d := d) Ct t1 dom hr' gd rfl (lt t1) T.gt T.n1 T.v1
  have a2 : PE (cxOf CX0 P w K mg base N "_law_is" (defScope st) f cd A outer s H E).nox (.Call (.Name "_law_told" p5) [.Name "named" p6] [] p7) _ :=
    pe_told (i := 2) (a := "named") (g := g2) (O := O) (k := k) (d := d) Ct t2 dom hr' gd rfl (lt t2) T.gt T.n2 T.v2
  obtain ⟨N', rfl⟩ : ∃ N', N = ("due" : Str) :: ("call" : Str) :: ("named" : Str) :: N' := by
    have h0 := T.n0
    have h1 := T.n1
    have h2 := T.n2
    cases N with
    | nil => cases h0
    | cons a N =>
      cases N with
      | nil => cases h1
      | cons b N =>
        cases N with
        | nil => cases h2
        | cons c N => cases h0; cases h1; cases h2; exact ⟨N, rfl⟩
  have z2 : ∀ n : Nat, n ≤ 2 → n ≤ sizeLine := fun n h => by rw [sizeLine_eq]; omega
  refine ⟨_, by rw [eb]; exact (pss_one (ps_ret (pe_callG (X := (cxOf CX0 P w K mg base (("due" : Str) :: "call" :: "named" :: N') "_law_is" (defScope st) f cd A outer s H E).nox) (j := k + 1) Cs hr' gd T.gs (pa_cons (pe_lst (pa_cons a1 (pa_cons a2 pa_nil))) (pa_cons (pe_op op_rep (pe_lst (pa_cons (pe_lst (pa_cons pe_str (pa_cons (pe_var (i := 0) T.n0 T.v0) pa_nil))) pa_nil)) pe_int) pa_nil)) (by omega)))).nox, ?_⟩
  refine ⟨rfl, Ex.refl H, fun v1 H1 x1 r1 => ⟨rfl, x1, fun v2 H2 x2 r2 => ⟨z2 2 (by decide), fun p hp => ?_⟩⟩⟩
  refine ⟨v, rfl, z2 2 (by decide), fun p' hp' => ⟨z2 1 (by decide), fun p'' hp'' => ⟨p'', 2, [.ref p'], rfl, rfl, upd_same, by decide, by decide, z2 2 (by decide), fun w hw => ?_⟩⟩⟩
  have y1 : Ex H2 (upd H2 p (.lst [v1, v2])) := Ex.new hp
  have y2 := Ex.new (o := .lst [V.str "told", v]) hp'
  have y3 := Ex.new (o := .lst [V.ref p']) hp''
  have y4 := Ex.new (o := .lst (List.replicate (Int.toNat 2) [V.ref p']).flatten) hw
  have n0 : ∀ {H' : Hp} {a : Addr}, Ex H H' → H' a = none → a ∉ O := fun e z m => dom _ m (e.back z)
  have e2 := x1.trans x2
  have e3 := e2.trans y1
  have e4 := e3.trans y2
  have e5 := e4.trans y3
  have rT : Rp K O (upd (upd (upd H2 p (.lst [v1, v2])) p' (.lst [V.str "told", v])) p'' (.lst [V.ref p'])) (.ref p') (toldD d) :=
    (Rp.lst upd_same (n0 e3 hp') (.cons (.str _) (.one (rp.ext e4)))).ext y3
  refine ⟨O, [.list [toldD d, toldD d], .list [toldD d, toldD d]], .bool true, rfl, fun a m z => dom a m ((e5.trans y4).back z), .cons ?_ (.one ?_), sm, fun r Hr er rr => ?_⟩
  · exact Rp.ext ((y2.trans y3).trans y4) (.lst upd_same (n0 e2 hp) (.cons (r1.ext (x2.trans y1)) (.one (r2.ext y1))))
  · exact .lst upd_same (n0 e5 hw) (.cons (rT.ext y4) (.one (rT.ext y4)))
  · cases rr
    exact q Hr ((e5.trans y4).trans er)
end
end Y

namespace Y
open PySem PySem.Spec PyProof.Rows L2

/-! ## the judge called -/
structure LQ (X : Cx) (T : List (Addr × Str)) (k : Nat) (e : Expr) (m : S → Option D) : Prop where
  ex : ∃ (params : Arguments) (body : Expr) (scope : Scope) (pos : Pos) (kd : Kd), e = .Lambda params body scope pos ∧ kd ≠ .r ∧ LamX.LamS X.env.scope scope ∧ defaultsOf params X.env = ([], []) ∧
    (∀ (q : Str) (cl : List (Str × Addr)) (pm cv ctv : Value), bindArgs (PySem.W.kla_fn "<lambda>" q params body scope cl pm cv ctv) ⟨[], []⟩ = pure []) ∧
    ∀ (A : Around) (outer : List Env) (s : Shared) (H : Hp) (f c' : Addr), Room k (A.deeper (LamX.lamEnv X scope s.heap.objs.size f c')) → A.guards = some [] → QE (LamX.lamCx X A outer s H (fun _ _ _ => False) scope f c') T true kd body m
structure TabOk (base : Heap) (mg : Str → Option Value) (T : List (Addr × Str)) (cd : Value) (q : Str) : Prop where
  ex : ∃ (c P : Addr), LamX.TabB base mg c P ∧ cd = .ref c ∧ (P, q) ∈ T ∧ ∀ p ∈ T, p.1 = P → p.2 = q
theorem TabOk.of {base : Heap} {mg : Str → Option Value} {T : List (Addr × Str)} {c P : Addr} {q : Str} (B : LamX.TabB base mg c P) (hm : (P, q) ∈ T) (hn : (T.map (·.1)).Nodup) : TabOk base mg T (.ref c) q := by
  refine ⟨c, P, B, rfl, hm, fun p hp e => ?_⟩
  induction T with
  | nil => cases hm
  | cons x T ih =>
    rw [List.map_cons, List.nodup_cons] at hn
    rcases List.mem_cons.mp hm with h1 | h1 <;> rcases List.mem_cons.mp hp with h2 | h2
    · rw [h2, ← h1]
    · exact absurd (List.mem_map.mpr ⟨p, h2, by rw [e, ← h1]⟩) hn.1
    · exact absurd (List.mem_map.mpr ⟨_, h1, by rw [← h2, e]⟩) hn.1
    · exact ih h1 hn.2 h2
def isOk (d d1 d2 : D) : Bool := deq d1 d && (deq d2 d && (okShow (.list [toldD d, toldD d]) && noDict d))
def isM (n : S → Option (D × S)) (m1 m2 : S → Option D) : S → Option (D × S) := fun s => (n s).bind fun p => (m1 p.2).bind fun d1 => (m2 p.2).bind fun d2 => if isOk p.1 d1 d2 = true then some (.bool true, p.2) else none
theorem isOk_same {d d1 d2 : D} (h : isOk d d1 d2 = true) : d1 = d ∧ d2 = d ∧ sameF [.list [toldD d, toldD d], .list [toldD d, toldD d]] = some (.bool true) := by
  unfold isOk at h
  simp only [Bool.and_eq_true] at h
  obtain ⟨h1, h2, h3, h4⟩ := h
  have n : noDict (.list [toldD d, toldD d]) = true := by simp [toldD, noDict, noDicts, h4]
  refine ⟨deq_eq h1, deq_eq h2, ?_⟩
  simp only [sameF, deq_refl _ n, h3, n, isRef, Bool.and_self, if_true]
section
variable {X : Cx} {T : List (Addr × Str)} {k : Nat} {p pos : Pos}
theorem lq_make {pins : List (Addr × Obj)} {σ : L2.St} {H : Hp} {s : Shared} {e : Expr} {m : S → Option D} {Q : Value → Shared → Prop} (h : LQ X T k e m) (TO : TabOk X.base X.mg T X.env.code (X.env.qual ++ "<lambda>")) (I : Inv X pins σ H s) (hT : LamX.Tabs T H)
    (q : ∀ (f : Addr) (ob : Obj) (H1 : Hp) (s' : Shared), Inv X pins σ H1 s' → Grown T H H1 → (s'.heap.get? f = some ob ∧ H1 f = none ∧ f ≠ X.env.locals ∧ f ∉ X.fs ∧ ∀ v, ob.data ≠ .cell v) →
      (∀ (H2 : Hp) (s2 : Shared) (pins2 : List (Addr × Obj)), Inv X pins2 σ H2 s2 → Grown T H1 H2 → (f, ob) ∈ pins2 → ∀ (E : Ent) (O : List Addr) (st : S) (d : D), Sim ⟨X.K, T, true⟩ E O σ H2 st → m st = some d → Thk X.prog X.w X.K X.mg X.base (frs X.stack) O H2 s2.heap (k + 1) f d) → Q (.ref f) s') :
    wpAny (model X.prog X.w) X.A (eval e X.env) Q X.xe s := by
  obtain ⟨params, body, scope, lp, kd, rfl, hk, L, hdef, hbind, hbody⟩ := h.ex
  obtain ⟨c, P, B, hc, hm, hu⟩ := TO.ex
  refine make_lam I B hc hm hu hT hdef L fun f c' pm ctv H1 s' I1 g hf hfn hfr hco => ?_
  have hL : f ≠ X.env.locals := fun z => by
    obtain ⟨_, ⟨o, es, ep, ho, hd, _⟩, _⟩ := I1.loc
    rw [← z, hf] at ho
    cases ho
    cases hd
  have hS : ∀ b ∈ X.fs, b ∈ frs X.stack := fun b hb => by
    rcases I1.ok.stk with z | ⟨z, zf⟩
    · rw [z]; exact hb
    · rw [z]
      unfold frs
      rw [List.filterMap_cons, zf]
      exact List.mem_cons_of_mem _ hb
  have hF : f ∉ X.fs := fun z => hfr (hS f z)
  refine q f _ H1 s' I1 g ⟨hf, hfn, hL, hF, fun v z => by cases z⟩ fun H2 s2 pins2 I2 g2 hp E O st d sm hd => ?_
  obtain ⟨a1, a2, _, a4, _⟩ := I2.pin _ (List.mem_append_right _ hp)
  exact lam_thk I2 L a1 a2 hfr (g2.kp _ _ hco (fun z => by cases z) fun _ ps z => LamX.codeO_ne ps z) (hbind _ _ _ _ _) (hbody · · · · f c') sm hd hk
theorem e_is {e l1 l2 : Expr} {n : S → Option (D × S)} {m1 m2 : S → Option D} {j : Nat} (C : IsC X.prog X.w X.K X.mg X.base) (TO : TabOk X.base X.mg T X.env.code (X.env.qual ++ "<lambda>")) (hr : Room j X.A) (gd : X.A.guards = some []) (hg : Gl X "_law_is") (h : EE X T true e n) (h1 : LQ X T k l1 m1) (h2 : LQ X T k l2 m2) (hk : k + 3 ≤ j := by decide) (hk1 : 1 ≤ k := by decide)
    (s1 : starEach [e, l1, l2] X.env = (false, eval e X.env) :: starEach [l1, l2] X.env := by rfl) (s2 : starEach [l1, l2] X.env = (false, eval l1 X.env) :: starEach [l2] X.env := by rfl) (s3 : starEach [l2] X.env = (false, eval l2 X.env) :: starEach [] X.env := by rfl)
    (hpl : (backTo pos (starEach [l1, l2] X.env)).any (·.1) = false := by rfl) : EE X T true (.Call (.Name "_law_is" p) [e, l1, l2] [] pos) (isM n m1 m2) := by
  obtain ⟨f, fd, hm, kp, hb, run⟩ := C.ex
  refine ⟨fun pins s σ H Q I hq => ?_⟩
  obtain ⟨E, O, st, d, st', sm, hd, q⟩ := hq
  obtain ⟨⟨due, st1⟩, hn, hd⟩ := Option.bind_eq_some_iff.mp hd
  obtain ⟨d1, hd1, hd⟩ := Option.bind_eq_some_iff.mp hd
  obtain ⟨d2, hd2, hd⟩ := Option.bind_eq_some_iff.mp hd
  split at hd
  case isFalse => cases hd
  case isTrue ok =>
  cases hd
  obtain ⟨e1, e2, ok'⟩ := isOk_same ok
  dsimp only at e1 e2 hd1 hd2 ok'
  subst e1
  subst e2
  refine wpAny_Call_Name_kw (ld_glob I hg hm ?_ (by decide))
  refine PySem.W.callWith_K (h₀ := X.base) I.ok.mod.kin kp ?_ s1 hpl
  rw [s1, s2, s3]
  show wpAny _ _ (spliced ((false, eval e X.env) :: (false, eval l1 X.env) :: (false, eval l2 X.env) :: [])) _ _ s
  refine Calls.spliced_cons (thn (h.run pins s σ H (fun v H1 => ∃ O1, Stp true O H O1 H1 ∧ Sim ⟨X.K, T, true⟩ E O1 σ H1 st1 ∧ Rp X.K O1 H1 v _) I ⟨E, O, st, _, st1, sm, hn, fun v H1 O1 stp sm1 r => ⟨O1, stp, sm1, r⟩⟩) fun u s1 ⟨v, H1, I1, rv, O1, stp1, sm1, rp⟩ => ?_)
  refine Calls.spliced_cons (lq_make h1 TO I1 sm1.tabs fun f1 ob1 H2 s2 I2 g2 pin1 th1 => ?_)
  have I2' : Inv X ((f1, ob1) :: pins) σ H2 s2 := I2.pins_of fun p hp => by
    rcases List.mem_cons.mp hp with rfl | hp
    · exact pin1
    · exact I2.pin _ (List.mem_append_right _ hp)
  have sm2 : Sim ⟨X.K, T, true⟩ E O1 σ H2 st1 := sm1.kept g2.kp g2.th g2.tabs
  refine Calls.spliced_cons (lq_make h2 TO I2' g2.tabs fun f2 ob2 H3 s3 I3 g3 pin2 th2 => ?_)
  have I3' : Inv X ((f2, ob2) :: (f1, ob1) :: pins) σ H3 s3 := I3.pins_of fun p hp => by
    rcases List.mem_cons.mp hp with rfl | hp
    · exact pin2
    · exact I3.pin _ (List.mem_append_right _ hp)
  have sm3 : Sim ⟨X.K, T, true⟩ E O1 σ H3 st1 := sm2.kept g3.kp g3.th g3.tabs
  have I4 : Inv X pins σ H3 s3 := I3.pins_of fun p hp => I3.pin _ (List.mem_append_right _ (List.mem_cons_of_mem _ hp))
  have k1 := g2.kp
  have stp2 : Stp true O1 H1 O1 H3 := (g2.kp.stp (fun a z => by cases z) g2.th).trans (g3.kp.stp (fun a z => by cases z) g3.th)
  refine Calls.spliced_nil ⟨I4.kIn, ?_⟩
  have bt := hb s3 [u, .ref f1, .ref f2] I4.kIn rfl
  rw [List.append_nil] at bt
  refine wpAny_call (codeAny_mono (run X.A X.stack s3 H3 ⟨[u, .ref f1, .ref f2], []⟩ (k + 1) u v f1 f2 O1 d2 Q E0 (hr.mono hk) (by omega) gd I4.env0 bt rv (rp.step stp2)
    (th1 H3 s3 _ I3' g3 (by simp) E O1 st1 _ sm3 hd1) (th2 H3 s3 _ I3' (Grown.refl g3.tabs) (by simp) E O1 st1 _ sm3 hd2) sm3.dom ok' fun H' ex => ?_) fun r s' hq => ?_)
  · exact q (.bl true) H' O1 ((stp1.trans stp2).trans (Stp.of_ex ex)) (sm3.ext ex) (.bl true)
  cases r with
  | error e => exact hq.elim
  | ok fl =>
    cases fl with
    | ret u => exact I4.after hq
    | next => exact False.elim hq
    | brk => exact False.elim hq
    | cont => exact False.elim hq
end
end Y

namespace Y
open PySem PySem.Spec PyProof.Rows L2

/-! ## f(k = e, ..), nothing by place -/
def perm {α : Type} (π : List Nat) (l : List α) : List α := π.filterMap fun i => l[i]?
theorem vals_perm {xs : List V} {us : List Value} (r : Vals xs us) : ∀ π : List Nat, Vals (perm π xs) (perm π us)
  | [] => .nil
  | i :: π => by
    unfold Y.perm
    rw [List.filterMap_cons, List.filterMap_cons]
    cases e : xs[i]? with
    | none =>
      rw [r.none_of e]
      exact vals_perm r π
    | some x =>
      obtain ⟨u, h1, h2⟩ := r.get e
      rw [h1]
      exact .cons h2 (vals_perm r π)
theorem Rps.perm {K : Fg} {O : List Addr} {H : Hp} {xs : List V} {us : List D} (r : Rps K O H xs us) : ∀ π : List Nat, Rps K O H (perm π xs) (perm π us)
  | [] => .nil
  | i :: π => by
    unfold Y.perm
    rw [List.filterMap_cons, List.filterMap_cons]
    cases e : xs[i]? with
    | none =>
      cases e2 : us[i]? with
      | none => exact Rps.perm r π
      | some d =>
        obtain ⟨v, h1, _⟩ := r.get e2
        rw [e] at h1
        cases h1
    | some x =>
      obtain ⟨u, h1, h2⟩ := r.get' e
      rw [h1]
      exact .cons h2 (Rps.perm r π)
/-- how the names given are put in order -/
def KwB (x : Str) (st : Stmt) (ps ks : List Str) (π : List Nat) : Prop := ∀ (kV doc pm : Value) (an : Option Addr) (cdv ct : Value) (ws : List Value), ws.length = ks.length →
  bindArgs (PySem.W.fnOf x x (defArgs st) (defBody st) (defScope st) .none kV doc pm an cdv ct) ⟨[], ks.zip ws⟩ = pure (ps.zip (perm π ws))
abbrev QK (X : Cx) (T : List (Addr × Str)) (tb : Bool) (kws : List Keyword) (n : S → Option (List D)) : Prop := PK X kws (tAQ ⟨X.K, T, tb⟩ true n)
theorem imp_k {X : Cx} {kws : List Keyword} {t t' : TA} (h : PK X kws t) (hi : ∀ σ H Q, t' σ H Q → t σ H Q) : PK X kws t' := ⟨fun p pins s σ H Q I hw => h.run p pins s σ H Q I (hi σ H Q hw)⟩
section
variable {X : Cx} {T : List (Addr × Str)} {tb kr : Bool} {x : Str} {st : Stmt} {ps ks : List Str} {π : List Nat} {k : Nat} {F : List D → Option D}
theorem k_nil : QK X T tb [] argN := imp_k pk_nil fun σ H Q ⟨E, O, s, d, sm, hm, q⟩ => by
  cases hm
  exact q [] H (Ex.refl H) Rps.nil
theorem k_cons {e : Expr} {nm : Option Str} {kp : Pos} {kws : List Keyword} {kd : Kd} {m : S → Option D} {n : S → Option (List D)} (ha : QE X T tb kd e m) (hr : QK X T tb kws n) (nk : kd ≠ .r := by decide) : QK X T tb (⟨nm, e, kp⟩ :: kws) (argC m n) := imp_k (pk_cons ha hr) fun σ H Q h => by
  obtain ⟨E, O, s, d, sm, hm, q⟩ := h
  obtain ⟨y, hy, hm⟩ := Option.bind_eq_some_iff.mp hm
  obtain ⟨ys, hys, hm⟩ := Option.bind_eq_some_iff.mp hm
  cases hm
  exact ⟨E, O, s, y, sm, hy, fun v H1 e1 r1 => ⟨E, O, s, ys, sm.ext e1, hys, fun vs H2 e2 r2 => q (v :: vs) H2 (e1.trans e2) (Rps.cons ((r1.toI' nk).ext e2) r2)⟩⟩
theorem pass0' {X : Cx} : Passes CX0 X (fun _ _ _ => False) := pass0
theorem q_callK {kws : List Keyword} {p pos : Pos} {n : S → Option (List D)} {j : Nat} (C : CallF X.prog X.w X.K X.mg X.base x st ps k kr F) (hb : KwB x st ps ks π) (hr : Room j X.A) (hg : Gl X x) (ha : QK X T tb kws n) (hk : k ≤ j := by decide) (hl : ∀ s ds, n s = some ds → ds.length = ks.length) (hp : ∀ s ds, n s = some ds → (perm π ds).length = ps.length)
    (hall : (backToKw pos (keywordEach kws X.env)).all (·.1.isSome) = true := by rfl) (hks : (backToKw pos (keywordEach kws X.env)).filterMap (·.1) = ks := by rfl) (hdb : (x == ("__debug__" : Str)) = false := by decide)
    (hpl : ((backTo pos (starEach [] X.env)).any (·.1) || (backToKw pos (keywordEach kws X.env)).any (·.1.isNone)) = false := by rfl) : QE X T tb (kdOf kr) (.Call (.Name x p) [] kws pos) (callM (fun ds => F (perm π ds)) n) := by
  obtain ⟨f, fd, hm, Fn, _, ok⟩ := C.ex
  obtain ⟨oc, od, kV, doc, pm, an, cdv, ct, osl, efd, _, _⟩ := Fn.ex
  subst efd
  refine ⟨fun pins s σ H Q I h => ?_⟩
  obtain ⟨E, O, st', d, sm, hmm, q⟩ := h
  obtain ⟨xs, hxs, hF⟩ := Option.bind_eq_some_iff.mp hmm
  refine wpAny_Call_Name_kw (ld_glob I hg hm ?_ hdb)
  refine PySem.W.callWith_KW0 (h₀ := X.base) I.ok.mod.kin Fn.kp hall ?_ hpl
  refine thn (ha.run pos pins s σ H (fun vs H1 => Ex H H1 ∧ Rps X.K O H1 vs xs) I ⟨E, O, st', xs, sm, hxs, fun vs H1 e1 r1 => ⟨e1, r1⟩⟩) fun ws s2 ⟨zs, H2, I2, rz, e1, r1⟩ => ⟨I2.kIn, ?_⟩
  rw [hks]
  have dom := (sm.ext e1).dom
  have lw : ws.length = ks.length := by rw [← rz.length, r1.length]; exact hl _ _ hxs
  have bt := BindsTo.of_looks (s := s2) fun M => PySem.W.Looks.of_pure (hb kV doc pm an cdv ct ws lw)
  have hsp : spF X.K kr ps.length F (perm π zs) H2 Q E0 := ⟨O, perm π xs, d, by rw [(r1.perm π).length]; exact hp _ _ hxs, dom, r1.perm π, hF, fun v H' e r => q v H' (e1.trans e) ((r.res dom).from e1)⟩
  refine wpAny_call (codeAny_mono (ok.run X.A X.stack s2 H2 ⟨[], ks.zip ws⟩ (perm π ws) (perm π zs) Q E0 (hr.mono hk) I2.env0 bt (vals_perm rz π) hsp) fun r s' hq => ?_)
  cases r with
  | error e => exact hq.elim
  | ok fl =>
    cases fl with
    | ret u => exact I2.after hq
    | next => exact False.elim hq
    | brk => exact False.elim hq
    | cont => exact False.elim hq
end
end Y

namespace Y
open PySem PySem.Spec PyProof.Rows L2

/-! ## x[i] = e; pop; the bag's places -/
def setIxS (i : Nat) (mi : S → Option D) (m : S → Option (D × S)) : S → Option Fl := fun s => (m s).bind fun p => (olAt p.2 i).bind fun ds => (mi p.2).bind fun k => (intD k).bind fun k => (ixN ds.length k).bind fun j => some (.nx (p.2.set i (.ol (ds.set j p.1))))
def popM (i : Nat) : S → Option (D × S) := fun s => (olAt s i).bind fun ds => (ds[ds.length - 1]?).bind fun d => some (d, s.set i (.ol ds.dropLast))
def bagC (i : Nat) : S → Option D := fun s => (bagOf s i).map fun b => .int b.cur
def bagX (i : Nat) : S → Option D := fun s => (bagOf s i).map fun b => .int b.mix
def bagE (i : Nat) : S → Option Bool := fun s => (bagOf s i).map fun b => b.cells.isEmpty
def bagPop (i : Nat) : S → Option (D × S) := fun s => (bagOf s i).bind fun b => (b.cells[b.cells.length - 1]?).map fun c => (.int c, s.set i (.bag ⟨b.cells.dropLast, b.cur, b.mix⟩))
def bagSetC (i : Nat) (m : S → Option (D × S)) : S → Option Fl := fun s => (m s).bind fun p => (bagOf p.2 i).bind fun b => (intD p.1).map fun c => .nx (p.2.set i (.bag ⟨b.cells, c, b.mix⟩))
def bagSetX (i : Nat) (m : S → Option (D × S)) : S → Option Fl := fun s => (m s).bind fun p => (bagOf p.2 i).bind fun b => (intD p.1).map fun c => .nx (p.2.set i (.bag ⟨b.cells, b.cur, c⟩))
theorem Rp.intD {K : Fg} {O : List Addr} {H : Hp} {v : V} {d : D} {i : Int} (h : Rr K O H v d) (e : Y.intD d = some i) : v = .int i := by
  cases d <;> simp [Y.intD] at e
  subst e
  exact h.int
section
variable {X : Cx} {T : List (Addr × Str)} {tb kr : Bool}
theorem s_setix (i : Nat) {x : Str} {e ie : Expr} {p pos' pos : Pos} {k : Kd} {mi : S → Option D} {m : S → Option (D × S)} (he : EE X T tb e m) (hi : QE X T tb k ie mi) (hN : X.N[i]? = some x := by rfl) (hv : Vis X.env.scope x := by first | exact Or.inl rfl | exact Or.inr (Or.inl rfl) | exact Or.inr (Or.inr rfl)) (hd : (x == ("__debug__" : Str)) = false := by decide)
    (hcd : (x == ("__classdict__" : Str)) = false := by decide) (ha : ∀ v, assign (.Subscript (.Name x p) ie pos') X.env v = (do
      let ov ← holding [v] (eval (.Name x p) X.env)
      let iv ← holding [v, ov] (eval ie X.env)
      standAt pos'
      holding [v, ov, iv] (setItem ov iv v)
      release [v, ov, iv] []) := by intro _; rfl) (hs : swapsWithSole [.Subscript (.Name x p) ie pos'] e pos.line X.env = pure false := by rfl) (hw : swappedStores [.Subscript (.Name x p) ie pos'] e X.env = pure none := by rfl)
    (h1 : (assignEach [.Subscript (.Name x p) ie pos'] X.env).map (·.2) = [assign (.Subscript (.Name x p) ie pos') X.env] := by rfl) : PY X T tb kr (.Assign [.Subscript (.Name x p) ie pos'] e pos) (setIxS i mi m) := imp_s (ps_asg he (pg_sub (pe_var hN hv hd hcd) hi set_list ha) hs hw h1) fun B σ H h => by
  obtain ⟨E, O, s, f, sm, hm, k⟩ := h
  obtain ⟨⟨d, s1⟩, h1, hm⟩ := Option.bind_eq_some_iff.mp hm
  obtain ⟨ds, h2, hm⟩ := Option.bind_eq_some_iff.mp hm
  obtain ⟨dk, h3, hm⟩ := Option.bind_eq_some_iff.mp hm
  obtain ⟨kk, h4, hm⟩ := Option.bind_eq_some_iff.mp hm
  obtain ⟨j, h5, hm⟩ := Option.bind_eq_some_iff.mp hm
  cases hm
  refine ⟨E, O, s, d, s1, sm, h1, fun v H1 O1 st1 sm1 r1 => ?_⟩
  obtain ⟨a, _, g1, _⟩ := sm1.lset (es := ds) (olAt_some h2)
  refine ⟨_, g1, E, O1, s1, dk, sm1, h3, fun v2 H2 e2 r2 => ?_⟩
  have sm2 := sm1.ext e2
  obtain ⟨a', vs, g1', g2, g3, g4⟩ := sm2.lset (es := ds.set j d) (olAt_some h2)
  rw [g1] at g1'
  cases g1'
  obtain ⟨sm3, st3⟩ := g4 (vs.set j v) (Rps.set (r1.ext e2) j g3)
  exact ⟨a, vs, kk, j, rfl, Rp.intD r2.toR h4, g2, by rw [g3.length]; exact h5, k σ _ O1 ((st1.trans (Stp.of_ex e2)).trans st3) sm3⟩
theorem e_pop (i : Nat) {x : Str} {p apos cpos : Pos} (hN : X.N[i]? = some x := by rfl) (hv : Vis X.env.scope x := by first | exact Or.inl rfl | exact Or.inr (Or.inl rfl) | exact Or.inr (Or.inr rfl)) (hd : (x == ("__debug__" : Str)) = false := by decide)
    (hcd : (x == ("__classdict__" : Str)) = false := by decide) (hbase : attributeBase (.Name x p) "pop" X.env (eval (.Name x p) X.env) = eval (.Name x p) X.env := by rfl) (hline : (apos.endLine == cpos.line) = true := by rfl) : EE X T tb (.Call (.Attribute (.Name x p) "pop" apos) [] [] cpos) (popM i) :=
  imp_e (pe_bm0 PySem.F.plainAttrs_list PySem.F.slot_list_pop PySem.F.type_list_pop mt_pop (pe_var hN hv hd hcd) hbase hline) fun σ H Q h => by
  obtain ⟨E, O, s, d, s', sm, hm, q⟩ := h
  obtain ⟨ds, h1, hm⟩ := Option.bind_eq_some_iff.mp hm
  obtain ⟨d', h2, hm⟩ := Option.bind_eq_some_iff.mp hm
  cases hm
  obtain ⟨a, vs, g1, g2, g3, g4⟩ := sm.lset (es := ds.dropLast) (olAt_some h1)
  obtain ⟨v, w1, w2⟩ := g3.get h2
  obtain ⟨sm2, st2⟩ := g4 _ g3.dropLast
  exact ⟨_, g1, tyL g2, a, vs, v, rfl, rfl, g2, by rw [g3.length]; exact w1, q v _ O st2 sm2 (w2.step st2)⟩
/-! ### the bag -/
theorem bag_read {i : Nat} {Z : Zx} {E : Ent} {O : List Addr} {σ : L2.St} {H : Hp} {s : S} {b : Bag} (sm : Sim Z E O σ H s) (h : bagOf s i = some b) : ∃ a c, σ[i]? = some (some (.ref a)) ∧ H a = some (.lst [.ref c, .int b.cur, .int b.mix]) ∧ H c = some (.lst (b.cells.map V.int)) := by
  obtain ⟨a, c, h1, _, _, _, ⟨_, h2, h3⟩, _⟩ := sm.bag (bagOf_some h)
  exact ⟨a, c, h1, h2, h3⟩
theorem q_bagC (i : Nat) {x : Str} {jj : Nat} {p p2 pos : Pos} (hN : X.N[i]? = some x := by rfl) (hv : Vis X.env.scope x := by first | exact Or.inl rfl | exact Or.inr (Or.inl rfl) | exact Or.inr (Or.inr rfl)) (hd : (x == ("__debug__" : Str)) = false := by decide) (hcd : (x == ("__classdict__" : Str)) = false := by decide) :
    QE X T tb .i (.Subscript (.Name x p) (.Constant (.int 1) jj p2) pos) (bagC i) := imp_e (pe_ix ix_seq (pe_var hN hv hd hcd) pe_int (fun _ _ => rfl)) fun σ H Q h => by
  obtain ⟨E, O, s, d, sm, hm, q⟩ := h
  obtain ⟨b, hb, hm⟩ := Option.map_eq_some_iff.mp hm
  subst hm
  obtain ⟨a, c, h1, h2, h3⟩ := bag_read sm hb
  exact ⟨_, h1, .inl ⟨a, _, 1, .int b.cur, rfl, rfl, SqL.of h2, rfl, q _ H (Ex.refl H) (.int _)⟩⟩
theorem q_bagX (i : Nat) {x : Str} {jj : Nat} {p p2 pos : Pos} (hN : X.N[i]? = some x := by rfl) (hv : Vis X.env.scope x := by first | exact Or.inl rfl | exact Or.inr (Or.inl rfl) | exact Or.inr (Or.inr rfl)) (hd : (x == ("__debug__" : Str)) = false := by decide) (hcd : (x == ("__classdict__" : Str)) = false := by decide) :
    QE X T tb .i (.Subscript (.Name x p) (.Constant (.int 2) jj p2) pos) (bagX i) := imp_e (pe_ix ix_seq (pe_var hN hv hd hcd) pe_int (fun _ _ => rfl)) fun σ H Q h => by
  obtain ⟨E, O, s, d, sm, hm, q⟩ := h
  obtain ⟨b, hb, hm⟩ := Option.map_eq_some_iff.mp hm
  subst hm
  obtain ⟨a, c, h1, h2, h3⟩ := bag_read sm hb
  exact ⟨_, h1, .inl ⟨a, _, 2, .int b.mix, rfl, rfl, SqL.of h2, rfl, q _ H (Ex.refl H) (.int _)⟩⟩
theorem ints_shaped (l : List Int) : SeqAt.shaped (.list (l.map PyData.int)) = true := by
  have h : PyData.canLayAll0 (l.map PyData.int) = true ∧ PyData.depthAll (l.map PyData.int) = 0 := by
    induction l with
    | nil => exact ⟨by simp [PyData.canLayAll0], by simp [PyData.depthAll]⟩
    | cons a l ih => exact ⟨by simp [PyData.canLayAll0, PyData.canLay0, ih.1], by simp [PyData.depthAll, PyData.depth, ih.2]⟩
  simp [SeqAt.shaped, PyData.canLay0, PyData.depth, h.1, h.2]
theorem dp_ints {K : Fg} {H : Hp} : ∀ l : List Int, DpAll K H (l.map V.int) (l.map PyData.int)
  | [] => .nil
  | a :: l => .cons (.int a) (dp_ints l)
theorem qt_bagE (hu : X.A.units + 64 < cLine) (i : Nat) {x : Str} {jj : Nat} {p p2 p3 p4 pos : Pos} (hN : X.N[i]? = some x := by rfl) (hv : Vis X.env.scope x := by first | exact Or.inl rfl | exact Or.inr (Or.inl rfl) | exact Or.inr (Or.inr rfl)) (hd : (x == ("__debug__" : Str)) = false := by decide) (hcd : (x == ("__classdict__" : Str)) = false := by decide) :
    QT X T tb (.Compare (.Subscript (.Name x p) (.Constant (.int 0) jj p2) p3) [.Eq] [.List [] p4] pos) (bagE i) := imp_t (pt_cmpR (op_eqD hu) (pe_ix ix_seq (pe_var hN hv hd hcd) pe_int (fun _ _ => rfl)) (pe_lst pa_nil) (by first | exact nobehind _ (by decide) (by decide) | rfl)) fun σ H Q h => by
  obtain ⟨E, O, s, d, sm, hm, q⟩ := h
  obtain ⟨b, hb, hm⟩ := Option.map_eq_some_iff.mp hm
  subst hm
  obtain ⟨a, c, h1, h2, h3⟩ := bag_read sm hb
  refine ⟨_, h1, .inl ⟨a, _, 0, .ref c, rfl, rfl, SqL.of h2, rfl, len_line (by decide), fun r hr => ?_⟩⟩
  have e : Ex H (upd H r (.lst [])) := Ex.new hr
  refine ⟨.list (b.cells.map PyData.int), .list [], .lst (SqL.of (e _ _ h3)) (dp_ints _), .lst (SqL.of upd_same) .nil, ints_shaped _, rfl, _, rfl, ?_⟩
  have z : PyData.eqv (.list (b.cells.map PyData.int)) (.list []) = b.cells.isEmpty := by
    cases b.cells with
    | nil => rfl
    | cons x l => rfl
  rw [z]
  exact q _ e
theorem e_bagPop (i : Nat) {x : Str} {jj : Nat} {p p2 p3 apos cpos : Pos} (hN : X.N[i]? = some x := by rfl) (hv : Vis X.env.scope x := by first | exact Or.inl rfl | exact Or.inr (Or.inl rfl) | exact Or.inr (Or.inr rfl)) (hd : (x == ("__debug__" : Str)) = false := by decide)
    (hcd : (x == ("__classdict__" : Str)) = false := by decide) (hbase : attributeBase (.Subscript (.Name x p) (.Constant (.int 0) jj p2) p3) "pop" X.env (eval (.Subscript (.Name x p) (.Constant (.int 0) jj p2) p3) X.env) = eval (.Subscript (.Name x p) (.Constant (.int 0) jj p2) p3) X.env := by rfl) (hline : (apos.endLine == cpos.line) = true := by rfl) :
    EE X T tb (.Call (.Attribute (.Subscript (.Name x p) (.Constant (.int 0) jj p2) p3) "pop" apos) [] [] cpos) (bagPop i) :=
  imp_e (pe_bm0 PySem.F.plainAttrs_list PySem.F.slot_list_pop PySem.F.type_list_pop mt_pop (pe_ix ix_seq (pe_var hN hv hd hcd) pe_int (fun _ _ => rfl)) hbase hline) fun σ H Q h => by
  obtain ⟨E, O, s, d, s', sm, hm, q⟩ := h
  obtain ⟨b, hb, hm⟩ := Option.bind_eq_some_iff.mp hm
  obtain ⟨z, hz, hm⟩ := Option.map_eq_some_iff.mp hm
  cases hm
  obtain ⟨a, c, h1, h4, h5, _, ⟨h6, h2, h3⟩, back⟩ := sm.bag (bagOf_some hb)
  refine ⟨_, h1, .inl ⟨a, _, 0, .ref c, rfl, rfl, SqL.of h2, rfl, tyL h3, c, _, .int z, rfl, rfl, h3, by rw [List.length_map, List.getElem?_map, hz]; rfl, ?_⟩⟩
  have e : (b.cells.map V.int).dropLast = b.cells.dropLast.map V.int := (List.map_dropLast).symm
  rw [e]
  obtain ⟨sm2, st2⟩ := back ⟨b.cells.dropLast, b.cur, b.mix⟩ (upd H c (.lst (b.cells.dropLast.map V.int))) (fun o u w n t => (upd_kp (tb := tb) h3 trivial) o u w (fun m => n (by rw [List.mem_singleton.mp m]; exact List.mem_cons_of_mem _ List.mem_cons_self)) t) upd_there (upd_tabs sm.tabs h3) ⟨h6, (upd_ne h6).trans h2, upd_same⟩
  exact q (.int z) _ O st2 sm2 (.int z)
theorem bag_upd {Z : Zx} {E : Ent} {O : List Addr} {σ : L2.St} {H : Hp} {s : S} {i : Nat} {b : Bag} {m n : Int} (sm : Sim Z E O σ H s) (hb : bagOf s i = some b) : ∃ a c, σ[i]? = some (some (.ref a)) ∧ H a = some (.lst [.ref c, .int b.cur, .int b.mix]) ∧
    Sim Z E O σ (upd H a (.lst [.ref c, .int m, .int n])) (s.set i (.bag ⟨b.cells, m, n⟩)) ∧ Stp Z.tb O H O (upd H a (.lst [.ref c, .int m, .int n])) := by
  obtain ⟨a, c, h1, h4, h5, _, ⟨h6, h2, h3⟩, back⟩ := sm.bag (bagOf_some hb)
  obtain ⟨sm2, st2⟩ := back ⟨b.cells, m, n⟩ (upd H a (.lst [.ref c, .int m, .int n])) (fun o u w n t => (upd_kp (tb := Z.tb) h2 trivial) o u w (fun m => n (by rw [List.mem_singleton.mp m]; exact List.mem_cons_self)) t) upd_there (upd_tabs sm.tabs h2) ⟨h6, upd_same, (upd_ne (Ne.symm h6)).trans h3⟩
  exact ⟨a, c, h1, h2, sm2, st2⟩
theorem s_bagSetC (i : Nat) {x : Str} {e : Expr} {jj : Nat} {p p2 pos' pos : Pos} {m : S → Option (D × S)} (he : EE X T tb e m) (hN : X.N[i]? = some x := by rfl) (hv : Vis X.env.scope x := by first | exact Or.inl rfl | exact Or.inr (Or.inl rfl) | exact Or.inr (Or.inr rfl)) (hd : (x == ("__debug__" : Str)) = false := by decide)
    (hcd : (x == ("__classdict__" : Str)) = false := by decide) (hs : swapsWithSole [.Subscript (.Name x p) (.Constant (.int 1) jj p2) pos'] e pos.line X.env = pure false := by rfl) (hw : swappedStores [.Subscript (.Name x p) (.Constant (.int 1) jj p2) pos'] e X.env = pure none := by rfl)
    (h1 : (assignEach [.Subscript (.Name x p) (.Constant (.int 1) jj p2) pos'] X.env).map (·.2) = [assign (.Subscript (.Name x p) (.Constant (.int 1) jj p2) pos') X.env] := by rfl) : PY X T tb kr (.Assign [.Subscript (.Name x p) (.Constant (.int 1) jj p2) pos'] e pos) (bagSetC i m) := imp_s (ps_asg he (pg_sub (pe_var hN hv hd hcd) pe_int set_list) hs hw h1) fun B σ H h => by
  obtain ⟨E, O, s, f, sm, hm, k⟩ := h
  obtain ⟨⟨d, s1⟩, h1, hm⟩ := Option.bind_eq_some_iff.mp hm
  obtain ⟨b, h2, hm⟩ := Option.bind_eq_some_iff.mp hm
  obtain ⟨z, h3, hm⟩ := Option.map_eq_some_iff.mp hm
  cases hm
  refine ⟨E, O, s, d, s1, sm, h1, fun v H1 O1 st1 sm1 r1 => ?_⟩
  obtain ⟨a, c, g1, g2, sm2, st2⟩ := bag_upd (m := z) (n := b.mix) sm1 h2
  refine ⟨_, g1, a, _, 1, 1, rfl, rfl, g2, rfl, ?_⟩
  rw [Rp.intD (.inl r1) h3]
  exact k σ _ O1 (st1.trans st2) sm2
theorem s_bagSetX (i : Nat) {x : Str} {e : Expr} {jj : Nat} {p p2 pos' pos : Pos} {m : S → Option (D × S)} (he : EE X T tb e m) (hN : X.N[i]? = some x := by rfl) (hv : Vis X.env.scope x := by first | exact Or.inl rfl | exact Or.inr (Or.inl rfl) | exact Or.inr (Or.inr rfl)) (hd : (x == ("__debug__" : Str)) = false := by decide)
    (hcd : (x == ("__classdict__" : Str)) = false := by decide) (hs : swapsWithSole [.Subscript (.Name x p) (.Constant (.int 2) jj p2) pos'] e pos.line X.env = pure false := by rfl) (hw : swappedStores [.Subscript (.Name x p) (.Constant (.int 2) jj p2) pos'] e X.env = pure none := by rfl)
    (h1 : (assignEach [.Subscript (.Name x p) (.Constant (.int 2) jj p2) pos'] X.env).map (·.2) = [assign (.Subscript (.Name x p) (.Constant (.int 2) jj p2) pos') X.env] := by rfl) : PY X T tb kr (.Assign [.Subscript (.Name x p) (.Constant (.int 2) jj p2) pos'] e pos) (bagSetX i m) := imp_s (ps_asg he (pg_sub (pe_var hN hv hd hcd) pe_int set_list) hs hw h1) fun B σ H h => by
  obtain ⟨E, O, s, f, sm, hm, k⟩ := h
  obtain ⟨⟨d, s1⟩, h1, hm⟩ := Option.bind_eq_some_iff.mp hm
  obtain ⟨b, h2, hm⟩ := Option.bind_eq_some_iff.mp hm
  obtain ⟨z, h3, hm⟩ := Option.map_eq_some_iff.mp hm
  cases hm
  refine ⟨E, O, s, d, s1, sm, h1, fun v H1 O1 st1 sm1 r1 => ?_⟩
  obtain ⟨a, c, g1, g2, sm2, st2⟩ := bag_upd (m := b.cur) (n := z) sm1 h2
  refine ⟨_, g1, a, _, 2, 2, rfl, rfl, g2, rfl, ?_⟩
  rw [Rp.intD (.inl r1) h3]
  exact k σ _ O1 (st1.trans st2) sm2
end
end Y

open PySem PySem.Spec PyProof.Rows L2
namespace RT
section
variable {prog : Program} {w : World} {A : Around} {s : Shared} {E : Value → Shared → Prop}
theorem y_ext {it l S : Addr} {items : Array Value} {c0 : Nat} {R : Result → Shared → Prop} (hh : A.in1.handled = none) (hit : s.heap.IsRevIter it l ((items.size : Int) - 1)) (hl : s.heap.IsList l items) (hne : l ≠ it) (hSi : S ≠ it) (hSl : S ≠ l) (hn : items.size ≤ sizeLine)
    (hS : s.heap.get? S = some { cls := .type "list", data := .seq #[] c0 })
    (hR : ∀ (s' : Shared) (acc : Array Value) (c : Nat), Moved (S :: [it]) (fun a b => b = a) s s' → s'.heap.get? S = some { cls := .type "list", data := .seq acc c } → ItemsOf (fun i v => items[items.size - 1 - i]? = some v) acc items.size → R (.ok (.ret .none)) s') :
    wpAny (model prog w) A.in1 (Builtin.List.listExtendWith (.ref S) (.ref it) .none)
      (fun fin s' => match fin with | .done f => R (.ok f) s' | .again c' => c'.quiet = true ∧ codeAny (model prog w) A c' R s') (fun e s' => R (.error e) s') s := by
  have W := (Walks.listRev (prog := prog) (w := w) (A := A.in1) hh it l hne items).toS
  have outF : S ∉ [it, l] := by simp [hSi, hSl]
  have isT : s.TypeIs (.ref it) "list_reverseiterator" := Heap.IsRevIter.typeIs hit
  have diff : Builtin.List.listSameRef (.ref S) (.ref it) = false := by simp [Builtin.List.listSameRef, hSi]
  unfold Builtin.List.listExtendWith
  refine wpAny_bind (wpAny_typeOf isT ?_)
  rw [if_neg (by rw [diff]; decide)]
  refine wpAny_bind (wpAny_pyIter_revIter hit ?_)
  refine wpAny_bind (wpAny_holding ?_)
  unfold Builtin.List.listLengthHint
  refine wpAny_bind (wpAny_specialOf isT nolen_lri ?_)
  show wpAny _ A.in1 (specialOf (Value.ref it) (Str.ofString "__length_hint__") >>= _) _ _ _
  refine wpAny_bind (wpAny_specialOf isT hint_lri ?_)
  generalize hid : ("list_reverseiterator.__length_hint__" : String) = id0
  wp_delta
  rw [show splitId id0 = some ("list_reverseiterator", "__length_hint__") from by subst hid; decide +kernel]
  subst hid
  refine wpAny_bind (wpAny_isInstance (b := true) isT (by rw [isSubtype_type]; kernel_rfl) ?_)
  refine wpAny_pure ?_
  rw [if_neg (by decide)]
  have e0 : ((items.size : Nat) : Int) - 1 - ((0 : Nat) : Int) = (items.size : Int) - 1 := by omega
  refine wpAny_pure ⟨plainId_quiet F.plain_extend_loop _, codeAny_extend_loopS W hn _ outF _ items.size 0 _ _ _ rfl (Nat.zero_le _) ⟨Nat.zero_le _, by rw [e0]; exact hit, hl⟩ hS (ItemsOf.nil _) fun s' acc' c' hm hS' hacc => ?_⟩
  exact hR s' acc' c' hm hS' hacc
theorem y_list_rev {it l : Addr} {items : Array Value} {Q : Value → Shared → Prop} (hh : A.handled = none) (hit : s.heap.IsRevIter it l ((items.size : Int) - 1)) (hl : s.heap.IsList l items) (hne : l ≠ it) (hn : items.size ≤ sizeLine)
    (k : ∀ (h' : Heap) (tk : Nat) (acc : Array Value) (c : Nat), (∀ b o, b ≠ it → s.heap.get? b = some o → h'.get? b = some o) → h'.get? s.heap.objs.size = some { cls := .type "list", data := .seq acc c } → ItemsOf (fun i v => items[items.size - 1 - i]? = some v) acc items.size →
      Q (.ref s.heap.objs.size) { s with heap := h', toks := tk }) : wpAny (model prog w) A (call (.type "list") [.ref it]) Q E s := by
  have new : ∀ {a : Addr}, (∃ o, s.heap.get? a = some o) → s.heap.objs.size ≠ a := fun ⟨o, e⟩ => Nat.ne_of_gt (Heap.lt_size e)
  have n1 : s.heap.objs.size ≠ it := new (let ⟨o, e, _⟩ := hit; ⟨o, e⟩)
  have n2 : s.heap.objs.size ≠ l := new (let ⟨o, e, _⟩ := hl; ⟨o, e⟩)
  refine callType_codes (Q₁ := fun obj s₁ => obj = .ref s.heap.objs.size ∧ s₁ = { s with heap := s.heap.push { cls := .type "list", data := .seq #[] } }) F.called_list (F.typeCall_list_1 _) F.entry_list_init (code_list_new _ ⟨rfl, rfl⟩) fun obj s₁ made => ?_
  obtain ⟨rfl, rfl⟩ := made
  have at0 : (s.heap.push { cls := .type "list", data := .seq #[] }).get? s.heap.objs.size = some { cls := .type "list", data := .seq #[] } := Heap.get?_push_size _ rfl
  have up : ∀ b o, s.heap.get? b = some o → (s.heap.push { cls := .type "list", data := .seq #[] }).get? b = some o := fun b o e => Heap.get?_push_of_some _ e
  refine ⟨⟨_, at0, rfl⟩, F.args_list_init_2 _ _, ?_⟩
  show wpAny _ A.in1.in1 (do let old ← Builtin.List.listItems (.ref s.heap.objs.size); Builtin.List.listUpdate (.ref s.heap.objs.size) (fun _ => #[]); letGo old.toList.reverse; Builtin.List.listExtendWith (.ref s.heap.objs.size) (.ref it) .none) _ _ _
  refine wpAny_bind ?_
  unfold Builtin.List.listItems
  refine wpAny_bind (wpAny_seqItems at0 rfl (wpAny_pure ?_))
  refine wpAny_bind (wpAny_updateSeq at0 rfl ?_)
  have at1 := Heap.get?_update_self (Obj.mapSeq (fun _ => (#[] : Array Value))) at0 rfl
  have keep : ∀ b o, b ≠ s.heap.objs.size → (s.heap.push { cls := .type "list", data := .seq #[] }).get? b = some o → ((s.heap.push { cls := .type "list", data := .seq #[] }).update s.heap.objs.size (Obj.mapSeq (fun _ => (#[] : Array Value)))).get? b = some o := fun b o n e => (Heap.get?_update_other _ _ (Ne.symm n)).trans e
  have both : ∀ b o, s.heap.get? b = some o → ((s.heap.push { cls := .type "list", data := .seq #[] }).update s.heap.objs.size (Obj.mapSeq (fun _ => (#[] : Array Value)))).get? b = some o := fun b o e => keep b o (Nat.ne_of_lt (Heap.lt_size e)) (up b o e)
  refine wpAny_bind (wpAny_letGo ?_)
  have hit1 : ((s.heap.push { cls := .type "list", data := .seq #[] }).update s.heap.objs.size (Obj.mapSeq (fun _ => (#[] : Array Value)))).IsRevIter it l ((items.size : Int) - 1) := hit.at fun o e => both it o e
  have hl1 : ((s.heap.push { cls := .type "list", data := .seq #[] }).update s.heap.objs.size (Obj.mapSeq (fun _ => (#[] : Array Value)))).IsList l items := by
    obtain ⟨o, e, r⟩ := hl
    exact ⟨o, both l o e, r⟩
  refine y_ext (A := A.in1) (s := { s with heap := (s.heap.push { cls := .type "list", data := .seq #[] }).update s.heap.objs.size (Obj.mapSeq (fun _ => (#[] : Array Value))) }) hh hit1 hl1 hne n1 n2 hn at1 fun s' acc c hm hS' hacc => ⟨rfl, ?_⟩
  rw [Moved.eq_with hm]
  refine k s'.heap s'.toks acc c (fun b o hb e => hm.heap b o (fun z => ?_) (both b o e)) hS' hacc
  rcases List.mem_cons.mp z with z | z
  · exact absurd (Heap.lt_size e) (by rw [z]; exact Nat.lt_irrefl _)
  · exact hb (List.mem_singleton.mp z)
end
end RT
namespace Y
/-- list(reversed(x)), x a list: a new list -/
def tLstRev (K : PySem.W.Frag) (te : TE) : TE := fun σ H Q => te σ H fun v H1 => ∃ (a : Addr) (xs : List V), v = .ref a ∧ SqL K H1 a xs ∧ ∀ q, H1 q = none → Q (.ref q) (upd H1 q (.lst xs.reverse))
section
variable {X : Cx}
theorem pe_lstRev {e : Expr} {te : TE} {p p2 pos pos2 : Pos} (hc : X.calm = true) (hg : Gl X "list") (hm : X.mg "list" = none) (hg2 : Gl X "reversed") (hm2 : X.mg "reversed" = none) (he : PE X e te)
    (hs : starEach [e] X.env = (false, eval e X.env) :: starEach [] X.env := by rfl)
    (hs2 : starEach [.Call (.Name "reversed" p2) [e] [] pos2] X.env = (false, eval (.Call (.Name "reversed" p2) [e] [] pos2) X.env) :: starEach [] X.env := by rfl) :
    PE X (.Call (.Name "list" p) [.Call (.Name "reversed" p2) [e] [] pos2] [] pos) (tLstRev X.K te) := by
  refine ⟨fun pins s σ H Q I h => ?_⟩
  refine Call_ (ld_blt I hg hm boot_list (PyProof.Rows.callWith_type1 (args_cons (Call_ (ld_blt I hg2 hm2 PyProof.Rows.boot_reversed (PyProof.Rows.callWith_type1 (args_cons (thn (he.run pins s σ H _ I h) fun u s1 ⟨v, H1, I1, r1, q1⟩ => args_nil ?_) hs) hs rfl))) hs2) hs2 rfl))
  obtain ⟨a, xs, rfl, hq, q⟩ := q1
  obtain rfl : u = Value.ref a := r1
  obtain ⟨its, rv, p', hz⟩ := I1.list hq
  refine call_reversed_list p'.isList (args_nil ?_)
  have I2 : Inv X pins σ H1 { s1 with heap := s1.heap.push (revObj a ((its.toArray.size : Int) - 1)) } := I1.kept (t' := s1.toks) fun b o e => Heap.get?_push_of_some _ e
  obtain ⟨f0, f1, f2, f3, f4, f5⟩ := I1.fpOk (H' := H1) (b := s1.heap.objs.size) (Nat.le_refl _) (I1.hok.fresh (Nat.le_refl _))
  have hl := p'.isList
  have hne : a ≠ s1.heap.objs.size := let ⟨_, z, _⟩ := hl; Nat.ne_of_lt (Heap.lt_size z)
  have hn : its.toArray.size ≤ sizeLine := by rw [List.size_toArray, ← rv.length]; exact hz
  refine RT.y_list_rev (s := { s1 with heap := s1.heap.push (revObj a ((its.toArray.size : Int) - 1)) }) (I1.ok.hd hc) ⟨_, Heap.get?_push_size _ rfl, rfl, rfl⟩ (hl.push _) hne hn fun h' tk acc c hk hS hi => ?_
  have new := I2.hok.fresh (Nat.le_refl _)
  have I3 : Inv X pins σ (upd H1 _ (.lst xs.reverse)) { s1 with heap := (s1.heap.push (revObj a ((its.toArray.size : Int) - 1))).push { cls := .type "list", data := .seq acc c }, toks := tk } :=
    I2.laid (t' := tk) (o := .lst xs.reverse) (fun b o e => Heap.get?_push_of_some _ e) (Nat.le_refl _) ⟨by rw [List.length_reverse]; exact hz, acc.toList, c, RT.vals_rev rv hi, by rw [Array.toArray_toList]; exact Heap.get?_push_size _ rfl⟩
  have nH : (upd H1 (s1.heap.push (revObj a ((its.toArray.size : Int) - 1))).objs.size (.lst xs.reverse)) s1.heap.objs.size = none := by
    rw [upd_ne (by rw [Heap.size_push]; exact Nat.ne_of_lt (Nat.lt_succ_self _))]
    exact I1.hok.fresh (Nat.le_refl _)
  have I4 : Inv X pins σ (upd H1 _ (.lst xs.reverse)) { s1 with heap := h', toks := tk } := I3.turned (t' := tk) (fun b o hb e => by
    by_cases z : b = (s1.heap.push (revObj a ((its.toArray.size : Int) - 1))).objs.size
    · rw [z] at e ⊢
      rw [Heap.get?_push_size _ rfl] at e
      cases e
      exact hS
    · exact hk b o hb (by rwa [Heap.get?_push_ne _ _ _ z] at e)) nH f1 f3 f4 f5
  exact ⟨.ref (s1.heap.push (revObj a ((its.toArray.size : Int) - 1))).objs.size, _, I4, rfl, q _ new⟩
end
end Y

namespace Y
open PySem PySem.Spec PyProof.Rows L2

/-! ## helpers of the printed walks -/
theorem lenN : ∀ (s : S) (ds : List D), argN s = some ds → ds.length = 0 := fun s ds h => by cases h; rfl
theorem lenC {m : S → Option D} {n : S → Option (List D)} {k : Nat} (h : ∀ s ds, n s = some ds → ds.length = k) : ∀ (s : S) (ds : List D), argC m n s = some ds → ds.length = k + 1 := fun s ds e => by
  obtain ⟨x, _, e⟩ := Option.bind_eq_some_iff.mp e
  obtain ⟨xs, h2, e⟩ := Option.bind_eq_some_iff.mp e
  cases e
  rw [List.length_cons, h s xs h2]
theorem lenNE : ∀ (s : S) (ds : List D) (s' : S), argNE s = some (ds, s') → ds.length = 0 := fun s ds s' h => by cases h; rfl
theorem lenCE {m : S → Option (D × S)} {n : S → Option (List D × S)} {k : Nat} (h : ∀ s ds s', n s = some (ds, s') → ds.length = k) : ∀ (s : S) (ds : List D) (s' : S), argCE m n s = some (ds, s') → ds.length = k + 1 := fun s ds s' e => by
  obtain ⟨⟨x, s1⟩, _, e⟩ := Option.bind_eq_some_iff.mp e
  obtain ⟨⟨xs, s2⟩, h2, e⟩ := Option.bind_eq_some_iff.mp e
  cases e
  rw [List.length_cons, h s1 xs s2 h2]
theorem lenBE {n : S → Option (List D × S)} {k : Nat} (h : ∀ s ds s', n s = some (ds, s') → ds.length = k) : ∀ (s : S) (ds : List D) (s' : S), n s = some (ds, s') → ds.length + 1 = k + 1 := fun s ds s' e => by rw [h s ds s' e]
theorem lenP {n : S → Option (List D)} {k j : Nat} {π : List Nat} (h : ∀ s ds, n s = some ds → ds.length = k) (hp : ∀ ds : List D, ds.length = k → (perm π ds).length = j) : ∀ (s : S) (ds : List D), n s = some ds → (perm π ds).length = j := fun s ds e => hp ds (h s ds e)
theorem units65 {k : Nat} {A : Around} (r : Room k A) : A.units + 65 < cLine := by have := r.un; omega
def revD : D → Option D
  | .list ds => some (.list ds.reverse)
  | _ => none
def repL : D → D → Option D
  | .list ds, .int k => if (decide (0 ≤ k) && Nat.ble k.natAbs 100000 && Nat.ble (ds.length * k.toNat) 1000000) = true then some (.list (List.replicate k.toNat ds).flatten) else none
  | _, _ => none
def scrM (i j : Nat) : S → Option D := fun s => match s[i]? with
  | some (.scr ns) => some (.list ((ns.take j).map PyData.int))
  | _ => none
theorem Rps.flat {K : Fg} {O : List Addr} {H : Hp} {vs : List V} {ds : List D} (r : Rps K O H vs ds) : ∀ n : Nat, Rps K O H (List.replicate n vs).flatten (List.replicate n ds).flatten
  | 0 => .nil
  | n + 1 => by
    rw [List.replicate_succ, List.replicate_succ, List.flatten_cons, List.flatten_cons]
    exact r.append (Rps.flat r n)
def andVE (a b : S → Option (D × S)) : S → Option (D × S) := fun s => (a s).bind fun p => (boolD p.1).bind fun c => if c = true then b p.2 else some (.bool false, p.2)
def orVE (a b : S → Option (D × S)) : S → Option (D × S) := fun s => (a s).bind fun p => (boolD p.1).bind fun c => if c = true then some (.bool true, p.2) else b p.2
def notVE (a : S → Option (D × S)) : S → Option (D × S) := fun s => (a s).bind fun p => (boolD p.1).map fun c => (.bool (!c), p.2)
section
variable {X : Cx} {T : List (Addr × Str)} {tb : Bool}
theorem q_lstRev {e : Expr} {k : Kd} {m : S → Option D} {p p2 pos pos2 : Pos} (hc : X.calm = true) (hg : Gl X "list") (hm : X.mg "list" = none) (hg2 : Gl X "reversed") (hm2 : X.mg "reversed" = none) (he : QE X T tb k e m)
    (hs : starEach [e] X.env = (false, eval e X.env) :: starEach [] X.env := by rfl)
    (hs2 : starEach [.Call (.Name "reversed" p2) [e] [] pos2] X.env = (false, eval (.Call (.Name "reversed" p2) [e] [] pos2) X.env) :: starEach [] X.env := by rfl) :
    QE X T tb .o (.Call (.Name "list" p) [.Call (.Name "reversed" p2) [e] [] pos2] [] pos) (op1 revD m) := imp_e (pe_lstRev hc hg hm hg2 hm2 he hs hs2) fun σ H Q h => by
  obtain ⟨E, O, s, d, sm, hm, q⟩ := h
  obtain ⟨x, hx, hm⟩ := Option.bind_eq_some_iff.mp hm
  unfold revD at hm
  split at hm
  · next ds =>
    cases hm
    refine ⟨E, O, s, _, sm, hx, fun v H1 e1 r1 => ?_⟩
    obtain ⟨a, vs, rfl, h1, h2⟩ := r1.toR.list
    refine ⟨a, vs, rfl, SqL.of h1, fun p hp => ?_⟩
    exact q _ _ (e1.trans (Ex.new hp)) ⟨p, vs.reverse, _, rfl, rfl, e1.back hp, fun m => sm.dom p m (e1.back hp), upd_same, (h2.new hp (Ex.new hp)).reverse⟩
  · cases hm
theorem opS_rep : OpS X (binaryOp .Mult) .o repL := ⟨_, op_rep, fun O H x y dx dy d Q dom rx ry e k => by
  unfold repL at e
  split at e
  · next ds n =>
    split at e
    · next c =>
      cases e
      simp only [Bool.and_eq_true, decide_eq_true_eq, Nat.ble_eq] at c
      obtain ⟨⟨c1, c2⟩, c3⟩ := c
      obtain ⟨a, vs, rfl, h1, h2⟩ := rx.list
      rw [ry.int]
      refine ⟨a, n, vs, rfl, rfl, h1, by omega, by omega, by rw [h2.length]; exact Nat.le_trans c3 (by decide), fun p hp => ?_⟩
      exact k _ _ (Ex.new hp) ⟨p, _, _, rfl, rfl, hp, fun m => dom p m hp, upd_same, (h2.new hp (Ex.new hp)).flat _⟩
    · cases e
  · cases e⟩
theorem q_scr (i : Nat) {x : Str} {j j2 : Nat} {p p2 p3 pos : Pos} (hN : X.N[i]? = some x := by rfl) (hv : Vis X.env.scope x := by first | exact Or.inl rfl | exact Or.inr (Or.inl rfl) | exact Or.inr (Or.inr rfl)) (hd : (x == ("__debug__" : Str)) = false := by decide) (hcd : (x == ("__classdict__" : Str)) = false := by decide) :
    QE X T tb .o (.Subscript (.Name x p) (.Slice none (some (.Constant (.int (j : Int)) j2 p2)) none p3) pos) (scrM i j) := imp_e (pe_slice sl_list (pe_var hN hv hd hcd) po_none (po_some pe_int)) fun σ H Q h => by
  obtain ⟨E, O, s, d, sm, hm, q⟩ := h
  unfold scrM at hm
  split at hm
  · next ns hi =>
    cases hm
    obtain ⟨F, f1, _⟩ := sm.own
    obtain ⟨_, a, h1, h2⟩ := f1 i _ hi
    refine ⟨_, sl_some h1, _, rfl, a, _, rfl, h2.sq, fun p hp => ?_⟩
    have e : cutV (ns.map V.int) none (some (j : Int)) = (ns.take j).map V.int := by
      unfold cutV
      rw [HT.sIx_none, HT.sIx_nat, List.drop_zero, Nat.sub_zero, List.map_take, List.length_map]
      rw [List.take_eq_take_iff, List.length_map]
      omega
    rw [e]
    exact q _ _ (Ex.new hp) ⟨p, _, _, rfl, rfl, hp, fun m => sm.dom p m hp, upd_same, rps_of_ints _⟩
  · cases hm
theorem e_one {op : BoolOp} {a : Expr} {pos : Pos} {m : S → Option (D × S)} (h : EE X T tb a m) : EE X T tb (.BoolOp op [a] pos) m := pe_one h
theorem e_and {a b : Expr} {rest : List Expr} {pos : Pos} {m n : S → Option (D × S)} (ha : EE X T tb a m) (hb : EE X T tb (.BoolOp .And (b :: rest) pos) n) : EE X T tb (.BoolOp .And (a :: b :: rest) pos) (andVE m n) := imp_e (pe_and ha hb) fun σ H Q h => by
  obtain ⟨E, O, s, d, s', sm, hm, q⟩ := h
  obtain ⟨⟨x, s1⟩, hx, hm⟩ := Option.bind_eq_some_iff.mp hm
  obtain ⟨c, hc, hm⟩ := Option.bind_eq_some_iff.mp hm
  refine ⟨E, O, s, x, s1, sm, hx, fun v H' O' st sm1 r => ?_⟩
  obtain rfl := boolD_some hc
  cases r
  refine ⟨_, rfl, ?_⟩
  cases c with
  | true => exact iteT ⟨E, O', s1, d, s', sm1, hm, fun w H2 O2 st2 sm2 r2 => q w H2 O2 (st.trans st2) sm2 r2⟩
  | false => cases hm; exact iteF (q _ H' O' st sm1 (.bl false))
theorem e_or {a b : Expr} {rest : List Expr} {pos : Pos} {m n : S → Option (D × S)} (ha : EE X T tb a m) (hb : EE X T tb (.BoolOp .Or (b :: rest) pos) n) : EE X T tb (.BoolOp .Or (a :: b :: rest) pos) (orVE m n) := imp_e (pe_or ha hb) fun σ H Q h => by
  obtain ⟨E, O, s, d, s', sm, hm, q⟩ := h
  obtain ⟨⟨x, s1⟩, hx, hm⟩ := Option.bind_eq_some_iff.mp hm
  obtain ⟨c, hc, hm⟩ := Option.bind_eq_some_iff.mp hm
  refine ⟨E, O, s, x, s1, sm, hx, fun v H' O' st sm1 r => ?_⟩
  obtain rfl := boolD_some hc
  cases r
  refine ⟨_, rfl, ?_⟩
  cases c with
  | false => exact iteF ⟨E, O', s1, d, s', sm1, hm, fun w H2 O2 st2 sm2 r2 => q w H2 O2 (st.trans st2) sm2 r2⟩
  | true => cases hm; exact iteT (q _ H' O' st sm1 (.bl true))
theorem e_not {a : Expr} {pos : Pos} {m : S → Option (D × S)} (ha : EE X T tb a m) : EE X T tb (.UnaryOp .Not a pos) (notVE m) := imp_e (pe_not ha) fun σ H Q h => by
  obtain ⟨E, O, s, d, s', sm, hm, q⟩ := h
  obtain ⟨⟨x, s1⟩, hx, hm⟩ := Option.bind_eq_some_iff.mp hm
  obtain ⟨c, hc, hm⟩ := Option.map_eq_some_iff.mp hm
  cases hm
  refine ⟨E, O, s, x, s1, sm, hx, fun v H' O' st sm1 r => ?_⟩
  obtain rfl := boolD_some hc
  cases r
  exact ⟨_, rfl, q _ H' O' st sm1 (.bl _)⟩
end
end Y

namespace Y
open PySem PySem.Spec PyProof.Rows L2

/-! ## chains as tests; count, index -/
def cntD : D → List D → Option D
  | .list ds, [.int k] => (intsD ds).map fun ns => .int (ns.count k : Nat)
  | _, _ => none
def idxD : D → List D → Option D
  | .list ds, [d] => if (SeqAt.shaped (.list ds) && SeqAt.shaped d) = true then (ds.findIdx? fun z => PyData.eqv z d).map fun j => .int (j : Nat) else none
  | _, _ => none
def isList : D → Bool
  | .list _ => true
  | _ => false
section
variable {X : Cx} {T : List (Addr × Str)} {tb : Bool}
theorem qt_chain {op op' : CmpOp} {g h : D → D → Option D} (ho : OpS X (compareOp op) .i g) (ho' : OpS X (compareOp op') .i h) {a b c : Expr} {pos : Pos} {ka kb kc : Kd} {ma mb mc : S → Option D} (ha : QE X T tb ka a ma) (hb : QE X T tb kb b mb) (hc : QE X T tb kc c mc)
    (hl : lastMarks [op, op'] [b, c] = false := by rfl) : QT X T tb (.Compare a [op, op'] [b, c] pos) (tvM (chainM g h ma mb mc)) := by
  obtain ⟨r, ho, hs⟩ := ho
  obtain ⟨r', ho', hs'⟩ := ho'
  refine imp_t (pt_chain ho ho' ha hb hc hl) fun σ H Q q => ?_
  exact op_chain hs hs' (tv_one q)
theorem q_mlist {id : String} {name : Str} {g : D → List D → Option D} {r : V → List V → Hp → VK → Prop} (slot : Slot "list" name id) (hd : typeOf (.builtin id) = pure (.type "method_descriptor")) (hm : MtR X id r)
    (hs : ∀ (O : List Addr) (H : Hp) (x : V) (xs : List V) (dx : List D) (ds : List D) (d : D) (Q : VK), Rr X.K O H x (.list dx) → Rrs X.K O H xs ds → g (.list dx) ds = some d → (∀ v H', Ex H H' → Res X.K O H H' v d .i → Q v H') → r x xs H Q)
    {o e : Expr} {es : List Expr} {apos cpos : Pos} {ko : Kd} {b : Bool} {m : S → Option D} {n : S → Option (List D)} (ho : QE X T tb ko o m) (ha : QA X T tb b (e :: es) n)
    (hbase : attributeBase o name X.env (eval o X.env) = eval o X.env := by rfl)
    (hfew : ((backTo cpos (starEach (e :: es) X.env)).all (fun x => !x.1) && (backToKw cpos (keywordEach [] X.env)).all (fun x => x.1.isSome)
      && decide ((e :: es).length + ([] : List Keyword).length + (if ([] : List Keyword).isEmpty then 0 else 1) < 30)) = true := by rfl)
    (hline : (apos.endLine == cpos.line) = true := by rfl) (hst : starEach (e :: es) X.env = (false, eval e X.env) :: starEach es X.env := by rfl) (hplain : (backTo cpos (starEach es X.env)).any (·.1) = false := by rfl) :
    QE X T tb .i (.Call (.Attribute o name apos) (e :: es) [] cpos) (methM isList g m n) :=
  imp_e (pe_bm PySem.F.plainAttrs_list slot hd hm ho ha hbase hfew hline hst hplain) fun σ H Q h => by
  obtain ⟨E, O, s, d, sm, hmm, q⟩ := h
  unfold methM at hmm
  obtain ⟨x, hx, hmm⟩ := Option.bind_eq_some_iff.mp hmm
  split at hmm
  · next hok =>
    obtain ⟨xs, hxs, hmm⟩ := Option.bind_eq_some_iff.mp hmm
    obtain ⟨dl, rfl⟩ : ∃ dl, x = .list dl := by cases x <;> first | exact ⟨_, rfl⟩ | cases hok
    refine ⟨E, O, s, _, sm, hx, fun v H1 e1 r1 => ?_⟩
    obtain ⟨a, vs, rfl, h1, h2⟩ := r1.toR.list
    refine ⟨tyL h1, E, O, s, xs, sm.ext e1, hxs, fun vs2 H2 e2 r2 => ?_⟩
    exact hs O H2 _ vs2 dl xs d Q (r1.toR.ext e2) r2.toR hmm fun w H3 e3 r3 => q w H3 (e1.trans (e2.trans e3)) (r3.from (e1.trans e2))
  · cases hmm
theorem q_count {o e : Expr} {apos cpos : Pos} {ko : Kd} {b : Bool} {m : S → Option D} {n : S → Option (List D)} (ho : QE X T tb ko o m) (ha : QA X T tb b [e] n)
    (hbase : attributeBase o "count" X.env (eval o X.env) = eval o X.env := by rfl)
    (hfew : ((backTo cpos (starEach [e] X.env)).all (fun x => !x.1) && (backToKw cpos (keywordEach [] X.env)).all (fun x => x.1.isSome)
      && decide ([e].length + ([] : List Keyword).length + (if ([] : List Keyword).isEmpty then 0 else 1) < 30)) = true := by rfl)
    (hline : (apos.endLine == cpos.line) = true := by rfl) (hst : starEach [e] X.env = (false, eval e X.env) :: starEach [] X.env := by rfl) (hplain : (backTo cpos (starEach [] X.env)).any (·.1) = false := by rfl) :
    QE X T tb .i (.Call (.Attribute o "count" apos) [e] [] cpos) (methM isList cntD m n) :=
  q_mlist PySem.F.slot_list_count PySem.F.type_list_count mt_lcount (fun O H x xs dx ds d Q rx rxs hg k => by
    unfold cntD at hg
    split at hg
    · next ds' kk e1 =>
      cases e1
      obtain ⟨ns, h1, h2⟩ := Option.map_eq_some_iff.mp hg
      cases h2
      obtain rfl := intsD_some h1
      obtain ⟨a, vs, rfl, h3, h4⟩ := rx.list
      obtain ⟨y, rfl, ry⟩ := rrs1 rxs
      rw [ry.int]
      refine ⟨a, ns, kk, rfl, rfl, ?_, k _ H (Ex.refl H) (.int _)⟩
      rw [← rps_ints h4]
      exact SqL.of h3
    · cases hg) ho ha hbase hfew hline hst hplain
theorem q_index (hu : X.A.units + 65 < cLine) {o e : Expr} {apos cpos : Pos} {ko : Kd} {b : Bool} {m : S → Option D} {n : S → Option (List D)} (ho : QE X T tb ko o m) (ha : QA X T tb b [e] n)
    (hbase : attributeBase o "index" X.env (eval o X.env) = eval o X.env := by rfl)
    (hfew : ((backTo cpos (starEach [e] X.env)).all (fun x => !x.1) && (backToKw cpos (keywordEach [] X.env)).all (fun x => x.1.isSome)
      && decide ([e].length + ([] : List Keyword).length + (if ([] : List Keyword).isEmpty then 0 else 1) < 30)) = true := by rfl)
    (hline : (apos.endLine == cpos.line) = true := by rfl) (hst : starEach [e] X.env = (false, eval e X.env) :: starEach [] X.env := by rfl) (hplain : (backTo cpos (starEach [] X.env)).any (·.1) = false := by rfl) :
    QE X T tb .i (.Call (.Attribute o "index" apos) [e] [] cpos) (methM isList idxD m n) :=
  q_mlist PySem.F.slot_list_index PySem.F.type_list_index (mt_indexD hu) (fun O H x xs dx ds d Q rx rxs hg k => by
    unfold idxD at hg
    split at hg
    · next ds' dd e1 =>
      cases e1
      split at hg
      · next c =>
        rw [Bool.and_eq_true] at c
        obtain ⟨j, h1, h2⟩ := Option.map_eq_some_iff.mp hg
        cases h2
        obtain ⟨a, vs, rfl, h3, h4⟩ := rx.list
        obtain ⟨y, rfl, ry⟩ := rrs1 rxs
        obtain ⟨hj, p1, p2⟩ := List.findIdx?_eq_some_iff_getElem.mp h1
        refine ⟨a, y, dd, dx, j, dx[j], rfl, rfl, .lst (SqL.of h3) h4.dp, ry.dp, c.1, c.2, List.getElem?_eq_getElem hj, p1, fun m' z' hm hz => ?_, k _ H (Ex.refl H) (.int _)⟩
        obtain ⟨hm', rfl⟩ := List.getElem?_eq_some_iff.mp hz
        have := p2 m' hm
        simpa using this
      · cases hg
    · cases hg) ho ha hbase hfew hline hst hplain
end
end Y

namespace Y
open PySem PySem.Spec PyProof.Rows L2

/-! ## the draw -/
def m_drawB : S → Option Fl := seqS (ifS (noSt (orT (tvM (op2 gtD (bagC 0) (cM (.int 0)))) (bagE 0))) bkM nxM) (seqS (setS 3 (bagPop 0)) (bagSetC 0 (noSt (ifM (tvM (op2 gtD (varM 3) (op2 powD (cM (.int 10)) (cM (.int 9))))) (varM 3) (cM (.int 0))))))
def m_draw : S → Option Fl := seqS (forS (rng1E (argCE (noSt (cM (.int 64))) argNE)) (putM 2) m_drawB) (seqS (ifS (noSt (tvM (op2 gtD (bagC 0) (cM (.int 0))))) (seqS (setS 4 (noSt (op2 modD (callM int1D (argC (bagC 0) argN)) (varM 1)))) (seqS (bagSetC 0 (noSt (op2 divD (bagC 0) (varM 1)))) (retS (noSt (varM 4))))) nxM) (seqS (bagSetX 0 (noSt (op2 modD (callM int1D (argC (op2 addD (op2 mulD (bagX 0) (cM (.int 48271))) (cM (.int 11))) argN)) (cM (.int 2147483647))))) (retS (noSt (op2 modD (op2 divD (op2 modD (callM int1D (argC (op2 mulD (bagX 0) (bagX 0)) argN)) (cM (.int 2147483629))) (cM (.int 7))) (varM 1))))))
def F_draw : Bag → List D → Option (D × Bag) := runB 5 m_draw
/-- the mixed number is small -/
def OkB (b : Bag) : Prop := 0 ≤ b.mix ∧ b.mix < 2147483647
theorem seqS_nx {a b : S → Option Fl} {s s1 : S} (h : a s = some (.nx s1)) : seqS a b s = b s1 := by unfold seqS; rw [h]; rfl
theorem seqS_rt {a b : S → Option Fl} {s s1 : S} {d : D} (h : a s = some (.rt d s1)) : seqS a b s = some (.rt d s1) := by unfold seqS; rw [h]; rfl
theorem seqS_bk {a b : S → Option Fl} {s s1 : S} (h : a s = some (.bk s1)) : seqS a b s = some (.bk s1) := by unfold seqS; rw [h]; rfl
theorem boolD_b (b : Bool) : boolD (.bool b) = some b := rfl
theorem draw_turn (b : Bag) (k : D) (x y z : M) : ∃ f, m_drawB [.bag b, .imm k, x, y, z] = some f ∧ ∃ b' y', b'.mix = b.mix ∧ (f = .nx [.bag b', .imm k, x, y', z] ∨ f = .bk [.bag b', .imm k, x, y', z]) := by
  by_cases h : decide (b.cur > 0) = true ∨ b.cells.isEmpty = true
  · refine ⟨.bk [.bag b, .imm k, x, y, z], ?_, b, y, rfl, .inr rfl⟩
    have e : orT (tvM (op2 gtD (bagC 0) (cM (.int 0)))) (bagE 0) [.bag b, .imm k, x, y, z] = some true := by
      show (if decide (b.cur > 0) = true then some true else some b.cells.isEmpty) = some true
      by_cases h1 : decide (b.cur > 0) = true
      · rw [if_pos h1]
      · rw [if_neg h1, h.resolve_left h1]
    unfold m_drawB seqS ifS noSt
    rw [e]
    rfl
  · have h1 : ¬ decide (b.cur > 0) = true := fun z => h (.inl z)
    have h2 : b.cells.isEmpty = false := by
      cases q : b.cells.isEmpty with
      | false => rfl
      | true => exact absurd (.inr q) h
    have e : orT (tvM (op2 gtD (bagC 0) (cM (.int 0)))) (bagE 0) [.bag b, .imm k, x, y, z] = some false := by
      show (if decide (b.cur > 0) = true then some true else some b.cells.isEmpty) = some false
      rw [if_neg h1, h2]
    have hl : b.cells.length - 1 < b.cells.length := by
      have : b.cells ≠ [] := fun z => by rw [z] at h2; cases h2
      have := List.length_pos_iff.mpr this
      omega
    obtain ⟨c, hc⟩ : ∃ c, b.cells[b.cells.length - 1]? = some c := ⟨_, List.getElem?_eq_getElem hl⟩
    have e2 : bagPop 0 [.bag b, .imm k, x, y, z] = some (.int c, [.bag ⟨b.cells.dropLast, b.cur, b.mix⟩, .imm k, x, y, z]) := by
      show ((b.cells[b.cells.length - 1]?).map fun c => _) = _
      rw [hc]
      rfl
    refine ⟨.nx [.bag ⟨b.cells.dropLast, if decide (c > 10 ^ 9) = true then c else 0, b.mix⟩, .imm k, x, .imm (.int c), z], ?_, ⟨b.cells.dropLast, if decide (c > 10 ^ 9) = true then c else 0, b.mix⟩, _, rfl, .inl rfl⟩
    unfold m_drawB
    have s1 : ifS (noSt (orT (tvM (op2 gtD (bagC 0) (cM (.int 0)))) (bagE 0))) bkM nxM [.bag b, .imm k, x, y, z] = some (.nx [.bag b, .imm k, x, y, z]) := by
      unfold ifS noSt
      rw [e]
      rfl
    have s2 : setS 3 (bagPop 0) [.bag b, .imm k, x, y, z] = some (.nx [.bag ⟨b.cells.dropLast, b.cur, b.mix⟩, .imm k, x, .imm (.int c), z]) := by
      unfold setS
      rw [e2]
      rfl
    have s3 : bagSetC 0 (noSt (ifM (tvM (op2 gtD (varM 3) (op2 powD (cM (.int 10)) (cM (.int 9))))) (varM 3) (cM (.int 0)))) [.bag ⟨b.cells.dropLast, b.cur, b.mix⟩, .imm k, x, .imm (.int c), z] = some (.nx [.bag ⟨b.cells.dropLast, if decide (c > 10 ^ 9) = true then c else 0, b.mix⟩, .imm k, x, .imm (.int c), z]) := by
      have t : tvM (op2 gtD (varM 3) (op2 powD (cM (.int 10)) (cM (.int 9)))) [.bag ⟨b.cells.dropLast, b.cur, b.mix⟩, .imm k, x, .imm (.int c), z] = some (decide (c > 10 ^ 9)) := rfl
      unfold bagSetC noSt ifM
      rw [t]
      by_cases hq : decide (c > 10 ^ 9) = true
      · simp only [Option.bind, hq, if_true]; rfl
      · simp only [Option.bind, hq, if_false]; rfl
    rw [seqS_nx s1, seqS_nx s2, s3]
theorem draw_loop (k : D) (z : M) : ∀ (ds : List D) (b : Bag) (x y : M), ∃ b' x' y', b'.mix = b.mix ∧ forGo (putM 2) m_drawB ds [.bag b, .imm k, x, y, z] = some (.nx [.bag b', .imm k, x', y', z])
  | [], b, x, y => ⟨b, x, y, rfl, rfl⟩
  | d :: ds, b, x, y => by
    obtain ⟨f, h1, b1, y1, h2, h3⟩ := draw_turn b k (.imm d) y z
    unfold forGo
    have p : putM 2 d [.bag b, .imm k, x, y, z] = some [.bag b, .imm k, .imm d, y, z] := rfl
    rw [p]
    simp only [Option.bind]
    rw [h1]
    simp only [Option.bind]
    rcases h3 with rfl | rfl
    · obtain ⟨b2, x2, y2, g1, g2⟩ := draw_loop k z ds b1 (.imm d) y1
      exact ⟨b2, x2, y2, g1.trans h2, g2⟩
    · exact ⟨b1, _, _, h2, rfl⟩
theorem big_small {k : Int} (h0 : 0 < k) (h : k < 2 ^ 64) : big k.natAbs = true := by
  unfold big
  rw [Nat.blt_eq]
  have : k.natAbs < 2 ^ 64 := by omega
  exact Nat.lt_of_lt_of_le this (Nat.pow_le_pow_right (by decide) (by decide))
theorem draw_ok (b : Bag) (k : Int) (ok : OkB b) (h0 : 0 < k) (h1 : k < 2 ^ 64) : ∃ v b', F_draw b [.int k] = some (.int v, b') ∧ 0 ≤ v ∧ v < k ∧ OkB b' := by
  obtain ⟨b1, x1, y1, hm, hl⟩ := draw_loop (.int k) .un ((List.range 64).map fun n => .int (n : Nat)) b .un .un
  have src : rng1E (argCE (noSt (cM (.int 64))) argNE) [.bag b, .imm (.int k), .un, .un, .un] = some ((List.range 64).map fun n => .int (n : Nat), [.bag b, .imm (.int k), .un, .un, .un]) := by rfl
  have first : forS (rng1E (argCE (noSt (cM (.int 64))) argNE)) (putM 2) m_drawB [.bag b, .imm (.int k), .un, .un, .un] = some (.nx [.bag b1, .imm (.int k), x1, y1, .un]) := by
    unfold forS
    rw [src]
    exact hl
  have ok1 : OkB b1 := by unfold OkB; rw [hm]; exact ok
  have big1 := big_small h0 h1
  have dk : decide (0 < k) = true := decide_eq_true h0
  have md : ∀ i : Int, modD (.int i) (.int k) = some (.int (i % k)) := fun i => by show (if decide (0 < k) = true then some (PyData.int (i % k)) else none) = _; rw [if_pos dk]
  by_cases hc : decide (b1.cur > 0) = true
  · refine ⟨b1.cur % k, ⟨b1.cells, b1.cur / k, b1.mix⟩, ?_, Int.emod_nonneg _ (by omega), Int.emod_lt_of_pos _ h0, ok1⟩
    have dv : divD (.int b1.cur) (.int k) = some (.int (b1.cur / k)) := by
      show (if (decide (0 < k) && big k.natAbs) = true then some (PyData.int (b1.cur / k)) else none) = _
      rw [dk, big1]; rfl
    have tst : tvM (op2 gtD (bagC 0) (cM (.int 0))) [.bag b1, .imm (.int k), x1, y1, .un] = some true := by
      show some (decide (b1.cur > 0)) = some true
      rw [hc]
    have q1 : op2 modD (callM int1D (argC (bagC 0) argN)) (varM 1) [.bag b1, .imm (.int k), x1, y1, .un] = some (.int (b1.cur % k)) := md b1.cur
    have q2 : op2 divD (bagC 0) (varM 1) [.bag b1, .imm (.int k), x1, y1, .imm (.int (b1.cur % k))] = some (.int (b1.cur / k)) := dv
    have body : seqS (setS 4 (noSt (op2 modD (callM int1D (argC (bagC 0) argN)) (varM 1)))) (seqS (bagSetC 0 (noSt (op2 divD (bagC 0) (varM 1)))) (retS (noSt (varM 4)))) [.bag b1, .imm (.int k), x1, y1, .un] = some (.rt (.int (b1.cur % k)) [.bag ⟨b1.cells, b1.cur / k, b1.mix⟩, .imm (.int k), x1, y1, .imm (.int (b1.cur % k))]) := by
      have a1 : setS 4 (noSt (op2 modD (callM int1D (argC (bagC 0) argN)) (varM 1))) [.bag b1, .imm (.int k), x1, y1, .un] = some (.nx [.bag b1, .imm (.int k), x1, y1, .imm (.int (b1.cur % k))]) := by
        unfold setS noSt; rw [q1]; rfl
      have a2 : bagSetC 0 (noSt (op2 divD (bagC 0) (varM 1))) [.bag b1, .imm (.int k), x1, y1, .imm (.int (b1.cur % k))] = some (.nx [.bag ⟨b1.cells, b1.cur / k, b1.mix⟩, .imm (.int k), x1, y1, .imm (.int (b1.cur % k))]) := by
        unfold bagSetC noSt; rw [q2]; rfl
      rw [seqS_nx a1, seqS_nx a2]
      rfl
    have sec : ifS (noSt (tvM (op2 gtD (bagC 0) (cM (.int 0))))) (seqS (setS 4 (noSt (op2 modD (callM int1D (argC (bagC 0) argN)) (varM 1)))) (seqS (bagSetC 0 (noSt (op2 divD (bagC 0) (varM 1)))) (retS (noSt (varM 4))))) nxM [.bag b1, .imm (.int k), x1, y1, .un] = some (.rt (.int (b1.cur % k)) [.bag ⟨b1.cells, b1.cur / k, b1.mix⟩, .imm (.int k), x1, y1, .imm (.int (b1.cur % k))]) := by
      unfold ifS noSt
      rw [tst]
      exact body
    have all : m_draw [.bag b, .imm (.int k), .un, .un, .un] = some (.rt (.int (b1.cur % k)) [.bag ⟨b1.cells, b1.cur / k, b1.mix⟩, .imm (.int k), x1, y1, .imm (.int (b1.cur % k))]) := by
      unfold m_draw
      rw [seqS_nx first, seqS_rt sec]
    show (match m_draw [.bag b, .imm (.int k), .un, .un, .un] with
      | some (.rt d s) => (bagOf s 0).map fun b' => (d, b')
      | _ => none) = _
    rw [all]
    rfl
  · have mx := ok1
    unfold OkB at mx
    generalize hm2 : (b1.mix * 48271 + 11) % 2147483647 = m2
    have m2a : 0 ≤ m2 := by rw [← hm2]; exact Int.emod_nonneg _ (by decide)
    have m2b : m2 < 2147483647 := by rw [← hm2]; exact Int.emod_lt_of_pos _ (by decide)
    refine ⟨m2 * m2 % 2147483629 / 7 % k, ⟨b1.cells, b1.cur, m2⟩, ?_, Int.emod_nonneg _ (by omega), Int.emod_lt_of_pos _ h0, ⟨m2a, m2b⟩⟩
    have bigS : ∀ i : Int, 0 ≤ i → i < 2147483647 → big i.natAbs = true := fun i h0 h1 => by
      unfold big
      rw [Nat.blt_eq]
      have : i.natAbs < 2 ^ 64 := by omega
      exact Nat.lt_of_lt_of_le this (Nat.pow_le_pow_right (by decide) (by decide))
    have mul1 : mulD (.int b1.mix) (.int 48271) = some (.int (b1.mix * 48271)) := by
      show (if (big b1.mix.natAbs && big (48271 : Int).natAbs) = true then some (PyData.int (b1.mix * 48271)) else none) = _
      rw [bigS _ mx.1 mx.2, bigS 48271 (by decide) (by decide)]; rfl
    have mul2 : mulD (.int m2) (.int m2) = some (.int (m2 * m2)) := by
      show (if (big m2.natAbs && big m2.natAbs) = true then some (PyData.int (m2 * m2)) else none) = _
      rw [bigS _ m2a m2b]; rfl
    have tst : tvM (op2 gtD (bagC 0) (cM (.int 0))) [.bag b1, .imm (.int k), x1, y1, .un] = some false := by
      show some (decide (b1.cur > 0)) = some false
      rw [Bool.eq_false_iff.mpr hc]
    have sec : ifS (noSt (tvM (op2 gtD (bagC 0) (cM (.int 0))))) (seqS (setS 4 (noSt (op2 modD (callM int1D (argC (bagC 0) argN)) (varM 1)))) (seqS (bagSetC 0 (noSt (op2 divD (bagC 0) (varM 1)))) (retS (noSt (varM 4))))) nxM [.bag b1, .imm (.int k), x1, y1, .un] = some (.nx [.bag b1, .imm (.int k), x1, y1, .un]) := by
      unfold ifS noSt
      rw [tst]
      rfl
    have q3 : op2 modD (callM int1D (argC (op2 addD (op2 mulD (bagX 0) (cM (.int 48271))) (cM (.int 11))) argN)) (cM (.int 2147483647)) [.bag b1, .imm (.int k), x1, y1, .un] = some (.int m2) := by
      show ((((mulD (.int b1.mix) (.int 48271)).bind fun x => addD x (.int 11)).bind fun x => some [x]).bind int1D).bind (fun x => modD x (.int 2147483647)) = _
      rw [mul1]
      show some (PyData.int ((b1.mix * 48271 + 11) % 2147483647)) = _
      rw [hm2]
    have a3 : bagSetX 0 (noSt (op2 modD (callM int1D (argC (op2 addD (op2 mulD (bagX 0) (cM (.int 48271))) (cM (.int 11))) argN)) (cM (.int 2147483647)))) [.bag b1, .imm (.int k), x1, y1, .un] = some (.nx [.bag ⟨b1.cells, b1.cur, m2⟩, .imm (.int k), x1, y1, .un]) := by
      unfold bagSetX noSt; rw [q3]; rfl
    have a4 : retS (noSt (op2 modD (op2 divD (op2 modD (callM int1D (argC (op2 mulD (bagX 0) (bagX 0)) argN)) (cM (.int 2147483629))) (cM (.int 7))) (varM 1))) [.bag ⟨b1.cells, b1.cur, m2⟩, .imm (.int k), x1, y1, .un] = some (.rt (.int (m2 * m2 % 2147483629 / 7 % k)) [.bag ⟨b1.cells, b1.cur, m2⟩, .imm (.int k), x1, y1, .un]) := by
      have q4 : op2 modD (op2 divD (op2 modD (callM int1D (argC (op2 mulD (bagX 0) (bagX 0)) argN)) (cM (.int 2147483629))) (cM (.int 7))) (varM 1) [.bag ⟨b1.cells, b1.cur, m2⟩, .imm (.int k), x1, y1, .un] = some (.int (m2 * m2 % 2147483629 / 7 % k)) := by
        show (((((mulD (.int m2) (.int m2)).bind fun x => some [x]).bind int1D).bind fun x => modD x (.int 2147483629)).bind fun x => divD x (.int 7)).bind (fun x => modD x (.int k)) = _
        rw [mul2]
        show (divD (.int (m2 * m2 % 2147483629)) (.int 7)).bind (fun x => modD x (.int k)) = _
        have d7 : divD (.int (m2 * m2 % 2147483629)) (.int 7) = some (.int (m2 * m2 % 2147483629 / 7)) := by
          show (if (decide ((0 : Int) < 7) && big (7 : Int).natAbs) = true then some (PyData.int (m2 * m2 % 2147483629 / 7)) else none) = _
          rw [bigS 7 (by decide) (by decide)]; rfl
        rw [d7]
        exact md _
      unfold retS noSt; rw [q4]; rfl
    have all : m_draw [.bag b, .imm (.int k), .un, .un, .un] = some (.rt (.int (m2 * m2 % 2147483629 / 7 % k)) [.bag ⟨b1.cells, b1.cur, m2⟩, .imm (.int k), x1, y1, .un]) := by
      unfold m_draw
      rw [seqS_nx first, seqS_nx sec, seqS_nx a3, a4]
    show (match m_draw [.bag b, .imm (.int k), .un, .un, .un] with
      | some (.rt d s) => (bagOf s 0).map fun b' => (d, b')
      | _ => none) = _
    rw [all]
    rfl
end Y

namespace Y
open PySem PySem.Spec PyProof.Rows L2

/-! ## the law's own bag -/
def e_cell : S → Option D := op2 modD (callM absD (argC (callM int1D (argC (varM 2) argN)) argN)) (op2 powD (cM (.int 10)) (cM (.int 64)))
def m_mix : S → Option Fl := setS 3 (noSt (op2 modD (callM int1D (argC (op2 addD (op2 addD (op2 mulD (varM 3) (cM (.int 48271))) (op2 modD (callM int1D (argC (varM 2) argN)) (cM (.int 2147483629)))) (cM (.int 7))) argN)) (cM (.int 2147483647))))
def m_own (n : Int) : S → Option Fl := seqS (setS 1 (noSt (lcM [2] (seqM (scrM 0 63)) (putM 2) yesM e_cell))) (seqS (setS 3 (noSt (op2 addD (cM (.int n)) (callM lenD (argC (varM 1) argN))))) (seqS (forS (seqE (noSt (varM 1))) (putM 2) m_mix) (retO (ownM (lstM (argC (op1 revD (callM listD (argC (varM 1) argN))) (argC (cM (.int 0)) (argC (varM 3) argN))))))))
def absI (c : Int) : Int := (if c < 0 then -c else c) % 10 ^ 64
theorem own_cells (s0 s1 s3 : M) : ∀ cs : List Int, lcGo (putM 2) yesM e_cell [s0, s1, .un, s3] (cs.map PyData.int) = some (cs.map fun c => .int (absI c))
  | [] => rfl
  | c :: cs => by
    have h : e_cell [s0, s1, .imm (.int c), s3] = some (.int (absI c)) := rfl
    rw [List.map_cons]
    unfold lcGo
    rw [own_cells s0 s1 s3 cs]
    show ((e_cell [s0, s1, .imm (.int c), s3]).bind fun y => _) = _
    rw [h]
    rfl
theorem own_mix (s0 s1 : M) : ∀ (cs : List Int) (x : M) (m : Int), 0 ≤ m → m < 2147483647 → ∃ x' m', forGo (putM 2) m_mix (cs.map PyData.int) [s0, s1, x, .imm (.int m)] = some (.nx [s0, s1, x', .imm (.int m')]) ∧ 0 ≤ m' ∧ m' < 2147483647
  | [], x, m, h0, h1 => ⟨x, m, rfl, h0, h1⟩
  | c :: cs, x, m, h0, h1 => by
    have big1 : ∀ i : Int, 0 ≤ i → i < 2147483647 → big i.natAbs = true := fun i h0 h1 => by
      unfold big
      rw [Nat.blt_eq]
      have : i.natAbs < 2 ^ 64 := by omega
      exact Nat.lt_of_lt_of_le this (Nat.pow_le_pow_right (by decide) (by decide))
    have mul : mulD (.int m) (.int 48271) = some (.int (m * 48271)) := by
      show (if (big m.natAbs && big (48271 : Int).natAbs) = true then some (PyData.int (m * 48271)) else none) = _
      rw [big1 _ h0 h1, big1 48271 (by decide) (by decide)]; rfl
    have st : m_mix [s0, s1, .imm (.int c), .imm (.int m)] = some (.nx [s0, s1, .imm (.int c), .imm (.int ((m * 48271 + c % 2147483629 + 7) % 2147483647))]) := by
      have e : op2 modD (callM int1D (argC (op2 addD (op2 addD (op2 mulD (varM 3) (cM (.int 48271))) (op2 modD (callM int1D (argC (varM 2) argN)) (cM (.int 2147483629)))) (cM (.int 7))) argN)) (cM (.int 2147483647)) [s0, s1, .imm (.int c), .imm (.int m)] = some (.int ((m * 48271 + c % 2147483629 + 7) % 2147483647)) := by
        show (((((mulD (.int m) (.int 48271)).bind fun x => ((modD (.int c) (.int 2147483629)).bind fun y => addD x y)).bind fun x => addD x (.int 7)).bind fun x => some [x]).bind int1D).bind (fun x => modD x (.int 2147483647)) = _
        rw [mul]
        rfl
      unfold m_mix setS noSt
      rw [e]
      rfl
    obtain ⟨x', m', h2, h3, h4⟩ := own_mix s0 s1 cs (.imm (.int c)) ((m * 48271 + c % 2147483629 + 7) % 2147483647) (Int.emod_nonneg _ (by decide)) (Int.emod_lt_of_pos _ (by decide))
    refine ⟨x', m', ?_, h3, h4⟩
    rw [List.map_cons]
    unfold forGo
    have p : putM 2 (.int c) [s0, s1, x, .imm (.int m)] = some [s0, s1, .imm (.int c), .imm (.int m)] := rfl
    rw [p]
    show ((m_mix [s0, s1, .imm (.int c), .imm (.int m)]).bind fun f => _) = _
    rw [st]
    exact h2
theorem own_ok (n : Int) (hn0 : 0 ≤ n) (hn : n < 1000000000) (ns : List Int) : ∃ b : Bag, OkB b ∧ ∃ s', m_own n [.scr ns, .un, .un, .un] = some (.rt (.list [.list (b.cells.map PyData.int), .int b.cur, .int b.mix]) s') := by
  have len : (ns.take 63).length ≤ 63 := by rw [List.length_take]; omega
  generalize hz : ns.take 63 = zs at len
  have c1 : lcM [2] (seqM (scrM 0 63)) (putM 2) yesM e_cell [.scr ns, .un, .un, .un] = some (.list (zs.map fun c => .int (absI c))) := by
    have src : seqM (scrM 0 63) [.scr ns, .un, .un, .un] = some (zs.map PyData.int) := by
      show some ((ns.take 63).map PyData.int) = _
      rw [hz]
    unfold lcM
    rw [src]
    show (if Nat.ble (zs.map PyData.int).length 1000000 = true then (lcGo (putM 2) yesM e_cell [.scr ns, .un, .un, .un] (zs.map PyData.int)).map PyData.list else none) = _
    rw [if_pos (by rw [Nat.ble_eq, List.length_map]; omega), own_cells]
    rfl
  have a1 : setS 1 (noSt (lcM [2] (seqM (scrM 0 63)) (putM 2) yesM e_cell)) [.scr ns, .un, .un, .un] = some (.nx [.scr ns, .imm (.list (zs.map fun c => .int (absI c))), .un, .un]) := by
    unfold setS noSt; rw [c1]; rfl
  have lz : ((zs.map fun c => PyData.int (absI c)).length : Int) = (zs.length : Int) := by rw [List.length_map]
  have a2 : setS 3 (noSt (op2 addD (cM (.int n)) (callM lenD (argC (varM 1) argN)))) [.scr ns, .imm (.list (zs.map fun c => .int (absI c))), .un, .un] = some (.nx [.scr ns, .imm (.list (zs.map fun c => .int (absI c))), .un, .imm (.int (n + (zs.length : Int)))]) := by
    show some (Fl.nx [_, _, _, .imm (.int (n + ((zs.map fun c => PyData.int (absI c)).length : Int)))]) = _
    rw [lz]
  have mp : (zs.map fun c => PyData.int (absI c)) = (zs.map absI).map PyData.int := by rw [List.map_map]; rfl
  obtain ⟨x', m', h2, h3, h4⟩ := own_mix (.scr ns) (.imm (.list (zs.map fun c => .int (absI c)))) (zs.map absI) .un (n + (zs.length : Int)) (by omega) (by omega)
  have a3 : forS (seqE (noSt (varM 1))) (putM 2) m_mix [.scr ns, .imm (.list (zs.map fun c => .int (absI c))), .un, .imm (.int (n + (zs.length : Int)))] = some (.nx [.scr ns, .imm (.list (zs.map fun c => .int (absI c))), x', .imm (.int m')]) := by
    show forGo (putM 2) m_mix (zs.map fun c => PyData.int (absI c)) _ = _
    rw [mp] at h2 ⊢
    exact h2
  refine ⟨⟨(zs.map absI).reverse, 0, m'⟩, ⟨h3, h4⟩, [.scr ns, .imm (.list (zs.map fun c => .int (absI c))), x', .imm (.int m')], ?_⟩
  unfold m_own
  rw [seqS_nx a1, seqS_nx a2, seqS_nx a3]
  show some (Fl.rt (.list [.list (zs.map fun c => PyData.int (absI c)).reverse, .int 0, .int m']) _) = _
  rw [mp, List.map_reverse]
/-- what the maker of the bag promises -/
def spO (K : Fg) : Sp := fun vs H Q _ => ∃ (a : Addr) (ns : List Int), vs = [.ref a] ∧ FrL K H a (ns.map V.int) ∧ ∀ a' c b H', Ex H H' → OkB b → BagAt H' a' c b → Q (.ref a') H'
section
variable {P : Program} {w : World} {K : Fg} {mg : Str → Option Value} {base : Heap} {T : List (Addr × Str)}
theorem sim_scr {Z : Zx} {E : Ent} {H : Hp} {a : Addr} {ns : List Int} (h : FrL Z.K H a (ns.map V.int)) (h0 : E.H0 = H) (hO : E.O0 = []) (tabs : LamX.Tabs Z.T H) : Sim Z E [] [some (.ref a), none, none, none] H [.scr ns, .un, .un, .un] := by
  refine ⟨rfl, ⟨fun _ => [], fun i m q => ?_, fun _ _ => rfl, fun i b q => (by cases q), fun i j b q => (by cases q)⟩, fun b q => (by cases q), fun b q => (by rw [hO] at q; cases q), fun b o q _ _ => by rw [h0] at q; exact q, fun b q => by rw [h0]; exact q, tabs⟩
  match i, q with
  | 0, q => cases q; exact ⟨rfl, a, rfl, h⟩
  | 1, q => cases q; rfl
  | 2, q => cases q; rfl
  | 3, q => cases q; rfl
  | i + 4, q => cases q
theorem fnO {x : Str} {st : Stmt} {f : Addr} {fd : FuncData} {k : Nat} {n : Int} {N : List Str} (hn0 : 0 ≤ n) (hn : n < 1000000000) (F : Fun K x x st f fd) (S : FnScope N ["script"] (defScope st)) (hN : N.length = 4)
    (hb : ∀ (cd : Value) (A : Around) (outer : List Env) (s : Shared) (H : Hp) (E : XK), Room k (A.deeper (envOfC x (defScope st) s.heap.objs.size f cd)) → PYs (cxOf CX0 P w K mg base N x (defScope st) f cd A outer s H E).nox [] false true (defBody st) (m_own n)) :
    FnG P w K mg base (k + 1) f fd ["script"] (spO K) := by
  obtain ⟨cd, Fc⟩ := Fun.c F
  refine Fc.okG S (fun vs H Q E h => ?_) (fun A outer s H vs Q E hr hg h => ⟨_, hb cd A outer s H E hr, ?_⟩)
  · obtain ⟨a, ns, rfl, _⟩ := h
    rfl
  · obtain ⟨a, ns, rfl, hf, q⟩ := h
    obtain ⟨b, okb, s', hm⟩ := own_ok n hn0 hn ns
    have hs : L2.start N [V.ref a] = [some (.ref a), none, none, none] := by
      unfold L2.start
      rw [hN]
      rfl
    refine ⟨⟨[], H, [], fun b z => by cases z⟩, [], _, _, ?_, hm, fun v σ' H' O' sm rr => ?_⟩
    · show Sim _ _ [] (L2.start N [V.ref a]) H _
      rw [hs]
      exact sim_scr (Z := ⟨K, [], false⟩) hf rfl rfl (fun p hp => by cases hp)
    · obtain ⟨a', vs, ds, rfl, e2, h3, h4, h5⟩ := rr
      cases e2
      cases h5 with
      | cons g1 h5 =>
        cases h5 with
        | cons g2 h5 =>
          cases h5 with
          | cons g3 h5 =>
            cases h5
            cases g2
            cases g3
            obtain ⟨c, xs, rfl, k1, k2, k3⟩ := g1.ref_list
            refine q a' c b H' (fun o u z => sm.fr o u z (fun y => by cases y) (fun y => by cases y)) okb ⟨fun z => k2 (by rw [z]; exact List.mem_cons_self), h4, ?_⟩
            rw [k1, rps_ints k3]
/-! ## the law -/
def spL (K : Fg) (T : List (Addr × Str)) : Sp := fun vs H Q _ => ∃ (a : Addr) (ns : List Int), vs = [.ref a] ∧ FrL K H a (ns.map V.int) ∧ LamX.Tabs T H ∧ ∀ H', Q (.bl true) H'
theorem sim_bag1 {Z : Zx} {H : Hp} {a c : Addr} {b : Bag} {v : V} (n : Nat) (bg : BagAt H a c b) (dom : ∀ x, x ∈ [a, c] → H x ≠ none) (tabs : LamX.Tabs Z.T H) : Sim Z ⟨[a, c], H, [a, c], dom⟩ [a, c] (some v :: some (.ref a) :: List.replicate n none) H (.un :: .bag b :: List.replicate n .un) := by
  refine ⟨by simp, ⟨fun j => match j with
    | 1 => [a, c]
    | _ => [], fun j m q => ?_, fun j q => ?_, fun j x q => ?_, fun i j x q r => ?_⟩, dom, fun x q => q, fun x o q _ _ => q, fun x q => q, tabs⟩
  · match j, q with
    | 0, q => cases q; rfl
    | 1, q => cases q; exact ⟨a, c, rfl, bg.1, rfl, trivial, rfl, bg.2.1, bg.2.2⟩
    | j + 2, q =>
      have q : (List.replicate n M.un)[j]? = some m := q
      rw [List.getElem?_replicate] at q
      split at q
      · cases q; rfl
      · cases q
  · match j, q with
    | 0, q => rfl
    | 1, q => simp at q
    | j + 2, q => rfl
  · match j, q with
    | 0, q => cases q
    | 1, q => exact q
    | j + 2, q => cases q
  · match i, j, q, r with
    | 1, 1, _, _ => rfl
    | 0, _, q, _ => cases q
    | i + 2, _, q, _ => cases q
    | 1, 0, _, r => cases r
    | 1, j + 2, _, r => cases r
theorem fnL {x : Str} {st : Stmt} {f : Addr} {fd : FuncData} {cd : Value} {N : List Str} {n k : Nat} {m : S → Option Fl} {rest : List Stmt} {p1 p2 p3 p4 p5 : Pos} (F : FunC K x st f fd cd) (S : FnScope ("script" :: "bag" :: N) ["script"] (defScope st)) (hN : N.length = n)
    (e : defBody st = .Assign [.Name "bag" p1] (.Call (.Name "_law_own_bag" p2) [.Name "script" p3] [] p4) p5 :: rest) (CO : CallG P w K mg base "_law_own_bag" ["script"] 2 (spO K))
    (hb : ∀ (A : Around) (outer : List Env) (s : Shared) (H : Hp) (E : XK), Room (k + 2) (A.deeper (envOfC x (defScope st) s.heap.objs.size f cd)) → A.guards = some [] → PYs (cxOf CX0 P w K mg base ("script" :: "bag" :: N) x (defScope st) f cd A outer s H E).nox T true false rest m)
    (hg : (defScope st).names.lookup ("_law_own_bag" : Str) = some .globalImplicit) (hv : Vis (defScope st) "script") (hl : Loc (defScope st) "bag")
    (ok : ∀ b : Bag, OkB b → ∃ s', m (.un :: .bag b :: List.replicate n .un) = some (.rt (.bool true) s')) : FnG P w K mg base (k + 3) f fd ["script"] (spL K T) := by
  refine F.okG S (fun vs H Q E h => ?_) (fun A outer s H vs Q E hr gd h => ?_)
  · obtain ⟨a, ns, rfl, _⟩ := h
    rfl
  · have hs1 : PS (cxOf CX0 P w K mg base ("script" :: "bag" :: N) x (defScope st) f cd A outer s H E).nox (.Assign [.Name "bag" p1] (.Call (.Name "_law_own_bag" p2) [.Name "script" p3] [] p4) p5) _ :=
      ps_set (i := 1) S.nd rfl hl (pe_callG (X := (cxOf CX0 P w K mg base ("script" :: "bag" :: N) x (defScope st) f cd A outer s H E).nox) (j := k + 2) CO hr gd hg (pa_cons (pe_var (i := 0) rfl hv) pa_nil) (by omega)) rfl (.inl rfl)
    refine ⟨_, by rw [e]; exact pss_cons hs1 (hb A outer s H E hr gd), ?_⟩
    obtain ⟨a, ns, rfl, hf, tabs, q⟩ := h
    refine ⟨.ref a, rfl, a, ns, rfl, hf, fun a' c b H' ex okb bg => ?_⟩
    obtain ⟨s', hm⟩ := ok b okb
    have dom : ∀ x, x ∈ [a', c] → H' x ≠ none := fun x z => by
      rcases (by simpa using z : x = a' ∨ x = c) with rfl | rfl
      · rw [bg.2.1]; exact fun z => by cases z
      · rw [bg.2.2]; exact fun z => by cases z
    refine ⟨⟨[a', c], H', [a', c], dom⟩, [a', c], _, _, ?_, hm, fun v σ' H2 O' sm rr => ?_⟩
    · have hs : (L2.start ("script" :: "bag" :: N) [V.ref a]).set 1 (some (.ref a')) = some (.ref a) :: some (.ref a') :: List.replicate n none := by
        unfold L2.start
        rw [← hN]
        simp [List.replicate_succ]
      show Sim _ _ _ ((L2.start ("script" :: "bag" :: N) [V.ref a]).set 1 (some (.ref a'))) H' _
      rw [hs]
      exact sim_bag1 n bg dom (tabs.ext ex)
    · cases rr
      exact q H2
end
end Y

namespace Y
open PySem PySem.Spec PyProof.Rows L2

/-! ## _law_same -/
def m_same : S → Option Fl := retS (noSt (andV (op2 eqD (callM reprD (argC (varM 0) argN)) (callM reprD (argC (varM 1) argN))) (op2 eqD (varM 0) (varM 1))))
theorem same_run (ds : List D) (d : D) (h : sameF ds = some d) : runF 2 m_same ds = some d := by
  unfold sameF at h
  split at h
  · next a b =>
    split at h
    · next c =>
      cases h
      simp only [Bool.and_eq_true] at c
      obtain ⟨⟨⟨c1, c2⟩, c3⟩, c4⟩ := c
      obtain rfl := deq_eq c1
      have sh := c2
      unfold okShow at sh
      rw [Bool.and_eq_true, Nat.ble_eq, Nat.ble_eq] at sh
      obtain ⟨_, _, _, lay⟩ := shown_ok a sh.1
      have shaped : SeqAt.shaped a = true := by
        unfold SeqAt.shaped
        rw [lay, Bool.true_and, decide_eq_true_eq]
        omega
      have r : reprD [a] = some (.str (PyData.shown a)) := by
        show (if (okShow a && isRef a) = true then _ else _) = _
        rw [c2, c4]
        rfl
      have e1 : eqD a a = some (.bool true) := by
        have g : (if (SeqAt.shaped a && SeqAt.shaped a) = true then some (PyData.bool (PyData.eqv a a)) else none) = some (.bool true) := by
          rw [shaped, SeqAt.eqv_refl a lay]
          rfl
        cases a with
        | list xs => exact g
        | tuple xs => exact g
        | _ => cases c4
      have e2 : eqD (.str (PyData.shown a)) (.str (PyData.shown a)) = some (.bool true) := by
        show some (PyData.bool (PyData.shown a == PyData.shown a)) = _
        rw [beq_self_eq_true]
      have q1 : callM reprD (argC (varM 0) argN) [.imm a, .imm a] = some (.str (PyData.shown a)) := r
      have q2 : callM reprD (argC (varM 1) argN) [.imm a, .imm a] = some (.str (PyData.shown a)) := r
      have q : andV (op2 eqD (callM reprD (argC (varM 0) argN)) (callM reprD (argC (varM 1) argN))) (op2 eqD (varM 0) (varM 1)) [.imm a, .imm a] = some (.bool true) := by
        unfold andV op2
        rw [q1, q2]
        simp only [Option.bind, e2, boolD, if_true]
        exact e1
      show outF (retS (noSt _) [.imm a, .imm a]) = _
      unfold retS noSt
      rw [q]
      rfl
    · cases h
  · cases h
theorem CallG.same {P : Program} {w : World} {K : Fg} {mg : Str → Option Value} {base : Heap} {k : Nat} (C : CallG P w K mg base "_law_same" ["one", "other"] k (spF K false 2 (runF 2 m_same))) : CallG P w K mg base "_law_same" ["one", "other"] k (spF K false 2 sameF) :=
  C.imp fun vs H Q E ⟨O, ds, d, h1, h2, h3, h4, h5⟩ => ⟨O, ds, d, h1, h2, h3, same_run ds d h4, h5⟩

/-! ## the row's end -/
theorem spL_any {K : Fg} {T : List (Addr × Str)} {H : Hp} {a : Addr} {ns : List Int} (h : FrL K H a (ns.map V.int)) (t : LamX.Tabs T H) : spL K T [.ref a] H (fun v _ => v = .bl true) (fun _ _ _ => False) := ⟨a, ns, rfl, h, t, fun _ => rfl⟩
section
variable {P : Program} {w : World} {K : Fg} {mg mb : Str → Option Value} {s : Shared} {a : Addr} {vs : List Value} {ns : List Int} {cs : List (Addr × Addr)}
/-- the script (where the text does not hold it) and the tables are what is tracked -/
def startH (K : Fg) (a : Addr) (vs : List Value) (ns : List Int) (cs : List (Addr × Addr)) : Hp := fun b =>
  if b = a ∧ K.lookup a = none then some (.frz { cls := .type "list", data := .seq vs.toArray } (.lst (ns.map V.int))) else if b ∈ cs.map (·.2) then some (.tbl #[]) else none
theorem startH_cases (b : Addr) : (b = a ∧ K.lookup a = none ∧ startH K a vs ns cs b = some (.frz { cls := .type "list", data := .seq vs.toArray } (.lst (ns.map V.int)))) ∨ (b ∈ cs.map (·.2) ∧ startH K a vs ns cs b = some (.tbl #[])) ∨ startH K a vs ns cs b = none := by
  unfold startH
  by_cases h : b = a ∧ K.lookup a = none
  · exact .inl ⟨h.1, h.2, if_pos h⟩
  · by_cases h2 : b ∈ cs.map (·.2)
    · exact .inr (.inl ⟨h2, by rw [if_neg h, if_pos h2]⟩)
    · exact .inr (.inr (by rw [if_neg h, if_neg h2]))
theorem lawG_call {k : Nat} {fa : Addr} {fd : FuncData} {x : Str} {T : List (Addr × Str)} (KX : K.In s.heap) (hns : s.heap.Ns mainGlobals mg) (hb : s.heap.Ns builtinsNs mb) (hbb : ∀ x : Str, x ≠ "__name__" → mb x = bootBuiltins x) (hlim : s.heap.NoLimit) (hg : s.gens = #[])
    (hT : ∀ p ∈ cs, s.heap.get? p.2 = some { cls := .none, data := .fields #[] }) (nT : ∀ p ∈ cs, K.lookup p.2 = none) (C : ∀ p ∈ cs, PySem.W.CodeHd s.heap p.1 p.2)
    (hbm : ∃ (bm : Addr) (ob : Obj), mg "__builtins__" = some (.ref bm) ∧ bm ≠ builtinsNs ∧ s.heap.get? bm = some ob ∧ ob.cls = .type "module" ∧ ob.dict = some builtinsNs ∧ ob.data = .plain)
    (ha : s.heap.get? a = some { cls := .type "list", data := .seq vs.toArray }) (hi : IntsAre vs ns) (hl : ns.length ≤ sizeLine) (hr : Room k callerA) (gd : callerA.guards = some [])
    (F : ∀ base : Heap, K.In base → base.Ns mainGlobals mg → (∀ p ∈ cs, LamX.TabB base mg p.1 p.2) → FnG P w K mg base k fa fd [x] (spL K T)) (hbind : ∀ (s : Shared) (u : Value), BindsTo s fd ⟨[u], []⟩ [(x, u)]) (hTT : ∀ p ∈ T, p.1 ∈ cs.map (·.2)) :
    codeAny (model P w) callerA (.call (.ref fa) ⟨[.ref a], []⟩) (fun r s' => r = .ok (.ret (.bool true)) ∧ OldK s.heap s'.heap ∧ s'.os = s.os ∧ AllBare s'.gens) s := by
  have hints := vals_ints hi
  have tabAt : ∀ b, b ∈ cs.map (·.2) → s.heap.get? b = some { cls := .none, data := .fields #[] } := fun b m => by
    obtain ⟨p, hp, rfl⟩ := List.mem_map.mp m
    exact hT p hp
  have aNo : a ∉ cs.map (·.2) := fun z => by
    have := tabAt a z
    rw [ha] at this
    cases this
  obtain ⟨H, eH⟩ : ∃ H, H = startH K a vs ns cs := ⟨_, rfl⟩
  have look := fun b => startH_cases (K := K) (a := a) (vs := vs) (ns := ns) (cs := cs) b
  rw [← eH] at look
  have isTab : ∀ b, b ∈ cs.map (·.2) → H b = some (.tbl #[]) := fun b m => by
    rcases look b with ⟨rfl, _, _⟩ | ⟨_, q⟩ | q
    · exact absurd m aNo
    · exact q
    · rw [eH] at q
      unfold startH at q
      rw [if_neg (show ¬(b = a ∧ K.lookup a = none) from fun z => aNo (z.1 ▸ m)), if_pos m] at q
      cases q
  -- what is neither a list nor an empty table is not tracked
  have free : ∀ b o, s.heap.get? b = some o → (∀ xs n, o.data ≠ .seq xs n) → o.data ≠ .fields #[] → H b = none := fun b o e h1 h2 => by
    rcases look b with ⟨rfl, _, _⟩ | ⟨m, _⟩ | q
    · rw [ha] at e; cases e; exact absurd rfl (h1 _ _)
    · rw [tabAt b m] at e; cases e; exact absurd rfl h2
    · exact q
  have down : ∀ b o, s.heap.get? b = some o → H b = none → (hidT s.heap H).get? b = some o := fun b o e n => hidT_get e n
  have nsDown : ∀ {b : Addr} {m : Str → Option Value}, s.heap.Ns b m → (hidT s.heap H).Ns b m := fun {b m} ⟨o, es, ep, e, d, r⟩ => ⟨o, es, ep, down b o e (free b o e (fun _ _ z => by rw [d] at z; cases z) (fun z => by rw [d] at z; cases z)), d, r⟩
  have ok : HOk P w H s.heap := fun b u z => by
    rcases look b with ⟨rfl, _, q⟩ | ⟨m, q⟩ | q
    · rw [q] at z
      cases z
      exact ⟨ha, by rw [List.length_map]; exact hl, vs, _, hints, ha⟩
    · rw [q] at z
      cases z
      exact tabAt b m
    · rw [q] at z; cases z
  have kb : K.In (hidT s.heap H) := fun b o e => down b o (KX b o e) (by
    rcases look b with ⟨rfl, n, _⟩ | ⟨m, _⟩ | q
    · rw [n] at e; cases e
    · obtain ⟨p, hp, rfl⟩ := List.mem_map.mp m
      rw [nT p hp] at e; cases e
    · exact q)
  have md : L2.Mod K mg (hidT s.heap H) := ⟨kb, nsDown hns, ⟨mb, nsDown hb, hbb⟩, let ⟨mc, z1, z2⟩ := hlim; ⟨mc, nsDown z1, z2⟩⟩
  have TB : ∀ p ∈ cs, LamX.TabB (hidT s.heap H) mg p.1 p.2 := fun p hp => by
    have at2 := hT p hp
    refine ⟨?_, ?_, fun z => ?_⟩
    · obtain ⟨o, us, file, tf, flags, tg, inF, text, tt, g1, g2, g3, g4⟩ := C p hp
      exact ⟨o, us, file, tf, flags, tg, inF, text, tt, down _ o g1 (free _ o g1 (fun _ _ z => by rw [g3] at z; cases z) (fun z => by
        rw [g3] at z
        cases z
        have g5 := g4.1
        simp at g5)), g2, g3, g4⟩
    · obtain ⟨bm, ob, b1, b2, b3, b4, b5, b6⟩ := hbm
      refine ⟨bm, ob, b1, b2, fun z => ?_, fun z => ?_, down _ ob b3 (free _ ob b3 (fun _ _ z => by rw [b6] at z; cases z) (fun z => by rw [b6] at z; cases z)), b4, b5, b6⟩
      · obtain ⟨o, es, ep, e, d, _⟩ := hns
        rw [← z, b3] at e
        cases e
        rw [b6] at d; cases d
      · rw [← z, b3] at at2
        cases at2
        cases b6
    · obtain ⟨o, es, ep, e, d, _⟩ := hns
      rw [z, at2] at e
      cases e
      cases d
  have e0 : Env0 P w K mg (hidT s.heap H) callerA [] s H := ⟨rfl, md, fun b o e => of_hidT e, Nat.le_of_eq (hidT_size _ _), trivial, fun b z => (by cases z), ok, .of_eq hg⟩
  have fr : FrL K H a (ns.map V.int) := by
    rcases look a with ⟨_, _, q⟩ | ⟨m, _⟩ | q
    · exact .inl ⟨_, q⟩
    · exact absurd m aNo
    · cases hk : K.lookup a with
      | none =>
        rw [eH] at q
        unfold startH at q
        rw [if_pos ⟨rfl, hk⟩] at q
        cases q
      | some o =>
        have e := KX a o hk
        rw [ha] at e
        cases e
        exact .inr (.inr ⟨_, vs.toArray, _, hk, rfl, rfl, rfl, by rw [List.size_toArray, hi.length]; exact hl, by simpa using hints⟩)
  have tabs : LamX.Tabs T H := fun p hp => LamX.TabS.nil (isTab _ (hTT p hp))
  refine codeAny_mono ((F _ kb (nsDown hns) TB).run callerA [] s H ⟨[.ref a], []⟩ [.ref a] [.ref a] _ _ hr gd e0 (hbind s (.ref a)) (.cons rfl .nil) (spL_any fr tabs)) fun r s' h => ?_
  cases r with
  | error e => exact h.elim
  | ok fl =>
    cases fl with
    | next => exact h.elim
    | brk => exact h.elim
    | cont => exact h.elim
    | ret u =>
      obtain ⟨v, H', os, bare, un, ok', rv, rfl⟩ := h
      obtain rfl : u = Value.bool true := rv
      have stays : ∀ b o, b ∉ cs.map (·.2) → s.heap.get? b = some o → s'.heap.get? b = some o := fun b o nb e => by
        rcases look b with ⟨rfl, _, q⟩ | ⟨m, _⟩ | q
        · have e1 := (ok' b _ (un.frzs b _ _ q)).1
          rw [ha] at e
          cases e
          exact e1
        · exact absurd m nb
        · exact un.keep b o e q (fun z => by cases z) (by simp)
      have grows : ∀ p ∈ cs, ∃ more : Array Value, s'.heap.get? p.2 = some { cls := .none, data := .fields more } := fun p hp => by
        obtain ⟨more, z⟩ := un.tbls p.2 #[] (isTab _ (List.mem_map.mpr ⟨p, hp, rfl⟩))
        exact ⟨_, ok' p.2 _ z⟩
      refine ⟨rfl, ⟨fun b o e => ?_, fun b o e => ?_⟩, os, bare⟩ <;> by_cases m : b ∈ cs.map (·.2)
      · obtain ⟨p, hp, rfl⟩ := List.mem_map.mp m
        obtain ⟨more, z⟩ := grows p hp
        rw [hT p hp] at e
        cases e
        exact .inr (.inl ⟨((C p hp).tab (hT p hp)).isCodeTable, rfl, #[], more, rfl, by rw [Array.empty_append]; exact z⟩)
      · exact .inl (stays b o m e)
      · obtain ⟨p, hp, rfl⟩ := List.mem_map.mp m
        obtain ⟨more, z⟩ := grows p hp
        exact ⟨_, z⟩
      · exact ⟨o, stays b o m e⟩
/-- what is known of the law at the head's heap -/
def LawG (l : PySem.W.OpenLaw) (w : World) (K : Fg) (k : Nat) (x : Str) (mg : Str → Option Value) (fa : Addr) (h : Heap) : Prop :=
  ∃ (fd : FuncData) (cs : List (Addr × Addr)) (T : List (Addr × Str)), (∀ p ∈ cs, h.get? p.2 = some { cls := .none, data := .fields #[] }) ∧ (∀ p ∈ cs, K.lookup p.2 = none) ∧ (∀ p ∈ cs, PySem.W.CodeHd h p.1 p.2) ∧ (∀ (s : Shared) (u : Value), BindsTo s fd ⟨[u], []⟩ [(x, u)]) ∧ (∀ p ∈ T, p.1 ∈ cs.map (·.2)) ∧
    ∀ base : Heap, K.In base → base.Ns mainGlobals mg → (∀ p ∈ cs, LamX.TabB base mg p.1 p.2) → FnG l.prog w K mg base k fa fd [x] (spL K T)
theorem walkG {l : PySem.W.OpenLaw} {n k : Nat} {q : Program} {loose : List Str} {XP : (Str → Option Value) → Heap → Prop} {YP : World → Heap → Prop} {d : DefRec} {K : Params → PySem.W.Frag} {x : Str} (hn : l.most = some n) (hn2 : n ≤ sizeLine) (hdf : d.params.defaults = []) (hr : Room k callerA) (gd : callerA.guards = some [])
    (hY : ∀ (w : World) (h : Heap), YP w h → (K w.params).In h) (F : ∀ (w : World) (mg : Str → Option Value) (fa : Addr) (h : Heap), YP w h → (K w.params).In h → h.Ns mainGlobals mg → mg d.name = some (.ref fa) → LawG l w (K w.params) k x mg fa h) :
    PySem.W.WalkO q loose XP YP l.row.toRowW d [] (fun f vs => PySem.call f vs) := by
  refine Att.attach_callB hn hdf fun w s₀ s₁ mg mb fa o pm cd doc a vs ns G Y ho hd hcd hmg hobj hints hlen hbits hg => ?_
  have KX := hY w _ Y
  obtain ⟨fd, cs, T, hT, nT, C, hb, hTT, hF⟩ := F w mg fa _ Y KX G.T.g hmg
  exact lawG_call KX G.T.g G.T.b G.T.builtins G.T.nolimit hg hT nT C G.T.bmain hobj hints (Nat.le_trans hlen hn2) hr gd hF hb hTT
end
end Y

namespace Y
open PySem PySem.Spec PyProof.Rows L2

/-! ## what a walk comes to: the plain law's own steps -/
def Wp {α : Type} (m : S → Option α) (s : S) (Q : α → Prop) : Prop := ∃ a, m s = some a ∧ Q a
def We (m : S → Option (D × S)) (s : S) (Q : D → S → Prop) : Prop := ∃ d s', m s = some (d, s') ∧ Q d s'
def Wl (m : S → Option (List D × S)) (s : S) (Q : List D → S → Prop) : Prop := ∃ d s', m s = some (d, s') ∧ Q d s'
def Wt (m : S → Option (Bool × S)) (s : S) (Q : Bool → S → Prop) : Prop := ∃ d s', m s = some (d, s') ∧ Q d s'
/-- an answer there is -/
def Hv {α : Type} (o : Option α) (Q : α → Prop) : Prop := ∃ a, o = some a ∧ Q a
theorem hv_some {α : Type} {a : α} {Q : α → Prop} (h : Q a) : Hv (some a) Q := ⟨a, rfl, h⟩
theorem hv_of {α : Type} {o : Option α} {a : α} {Q : α → Prop} (e : o = some a) (h : Q a) : Hv o Q := ⟨a, e, h⟩
def seqQ (b : S → Option Fl) (Q : Fl → Prop) : Fl → Prop
  | .nx s => Wp b s Q
  | f => Q f
section
variable {Q : Fl → Prop} {s : S} {a b m n : S → Option Fl} {i j : Nat}
theorem w_seq (h : Wp a s (seqQ b Q)) : Wp (seqS a b) s Q := by
  obtain ⟨f, h1, h2⟩ := h
  unfold seqS Wp
  dsimp only
  rw [h1]
  cases f with
  | nx s' => exact h2
  | bk s' => exact ⟨_, rfl, h2⟩
  | ct s' => exact ⟨_, rfl, h2⟩
  | rt d s' => exact ⟨_, rfl, h2⟩
theorem w_nx (h : Q (.nx s)) : Wp nxM s Q := ⟨_, rfl, h⟩
theorem w_bk (h : Q (.bk s)) : Wp bkM s Q := ⟨_, rfl, h⟩
theorem w_ct (h : Q (.ct s)) : Wp ctM s Q := ⟨_, rfl, h⟩
theorem w_if {t : S → Option (Bool × S)} (h : Wt t s fun c s' => (c = true → Wp a s' Q) ∧ (c = false → Wp b s' Q)) : Wp (ifS t a b) s Q := by
  obtain ⟨c, s', h1, h2, h3⟩ := h
  unfold ifS Wp
  dsimp only
  rw [h1]
  cases c with
  | true => exact h2 rfl
  | false => exact h3 rfl
theorem w_ret {e : S → Option (D × S)} (h : We e s fun d s' => Q (.rt d s')) : Wp (retS e) s Q := by
  obtain ⟨d, s', h1, h2⟩ := h
  exact ⟨_, by unfold retS; rw [h1]; rfl, h2⟩
theorem w_retO {e : S → Option (List D × S)} (h : Wl e s fun d s' => Q (.rt (.list d) s')) : Wp (retO e) s Q := by
  obtain ⟨d, s', h1, h2⟩ := h
  exact ⟨_, by unfold retO; rw [h1]; rfl, h2⟩
theorem w_retV {ds : List D} (e : s[i]? = some (.ol ds)) (h : Q (.rt (.list ds) (s.set i (.imm (.list ds))))) : Wp (retV i) s Q := ⟨_, by unfold retV; rw [e], h⟩
theorem w_set {e : S → Option (D × S)} (h : We e s fun d s' => i < s'.length ∧ Q (.nx (s'.set i (.imm d)))) : Wp (setS i e) s Q := by
  obtain ⟨d, s', h1, h2, h3⟩ := h
  exact ⟨_, by unfold setS; rw [h1]; exact if_pos h2, h3⟩
theorem w_setO {e : S → Option (List D × S)} (h : Wl e s fun d s' => i < s'.length ∧ Q (.nx (s'.set i (.ol d)))) : Wp (setO i e) s Q := by
  obtain ⟨d, s', h1, h2, h3⟩ := h
  exact ⟨_, by unfold setO; rw [h1]; exact if_pos h2, h3⟩
theorem w_asg {g : D → S → Option S} {e : S → Option (D × S)} (h : We e s fun d s' => Hv (g d s') fun s2 => Q (.nx s2)) : Wp (asgS g e) s Q := by
  obtain ⟨d, s', h1, s2, h2, h3⟩ := h
  exact ⟨_, by unfold asgS; rw [h1]; show (g d s').map Fl.nx = _; rw [h2]; rfl, h3⟩
theorem w_drop {e : S → Option (D × S)} (h : We e s fun d s' => Q (.nx s')) : Wp (dropS e) s Q := by
  obtain ⟨d, s', h1, h2⟩ := h
  exact ⟨_, by unfold dropS; rw [h1]; rfl, h2⟩
theorem w_par {e : S → Option (List D × S)} (h : Wl e s fun ds s' => ∃ x y, ds = [x, y] ∧ i < s'.length ∧ j < s'.length ∧ Q (.nx ((s'.set i (.imm x)).set j (.imm y)))) : Wp (parS i j e) s Q := by
  obtain ⟨ds, s', h1, x, y, rfl, h2, h3, h4⟩ := h
  exact ⟨_, by unfold parS; rw [h1]; exact if_pos ⟨h2, h3⟩, h4⟩
theorem w_app {e : S → Option (D × S)} {d0 : List D} (h0 : s[i]? = some (.ol d0)) (h : We e s fun d s' => ∃ ds, s'[i]? = some (.ol ds) ∧ ds.length ≤ 1000000 ∧ Q (.nx (s'.set i (.ol (ds ++ [d]))))) : Wp (appS i e) s Q := by
  obtain ⟨d, s', h1, ds, h2, h3, h4⟩ := h
  refine ⟨_, ?_, h4⟩
  have e0 : olAt s i = some d0 := by unfold olAt; rw [h0]
  have e1 : olAt s' i = some ds := by unfold olAt; rw [h2]
  unfold appS
  rw [e0]
  show ((e s).bind fun p => _) = _
  rw [h1]
  show ((olAt s' i).bind fun ds => _) = _
  rw [e1]
  exact if_pos (by rw [Nat.ble_eq]; exact h3)
theorem w_ext {e : S → Option (D × S)} {d0 : List D} (h0 : s[i]? = some (.ol d0)) (h : We e s fun d s' => ∃ ds es, s'[i]? = some (.ol ds) ∧ lstOf d = some es ∧ ds.length + es.length ≤ 1000000 ∧ Q (.nx (s'.set i (.ol (ds ++ es))))) : Wp (extS i e) s Q := by
  obtain ⟨d, s', h1, ds, es, h2, h3, h4, h5⟩ := h
  refine ⟨_, ?_, h5⟩
  have e0 : olAt s i = some d0 := by unfold olAt; rw [h0]
  have e1 : olAt s' i = some ds := by unfold olAt; rw [h2]
  unfold extS
  rw [e0]
  show ((e s).bind fun p => _) = _
  rw [h1]
  show ((olAt s' i).bind fun ds => _) = _
  rw [e1]
  show ((lstOf d).bind fun es => _) = _
  rw [h3]
  exact if_pos (by rw [Nat.ble_eq]; exact h4)
theorem w_setix {mi : S → Option D} {e : S → Option (D × S)} (h : We e s fun d s' => ∃ ds k jx, s'[i]? = some (.ol ds) ∧ mi s' = some (.int k) ∧ ixN ds.length k = some jx ∧ Q (.nx (s'.set i (.ol (ds.set jx d))))) : Wp (setIxS i mi e) s Q := by
  obtain ⟨d, s', h1, ds, k, jx, h2, h3, h4, h5⟩ := h
  refine ⟨_, ?_, h5⟩
  have e1 : olAt s' i = some ds := by unfold olAt; rw [h2]
  unfold setIxS
  rw [h1]
  show ((olAt s' i).bind fun ds => _) = _
  rw [e1]
  show ((mi s').bind fun k => _) = _
  rw [h3]
  show ((ixN ds.length k).bind fun j => _) = _
  rw [h4]
  rfl
/-- one turn of a loop -/
def loopQ (Q : Fl → Prop) (I : S → Prop) : Fl → Prop
  | .nx s => I s
  | .ct s => I s
  | .bk s => Q (.nx s)
  | .rt d s => Q (.rt d s)
theorem for_go {g : D → S → Option S} {Q : Fl → Prop} (I : Nat → S → Prop) : ∀ (ds : List D) (k : Nat) (s : S), I k s → (∀ i d s, ds[i]? = some d → I (k + i) s → Hv (g d s) fun s1 => Wp m s1 (loopQ Q (I (k + i + 1)))) → (∀ s, I (k + ds.length) s → Q (.nx s)) → ∃ f, forGo g m ds s = some f ∧ Q f
  | [], k, s, h, _, hq => ⟨_, rfl, hq s h⟩
  | d :: ds, k, s, h, hs, hq => by
    obtain ⟨s1, h1, f, h2, h3⟩ := hs 0 d s rfl h
    unfold forGo
    rw [h1]
    show ∃ f, ((m s1).bind fun f => _) = some f ∧ _
    rw [h2]
    have next : ∀ s2, I (k + 0 + 1) s2 → ∃ f, forGo g m ds s2 = some f ∧ Q f := fun s2 h => for_go I ds (k + 1) s2 h (fun i d s e q => by
      have := hs (i + 1) d s e (by rw [show k + (i + 1) = k + 1 + i by omega]; exact q)
      rw [show k + (i + 1) + 1 = k + 1 + i + 1 by omega] at this
      exact this) fun s q => hq s (by rw [List.length_cons, show k + (ds.length + 1) = k + 1 + ds.length by omega]; exact q)
    cases f with
    | nx s2 => exact next s2 h3
    | ct s2 => exact next s2 h3
    | bk s2 => exact ⟨_, rfl, h3⟩
    | rt d s2 => exact ⟨_, rfl, h3⟩
theorem w_for {g : D → S → Option S} {src : S → Option (List D × S)} (h : Wl src s fun ds s' => ∃ I : Nat → S → Prop, I 0 s' ∧ (∀ i d s, ds[i]? = some d → I i s → Hv (g d s) fun s1 => Wp m s1 (loopQ Q (I (i + 1)))) ∧ ∀ s, I ds.length s → Q (.nx s)) : Wp (forS src g m) s Q := by
  obtain ⟨ds, s', h1, I, h2, h3, h4⟩ := h
  unfold forS Wp
  dsimp only
  rw [h1]
  exact for_go I ds 0 s' h2 (fun i d s e q => by
    have := h3 i d s e (by rwa [Nat.zero_add] at q)
    rwa [Nat.zero_add]) fun s q => h4 s (by rwa [Nat.zero_add] at q)
theorem w_while {t : S → Option (Bool × S)} (I : Nat → S → Prop) : ∀ (fuel : Nat) (s : S), I fuel s → (∀ k s, I (k + 1) s → Wt t s fun c s' => (c = true → Wp m s' (loopQ Q (I k))) ∧ (c = false → Q (.nx s'))) → (∀ s, ¬ I 0 s) → Wp (whGo t m fuel) s Q
  | 0, s, h, _, h0 => absurd h (h0 s)
  | k + 1, s, h, hs, h0 => by
    obtain ⟨c, s', h1, h2, h3⟩ := hs k s h
    unfold Wp whGo
    rw [h1]
    cases c with
    | false => exact ⟨_, rfl, h3 rfl⟩
    | true =>
      obtain ⟨f, h4, h5⟩ := h2 rfl
      show ∃ f, ((m s').bind fun f => _) = some f ∧ _
      rw [h4]
      cases f with
      | nx s2 => exact w_while I k s2 h5 hs h0
      | ct s2 => exact w_while I k s2 h5 hs h0
      | bk s2 => exact ⟨_, rfl, h5⟩
      | rt d s2 => exact ⟨_, rfl, h5⟩
end
section
variable {s : S} {i : Nat}
/-! effectful expressions -/
theorem we_q {m : S → Option D} {Q : D → S → Prop} (h : Wp m s fun d => Q d s) : We (noSt m) s Q := by
  obtain ⟨d, h1, h2⟩ := h
  exact ⟨d, s, by unfold noSt; rw [h1]; rfl, h2⟩
theorem wt_q {m : S → Option Bool} {Q : Bool → S → Prop} (h : Wp m s fun d => Q d s) : Wt (noSt m) s Q := by
  obtain ⟨d, h1, h2⟩ := h
  exact ⟨d, s, by unfold noSt; rw [h1]; rfl, h2⟩
theorem wl_own {m : S → Option D} {Q : List D → S → Prop} (h : Wp m s fun d => ∃ ds, d = .list ds ∧ Q ds s) : Wl (ownM m) s Q := by
  obtain ⟨d, h1, ds, rfl, h2⟩ := h
  exact ⟨ds, s, by unfold ownM; rw [h1]; rfl, h2⟩
theorem we_frzO {ds : List D} {Q : D → S → Prop} (e : s[i]? = some (.ol ds)) (h : Q (.list ds) (s.set i (.imm (.list ds)))) : We (frzM i) s Q := ⟨_, _, by unfold frzM; rw [e], h⟩
theorem we_frzI {d : D} {Q : D → S → Prop} (e : s[i]? = some (.imm d)) (h : Q d s) : We (frzM i) s Q := ⟨_, _, by unfold frzM; rw [e], h⟩
theorem we_op2 {g : D → D → Option D} {a b : S → Option (D × S)} {Q : D → S → Prop} (h : We a s fun x s1 => We b s1 fun y s2 => Hv (g x y) fun d => Q d s2) : We (op2E g a b) s Q := by
  obtain ⟨x, s1, h1, y, s2, h2, d, h3, h4⟩ := h
  refine ⟨d, s2, ?_, h4⟩
  unfold op2E
  rw [h1]
  show ((b s1).bind fun q => _) = _
  rw [h2]
  show (g x y).map _ = _
  rw [h3]
  rfl
theorem wl_nil {Q : List D → S → Prop} (h : Q [] s) : Wl argNE s Q := ⟨_, _, rfl, h⟩
theorem wl_cons {a : S → Option (D × S)} {r : S → Option (List D × S)} {Q : List D → S → Prop} (h : We a s fun x s1 => Wl r s1 fun xs s2 => Q (x :: xs) s2) : Wl (argCE a r) s Q := by
  obtain ⟨x, s1, h1, xs, s2, h2, h3⟩ := h
  refine ⟨_, _, ?_, h3⟩
  unfold argCE
  rw [h1]
  show ((r s1).bind fun q => _) = _
  rw [h2]
  rfl
theorem we_tup {r : S → Option (List D × S)} {Q : D → S → Prop} (h : Wl r s fun xs s1 => xs.length ≤ 10000 ∧ Q (.tuple xs) s1) : We (tupE r) s Q := by
  obtain ⟨xs, s1, h1, h2, h3⟩ := h
  exact ⟨_, _, by unfold tupE; rw [h1]; exact if_pos h2, h3⟩
theorem wl_lst {r : S → Option (List D × S)} {Q : List D → S → Prop} (h : Wl r s fun xs s1 => xs.length ≤ 10000 ∧ Q xs s1) : Wl (lstE r) s Q := by
  obtain ⟨xs, s1, h1, h2, h3⟩ := h
  exact ⟨_, _, by unfold lstE; rw [h1]; exact if_pos h2, h3⟩
theorem we_call {g : List D → Option D} {r : S → Option (List D × S)} {Q : D → S → Prop} (h : Wl r s fun xs s1 => Hv (g xs) fun d => Q d s1) : We (callE g r) s Q := by
  obtain ⟨xs, s1, h1, d, h2, h3⟩ := h
  exact ⟨_, _, by unfold callE; rw [h1]; show (g xs).map _ = _; rw [h2]; rfl, h3⟩
theorem we_callT {g : List D → Option D} {r : S → Option (List D × S)} {Q : D → S → Prop} (h : Wl r s fun xs s1 => Hv (g xs) fun d => Q d s1) : We (callT g r) s Q := by
  obtain ⟨xs, s1, h1, d, h2, h3⟩ := h
  exact ⟨_, _, by unfold callT; rw [h1]; show (g xs).map _ = _; rw [h2]; rfl, h3⟩
theorem we_callB {F : Bag → List D → Option (D × Bag)} {n : S → Option (List D × S)} {Q : D → S → Prop} {b0 : Bag} (e : s[i]? = some (.bag b0)) (h : Wl n s fun ds s1 => ∃ b, s1[i]? = some (.bag b) ∧ Hv (F b ds) fun p => Q p.1 (s1.set i (.bag p.2))) : We (callB i F n) s Q := by
  obtain ⟨ds, s1, h1, b, h2, p, h3, h4⟩ := h
  refine ⟨_, _, ?_, h4⟩
  have e0 : bagOf s i = some b0 := by unfold bagOf; rw [e]
  have e1 : bagOf s1 i = some b := by unfold bagOf; rw [h2]
  unfold callB
  rw [e0]
  show ((n s).bind fun p => _) = _
  rw [h1]
  show ((bagOf s1 i).bind fun b => _) = _
  rw [e1]
  show (F b ds).map _ = _
  rw [h3]
  rfl
/-- a draw: any number below -/
theorem we_draw {k : Int} {b : Bag} {Q : D → S → Prop} (e : s[i]? = some (.bag b)) (ok : OkB b) (h0 : 0 < k) (h1 : k < 2 ^ 64) (h : ∀ v b', 0 ≤ v → v < k → OkB b' → Q (.int v) (s.set i (.bag b'))) : We (callB i F_draw (argCE (noSt (cM (.int k))) argNE)) s Q := by
  obtain ⟨v, b', g1, g2, g3, g4⟩ := draw_ok b k ok h0 h1
  exact we_callB e ⟨[.int k], s, rfl, b, e, _, g1, h v b' g2 g3 g4⟩
theorem draw_hv {k : Int} {b : Bag} {Q : D × Bag → Prop} (ok : OkB b) (h0 : 0 < k) (h1 : k < 2 ^ 64) (h : ∀ v b', 0 ≤ v → v < k → OkB b' → Q (.int v, b')) : Hv (F_draw b [.int k]) Q := by
  obtain ⟨v, b', g1, g2, g3, g4⟩ := draw_ok b k ok h0 h1
  exact ⟨_, g1, h v b' g2 g3 g4⟩
theorem wt_v {a : S → Option (D × S)} {Q : Bool → S → Prop} (h : We a s fun d s1 => ∃ c, d = .bool c ∧ Q c s1) : Wt (tvE a) s Q := by
  obtain ⟨d, s1, h1, c, rfl, h2⟩ := h
  exact ⟨_, _, by unfold tvE; rw [h1]; rfl, h2⟩
theorem wt_not {a : S → Option (Bool × S)} {Q : Bool → S → Prop} (h : Wt a s fun c s1 => Q (!c) s1) : Wt (notE a) s Q := by
  obtain ⟨c, s1, h1, h2⟩ := h
  exact ⟨_, _, by unfold notE; rw [h1]; rfl, h2⟩
theorem wt_and {a b : S → Option (Bool × S)} {Q : Bool → S → Prop} (h : Wt a s fun c s1 => (c = true → Wt b s1 Q) ∧ (c = false → Q false s1)) : Wt (andE a b) s Q := by
  obtain ⟨c, s1, h1, h2, h3⟩ := h
  unfold andE Wt
  dsimp only
  rw [h1]
  cases c with
  | true => exact h2 rfl
  | false => exact ⟨_, _, rfl, h3 rfl⟩
theorem wt_or {a b : S → Option (Bool × S)} {Q : Bool → S → Prop} (h : Wt a s fun c s1 => (c = true → Q true s1) ∧ (c = false → Wt b s1 Q)) : Wt (orE a b) s Q := by
  obtain ⟨c, s1, h1, h2, h3⟩ := h
  unfold orE Wt
  dsimp only
  rw [h1]
  cases c with
  | true => exact ⟨_, _, rfl, h2 rfl⟩
  | false => exact h3 rfl
theorem we_if {t : S → Option (Bool × S)} {a b : S → Option (D × S)} {Q : D → S → Prop} (h : Wt t s fun c s1 => (c = true → We a s1 Q) ∧ (c = false → We b s1 Q)) : We (ifE t a b) s Q := by
  obtain ⟨c, s1, h1, h2, h3⟩ := h
  unfold ifE We
  dsimp only
  rw [h1]
  cases c with
  | true => exact h2 rfl
  | false => exact h3 rfl
theorem we_is {n : S → Option (D × S)} {m1 m2 : S → Option D} {Q : D → S → Prop} (h : We n s fun d s1 => Wp m1 s1 fun d1 => Wp m2 s1 fun d2 => isOk d d1 d2 = true ∧ Q (.bool true) s1) : We (isM n m1 m2) s Q := by
  obtain ⟨d, s1, h1, d1, h2, d2, h3, h4, h5⟩ := h
  refine ⟨_, _, ?_, h5⟩
  unfold isM
  rw [h1]
  show ((m1 s1).bind fun d1 => _) = _
  rw [h2]
  show ((m2 s1).bind fun d2 => _) = _
  rw [h3]
  exact if_pos h4
theorem wl_seq {a : S → Option (D × S)} {Q : List D → S → Prop} (h : We a s fun d s1 => ∃ ds, seqD d = some ds ∧ Q ds s1) : Wl (seqE a) s Q := by
  obtain ⟨d, s1, h1, ds, h2, h3⟩ := h
  exact ⟨_, _, by unfold seqE; rw [h1]; show (seqD d).map _ = _; rw [h2]; rfl, h3⟩
def upto (n : Int) : List D := (List.range n.toNat).map fun k => .int (k : Nat)
theorem wl_rng1 {a : S → Option (List D × S)} {Q : List D → S → Prop} (h : Wl a s fun xs s1 => ∃ ds, rng1M (fun _ => some xs) s = some ds ∧ Q ds s1) : Wl (rng1E a) s Q := by
  obtain ⟨xs, s1, h1, ds, h2, h3⟩ := h
  exact ⟨_, _, by unfold rng1E; rw [h1]; show (rng1M (fun _ => some xs) s).map _ = _; rw [h2]; rfl, h3⟩
theorem wl_rng2 {a : S → Option (List D × S)} {Q : List D → S → Prop} (h : Wl a s fun xs s1 => ∃ ds, rng2M (fun _ => some xs) s = some ds ∧ Q ds s1) : Wl (rng2E a) s Q := by
  obtain ⟨xs, s1, h1, ds, h2, h3⟩ := h
  exact ⟨_, _, by unfold rng2E; rw [h1]; show (rng2M (fun _ => some xs) s).map _ = _; rw [h2]; rfl, h3⟩
/-! quiet expressions -/
theorem wq_var {d : D} {Q : D → Prop} (e : s[i]? = some (.imm d)) (h : Q d) : Wp (varM i) s Q := ⟨d, by unfold varM; rw [e], h⟩
theorem wq_varI {d : D} {Q : D → Prop} (e : s[i]? = some (.imm d)) (h : Q d) : Wp (varR i) s Q := ⟨d, by unfold varR; rw [e], h⟩
theorem wq_varO {ds : List D} {Q : D → Prop} (e : s[i]? = some (.ol ds)) (h : Q (.list ds)) : Wp (varR i) s Q := ⟨_, by unfold varR; rw [e], h⟩
theorem wq_c {d : D} {Q : D → Prop} (h : Q d) : Wp (cM d) s Q := ⟨d, rfl, h⟩
theorem wq_op1 {g : D → Option D} {a : S → Option D} {Q : D → Prop} (h : Wp a s fun x => Hv (g x) Q) : Wp (op1 g a) s Q := by
  obtain ⟨x, h1, d, h2, h3⟩ := h
  exact ⟨d, by unfold op1; rw [h1]; exact h2, h3⟩
theorem wq_op2 {g : D → D → Option D} {a b : S → Option D} {Q : D → Prop} (h : Wp a s fun x => Wp b s fun y => Hv (g x y) Q) : Wp (op2 g a b) s Q := by
  obtain ⟨x, h1, y, h2, d, h3, h4⟩ := h
  refine ⟨d, ?_, h4⟩
  unfold op2
  rw [h1]
  show ((b s).bind fun y => _) = _
  rw [h2]
  exact h3
theorem wq_nil {Q : List D → Prop} (h : Q []) : Wp argN s Q := ⟨_, rfl, h⟩
theorem wq_cons {a : S → Option D} {r : S → Option (List D)} {Q : List D → Prop} (h : Wp a s fun x => Wp r s fun xs => Q (x :: xs)) : Wp (argC a r) s Q := by
  obtain ⟨x, h1, xs, h2, h3⟩ := h
  refine ⟨_, ?_, h3⟩
  unfold argC
  rw [h1]
  show ((r s).bind fun y => _) = _
  rw [h2]
  rfl
theorem wq_tup {r : S → Option (List D)} {Q : D → Prop} (h : Wp r s fun xs => xs.length ≤ 10000 ∧ Q (.tuple xs)) : Wp (tupM r) s Q := by
  obtain ⟨xs, h1, h2, h3⟩ := h
  exact ⟨_, by unfold tupM; rw [h1]; exact if_pos h2, h3⟩
theorem wq_lst {r : S → Option (List D)} {Q : D → Prop} (h : Wp r s fun xs => xs.length ≤ 10000 ∧ Q (.list xs)) : Wp (lstM r) s Q := by
  obtain ⟨xs, h1, h2, h3⟩ := h
  exact ⟨_, by unfold lstM; rw [h1]; exact if_pos h2, h3⟩
theorem wq_if {t : S → Option Bool} {a b : S → Option D} {Q : D → Prop} (h : Wp t s fun c => (c = true → Wp a s Q) ∧ (c = false → Wp b s Q)) : Wp (ifM t a b) s Q := by
  obtain ⟨c, h1, h2, h3⟩ := h
  unfold ifM Wp
  dsimp only
  rw [h1]
  cases c with
  | true => exact h2 rfl
  | false => exact h3 rfl
theorem wq_tv {a : S → Option D} {Q : Bool → Prop} (h : Wp a s fun d => ∃ c, d = .bool c ∧ Q c) : Wp (tvM a) s Q := by
  obtain ⟨d, h1, c, rfl, h2⟩ := h
  exact ⟨_, by unfold tvM; rw [h1]; rfl, h2⟩
theorem wq_notT {a : S → Option Bool} {Q : Bool → Prop} (h : Wp a s fun c => Q (!c)) : Wp (notT a) s Q := by
  obtain ⟨c, h1, h2⟩ := h
  exact ⟨_, by unfold notT; rw [h1]; rfl, h2⟩
theorem wq_andT {a b : S → Option Bool} {Q : Bool → Prop} (h : Wp a s fun c => (c = true → Wp b s Q) ∧ (c = false → Q false)) : Wp (andT a b) s Q := by
  obtain ⟨c, h1, h2, h3⟩ := h
  unfold andT Wp
  dsimp only
  rw [h1]
  cases c with
  | true => exact h2 rfl
  | false => exact ⟨_, rfl, h3 rfl⟩
theorem wq_orT {a b : S → Option Bool} {Q : Bool → Prop} (h : Wp a s fun c => (c = true → Q true) ∧ (c = false → Wp b s Q)) : Wp (orT a b) s Q := by
  obtain ⟨c, h1, h2, h3⟩ := h
  unfold orT Wp
  dsimp only
  rw [h1]
  cases c with
  | true => exact ⟨_, rfl, h2 rfl⟩
  | false => exact h3 rfl
theorem wq_call {g : List D → Option D} {r : S → Option (List D)} {Q : D → Prop} (h : Wp r s fun xs => Hv (g xs) Q) : Wp (callM g r) s Q := by
  obtain ⟨xs, h1, d, h2, h3⟩ := h
  exact ⟨_, by unfold callM; rw [h1]; exact h2, h3⟩
theorem wq_seq {a : S → Option D} {Q : List D → Prop} (h : Wp a s fun d => Hv (seqD d) Q) : Wp (seqM a) s Q := by
  obtain ⟨d, h1, ds, h2, h3⟩ := h
  exact ⟨_, by unfold seqM; rw [h1]; exact h2, h3⟩
end
/-- two answers are there and the same -/
def eqO (a b : Option D) : Bool := match a, b with
  | some x, some y => deq x y
  | _, _ => false
theorem eqO_some {a b : Option D} (h : eqO a b = true) : ∃ d, a = some d ∧ b = some d := by
  unfold eqO at h
  split at h
  · next x y => exact ⟨x, rfl, by rw [deq_eq h]⟩
  · cases h
section
variable {x y : Int} {Q : D → Prop}
theorem hv_add (h : Q (.int (x + y))) : Hv (addD (.int x) (.int y)) Q := ⟨_, rfl, h⟩
theorem hv_sub (h : Q (.int (x - y))) : Hv (subD (.int x) (.int y)) Q := ⟨_, rfl, h⟩
theorem hv_eq (h : Q (.bool (x == y))) : Hv (eqD (.int x) (.int y)) Q := ⟨_, rfl, h⟩
theorem hv_ne (h : Q (.bool (!(x == y)))) : Hv (neD (.int x) (.int y)) Q := ⟨_, rfl, h⟩
theorem hv_lt (h : Q (.bool (decide (x < y)))) : Hv (ltD (.int x) (.int y)) Q := ⟨_, rfl, h⟩
theorem hv_le (h : Q (.bool (decide (x ≤ y)))) : Hv (leD (.int x) (.int y)) Q := ⟨_, rfl, h⟩
theorem hv_gt (h : Q (.bool (decide (x > y)))) : Hv (gtD (.int x) (.int y)) Q := ⟨_, rfl, h⟩
theorem hv_ge (h : Q (.bool (decide (x ≥ y)))) : Hv (geD (.int x) (.int y)) Q := ⟨_, rfl, h⟩
theorem hv_mod (h0 : 0 < y) (h : Q (.int (x % y))) : Hv (modD (.int x) (.int y)) Q := ⟨_, if_pos (decide_eq_true h0), h⟩
theorem hv_div (h0 : 0 < y) (hb : big y.natAbs = true) (h : Q (.int (x / y))) : Hv (divD (.int x) (.int y)) Q := ⟨_, if_pos (by rw [hb, decide_eq_true h0]; rfl), h⟩
theorem hv_mul (h1 : big x.natAbs = true) (h2 : big y.natAbs = true) (h : Q (.int (x * y))) : Hv (mulD (.int x) (.int y)) Q := ⟨_, if_pos (by rw [h1, h2]; rfl), h⟩
theorem ex_bool {b : Bool} {R : Bool → Prop} (h : R b) : ∃ c, PyData.bool b = PyData.bool c ∧ R c := ⟨b, rfl, h⟩
theorem len10 {a : List D} {P : Prop} (h : a.length ≤ 10000) (hp : P) : a.length ≤ 10000 ∧ P := ⟨h, hp⟩
theorem wq_andV {a b : S → Option D} {s : S} (h : Wp a s fun d => ∃ c, d = .bool c ∧ (c = true → Wp b s Q) ∧ (c = false → Q (.bool false))) : Wp (andV a b) s Q := by
  obtain ⟨d, h1, c, rfl, h2, h3⟩ := h
  unfold andV Wp
  dsimp only
  rw [h1]
  cases c with
  | true => exact h2 rfl
  | false => exact ⟨_, rfl, h3 rfl⟩
theorem wq_orV {a b : S → Option D} {s : S} (h : Wp a s fun d => ∃ c, d = .bool c ∧ (c = true → Q (.bool true)) ∧ (c = false → Wp b s Q)) : Wp (orV a b) s Q := by
  obtain ⟨d, h1, c, rfl, h2, h3⟩ := h
  unfold orV Wp
  dsimp only
  rw [h1]
  cases c with
  | true => exact ⟨_, rfl, h2 rfl⟩
  | false => exact h3 rfl
theorem wq_notV {a : S → Option D} {s : S} (h : Wp a s fun d => ∃ c, d = .bool c ∧ Q (.bool (!c))) : Wp (notV a) s Q := by
  obtain ⟨d, h1, c, rfl, h2⟩ := h
  exact ⟨_, by unfold notV; rw [h1]; rfl, h2⟩
theorem wq_chain {g k : D → D → Option D} {a b c : S → Option D} {s : S} (h : Wp a s fun x => Wp b s fun y => Hv (g x y) fun z => ∃ t, z = .bool t ∧ (t = true → Wp c s fun w => Hv (k y w) Q) ∧ (t = false → Q (.bool false))) : Wp (chainM g k a b c) s Q := by
  obtain ⟨x, h1, y, h2, z, h3, t, rfl, h4, h5⟩ := h
  unfold chainM Wp
  dsimp only
  rw [h1]
  dsimp only [Option.bind]
  rw [h2]
  dsimp only
  rw [h3]
  dsimp only [boolD]
  cases t with
  | false => exact ⟨_, rfl, h5 rfl⟩
  | true =>
    obtain ⟨w, h6, d, h7, h8⟩ := h4 rfl
    rw [if_pos rfl, h6]
    exact ⟨d, h7, h8⟩
end
section
variable {b : S → Option Fl} {Q : Fl → Prop} {s : S} {d : D} {I : S → Prop}
theorem sq_nx (h : Wp b s Q) : seqQ b Q (.nx s) := h
theorem sq_rt (h : Q (.rt d s)) : seqQ b Q (.rt d s) := h
theorem sq_bk (h : Q (.bk s)) : seqQ b Q (.bk s) := h
theorem sq_ct (h : Q (.ct s)) : seqQ b Q (.ct s) := h
theorem lp_nx (h : I s) : loopQ Q I (.nx s) := h
theorem lp_ct (h : I s) : loopQ Q I (.ct s) := h
theorem lp_bk (h : Q (.nx s)) : loopQ Q I (.bk s) := h
theorem lp_rt (h : Q (.rt d s)) : loopQ Q I (.rt d s) := h
theorem rngL_at (c : Int) : ∀ (n : Nat) (lo : Int) (i : Nat) (d : D), (rngL lo c n)[i]? = some d → i < n ∧ d = .int (lo + i * c)
  | 0, _, i, d, h => by simp [rngL] at h
  | n + 1, lo, 0, d, h => by
    simp [rngL] at h
    subst h
    exact ⟨by omega, by simp⟩
  | n + 1, lo, i + 1, d, h => by
    obtain ⟨h1, h2⟩ := rngL_at c n (lo + c) i d (by simpa [rngL] using h)
    refine ⟨by omega, ?_⟩
    rw [h2]
    congr 1
    rw [Int.add_assoc]
    congr 1
    rw [show ((i + 1 : Nat) : Int) = (i : Int) + 1 from rfl, Int.add_mul, Int.one_mul, Int.add_comm]
theorem ex_rng1 {R : List D → Prop} {j : Int} (hj : j.natAbs ≤ 1000000) (h : R (rngL 0 1 j.toNat)) : ∃ ds, rng1M (fun _ => some [.int j]) s = some ds ∧ R ds := ⟨_, if_pos (by rw [Nat.ble_eq]; exact hj), h⟩
theorem ex_rng2 {R : List D → Prop} {i j : Int} (hi : i.natAbs ≤ 1000000) (hj : j.natAbs ≤ 1000000) (h : R (rngL i 1 (j - i).toNat)) : ∃ ds, rng2M (fun _ => some [.int i, .int j]) s = some ds ∧ R ds := ⟨_, if_pos (by rw [Bool.and_eq_true, Nat.ble_eq, Nat.ble_eq]; exact ⟨hi, hj⟩), h⟩
end
theorem wp_eq {α : Type} {m : S → Option α} {s : S} {x : α} (h : Wp m s fun d => d = x) : m s = some x := by
  obtain ⟨d, h1, rfl⟩ := h
  exact h1
theorem wp_val {α : Type} {m : S → Option α} {s : S} {Q : α → Prop} (x : α) (h : Wp m s fun d => d = x) (q : Q x) : Wp m s Q := ⟨x, wp_eq h, q⟩
theorem if_both {c : Bool} {A B : Prop} (h : if c = true then A else B) : (c = true → A) ∧ (c = false → B) := by
  cases c with
  | true => exact ⟨fun _ => h, fun z => by cases z⟩
  | false => exact ⟨fun z => (by cases z), fun _ => h⟩
theorem wp_csq {α : Type} {m : S → Option α} {s : S} {P Q : α → Prop} (h : Wp m s P) (k : ∀ f, P f → Q f) : Wp m s Q := by
  obtain ⟨d, h1, h2⟩ := h
  exact ⟨d, h1, k d h2⟩
end Y

namespace Y
open PySem PySem.Spec PyProof.Rows L2

/-! ## what the top has written -/
def FnAt (K : Fg) (mg : Str → Option Value) (x : Str) (st : Stmt) : Prop := ∃ (f : Addr) (fd : FuncData), mg x = some (.ref f) ∧ Fun K x x st f fd
def FnLm (K : Fg) (mg : Str → Option Value) (x : Str) (st : Stmt) (P : Addr) : Prop := ∃ (f : Addr) (fd : FuncData) (c : Addr), mg x = some (.ref f) ∧ FunC K x st f fd (.ref c) ∧ PySem.W.codeHdIn K c P = true
def cdIn (vs : Array Value) (c P : Addr) : Bool := (match (vs[11]? : Option Value) with | some (.ref P') => P' == P | _ => false) &&
      (match vs.getD 18 .none with | .str _ _ => true | _ => false) && (match vs.getD 7 .none with | .int _ _ => true | _ => false) &&
      (match vs.getD 9 .none with | .bool _ => true | _ => false) && (match vs.getD 10 .none with | .int _ _ => true | _ => false) && c != P
section
variable {K : Fg} {h : Heap} {mg : Str → Option Value} {x : Str} {st : Stmt} {f c P : Addr} {oc kV doc pm cd ct : Value} {od an : Option Addr} {osl : Array (Option Value)}
theorem fnAt_mk (X : K.In h) (G : h.Ns mainGlobals mg) (a : PySem.W.nsIn K mainGlobals x = some (some (.ref f))) (l : K.lookup f = some ⟨oc, od, .func (PySem.W.fnOf x x (defArgs st) (defBody st) (defScope st) .none kV doc pm an cd ct), osl⟩)
    (c : PySem.W.codeIn K cd x = true) (k : PySem.W.keepIn K (.ref f) = true) : FnAt K mg x st := ⟨f, _, PySem.W.mg_of X G a, fun_mk (st := st) l c k⟩
theorem fnLm_mk {co : Option Addr} {vs : Array Value} {sl : Array (Option Value)} (X : K.In h) (G : h.Ns mainGlobals mg) (a : PySem.W.nsIn K mainGlobals x = some (some (.ref f))) (l : K.lookup f = some ⟨oc, od, .func (PySem.W.fnOf x x (defArgs st) (defBody st) (defScope st) .none kV doc pm an (.ref c) ct), osl⟩)
    (cc : PySem.W.codeIn K (.ref c) x = true) (k : PySem.W.keepIn K (.ref f) = true) (lc : K.lookup c = some ⟨.type "code", co, .fields vs, sl⟩) (hP : cdIn vs c P = true) : FnLm K mg x st P := by
  refine ⟨f, _, c, PySem.W.mg_of X G a, ⟨⟨oc, od, kV, doc, pm, an, ct, osl, rfl, l, cc⟩, k⟩, ?_⟩
  unfold PySem.W.codeHdIn
  rw [lc]
  exact hP
theorem lookup_out {P : Addr} : ∀ {K : Fg}, P ∉ K.map (·.1) → K.lookup P = none
  | [], _ => rfl
  | (a, o) :: r, n => by
    have n1 : P ≠ a := fun e => n (by rw [e]; exact List.mem_cons_self)
    have n2 : P ∉ List.map (·.1) r := fun e => n (List.mem_cons_of_mem _ e)
    rw [List.lookup_cons, show (P == a) = false from beq_eq_false_iff_ne.mpr n1]
    exact lookup_out n2
theorem km_out {K : Params → PySem.W.Frag} {as : List Addr} {e : ∀ P, as = (K P).map (·.1)} {ts : List Addr} {w : World} {h : Heap} (_ : (PySem.W.kmHook K as e ts).says w h) (hn : (ts.all fun P => !as.contains P) = true) : ∀ P ∈ ts, (K w.params).lookup P = none := fun P hP => by
  refine lookup_out fun hm => ?_
  rw [← e w.params] at hm
  have := List.all_eq_true.mp hn P hP
  rw [Bool.not_eq_true', ← Bool.not_eq_true, List.contains_iff_mem] at this
  exact this hm
theorem tabOk_of {base : Heap} {T : List (Addr × Str)} {cs : List (Addr × Addr)} {q : Str} (TB : ∀ p ∈ cs, LamX.TabB base mg p.1 p.2) (hc : (c, P) ∈ cs) (hm : (P, q) ∈ T) (hn : (T.map (·.1)).Nodup) : TabOk base mg T (.ref c) q := .of (TB _ hc) hm hn
end
end Y

namespace Y
open PySem PySem.Spec PyProof.Rows L2
def top (i : Nat) : Stmt := PySem.Challenge.pw_ringsandroads_k12_whole_rows_counted.main.body.getD i (.Pass ⟨0, 0, 0, 0⟩)
/-! ### law_draw -/
abbrev st_law_draw : Stmt := top 22
abbrev N_law_draw : List Str := ["bag", "below", "turn", "cell", "found"]
theorem sc_law_draw : FnScope N_law_draw ["bag", "below"] (defScope st_law_draw) := ⟨rfl, rfl, rfl, by decide +kernel, rfl, by decide +kernel, by decide +kernel⟩
-- m: seqS (forS (rng1E (argCE (noSt (cM (.int 64))) argNE)) (putM 2) (seqS (ifS (noSt (orT (tvM (op2 gtD (bagC 0) (cM (.int 0)))) (bagE 0))) bkM nxM) (seqS (setS 3 (bagPop 0)) (bagSetC 0 (noSt (ifM (tvM (op2 gtD (varM 3) (op2 powD (cM (.int 10)) (cM (.int 9))))) (varM 3) (cM (.int 0)))))))) (seqS (ifS (noSt (tvM (op2 gtD (bagC 0) (cM (.int 0))))) (seqS (setS 4 (noSt (op2 modD (callM int1D (argC (bagC 0) argN)) (varM 1)))) (seqS (bagSetC 0 (noSt (op2 divD (bagC 0) (varM 1)))) (retS (noSt (varM 4))))) nxM) (seqS (bagSetX 0 (noSt (op2 modD (callM int1D (argC (op2 addD (op2 mulD (bagX 0) (cM (.int 48271))) (cM (.int 11))) argN)) (cM (.int 2147483647))))) (retS (noSt (op2 modD (op2 divD (op2 modD (callM int1D (argC (op2 mulD (bagX 0) (bagX 0)) argN)) (cM (.int 2147483629))) (cM (.int 7))) (varM 1))))))
abbrev F_law_draw := F_draw
theorem c_law_draw {P : Program} {w : World} {K : Fg} {mg : Str → Option Value} {base : Heap} {T : List (Addr × Str)} {f : Addr} {fd : FuncData} {cd : Value} (hf : mg "_law_draw" = some (.ref f)) (Fc : FunC K "_law_draw" st_law_draw f fd cd) (g_int : mg "int" = none) (g_range : mg "range" = none) : CallG P w K mg base "_law_draw" ["bag", "below"] 1 (spB K T 2 F_law_draw) :=
  have Fn := Fc.fun
  ⟨f, fd, hf, Fc.kp, Fn.binds (ps := ["bag", "below"]) (fun _ _ _ _ _ _ us hl => match us, hl with | [_, _], _ => rfl), fnB (N := N_law_draw.tail) (ps := ["below"]) Fc sc_law_draw fun A outer s H E hr gd =>
    ss_cons (s_for rfl (ei_rng1 rfl g_range (ea_cons (e_q q_int) ea_nil)) (g_name 2 sc_law_draw.nd) (ss_cons (s_if (et_q (qw_t (qw_or (qt_cmp opS_gt (q_bagC 0) q_int (by first | exact nobehind _ (by decide) (by decide) | rfl)) (qw_or1 (qt_bagE (hr.units) 0))))) (ss_one s_break) ss_nil) (ss_cons (s_set 3 sc_law_draw.nd (e_bagPop 0)) (ss_one (s_bagSetC 0 (e_q (q_if (qt_cmp opS_gt (q_var 3) (q_op opS_pow q_int q_int) (by first | exact nobehind _ (by decide) (by decide) | rfl)) (q_var 3) q_int))))))) (ss_cons (s_if (et_q (qt_cmp opS_gt (q_bagC 0) q_int (by first | exact nobehind _ (by decide) (by decide) | rfl))) (ss_cons (s_set 4 sc_law_draw.nd (e_q (q_op opS_mod (q_callTy cs_int rfl g_int rfl (a_consI (q_bagC 0) a_nil)) (q_var 1)))) (ss_cons (s_bagSetC 0 (e_q (q_op opS_div (q_bagC 0) (q_var 1)))) (ss_one (s_ret (e_q (q_var 4)))))) ss_nil) (ss_cons (s_bagSetX 0 (e_q (q_op opS_mod (q_callTy cs_int rfl g_int rfl (a_consI (q_op opS_add (q_op opS_mul (q_bagX 0) q_int) q_int) a_nil)) q_int))) (ss_one (s_ret (e_q (q_op opS_mod (q_op opS_div (q_op opS_mod (q_callTy cs_int rfl g_int rfl (a_consI (q_op opS_mul (q_bagX 0) (q_bagX 0)) a_nil)) q_int) q_int) (q_var 1)))))))⟩
/-! ### law_same -/
abbrev st_law_same : Stmt := top 24
abbrev N_law_same : List Str := ["one", "other"]
theorem sc_law_same : FnScope N_law_same ["one", "other"] (defScope st_law_same) := ⟨rfl, rfl, rfl, by decide +kernel, rfl, by decide +kernel, by decide +kernel⟩
theorem c_law_same {P : Program} {w : World} {K : Fg} {mg : Str → Option Value} {base : Heap} {T : List (Addr × Str)} {f : Addr} {fd : FuncData} {cd : Value} (hf : mg "_law_same" = some (.ref f)) (Fn : Fun K "_law_same" "_law_same" st_law_same f fd) (g_repr : mg "repr" = none) : CallG P w K mg base "_law_same" ["one", "other"] 2 (spF K false 2 sameF) :=
  have h : FnG P w K mg base 2 f fd ["one", "other"] (spF K false 2 (runF 2 m_same)) := fnFG (k := 1) (kr := false) (N := N_law_same) (ps := ["one", "other"]) (m := m_same) Fn sc_law_same fun cdv A outer s H E hr gd =>
    ss_one (s_ret (e_q (q_and (q_cmp (opS_eq (hr.units)) (q_callB (cs_repr gd (hr.units)) rfl g_repr rfl (a_consI (q_var 0) a_nil)) (q_callB (cs_repr gd (hr.units)) rfl g_repr rfl (a_consI (q_var 1) a_nil)) (by first | exact nobehind _ (by decide) (by decide) | rfl)) (q_one (q_cmp (opS_eq (hr.units)) (q_var 0) (q_var 1) (by first | exact nobehind _ (by decide) (by decide) | rfl))))))
  CallG.same ⟨f, fd, hf, Fn.kp, Fn.binds (ps := ["one", "other"]) (fun _ _ _ _ _ _ us hl => match us, hl with | [_, _], _ => rfl), h⟩
/-! ### law_told -/
abbrev st_law_told : Stmt := top 23
abbrev N_law_told : List Str := ["call", "error", "found"]
theorem sc_law_told : FnScope N_law_told ["call"] (defScope st_law_told) := ⟨rfl, rfl, rfl, by decide +kernel, rfl, by decide +kernel, by decide +kernel⟩
theorem c_law_told {P : Program} {w : World} {K : Fg} {mg : Str → Option Value} {base : Heap} {T : List (Addr × Str)} {f : Addr} {fd : FuncData} {cd : Value} (hf : mg "_law_told" = some (.ref f)) (Fn : Fun K "_law_told" "_law_told" st_law_told f fd) : ToldC P w K mg base :=
  c_told hf Fn ⟨sc_law_told, rfl, .inl rfl, ⟨_, _, _, _, _, _, _, _, _, rfl⟩⟩ (Fn.binds (ps := ["call"]) (fun _ _ _ _ _ _ us hl => match us, hl with | [_], _ => rfl))
/-! ### law_is -/
abbrev st_law_is : Stmt := top 25
abbrev N_law_is : List Str := ["due", "call", "named"]
theorem sc_law_is : FnScope N_law_is ["due", "call", "named"] (defScope st_law_is) := ⟨rfl, rfl, rfl, by decide +kernel, rfl, by decide +kernel, by decide +kernel⟩
theorem c_law_is {P : Program} {w : World} {K : Fg} {mg : Str → Option Value} {base : Heap} {T : List (Addr × Str)} {f : Addr} {fd : FuncData} {cd : Value} (hf : mg "_law_is" = some (.ref f)) (Fn : Fun K "_law_is" "_law_is" st_law_is f fd) (Ct : ToldC P w K mg base) (Cs : CallG P w K mg base "_law_same" ["one", "other"] 2 (spF K false 2 sameF)) : IsC P w K mg base :=
  c_is hf Fn ⟨sc_law_is, rfl, rfl, rfl, .inl rfl, .inl rfl, .inl rfl, rfl, rfl, ⟨_, _, _, _, _, _, _, _, _, _, _, _, _, _, _, _, _, _, rfl⟩⟩ (Fn.binds (ps := ["due", "call", "named"]) (fun _ _ _ _ _ _ us hl => match us, hl with | [_, _, _], _ => rfl)) Ct Cs
/-! ### law_signed -/
abbrev st_law_signed : Stmt := top 27
abbrev N_law_signed : List Str := ["n", "found", "i"]
theorem sc_law_signed : FnScope N_law_signed ["n"] (defScope st_law_signed) := ⟨rfl, rfl, rfl, by decide +kernel, rfl, by decide +kernel, by decide +kernel⟩
def m_law_signed : S → Option Fl := seqS (setS 1 (noSt (cM (.int 1)))) (seqS (forS (rng2E (argCE (noSt (cM (.int 1))) (argCE (noSt (op2 addD (varM 0) (cM (.int 1)))) argNE))) (putM 2) (setS 1 (noSt (op2 mulD (op2 mulD (varM 1) (cM (.int 2))) (varM 2))))) (retS (noSt (varM 1))))
def F_law_signed : List D → Option D := runF 3 m_law_signed
theorem c_law_signed {P : Program} {w : World} {K : Fg} {mg : Str → Option Value} {base : Heap} {T : List (Addr × Str)} {f : Addr} {fd : FuncData} {cd : Value} (hf : mg "_law_signed" = some (.ref f)) (Fn : Fun K "_law_signed" "_law_signed" st_law_signed f fd) (g_range : mg "range" = none) : CallF P w K mg base "_law_signed" st_law_signed ["n"] 1 false F_law_signed :=
  ⟨f, fd, hf, Fn, Fn.binds (ps := ["n"]) (fun _ _ _ _ _ _ us hl => match us, hl with | [_], _ => rfl), fnF Fn sc_law_signed fun cdv A outer s H E hr =>
    ss_cons (s_set 1 sc_law_signed.nd (e_q q_int)) (ss_cons (s_for rfl (ei_rng2 rfl g_range (ea_cons (e_q q_int) (ea_cons (e_q (q_op opS_add (q_var 0) q_int)) ea_nil))) (g_name 2 sc_law_signed.nd) (ss_one (s_set 1 sc_law_signed.nd (e_q (q_op opS_mul (q_op opS_mul (q_var 1) q_int) (q_var 2)))))) (ss_one (s_ret (e_q (q_var 1)))))⟩
/-! ### kept_places -/
abbrev st_kept_places : Stmt := top 19
abbrev N_kept_places : List Str := ["row", "longer", "place"]
theorem sc_kept_places : FnScope N_kept_places ["row"] (defScope st_kept_places) := ⟨rfl, rfl, rfl, by decide +kernel, rfl, by decide +kernel, by decide +kernel⟩
def m_kept_places : S → Option Fl := seqS (setS 1 (noSt (op2 addD (op2 addD (tupM (argC (cM (.int 0)) argN)) (varM 0)) (tupM (argC (op2 addD (callM lenD (argC (varM 0) argN)) (cM (.int 1))) argN))))) (retS (noSt (callM tupleD (argC (lcM [2] (rng1M (argC (op2 addD (callM lenD (argC (varM 0) argN)) (cM (.int 1))) argN)) (putM 2) (tvM (op2 eqD (op2 subD (op2 ixD (varM 1) (op2 addD (varM 2) (cM (.int 1)))) (op2 ixD (varM 1) (varM 2))) (cM (.int 1)))) (varM 2)) argN))))
def F_kept_places : List D → Option D := runF 3 m_kept_places
theorem c_kept_places {P : Program} {w : World} {K : Fg} {mg : Str → Option Value} {base : Heap} {T : List (Addr × Str)} {f : Addr} {fd : FuncData} {cd : Value} (hf : mg "kept_places" = some (.ref f)) (Fn : Fun K "kept_places" "kept_places" st_kept_places f fd) (g_len : mg "len" = none) (g_range : mg "range" = none) (g_tuple : mg "tuple" = none) : CallF P w K mg base "kept_places" st_kept_places ["row"] 1 false F_kept_places :=
  ⟨f, fd, hf, Fn, Fn.binds (ps := ["row"]) (fun _ _ _ _ _ _ us hl => match us, hl with | [_], _ => rfl), fnF Fn sc_kept_places fun cdv A outer s H E hr =>
    ss_cons (s_set 1 sc_kept_places.nd (e_q (q_op opS_add (q_op opS_add (q_tup (a_consI q_int a_nil)) (q_var 0)) (q_tup (a_consI (q_op opS_add (q_callB cs_len rfl g_len rfl (a_consI (q_var 0) a_nil)) q_int) a_nil))))) (ss_one (s_ret (e_q (q_callTy cs_tuple rfl g_tuple rfl (a_consI ((q_lc (own := [("place", 2)]) rfl sc_kept_places.nd (qi_rng1 rfl g_range (a_consI (q_op opS_add (q_callB cs_len rfl g_len rfl (a_consI (q_var 0) a_nil)) q_int) a_nil)) (blkOk_by (N := N_kept_places) (sc := defScope st_kept_places) (by decide +kernel)) (fun _ _ _ _ _ => g_name 2 sc_kept_places.nd) (fun _ _ _ _ _ => pts_q (qt_cmp (opS_eq (hr.units)) (q_op opS_sub (q_ix ixS (q_var 1) (q_op opS_add (q_var 2) q_int)) (q_ix ixS (q_var 1) (q_var 2))) q_int (by first | exact nobehind _ (by decide) (by decide) | rfl))) (fun _ _ _ _ _ => q_var 2))) a_nil)))))⟩
/-! ### loose_rows -/
abbrev st_loose_rows : Stmt := top 9
abbrev N_loose_rows : List Str := ["n", "found", "k", "first"]
theorem sc_loose_rows : FnScope N_loose_rows ["n"] (defScope st_loose_rows) := ⟨rfl, rfl, rfl, by decide +kernel, rfl, by decide +kernel, by decide +kernel⟩
def m_loose_rows : S → Option Fl := seqS (setO 1 (ownM (lstM (argC (cM (.int 1)) (argC (cM (.int 1)) (argC (cM (.int 0)) (argC (cM (.int 0)) argN))))))) (seqS (forS (rng2E (argCE (noSt (cM (.int 4))) (argCE (noSt (op2 addD (varM 0) (cM (.int 1)))) argNE))) (putM 2) (seqS (setS 3 (noSt (op2 subD (op2 mulD (op2 addD (varM 2) (cM (.int 1))) (op2 ixD (varR 1) (op2 subD (varM 2) (cM (.int 1))))) (op2 mulD (op2 subD (varM 2) (cM (.int 2))) (op2 ixD (varR 1) (op2 subD (varM 2) (cM (.int 2)))))))) (appS 1 (noSt (op2 addD (op2 subD (varM 3) (op2 mulD (op2 subD (varM 2) (cM (.int 5))) (op2 ixD (varR 1) (op2 subD (varM 2) (cM (.int 3)))))) (op2 mulD (op2 subD (varM 2) (cM (.int 3))) (op2 ixD (varR 1) (op2 subD (varM 2) (cM (.int 4)))))))))) (retS (noSt (op2 ixD (varR 1) (varM 0)))))
def F_loose_rows : List D → Option D := runF 4 m_loose_rows
theorem c_loose_rows {P : Program} {w : World} {K : Fg} {mg : Str → Option Value} {base : Heap} {T : List (Addr × Str)} {f : Addr} {fd : FuncData} {cd : Value} (hf : mg "loose_rows" = some (.ref f)) (Fn : Fun K "loose_rows" "loose_rows" st_loose_rows f fd) (g_range : mg "range" = none) : CallF P w K mg base "loose_rows" st_loose_rows ["n"] 1 false F_loose_rows :=
  ⟨f, fd, hf, Fn, Fn.binds (ps := ["n"]) (fun _ _ _ _ _ _ us hl => match us, hl with | [_], _ => rfl), fnF Fn sc_loose_rows fun cdv A outer s H E hr =>
    ss_cons (s_setO 1 sc_loose_rows.nd (eo_q (q_lst (a_consI q_int (a_consI q_int (a_consI q_int (a_consI q_int a_nil))))))) (ss_cons (s_for rfl (ei_rng2 rfl g_range (ea_cons (e_q q_int) (ea_cons (e_q (q_op opS_add (q_var 0) q_int)) ea_nil))) (g_name 2 sc_loose_rows.nd) (ss_cons (s_set 3 sc_loose_rows.nd (e_q (q_op opS_sub (q_op opS_mul (q_op opS_add (q_var 2) q_int) (q_ix ixS (q_varR 1) (q_op opS_sub (q_var 2) q_int))) (q_op opS_mul (q_op opS_sub (q_var 2) q_int) (q_ix ixS (q_varR 1) (q_op opS_sub (q_var 2) q_int)))))) (ss_one (s_append 1 (e_q (q_op opS_add (q_op opS_sub (q_var 3) (q_op opS_mul (q_op opS_sub (q_var 2) q_int) (q_ix ixS (q_varR 1) (q_op opS_sub (q_var 2) q_int)))) (q_op opS_mul (q_op opS_sub (q_var 2) q_int) (q_ix ixS (q_varR 1) (q_op opS_sub (q_var 2) q_int))))))))) (ss_one (s_ret (e_q (q_ix ixS (q_varR 1) (q_var 0))))))⟩
/-! ### factorial -/
abbrev st_factorial : Stmt := top 16
abbrev N_factorial : List Str := ["number", "found", "more"]
theorem sc_factorial : FnScope N_factorial ["number"] (defScope st_factorial) := ⟨rfl, rfl, rfl, by decide +kernel, rfl, by decide +kernel, by decide +kernel⟩
def m_factorial : S → Option Fl := seqS (setS 1 (noSt (cM (.int 1)))) (seqS (forS (rng2E (argCE (noSt (cM (.int 2))) (argCE (noSt (op2 addD (varM 0) (cM (.int 1)))) argNE))) (putM 2) (setS 1 (noSt (op2 mulD (varM 1) (varM 2))))) (retS (noSt (varM 1))))
def F_factorial : List D → Option D := runF 3 m_factorial
theorem c_factorial {P : Program} {w : World} {K : Fg} {mg : Str → Option Value} {base : Heap} {T : List (Addr × Str)} {f : Addr} {fd : FuncData} {cd : Value} (hf : mg "factorial" = some (.ref f)) (Fn : Fun K "factorial" "factorial" st_factorial f fd) (g_range : mg "range" = none) : CallF P w K mg base "factorial" st_factorial ["number"] 1 false F_factorial :=
  ⟨f, fd, hf, Fn, Fn.binds (ps := ["number"]) (fun _ _ _ _ _ _ us hl => match us, hl with | [_], _ => rfl), fnF Fn sc_factorial fun cdv A outer s H E hr =>
    ss_cons (s_set 1 sc_factorial.nd (e_q q_int)) (ss_cons (s_for rfl (ei_rng2 rfl g_range (ea_cons (e_q q_int) (ea_cons (e_q (q_op opS_add (q_var 0) q_int)) ea_nil))) (g_name 2 sc_factorial.nd) (ss_one (s_set 1 sc_factorial.nd (e_q (q_op opS_mul (q_var 1) (q_var 2)))))) (ss_one (s_ret (e_q (q_var 1)))))⟩
/-! ### one_row_count -/
abbrev st_one_row_count : Stmt := top 17
abbrev N_one_row_count : List Str := ["n"]
theorem sc_one_row_count : FnScope N_one_row_count ["n"] (defScope st_one_row_count) := ⟨rfl, rfl, rfl, by decide +kernel, rfl, by decide +kernel, by decide +kernel⟩
def m_one_row_count : S → Option Fl := retS (noSt (op2 mulD (callM F_factorial (argC (varM 0) argN)) (op2 shlD (cM (.int 1)) (op2 subD (varM 0) (cM (.int 1))))))
def F_one_row_count : List D → Option D := runF 1 m_one_row_count
theorem c_one_row_count {P : Program} {w : World} {K : Fg} {mg : Str → Option Value} {base : Heap} {T : List (Addr × Str)} {f : Addr} {fd : FuncData} {cd : Value} (hf : mg "one_row_count" = some (.ref f)) (Fn : Fun K "one_row_count" "one_row_count" st_one_row_count f fd) (C_factorial : CallF P w K mg base "factorial" st_factorial ["number"] 1 false F_factorial) : CallF P w K mg base "one_row_count" st_one_row_count ["n"] 2 false F_one_row_count :=
  ⟨f, fd, hf, Fn, Fn.binds (ps := ["n"]) (fun _ _ _ _ _ _ us hl => match us, hl with | [_], _ => rfl), fnF Fn sc_one_row_count fun cdv A outer s H E hr =>
    ss_one (s_ret (e_q (q_op opS_mul (q_call C_factorial hr rfl (a_consI (q_var 0) a_nil) (hl := (lenC lenN))) (q_op opS_shl q_int (q_op opS_sub (q_var 0) q_int)))))⟩
/-! ### product_to -/
abbrev st_product_to : Stmt := top 2
abbrev N_product_to : List Str := ["n", "found", "item"]
theorem sc_product_to : FnScope N_product_to ["n"] (defScope st_product_to) := ⟨rfl, rfl, rfl, by decide +kernel, rfl, by decide +kernel, by decide +kernel⟩
def m_product_to : S → Option Fl := seqS (setS 1 (noSt (cM (.int 1)))) (seqS (forS (rng2E (argCE (noSt (cM (.int 2))) (argCE (noSt (op2 addD (varM 0) (cM (.int 1)))) argNE))) (putM 2) (setS 1 (noSt (op2 mulD (varM 1) (varM 2))))) (retS (noSt (varM 1))))
def F_product_to : List D → Option D := runF 3 m_product_to
theorem c_product_to {P : Program} {w : World} {K : Fg} {mg : Str → Option Value} {base : Heap} {T : List (Addr × Str)} {f : Addr} {fd : FuncData} {cd : Value} (hf : mg "product_to" = some (.ref f)) (Fn : Fun K "product_to" "product_to" st_product_to f fd) (g_range : mg "range" = none) : CallF P w K mg base "product_to" st_product_to ["n"] 1 false F_product_to :=
  ⟨f, fd, hf, Fn, Fn.binds (ps := ["n"]) (fun _ _ _ _ _ _ us hl => match us, hl with | [_], _ => rfl), fnF Fn sc_product_to fun cdv A outer s H E hr =>
    ss_cons (s_set 1 sc_product_to.nd (e_q q_int)) (ss_cons (s_for rfl (ei_rng2 rfl g_range (ea_cons (e_q q_int) (ea_cons (e_q (q_op opS_add (q_var 0) q_int)) ea_nil))) (g_name 2 sc_product_to.nd) (ss_one (s_set 1 sc_product_to.nd (e_q (q_op opS_mul (q_var 1) (q_var 2)))))) (ss_one (s_ret (e_q (q_var 1)))))⟩
/-! ### choose -/
abbrev st_choose : Stmt := top 3
abbrev N_choose : List Str := ["whole", "part"]
theorem sc_choose : FnScope N_choose ["whole", "part"] (defScope st_choose) := ⟨rfl, rfl, rfl, by decide +kernel, rfl, by decide +kernel, by decide +kernel⟩
def m_choose : S → Option Fl := seqS (ifS (noSt (notT (tvM (chainM leD leD (cM (.int 0)) (varM 1) (varM 0))))) (retS (noSt (cM (.int 0)))) nxM) (retS (noSt (op2 divD (op2 divD (callM F_product_to (argC (varM 0) argN)) (callM F_product_to (argC (varM 1) argN))) (callM F_product_to (argC (op2 subD (varM 0) (varM 1)) argN)))))
def F_choose : List D → Option D := runF 2 m_choose
theorem c_choose {P : Program} {w : World} {K : Fg} {mg : Str → Option Value} {base : Heap} {T : List (Addr × Str)} {f : Addr} {fd : FuncData} {cd : Value} (hf : mg "choose" = some (.ref f)) (Fn : Fun K "choose" "choose" st_choose f fd) (C_product_to : CallF P w K mg base "product_to" st_product_to ["n"] 1 false F_product_to) : CallF P w K mg base "choose" st_choose ["whole", "part"] 2 false F_choose :=
  ⟨f, fd, hf, Fn, Fn.binds (ps := ["whole", "part"]) (fun _ _ _ _ _ _ us hl => match us, hl with | [_, _], _ => rfl), fnF Fn sc_choose fun cdv A outer s H E hr =>
    ss_cons (s_if (et_q (qt_not (qt_chain opS_le opS_le q_int (q_var 1) (q_var 0)))) (ss_one (s_ret (e_q q_int))) ss_nil) (ss_one (s_ret (e_q (q_op opS_div (q_op opS_div (q_call C_product_to hr rfl (a_consI (q_var 0) a_nil) (hl := (lenC lenN))) (q_call C_product_to hr rfl (a_consI (q_var 1) a_nil) (hl := (lenC lenN)))) (q_call C_product_to hr rfl (a_consI (q_op opS_sub (q_var 0) (q_var 1)) a_nil) (hl := (lenC lenN)))))))⟩
/-! ### doubled -/
abbrev st_doubled : Stmt := top 4
abbrev N_doubled : List Str := ["times", "found", "step"]
theorem sc_doubled : FnScope N_doubled ["times"] (defScope st_doubled) := ⟨rfl, rfl, rfl, by decide +kernel, rfl, by decide +kernel, by decide +kernel⟩
def m_doubled : S → Option Fl := seqS (setS 1 (noSt (cM (.int 1)))) (seqS (forS (rng1E (argCE (noSt (varM 0)) argNE)) (putM 2) (setS 1 (noSt (op2 mulD (cM (.int 2)) (varM 1))))) (retS (noSt (varM 1))))
def F_doubled : List D → Option D := runF 3 m_doubled
theorem c_doubled {P : Program} {w : World} {K : Fg} {mg : Str → Option Value} {base : Heap} {T : List (Addr × Str)} {f : Addr} {fd : FuncData} {cd : Value} (hf : mg "doubled" = some (.ref f)) (Fn : Fun K "doubled" "doubled" st_doubled f fd) (g_range : mg "range" = none) : CallF P w K mg base "doubled" st_doubled ["times"] 1 false F_doubled :=
  ⟨f, fd, hf, Fn, Fn.binds (ps := ["times"]) (fun _ _ _ _ _ _ us hl => match us, hl with | [_], _ => rfl), fnF Fn sc_doubled fun cdv A outer s H E hr =>
    ss_cons (s_set 1 sc_doubled.nd (e_q q_int)) (ss_cons (s_for rfl (ei_rng1 rfl g_range (ea_cons (e_q (q_var 0)) ea_nil)) (g_name 2 sc_doubled.nd) (ss_one (s_set 1 sc_doubled.nd (e_q (q_op opS_mul q_int (q_var 1)))))) (ss_one (s_ret (e_q (q_var 1)))))⟩
/-! ### sign -/
abbrev st_sign : Stmt := top 5
abbrev N_sign : List Str := ["k"]
theorem sc_sign : FnScope N_sign ["k"] (defScope st_sign) := ⟨rfl, rfl, rfl, by decide +kernel, rfl, by decide +kernel, by decide +kernel⟩
def m_sign : S → Option Fl := retS (noSt (ifM (tvM (op2 eqD (op2 modD (varM 0) (cM (.int 2))) (cM (.int 0)))) (cM (.int 1)) (op1 negD (cM (.int 1)))))
def F_sign : List D → Option D := runF 1 m_sign
theorem c_sign {P : Program} {w : World} {K : Fg} {mg : Str → Option Value} {base : Heap} {T : List (Addr × Str)} {f : Addr} {fd : FuncData} {cd : Value} (hf : mg "sign" = some (.ref f)) (Fn : Fun K "sign" "sign" st_sign f fd) : CallF P w K mg base "sign" st_sign ["k"] 1 false F_sign :=
  ⟨f, fd, hf, Fn, Fn.binds (ps := ["k"]) (fun _ _ _ _ _ _ us hl => match us, hl with | [_], _ => rfl), fnF Fn sc_sign fun cdv A outer s H E hr =>
    ss_one (s_ret (e_q (q_if (qt_cmp (opS_eq (hr.units)) (q_op opS_mod (q_var 0) q_int) q_int (by first | exact nobehind _ (by decide) (by decide) | rfl)) q_int (q_neg q_int))))⟩
/-! ### rows_without -/
abbrev st_rows_without : Stmt := top 6
abbrev N_rows_without : List Str := ["n", "found", "k"]
theorem sc_rows_without : FnScope N_rows_without ["n"] (defScope st_rows_without) := ⟨rfl, rfl, rfl, by decide +kernel, rfl, by decide +kernel, by decide +kernel⟩
def m_rows_without : S → Option Fl := seqS (setS 1 (noSt (callM F_sign (argC (op2 addD (varM 0) (cM (.int 1))) argN)))) (seqS (forS (rng1E (argCE (noSt (op2 addD (varM 0) (cM (.int 1)))) argNE)) (putM 2) (setS 1 (noSt (op2 addD (varM 1) (op2 mulD (op2 mulD (op2 mulD (callM F_sign (argC (varM 2) argN)) (callM F_choose (argC (op2 addD (varM 0) (cM (.int 1))) (argC (varM 2) argN)))) (callM F_doubled (argC (op2 subD (varM 0) (varM 2)) argN))) (callM F_product_to (argC (op2 subD (varM 0) (varM 2)) argN))))))) (retS (noSt (varM 1))))
def F_rows_without : List D → Option D := runF 3 m_rows_without
theorem c_rows_without {P : Program} {w : World} {K : Fg} {mg : Str → Option Value} {base : Heap} {T : List (Addr × Str)} {f : Addr} {fd : FuncData} {cd : Value} (hf : mg "rows_without" = some (.ref f)) (Fn : Fun K "rows_without" "rows_without" st_rows_without f fd) (g_range : mg "range" = none) (C_choose : CallF P w K mg base "choose" st_choose ["whole", "part"] 2 false F_choose) (C_doubled : CallF P w K mg base "doubled" st_doubled ["times"] 1 false F_doubled) (C_product_to : CallF P w K mg base "product_to" st_product_to ["n"] 1 false F_product_to) (C_sign : CallF P w K mg base "sign" st_sign ["k"] 1 false F_sign) : CallF P w K mg base "rows_without" st_rows_without ["n"] 3 false F_rows_without :=
  ⟨f, fd, hf, Fn, Fn.binds (ps := ["n"]) (fun _ _ _ _ _ _ us hl => match us, hl with | [_], _ => rfl), fnF Fn sc_rows_without fun cdv A outer s H E hr =>
    ss_cons (s_set 1 sc_rows_without.nd (e_q (q_call C_sign hr rfl (a_consI (q_op opS_add (q_var 0) q_int) a_nil) (hl := (lenC lenN))))) (ss_cons (s_for rfl (ei_rng1 rfl g_range (ea_cons (e_q (q_op opS_add (q_var 0) q_int)) ea_nil)) (g_name 2 sc_rows_without.nd) (ss_one (s_set 1 sc_rows_without.nd (e_q (q_op opS_add (q_var 1) (q_op opS_mul (q_op opS_mul (q_op opS_mul (q_call C_sign hr rfl (a_consI (q_var 2) a_nil) (hl := (lenC lenN))) (q_call C_choose hr rfl (a_consI (q_op opS_add (q_var 0) q_int) (a_consI (q_var 2) a_nil)) (hl := (lenC (lenC lenN))))) (q_call C_doubled hr rfl (a_consI (q_op opS_sub (q_var 0) (q_var 2)) a_nil) (hl := (lenC lenN)))) (q_call C_product_to hr rfl (a_consI (q_op opS_sub (q_var 0) (q_var 2)) a_nil) (hl := (lenC lenN))))))))) (ss_one (s_ret (e_q (q_var 1)))))⟩
/-! ### rows_keeping -/
abbrev st_rows_keeping : Stmt := top 7
abbrev N_rows_keeping : List Str := ["n", "many"]
theorem sc_rows_keeping : FnScope N_rows_keeping ["n", "many"] (defScope st_rows_keeping) := ⟨rfl, rfl, rfl, by decide +kernel, rfl, by decide +kernel, by decide +kernel⟩
def m_rows_keeping : S → Option Fl := retS (noSt (ifM (tvM (op2 eqD (varM 1) (op2 addD (varM 0) (cM (.int 1))))) (cM (.int 1)) (op2 mulD (callM F_choose (argC (op2 addD (varM 0) (cM (.int 1))) (argC (varM 1) argN))) (callM F_rows_without (argC (op2 subD (varM 0) (varM 1)) argN)))))
def F_rows_keeping : List D → Option D := runF 2 m_rows_keeping
theorem c_rows_keeping {P : Program} {w : World} {K : Fg} {mg : Str → Option Value} {base : Heap} {T : List (Addr × Str)} {f : Addr} {fd : FuncData} {cd : Value} (hf : mg "rows_keeping" = some (.ref f)) (Fn : Fun K "rows_keeping" "rows_keeping" st_rows_keeping f fd) (C_choose : CallF P w K mg base "choose" st_choose ["whole", "part"] 2 false F_choose) (C_rows_without : CallF P w K mg base "rows_without" st_rows_without ["n"] 3 false F_rows_without) : CallF P w K mg base "rows_keeping" st_rows_keeping ["n", "many"] 4 false F_rows_keeping :=
  ⟨f, fd, hf, Fn, Fn.binds (ps := ["n", "many"]) (fun _ _ _ _ _ _ us hl => match us, hl with | [_, _], _ => rfl), fnF Fn sc_rows_keeping fun cdv A outer s H E hr =>
    ss_one (s_ret (e_q (q_if (qt_cmp (opS_eq (hr.units)) (q_var 1) (q_op opS_add (q_var 0) q_int) (by first | exact nobehind _ (by decide) (by decide) | rfl)) q_int (q_op opS_mul (q_call C_choose hr rfl (a_consI (q_op opS_add (q_var 0) q_int) (a_consI (q_var 1) a_nil)) (hl := (lenC (lenC lenN)))) (q_call C_rows_without hr rfl (a_consI (q_op opS_sub (q_var 0) (q_var 1)) a_nil) (hl := (lenC lenN)))))))⟩
/-! ### law_are_few -/
abbrev st_law_are_few : Stmt := top 31
abbrev N_law_are_few : List Str := ["bag", "n", "rows", "turn", "longer", "row", "x", "counts", "whole", "i", "many", "due", "at", "m"]
theorem sc_law_are_few : FnScope N_law_are_few ["bag"] (defScope st_law_are_few) := ⟨rfl, rfl, rfl, by decide +kernel, rfl, by decide +kernel, by decide +kernel⟩
def m_law_are_few : S → Option Fl := seqS (asgS (tgTup 2 (tgCons (putM 1) (tgCons (putM 2) tgNil))) (tupE (argCE (callB 0 F_law_draw (argCE (noSt (cM (.int 4))) argNE)) (argCE (noSt (lstM (argC (tupM argN) argN))) argNE)))) (seqS (forS (rng1E (argCE (noSt (varM 1)) argNE)) (putM 3) (seqS (setO 4 (ownM (lstM argN))) (seqS (forS (seqE (noSt (varM 2))) (putM 5) (extS 4 (noSt (lcM [6] (rng2M (argC (op2 subD (cM (.int 0)) (varM 1)) (argC (op2 addD (varM 1) (cM (.int 1))) argN))) (putM 6) (andT (tvM (op2 neD (varM 6) (cM (.int 0)))) (andT (tvM (op2 (inD true) (varM 6) (varM 5))) (tvM (op2 (inD true) (op2 subD (cM (.int 0)) (varM 6)) (varM 5))))) (op2 addD (varM 5) (tupM (argC (varM 6) argN))))))) (setS 2 (frzM 4))))) (seqS (setO 7 (ownM (lstM argN))) (seqS (forS (seqE (noSt (varM 2))) (putM 5) (seqS (setS 8 (noSt (op2 addD (op2 addD (tupM (argC (cM (.int 0)) argN)) (varM 5)) (tupM (argC (op2 addD (varM 1) (cM (.int 1))) argN))))) (appS 7 (noSt (callM lenD (argC (lcM [9] (rng1M (argC (op2 addD (varM 1) (cM (.int 1))) argN)) (putM 9) (tvM (op2 eqD (op2 ixD (varM 8) (op2 addD (varM 9) (cM (.int 1)))) (op2 addD (op2 ixD (varM 8) (varM 9)) (cM (.int 1))))) (varM 9)) argN)))))) (seqS (ifS (noSt (tvM (op2 neD (callM lenD (argC (varM 2) argN)) (callM F_law_signed (argC (varM 1) argN))))) (retS (noSt (cM (.bool false)))) nxM) (seqS (forS (rng1E (argCE (noSt (op2 addD (varM 1) (cM (.int 2)))) argNE)) (putM 10) (seqS (setS 11 (noSt (methM isList cntD (varR 7) (argC (varM 10) argN)))) (ifS (notE (tvE (isM (noSt (varM 11)) (callM F_rows_keeping (argC (varM 1) (argC (varM 10) argN))) (callM (fun ds => F_rows_keeping (perm [1, 0] ds)) (argC (varM 10) (argC (varM 1) argN)))))) (retS (noSt (cM (.bool false)))) nxM))) (seqS (setS 12 (callB 0 F_law_draw (argCE (noSt (callM lenD (argC (varM 2) argN))) argNE))) (seqS (ifS (noSt (tvM (op2 neD (callM lenD (argC (callM F_kept_places (argC (op2 ixD (varM 2) (varM 12)) argN)) argN)) (op2 ixD (varR 7) (varM 12))))) (retS (noSt (cM (.bool false)))) nxM) (seqS (ifS (noSt (andT (tvM (op2 gtD (varM 1) (cM (.int 0)))) (tvM (op2 neD (op2 mulD (callM F_one_row_count (argC (varM 1) argN)) (cM (.int 2))) (callM lenD (argC (varM 2) argN)))))) (retS (noSt (cM (.bool false)))) nxM) (seqS (asgS (tgTup 2 (tgCons (putM 13) (tgCons (putM 2) tgNil))) (tupE (argCE (callB 0 F_law_draw (argCE (noSt (cM (.int 6))) argNE)) (argCE (noSt (lstM (argC (tupM argN) argN))) argNE)))) (seqS (forS (rng1E (argCE (noSt (varM 13)) argNE)) (putM 3) (seqS (setO 4 (ownM (lstM argN))) (seqS (forS (seqE (noSt (varM 2))) (putM 5) (forS (rng2E (argCE (noSt (cM (.int 1))) (argCE (noSt (op2 addD (varM 13) (cM (.int 1)))) argNE))) (putM 6) (ifS (noSt (andT (tvM (op2 (inD true) (varM 6) (varM 5))) (orT (tvM (op2 eqD (varM 5) (tupM argN))) (tvM (op2 neD (callM absD (argC (op2 subD (varM 6) (op2 ixD (varM 5) (op1 negD (cM (.int 1))))) argN)) (cM (.int 1))))))) (appS 4 (noSt (op2 addD (varM 5) (tupM (argC (varM 6) argN))))) nxM))) (setS 2 (frzM 4))))) (retS (isM (noSt (callM lenD (argC (varM 2) argN))) (callM F_loose_rows (argC (varM 13) argN)) (callM (fun ds => F_loose_rows (perm [0] ds)) (argC (varM 13) argN))))))))))))))
def F_law_are_few : Bag → List D → Option (D × Bag) := runB 14 m_law_are_few
theorem c_law_are_few {P : Program} {w : World} {K : Fg} {mg : Str → Option Value} {base : Heap} {T : List (Addr × Str)} {f : Addr} {fd : FuncData} {cd : Value} (hf : mg "_law_are_few" = some (.ref f)) (Fc : FunC K "_law_are_few" st_law_are_few f fd cd) (g_abs : mg "abs" = none) (g_len : mg "len" = none) (g_range : mg "range" = none) (C_law_draw : CallG P w K mg base "_law_draw" ["bag", "below"] 1 (spB K T 2 F_law_draw)) (C_law_signed : CallF P w K mg base "_law_signed" st_law_signed ["n"] 1 false F_law_signed) (C_kept_places : CallF P w K mg base "kept_places" st_kept_places ["row"] 1 false F_kept_places) (C_loose_rows : CallF P w K mg base "loose_rows" st_loose_rows ["n"] 1 false F_loose_rows) (C_one_row_count : CallF P w K mg base "one_row_count" st_one_row_count ["n"] 2 false F_one_row_count) (C_rows_keeping : CallF P w K mg base "rows_keeping" st_rows_keeping ["n", "many"] 4 false F_rows_keeping) (C_is : IsC P w K mg base) (TO : TabOk base mg T cd ((("_law_are_few" : Str) ++ ".<locals>.") ++ "<lambda>")) : CallG P w K mg base "_law_are_few" ["bag"] 8 (spB K T 1 F_law_are_few) :=
  have Fn := Fc.fun
  ⟨f, fd, hf, Fc.kp, Fn.binds (ps := ["bag"]) (fun _ _ _ _ _ _ us hl => match us, hl with | [_], _ => rfl), fnB (N := N_law_are_few.tail) (ps := []) Fc sc_law_are_few fun A outer s H E hr gd =>
    ss_cons (s_asg (e_tup (ea_cons (e_bag 0 C_law_draw hr gd rfl (ea_cons (e_q q_int) ea_nil) (lenBE (lenCE lenNE))) (ea_cons (e_q (q_lst (a_consI (q_tup a_nil) a_nil))) ea_nil))) (g_tup rfl (gs_cons (g_name 1 sc_law_are_few.nd) (gs_cons (g_name 2 sc_law_are_few.nd) gs_nil)))) (ss_cons (s_for rfl (ei_rng1 rfl g_range (ea_cons (e_q (q_var 1)) ea_nil)) (g_name 3 sc_law_are_few.nd) (ss_cons (s_setO 4 sc_law_are_few.nd (eo_q (q_lst a_nil))) (ss_cons (s_for rfl (ei_seq (e_q (q_var 2))) (g_name 5 sc_law_are_few.nd) (ss_one (s_extend 4 (e_q ((q_lc (own := [("x", 6)]) rfl sc_law_are_few.nd (qi_rng2 rfl g_range (a_consI (q_op opS_sub q_int (q_var 1)) (a_consI (q_op opS_add (q_var 1) q_int) a_nil))) (blkOk_by (N := N_law_are_few) (sc := defScope st_law_are_few) (by decide +kernel)) (fun _ _ _ _ _ => g_name 6 sc_law_are_few.nd) (fun _ _ _ _ _ => pts_q (qw_t (qw_and (qt_cmp (opS_ne (hr.units)) (q_var 6) q_int (by first | exact nobehind _ (by decide) (by decide) | rfl)) (qw_and (qt_cmp (opS_notIn (units65 hr)) (q_var 6) (q_var 5) (by first | exact nobehind _ (by decide) (by decide) | rfl)) (qw_and1 (qt_cmp (opS_notIn (units65 hr)) (q_op opS_sub q_int (q_var 6)) (q_var 5) (by first | exact nobehind _ (by decide) (by decide) | rfl))))))) (fun _ _ _ _ _ => q_op opS_add (q_var 5) (q_tup (a_consI (q_var 6) a_nil))))))))) (ss_one (s_set 2 sc_law_are_few.nd (e_frz 4)))))) (ss_cons (s_setO 7 sc_law_are_few.nd (eo_q (q_lst a_nil))) (ss_cons (s_for rfl (ei_seq (e_q (q_var 2))) (g_name 5 sc_law_are_few.nd) (ss_cons (s_set 8 sc_law_are_few.nd (e_q (q_op opS_add (q_op opS_add (q_tup (a_consI q_int a_nil)) (q_var 5)) (q_tup (a_consI (q_op opS_add (q_var 1) q_int) a_nil))))) (ss_one (s_append 7 (e_q (q_callB cs_len rfl g_len rfl (a_consI ((q_lc (own := [("i", 9)]) rfl sc_law_are_few.nd (qi_rng1 rfl g_range (a_consI (q_op opS_add (q_var 1) q_int) a_nil)) (blkOk_by (N := N_law_are_few) (sc := defScope st_law_are_few) (by decide +kernel)) (fun _ _ _ _ _ => g_name 9 sc_law_are_few.nd) (fun _ _ _ _ _ => pts_q (qt_cmp (opS_eq (hr.units)) (q_ix ixS (q_var 8) (q_op opS_add (q_var 9) q_int)) (q_op opS_add (q_ix ixS (q_var 8) (q_var 9)) q_int) (by first | exact nobehind _ (by decide) (by decide) | rfl))) (fun _ _ _ _ _ => q_var 9))) a_nil))))))) (ss_cons (s_if (et_q (qt_cmp (opS_ne (hr.units)) (q_callB cs_len rfl g_len rfl (a_consI (q_var 2) a_nil)) (q_call C_law_signed hr rfl (a_consI (q_var 1) a_nil) (hl := (lenC lenN))) (by first | exact nobehind _ (by decide) (by decide) | rfl))) (ss_one (s_ret (e_q q_bl))) ss_nil) (ss_cons (s_for rfl (ei_rng1 rfl g_range (ea_cons (e_q (q_op opS_add (q_var 1) q_int)) ea_nil)) (g_name 10 sc_law_are_few.nd) (ss_cons (s_set 11 sc_law_are_few.nd (e_q (q_count (q_varR 7) (a_consI (q_var 10) a_nil)))) (ss_one (s_if (et_not (et_val (e_is (k := 4) C_is TO hr gd rfl (e_q (q_var 11)) (by exact ⟨⟨_, _, _, _, _, rfl, by decide, LamX.lamS_by (sc := defScope st_law_are_few) (by decide +kernel), rfl, fun _ _ _ _ _ => rfl, fun A outer s H f c' hr gd => q_call C_rows_keeping hr rfl (a_consI (q_var 1) (a_consI (q_var 10) a_nil)) (hl := (lenC (lenC lenN)))⟩⟩) (by exact ⟨⟨_, _, _, _, _, rfl, by decide, LamX.lamS_by (sc := defScope st_law_are_few) (by decide +kernel), rfl, fun _ _ _ _ _ => rfl, fun A outer s H f c' hr gd => q_callK (ks := ["many", "n"]) (π := [1, 0]) C_rows_keeping (fun _ _ _ _ _ _ ws hl => match ws, hl with | [_, _], _ => rfl) hr rfl (k_cons (q_var 10) (k_cons (q_var 1) k_nil)) (hl := (lenC (lenC lenN))) (hp := lenP (lenC (lenC lenN)) (fun ds h => match ds, h with | [_, _], _ => rfl))⟩⟩)))) (ss_one (s_ret (e_q q_bl))) ss_nil)))) (ss_cons (s_set 12 sc_law_are_few.nd (e_bag 0 C_law_draw hr gd rfl (ea_cons (e_q (q_callB cs_len rfl g_len rfl (a_consI (q_var 2) a_nil))) ea_nil) (lenBE (lenCE lenNE)))) (ss_cons (s_if (et_q (qt_cmp (opS_ne (hr.units)) (q_callB cs_len rfl g_len rfl (a_consI (q_call C_kept_places hr rfl (a_consI (q_ix ixS (q_var 2) (q_var 12)) a_nil) (hl := (lenC lenN))) a_nil)) (q_ix ixS (q_varR 7) (q_var 12)) (by first | exact nobehind _ (by decide) (by decide) | rfl))) (ss_one (s_ret (e_q q_bl))) ss_nil) (ss_cons (s_if (et_q (qw_t (qw_and (qt_cmp opS_gt (q_var 1) q_int (by first | exact nobehind _ (by decide) (by decide) | rfl)) (qw_and1 (qt_cmp (opS_ne (hr.units)) (q_op opS_mul (q_call C_one_row_count hr rfl (a_consI (q_var 1) a_nil) (hl := (lenC lenN))) q_int) (q_callB cs_len rfl g_len rfl (a_consI (q_var 2) a_nil)) (by first | exact nobehind _ (by decide) (by decide) | rfl)))))) (ss_one (s_ret (e_q q_bl))) ss_nil) (ss_cons (s_asg (e_tup (ea_cons (e_bag 0 C_law_draw hr gd rfl (ea_cons (e_q q_int) ea_nil) (lenBE (lenCE lenNE))) (ea_cons (e_q (q_lst (a_consI (q_tup a_nil) a_nil))) ea_nil))) (g_tup rfl (gs_cons (g_name 13 sc_law_are_few.nd) (gs_cons (g_name 2 sc_law_are_few.nd) gs_nil)))) (ss_cons (s_for rfl (ei_rng1 rfl g_range (ea_cons (e_q (q_var 13)) ea_nil)) (g_name 3 sc_law_are_few.nd) (ss_cons (s_setO 4 sc_law_are_few.nd (eo_q (q_lst a_nil))) (ss_cons (s_for rfl (ei_seq (e_q (q_var 2))) (g_name 5 sc_law_are_few.nd) (ss_one (s_for rfl (ei_rng2 rfl g_range (ea_cons (e_q q_int) (ea_cons (e_q (q_op opS_add (q_var 13) q_int)) ea_nil))) (g_name 6 sc_law_are_few.nd) (ss_one (s_if (et_q (qw_t (qw_and (qt_cmp (opS_notIn (units65 hr)) (q_var 6) (q_var 5) (by first | exact nobehind _ (by decide) (by decide) | rfl)) (qw_and1 (qw_t (qw_or (qt_cmp (opS_eq (hr.units)) (q_var 5) (q_tup a_nil) (by first | exact nobehind _ (by decide) (by decide) | rfl)) (qw_or1 (qt_cmp (opS_ne (hr.units)) (q_callB cs_abs rfl g_abs rfl (a_consI (q_op opS_sub (q_var 6) (q_ix ixS (q_var 5) (q_neg q_int))) a_nil)) q_int (by first | exact nobehind _ (by decide) (by decide) | rfl))))))))) (ss_one (s_append 4 (e_q (q_op opS_add (q_var 5) (q_tup (a_consI (q_var 6) a_nil)))))) ss_nil))))) (ss_one (s_set 2 sc_law_are_few.nd (e_frz 4)))))) (ss_one (s_ret (e_is (k := 1) C_is TO hr gd rfl (e_q (q_callB cs_len rfl g_len rfl (a_consI (q_var 2) a_nil))) (by exact ⟨⟨_, _, _, _, _, rfl, by decide, LamX.lamS_by (sc := defScope st_law_are_few) (by decide +kernel), rfl, fun _ _ _ _ _ => rfl, fun A outer s H f c' hr gd => q_call C_loose_rows hr rfl (a_consI (q_var 13) a_nil) (hl := (lenC lenN))⟩⟩) (by exact ⟨⟨_, _, _, _, _, rfl, by decide, LamX.lamS_by (sc := defScope st_law_are_few) (by decide +kernel), rfl, fun _ _ _ _ _ => rfl, fun A outer s H f c' hr gd => q_callK (ks := ["n"]) (π := [0]) C_loose_rows (fun _ _ _ _ _ _ ws hl => match ws, hl with | [_], _ => rfl) hr rfl (k_cons (q_var 13) k_nil) (hl := (lenC lenN)) (hp := lenP (lenC lenN) (fun ds h => match ds, h with | [_], _ => rfl))⟩⟩))))))))))))))⟩
/-! ### law_choose -/
abbrev st_law_choose : Stmt := top 26
abbrev N_law_choose : List Str := ["n", "k", "found", "i"]
theorem sc_law_choose : FnScope N_law_choose ["n", "k"] (defScope st_law_choose) := ⟨rfl, rfl, rfl, by decide +kernel, rfl, by decide +kernel, by decide +kernel⟩
def m_law_choose : S → Option Fl := seqS (ifS (noSt (notT (tvM (chainM leD leD (cM (.int 0)) (varM 1) (varM 0))))) (retS (noSt (cM (.int 0)))) nxM) (seqS (setS 2 (noSt (cM (.int 1)))) (seqS (forS (rng1E (argCE (noSt (varM 1)) argNE)) (putM 3) (setS 2 (noSt (op2 divD (op2 mulD (varM 2) (op2 subD (varM 0) (varM 3))) (op2 addD (varM 3) (cM (.int 1))))))) (retS (noSt (varM 2)))))
def F_law_choose : List D → Option D := runF 4 m_law_choose
theorem c_law_choose {P : Program} {w : World} {K : Fg} {mg : Str → Option Value} {base : Heap} {T : List (Addr × Str)} {f : Addr} {fd : FuncData} {cd : Value} (hf : mg "_law_choose" = some (.ref f)) (Fn : Fun K "_law_choose" "_law_choose" st_law_choose f fd) (g_range : mg "range" = none) : CallF P w K mg base "_law_choose" st_law_choose ["n", "k"] 1 false F_law_choose :=
  ⟨f, fd, hf, Fn, Fn.binds (ps := ["n", "k"]) (fun _ _ _ _ _ _ us hl => match us, hl with | [_, _], _ => rfl), fnF Fn sc_law_choose fun cdv A outer s H E hr =>
    ss_cons (s_if (et_q (qt_not (qt_chain opS_le opS_le q_int (q_var 1) (q_var 0)))) (ss_one (s_ret (e_q q_int))) ss_nil) (ss_cons (s_set 2 sc_law_choose.nd (e_q q_int)) (ss_cons (s_for rfl (ei_rng1 rfl g_range (ea_cons (e_q (q_var 1)) ea_nil)) (g_name 3 sc_law_choose.nd) (ss_one (s_set 2 sc_law_choose.nd (e_q (q_op opS_div (q_op opS_mul (q_var 2) (q_op opS_sub (q_var 0) (q_var 3))) (q_op opS_add (q_var 3) q_int)))))) (ss_one (s_ret (e_q (q_var 2))))))⟩
/-! ### law_loose -/
abbrev st_law_loose : Stmt := top 29
abbrev N_law_loose : List Str := ["n", "found", "i"]
theorem sc_law_loose : FnScope N_law_loose ["n"] (defScope st_law_loose) := ⟨rfl, rfl, rfl, by decide +kernel, rfl, by decide +kernel, by decide +kernel⟩
def m_law_loose : S → Option Fl := seqS (setO 1 (ownM (lstM (argC (cM (.int 1)) (argC (cM (.int 1)) (argC (cM (.int 0)) (argC (cM (.int 0)) argN))))))) (seqS (forS (rng2E (argCE (noSt (cM (.int 4))) (argCE (noSt (op2 addD (varM 0) (cM (.int 1)))) argNE))) (putM 2) (appS 1 (noSt (op2 addD (op2 subD (op2 subD (op2 mulD (op2 addD (varM 2) (cM (.int 1))) (op2 ixD (varR 1) (op1 negD (cM (.int 1))))) (op2 mulD (op2 subD (varM 2) (cM (.int 2))) (op2 ixD (varR 1) (op1 negD (cM (.int 2)))))) (op2 mulD (op2 subD (varM 2) (cM (.int 5))) (op2 ixD (varR 1) (op1 negD (cM (.int 3)))))) (op2 mulD (op2 subD (varM 2) (cM (.int 3))) (op2 ixD (varR 1) (op1 negD (cM (.int 4))))))))) (retS (noSt (op2 ixD (varR 1) (varM 0)))))
def F_law_loose : List D → Option D := runF 3 m_law_loose
theorem c_law_loose {P : Program} {w : World} {K : Fg} {mg : Str → Option Value} {base : Heap} {T : List (Addr × Str)} {f : Addr} {fd : FuncData} {cd : Value} (hf : mg "_law_loose" = some (.ref f)) (Fn : Fun K "_law_loose" "_law_loose" st_law_loose f fd) (g_range : mg "range" = none) : CallF P w K mg base "_law_loose" st_law_loose ["n"] 1 false F_law_loose :=
  ⟨f, fd, hf, Fn, Fn.binds (ps := ["n"]) (fun _ _ _ _ _ _ us hl => match us, hl with | [_], _ => rfl), fnF Fn sc_law_loose fun cdv A outer s H E hr =>
    ss_cons (s_setO 1 sc_law_loose.nd (eo_q (q_lst (a_consI q_int (a_consI q_int (a_consI q_int (a_consI q_int a_nil))))))) (ss_cons (s_for rfl (ei_rng2 rfl g_range (ea_cons (e_q q_int) (ea_cons (e_q (q_op opS_add (q_var 0) q_int)) ea_nil))) (g_name 2 sc_law_loose.nd) (ss_one (s_append 1 (e_q (q_op opS_add (q_op opS_sub (q_op opS_sub (q_op opS_mul (q_op opS_add (q_var 2) q_int) (q_ix ixS (q_varR 1) (q_neg q_int))) (q_op opS_mul (q_op opS_sub (q_var 2) q_int) (q_ix ixS (q_varR 1) (q_neg q_int)))) (q_op opS_mul (q_op opS_sub (q_var 2) q_int) (q_ix ixS (q_varR 1) (q_neg q_int)))) (q_op opS_mul (q_op opS_sub (q_var 2) q_int) (q_ix ixS (q_varR 1) (q_neg q_int)))))))) (ss_one (s_ret (e_q (q_ix ixS (q_varR 1) (q_var 0))))))⟩
/-! ### law_without -/
abbrev st_law_without : Stmt := top 28
abbrev N_law_without : List Str := ["n", "total", "k"]
theorem sc_law_without : FnScope N_law_without ["n"] (defScope st_law_without) := ⟨rfl, rfl, rfl, by decide +kernel, rfl, by decide +kernel, by decide +kernel⟩
def m_law_without : S → Option Fl := seqS (setS 1 (noSt (cM (.int 0)))) (seqS (forS (rng1E (argCE (noSt (op2 addD (varM 0) (cM (.int 1)))) argNE)) (putM 2) (setS 1 (noSt (op2 addD (varM 1) (op2 mulD (op2 mulD (ifM (tvM (op2 eqD (op2 modD (varM 2) (cM (.int 2))) (cM (.int 0)))) (cM (.int 1)) (op1 negD (cM (.int 1)))) (callM F_law_choose (argC (op2 addD (varM 0) (cM (.int 1))) (argC (varM 2) argN)))) (callM F_law_signed (argC (op2 subD (varM 0) (varM 2)) argN))))))) (retS (noSt (op2 addD (varM 1) (ifM (tvM (op2 eqD (op2 modD (op2 addD (varM 0) (cM (.int 1))) (cM (.int 2))) (cM (.int 0)))) (cM (.int 1)) (op1 negD (cM (.int 1))))))))
def F_law_without : List D → Option D := runF 3 m_law_without
theorem c_law_without {P : Program} {w : World} {K : Fg} {mg : Str → Option Value} {base : Heap} {T : List (Addr × Str)} {f : Addr} {fd : FuncData} {cd : Value} (hf : mg "_law_without" = some (.ref f)) (Fn : Fun K "_law_without" "_law_without" st_law_without f fd) (g_range : mg "range" = none) (C_law_choose : CallF P w K mg base "_law_choose" st_law_choose ["n", "k"] 1 false F_law_choose) (C_law_signed : CallF P w K mg base "_law_signed" st_law_signed ["n"] 1 false F_law_signed) : CallF P w K mg base "_law_without" st_law_without ["n"] 2 false F_law_without :=
  ⟨f, fd, hf, Fn, Fn.binds (ps := ["n"]) (fun _ _ _ _ _ _ us hl => match us, hl with | [_], _ => rfl), fnF Fn sc_law_without fun cdv A outer s H E hr =>
    ss_cons (s_set 1 sc_law_without.nd (e_q q_int)) (ss_cons (s_for rfl (ei_rng1 rfl g_range (ea_cons (e_q (q_op opS_add (q_var 0) q_int)) ea_nil)) (g_name 2 sc_law_without.nd) (ss_one (s_set 1 sc_law_without.nd (e_q (q_op opS_add (q_var 1) (q_op opS_mul (q_op opS_mul (q_if (qt_cmp (opS_eq (hr.units)) (q_op opS_mod (q_var 2) q_int) q_int (by first | exact nobehind _ (by decide) (by decide) | rfl)) q_int (q_neg q_int)) (q_call C_law_choose hr rfl (a_consI (q_op opS_add (q_var 0) q_int) (a_consI (q_var 2) a_nil)) (hl := (lenC (lenC lenN))))) (q_call C_law_signed hr rfl (a_consI (q_op opS_sub (q_var 0) (q_var 2)) a_nil) (hl := (lenC lenN))))))))) (ss_one (s_ret (e_q (q_op opS_add (q_var 1) (q_if (qt_cmp (opS_eq (hr.units)) (q_op opS_mod (q_op opS_add (q_var 0) q_int) q_int) q_int (by first | exact nobehind _ (by decide) (by decide) | rfl)) q_int (q_neg q_int)))))))⟩
/-! ### reduced -/
abbrev st_reduced : Stmt := top 1
abbrev N_reduced : List Str := ["above", "below", "one", "other"]
theorem sc_reduced : FnScope N_reduced ["above", "below"] (defScope st_reduced) := ⟨rfl, rfl, rfl, by decide +kernel, rfl, by decide +kernel, by decide +kernel⟩
def m_reduced : S → Option Fl := seqS (parS 2 3 (argCE (noSt (callM absD (argC (varM 0) argN))) (argCE (noSt (varM 1)) argNE))) (seqS (whGo (noSt (tvM (op2 gtD (varM 3) (cM (.int 0))))) (parS 2 3 (argCE (noSt (varM 3)) (argCE (noSt (op2 modD (varM 2) (varM 3))) argNE))) 1000) (retS (noSt (tupM (argC (op2 divD (varM 0) (varM 2)) (argC (op2 divD (varM 1) (varM 2)) argN))))))
def F_reduced : List D → Option D := runF 4 m_reduced
theorem c_reduced {P : Program} {w : World} {K : Fg} {mg : Str → Option Value} {base : Heap} {T : List (Addr × Str)} {f : Addr} {fd : FuncData} {cd : Value} (hf : mg "reduced" = some (.ref f)) (Fn : Fun K "reduced" "reduced" st_reduced f fd) (g_abs : mg "abs" = none) : CallF P w K mg base "reduced" st_reduced ["above", "below"] 1 false F_reduced :=
  ⟨f, fd, hf, Fn, Fn.binds (ps := ["above", "below"]) (fun _ _ _ _ _ _ us hl => match us, hl with | [_, _], _ => rfl), fnF Fn sc_reduced fun cdv A outer s H E hr =>
    ss_cons (s_par 2 3 rfl sc_reduced.nd (ea_cons (e_q (q_callB cs_abs rfl g_abs rfl (a_consI (q_var 0) a_nil))) (ea_cons (e_q (q_var 1)) ea_nil))) (ss_cons (s_while 1000 (et_q (qt_cmp opS_gt (q_var 3) q_int (by first | exact nobehind _ (by decide) (by decide) | rfl))) (ss_one (s_par 2 3 rfl sc_reduced.nd (ea_cons (e_q (q_var 3)) (ea_cons (e_q (q_op opS_mod (q_var 2) (q_var 3))) ea_nil))))) (ss_one (s_ret (e_q (q_tup (a_consI (q_op opS_div (q_var 0) (q_var 2)) (a_consI (q_op opS_div (q_var 1) (q_var 2)) a_nil)))))))⟩
/-! ### kept_mean -/
abbrev st_kept_mean : Stmt := top 8
abbrev N_kept_mean : List Str := ["n"]
theorem sc_kept_mean : FnScope N_kept_mean ["n"] (defScope st_kept_mean) := ⟨rfl, rfl, rfl, by decide +kernel, rfl, by decide +kernel, by decide +kernel⟩
def m_kept_mean : S → Option Fl := retS (noSt (callM F_reduced (argC (op2 addD (varM 0) (cM (.int 1))) (argC (op2 mulD (cM (.int 2)) (varM 0)) argN))))
def F_kept_mean : List D → Option D := runF 1 m_kept_mean
theorem c_kept_mean {P : Program} {w : World} {K : Fg} {mg : Str → Option Value} {base : Heap} {T : List (Addr × Str)} {f : Addr} {fd : FuncData} {cd : Value} (hf : mg "kept_mean" = some (.ref f)) (Fn : Fun K "kept_mean" "kept_mean" st_kept_mean f fd) (C_reduced : CallF P w K mg base "reduced" st_reduced ["above", "below"] 1 false F_reduced) : CallF P w K mg base "kept_mean" st_kept_mean ["n"] 2 false F_kept_mean :=
  ⟨f, fd, hf, Fn, Fn.binds (ps := ["n"]) (fun _ _ _ _ _ _ us hl => match us, hl with | [_], _ => rfl), fnF Fn sc_kept_mean fun cdv A outer s H E hr =>
    ss_one (s_ret (e_q (q_call C_reduced hr rfl (a_consI (q_op opS_add (q_var 0) q_int) (a_consI (q_op opS_mul q_int (q_var 0)) a_nil)) (hl := (lenC (lenC lenN))))))⟩
/-! ### loose_by_sums -/
abbrev st_loose_by_sums : Stmt := top 10
abbrev N_loose_by_sums : List Str := ["n", "found", "k", "runs", "j"]
theorem sc_loose_by_sums : FnScope N_loose_by_sums ["n"] (defScope st_loose_by_sums) := ⟨rfl, rfl, rfl, by decide +kernel, rfl, by decide +kernel, by decide +kernel⟩
def m_loose_by_sums : S → Option Fl := seqS (setS 1 (noSt (callM F_product_to (argC (varM 0) argN)))) (seqS (forS (rng2E (argCE (noSt (cM (.int 1))) (argCE (noSt (varM 0)) argNE))) (putM 2) (seqS (setS 3 (noSt (callM sumD (argC (lcM [4] (rng2M (argC (cM (.int 1)) (argC (op2 addD (varM 2) (cM (.int 1))) argN))) (putM 4) yesM (op2 mulD (op2 mulD (callM F_choose (argC (op2 subD (varM 2) (cM (.int 1))) (argC (op2 subD (varM 4) (cM (.int 1))) argN))) (callM F_choose (argC (op2 subD (varM 0) (varM 2)) (argC (varM 4) argN)))) (callM F_doubled (argC (varM 4) argN)))) argN)))) (setS 1 (noSt (op2 addD (varM 1) (op2 mulD (op2 mulD (callM F_sign (argC (varM 2) argN)) (callM F_product_to (argC (op2 subD (varM 0) (varM 2)) argN))) (varM 3))))))) (retS (noSt (varM 1))))
def F_loose_by_sums : List D → Option D := runF 5 m_loose_by_sums
theorem c_loose_by_sums {P : Program} {w : World} {K : Fg} {mg : Str → Option Value} {base : Heap} {T : List (Addr × Str)} {f : Addr} {fd : FuncData} {cd : Value} (hf : mg "loose_by_sums" = some (.ref f)) (Fn : Fun K "loose_by_sums" "loose_by_sums" st_loose_by_sums f fd) (g_range : mg "range" = none) (g_sum : mg "sum" = none) (C_choose : CallF P w K mg base "choose" st_choose ["whole", "part"] 2 false F_choose) (C_doubled : CallF P w K mg base "doubled" st_doubled ["times"] 1 false F_doubled) (C_product_to : CallF P w K mg base "product_to" st_product_to ["n"] 1 false F_product_to) (C_sign : CallF P w K mg base "sign" st_sign ["k"] 1 false F_sign) : CallF P w K mg base "loose_by_sums" st_loose_by_sums ["n"] 3 false F_loose_by_sums :=
  ⟨f, fd, hf, Fn, Fn.binds (ps := ["n"]) (fun _ _ _ _ _ _ us hl => match us, hl with | [_], _ => rfl), fnF Fn sc_loose_by_sums fun cdv A outer s H E hr =>
    ss_cons (s_set 1 sc_loose_by_sums.nd (e_q (q_call C_product_to hr rfl (a_consI (q_var 0) a_nil) (hl := (lenC lenN))))) (ss_cons (s_for rfl (ei_rng2 rfl g_range (ea_cons (e_q q_int) (ea_cons (e_q (q_var 0)) ea_nil))) (g_name 2 sc_loose_by_sums.nd) (ss_cons (s_set 3 sc_loose_by_sums.nd (e_q (q_callB (cs_sum rfl) rfl g_sum rfl (a_consI ((q_lc (own := [("j", 4)]) rfl sc_loose_by_sums.nd (qi_rng2 rfl g_range (a_consI q_int (a_consI (q_op opS_add (q_var 2) q_int) a_nil))) (blkOk_by (N := N_loose_by_sums) (sc := defScope st_loose_by_sums) (by decide +kernel)) (fun _ _ _ _ _ => g_name 4 sc_loose_by_sums.nd) (fun _ _ _ _ _ => pts_yes) (fun _ _ _ _ _ => q_op opS_mul (q_op opS_mul (q_call C_choose hr rfl (a_consI (q_op opS_sub (q_var 2) q_int) (a_consI (q_op opS_sub (q_var 4) q_int) a_nil)) (hl := (lenC (lenC lenN)))) (q_call C_choose hr rfl (a_consI (q_op opS_sub (q_var 0) (q_var 2)) (a_consI (q_var 4) a_nil)) (hl := (lenC (lenC lenN))))) (q_call C_doubled hr rfl (a_consI (q_var 4) a_nil) (hl := (lenC lenN)))))) a_nil)))) (ss_one (s_set 1 sc_loose_by_sums.nd (e_q (q_op opS_add (q_var 1) (q_op opS_mul (q_op opS_mul (q_call C_sign hr rfl (a_consI (q_var 2) a_nil) (hl := (lenC lenN))) (q_call C_product_to hr rfl (a_consI (q_op opS_sub (q_var 0) (q_var 2)) a_nil) (hl := (lenC lenN)))) (q_var 3)))))))) (ss_one (s_ret (e_q (q_var 1)))))⟩
/-! ### law_are_numbers -/
abbrev st_law_are_numbers : Stmt := top 30
abbrev N_law_are_numbers : List Str := ["bag", "n", "due", "total", "sums", "many", "own", "above", "below", "x", "y", "turn"]
theorem sc_law_are_numbers : FnScope N_law_are_numbers ["bag"] (defScope st_law_are_numbers) := ⟨rfl, rfl, rfl, by decide +kernel, rfl, by decide +kernel, by decide +kernel⟩
def m_law_are_numbers : S → Option Fl := seqS (setS 1 (callB 0 F_law_draw (argCE (noSt (cM (.int 31))) argNE))) (seqS (setS 2 (noSt (callM F_law_without (argC (varM 1) argN)))) (seqS (ifS (notE (tvE (isM (noSt (varM 2)) (callM F_rows_without (argC (varM 1) argN)) (callM (fun ds => F_rows_without (perm [0] ds)) (argC (varM 1) argN))))) (retS (noSt (cM (.bool false)))) nxM) (seqS (asgS (tgTup 2 (tgCons (putM 3) (tgCons (putM 4) tgNil))) (noSt (tupM (argC (cM (.int 0)) (argC (cM (.int 0)) argN))))) (seqS (forS (rng1E (argCE (noSt (op2 addD (varM 1) (cM (.int 2)))) argNE)) (putM 5) (seqS (setS 6 (noSt (ifM (tvM (op2 eqD (varM 5) (op2 addD (varM 1) (cM (.int 1))))) (cM (.int 1)) (op2 mulD (callM F_law_choose (argC (op2 addD (varM 1) (cM (.int 1))) (argC (varM 5) argN))) (callM F_law_without (argC (op2 subD (varM 1) (varM 5)) argN)))))) (seqS (parS 3 4 (argCE (noSt (op2 addD (varM 3) (varM 6))) (argCE (noSt (op2 addD (varM 4) (op2 mulD (varM 5) (varM 6)))) argNE))) (ifS (andE (tvE (op2E eqD (callB 0 F_law_draw (argCE (noSt (cM (.int 4))) argNE)) (noSt (cM (.int 0))))) (notE (tvE (isM (noSt (varM 6)) (callM F_rows_keeping (argC (varM 1) (argC (varM 5) argN))) (callM (fun ds => F_rows_keeping (perm [1, 0] ds)) (argC (varM 5) (argC (varM 1) argN))))))) (retS (noSt (cM (.bool false)))) nxM)))) (seqS (ifS (noSt (tvM (op2 neD (varM 3) (callM F_law_signed (argC (varM 1) argN))))) (retS (noSt (cM (.bool false)))) nxM) (seqS (ifS (noSt (tvM (op2 eqD (varM 1) (cM (.int 0))))) (retS (noSt (andV (op2 eqD (callM F_rows_keeping (argC (cM (.int 0)) (argC (cM (.int 1)) argN))) (cM (.int 1))) (op2 eqD (callM F_rows_keeping (argC (cM (.int 0)) (argC (cM (.int 0)) argN))) (cM (.int 0)))))) nxM) (seqS (parS 7 8 (argCE (noSt (op2 addD (varM 1) (cM (.int 1)))) (argCE (noSt (op2 mulD (cM (.int 2)) (varM 1))) argNE))) (seqS (parS 9 10 (argCE (noSt (varM 7)) (argCE (noSt (varM 8)) argNE))) (seqS (forS (rng1E (argCE (noSt (cM (.int 20))) argNE)) (putM 11) (seqS (ifS (noSt (tvM (op2 eqD (varM 10) (cM (.int 0))))) bkM nxM) (parS 9 10 (argCE (noSt (varM 10)) (argCE (noSt (op2 modD (varM 9) (varM 10))) argNE))))) (seqS (setS 2 (noSt (tupM (argC (op2 divD (varM 7) (varM 9)) (argC (op2 divD (varM 8) (varM 9)) argN))))) (seqS (ifS (noSt (tvM (op2 neD (op2 mulD (varM 4) (op2 ixD (varM 2) (cM (.int 1)))) (op2 mulD (varM 3) (op2 ixD (varM 2) (cM (.int 0))))))) (retS (noSt (cM (.bool false)))) nxM) (seqS (ifS (notE (tvE (isM (noSt (varM 2)) (callM F_kept_mean (argC (varM 1) argN)) (callM (fun ds => F_kept_mean (perm [0] ds)) (argC (varM 1) argN))))) (retS (noSt (cM (.bool false)))) nxM) (seqS (setS 2 (noSt (callM F_law_loose (argC (varM 1) argN)))) (seqS (ifS (notE (tvE (isM (noSt (varM 2)) (callM F_loose_rows (argC (varM 1) argN)) (callM (fun ds => F_loose_rows (perm [0] ds)) (argC (varM 1) argN))))) (retS (noSt (cM (.bool false)))) nxM) (retS (isM (noSt (varM 2)) (callM F_loose_by_sums (argC (varM 1) argN)) (callM (fun ds => F_loose_by_sums (perm [0] ds)) (argC (varM 1) argN))))))))))))))))))
def F_law_are_numbers : Bag → List D → Option (D × Bag) := runB 12 m_law_are_numbers
theorem c_law_are_numbers {P : Program} {w : World} {K : Fg} {mg : Str → Option Value} {base : Heap} {T : List (Addr × Str)} {f : Addr} {fd : FuncData} {cd : Value} (hf : mg "_law_are_numbers" = some (.ref f)) (Fc : FunC K "_law_are_numbers" st_law_are_numbers f fd cd) (g_range : mg "range" = none) (C_law_choose : CallF P w K mg base "_law_choose" st_law_choose ["n", "k"] 1 false F_law_choose) (C_law_draw : CallG P w K mg base "_law_draw" ["bag", "below"] 1 (spB K T 2 F_law_draw)) (C_law_loose : CallF P w K mg base "_law_loose" st_law_loose ["n"] 1 false F_law_loose) (C_law_signed : CallF P w K mg base "_law_signed" st_law_signed ["n"] 1 false F_law_signed) (C_law_without : CallF P w K mg base "_law_without" st_law_without ["n"] 2 false F_law_without) (C_kept_mean : CallF P w K mg base "kept_mean" st_kept_mean ["n"] 2 false F_kept_mean) (C_loose_by_sums : CallF P w K mg base "loose_by_sums" st_loose_by_sums ["n"] 3 false F_loose_by_sums) (C_loose_rows : CallF P w K mg base "loose_rows" st_loose_rows ["n"] 1 false F_loose_rows) (C_rows_keeping : CallF P w K mg base "rows_keeping" st_rows_keeping ["n", "many"] 4 false F_rows_keeping) (C_rows_without : CallF P w K mg base "rows_without" st_rows_without ["n"] 3 false F_rows_without) (C_is : IsC P w K mg base) (TO : TabOk base mg T cd ((("_law_are_numbers" : Str) ++ ".<locals>.") ++ "<lambda>")) : CallG P w K mg base "_law_are_numbers" ["bag"] 8 (spB K T 1 F_law_are_numbers) :=
  have Fn := Fc.fun
  ⟨f, fd, hf, Fc.kp, Fn.binds (ps := ["bag"]) (fun _ _ _ _ _ _ us hl => match us, hl with | [_], _ => rfl), fnB (N := N_law_are_numbers.tail) (ps := []) Fc sc_law_are_numbers fun A outer s H E hr gd =>
    ss_cons (s_set 1 sc_law_are_numbers.nd (e_bag 0 C_law_draw hr gd rfl (ea_cons (e_q q_int) ea_nil) (lenBE (lenCE lenNE)))) (ss_cons (s_set 2 sc_law_are_numbers.nd (e_q (q_call C_law_without hr rfl (a_consI (q_var 1) a_nil) (hl := (lenC lenN))))) (ss_cons (s_if (et_not (et_val (e_is (k := 3) C_is TO hr gd rfl (e_q (q_var 2)) (by exact ⟨⟨_, _, _, _, _, rfl, by decide, LamX.lamS_by (sc := defScope st_law_are_numbers) (by decide +kernel), rfl, fun _ _ _ _ _ => rfl, fun A outer s H f c' hr gd => q_call C_rows_without hr rfl (a_consI (q_var 1) a_nil) (hl := (lenC lenN))⟩⟩) (by exact ⟨⟨_, _, _, _, _, rfl, by decide, LamX.lamS_by (sc := defScope st_law_are_numbers) (by decide +kernel), rfl, fun _ _ _ _ _ => rfl, fun A outer s H f c' hr gd => q_callK (ks := ["n"]) (π := [0]) C_rows_without (fun _ _ _ _ _ _ ws hl => match ws, hl with | [_], _ => rfl) hr rfl (k_cons (q_var 1) k_nil) (hl := (lenC lenN)) (hp := lenP (lenC lenN) (fun ds h => match ds, h with | [_], _ => rfl))⟩⟩)))) (ss_one (s_ret (e_q q_bl))) ss_nil) (ss_cons (s_asg (e_q (q_tup (a_consI q_int (a_consI q_int a_nil)))) (g_tup rfl (gs_cons (g_name 3 sc_law_are_numbers.nd) (gs_cons (g_name 4 sc_law_are_numbers.nd) gs_nil)))) (ss_cons (s_for rfl (ei_rng1 rfl g_range (ea_cons (e_q (q_op opS_add (q_var 1) q_int)) ea_nil)) (g_name 5 sc_law_are_numbers.nd) (ss_cons (s_set 6 sc_law_are_numbers.nd (e_q (q_if (qt_cmp (opS_eq (hr.units)) (q_var 5) (q_op opS_add (q_var 1) q_int) (by first | exact nobehind _ (by decide) (by decide) | rfl)) q_int (q_op opS_mul (q_call C_law_choose hr rfl (a_consI (q_op opS_add (q_var 1) q_int) (a_consI (q_var 5) a_nil)) (hl := (lenC (lenC lenN)))) (q_call C_law_without hr rfl (a_consI (q_op opS_sub (q_var 1) (q_var 5)) a_nil) (hl := (lenC lenN))))))) (ss_cons (s_par 3 4 rfl sc_law_are_numbers.nd (ea_cons (e_q (q_op opS_add (q_var 3) (q_var 6))) (ea_cons (e_q (q_op opS_add (q_var 4) (q_op opS_mul (q_var 5) (q_var 6)))) ea_nil))) (ss_one (s_if (ew_t (ew_and (et_cmp (opS_eq (hr.units)) (e_bag 0 C_law_draw hr gd rfl (ea_cons (e_q q_int) ea_nil) (lenBE (lenCE lenNE))) (e_q q_int) (by first | exact nobehind _ (by decide) (by decide) | rfl)) (ew_and1 (et_not (et_val (e_is (k := 4) C_is TO hr gd rfl (e_q (q_var 6)) (by exact ⟨⟨_, _, _, _, _, rfl, by decide, LamX.lamS_by (sc := defScope st_law_are_numbers) (by decide +kernel), rfl, fun _ _ _ _ _ => rfl, fun A outer s H f c' hr gd => q_call C_rows_keeping hr rfl (a_consI (q_var 1) (a_consI (q_var 5) a_nil)) (hl := (lenC (lenC lenN)))⟩⟩) (by exact ⟨⟨_, _, _, _, _, rfl, by decide, LamX.lamS_by (sc := defScope st_law_are_numbers) (by decide +kernel), rfl, fun _ _ _ _ _ => rfl, fun A outer s H f c' hr gd => q_callK (ks := ["many", "n"]) (π := [1, 0]) C_rows_keeping (fun _ _ _ _ _ _ ws hl => match ws, hl with | [_, _], _ => rfl) hr rfl (k_cons (q_var 5) (k_cons (q_var 1) k_nil)) (hl := (lenC (lenC lenN))) (hp := lenP (lenC (lenC lenN)) (fun ds h => match ds, h with | [_, _], _ => rfl))⟩⟩))))))) (ss_one (s_ret (e_q q_bl))) ss_nil))))) (ss_cons (s_if (et_q (qt_cmp (opS_ne (hr.units)) (q_var 3) (q_call C_law_signed hr rfl (a_consI (q_var 1) a_nil) (hl := (lenC lenN))) (by first | exact nobehind _ (by decide) (by decide) | rfl))) (ss_one (s_ret (e_q q_bl))) ss_nil) (ss_cons (s_if (et_q (qt_cmp (opS_eq (hr.units)) (q_var 1) q_int (by first | exact nobehind _ (by decide) (by decide) | rfl))) (ss_one (s_ret (e_q (q_and (q_cmp (opS_eq (hr.units)) (q_call C_rows_keeping hr rfl (a_consI q_int (a_consI q_int a_nil)) (hl := (lenC (lenC lenN)))) q_int (by first | exact nobehind _ (by decide) (by decide) | rfl)) (q_one (q_cmp (opS_eq (hr.units)) (q_call C_rows_keeping hr rfl (a_consI q_int (a_consI q_int a_nil)) (hl := (lenC (lenC lenN)))) q_int (by first | exact nobehind _ (by decide) (by decide) | rfl))))))) ss_nil) (ss_cons (s_par 7 8 rfl sc_law_are_numbers.nd (ea_cons (e_q (q_op opS_add (q_var 1) q_int)) (ea_cons (e_q (q_op opS_mul q_int (q_var 1))) ea_nil))) (ss_cons (s_par 9 10 rfl sc_law_are_numbers.nd (ea_cons (e_q (q_var 7)) (ea_cons (e_q (q_var 8)) ea_nil))) (ss_cons (s_for rfl (ei_rng1 rfl g_range (ea_cons (e_q q_int) ea_nil)) (g_name 11 sc_law_are_numbers.nd) (ss_cons (s_if (et_q (qt_cmp (opS_eq (hr.units)) (q_var 10) q_int (by first | exact nobehind _ (by decide) (by decide) | rfl))) (ss_one s_break) ss_nil) (ss_one (s_par 9 10 rfl sc_law_are_numbers.nd (ea_cons (e_q (q_var 10)) (ea_cons (e_q (q_op opS_mod (q_var 9) (q_var 10))) ea_nil)))))) (ss_cons (s_set 2 sc_law_are_numbers.nd (e_q (q_tup (a_consI (q_op opS_div (q_var 7) (q_var 9)) (a_consI (q_op opS_div (q_var 8) (q_var 9)) a_nil))))) (ss_cons (s_if (et_q (qt_cmp (opS_ne (hr.units)) (q_op opS_mul (q_var 4) (q_ix ixS (q_var 2) q_int)) (q_op opS_mul (q_var 3) (q_ix ixS (q_var 2) q_int)) (by first | exact nobehind _ (by decide) (by decide) | rfl))) (ss_one (s_ret (e_q q_bl))) ss_nil) (ss_cons (s_if (et_not (et_val (e_is (k := 2) C_is TO hr gd rfl (e_q (q_var 2)) (by exact ⟨⟨_, _, _, _, _, rfl, by decide, LamX.lamS_by (sc := defScope st_law_are_numbers) (by decide +kernel), rfl, fun _ _ _ _ _ => rfl, fun A outer s H f c' hr gd => q_call C_kept_mean hr rfl (a_consI (q_var 1) a_nil) (hl := (lenC lenN))⟩⟩) (by exact ⟨⟨_, _, _, _, _, rfl, by decide, LamX.lamS_by (sc := defScope st_law_are_numbers) (by decide +kernel), rfl, fun _ _ _ _ _ => rfl, fun A outer s H f c' hr gd => q_callK (ks := ["n"]) (π := [0]) C_kept_mean (fun _ _ _ _ _ _ ws hl => match ws, hl with | [_], _ => rfl) hr rfl (k_cons (q_var 1) k_nil) (hl := (lenC lenN)) (hp := lenP (lenC lenN) (fun ds h => match ds, h with | [_], _ => rfl))⟩⟩)))) (ss_one (s_ret (e_q q_bl))) ss_nil) (ss_cons (s_set 2 sc_law_are_numbers.nd (e_q (q_call C_law_loose hr rfl (a_consI (q_var 1) a_nil) (hl := (lenC lenN))))) (ss_cons (s_if (et_not (et_val (e_is (k := 1) C_is TO hr gd rfl (e_q (q_var 2)) (by exact ⟨⟨_, _, _, _, _, rfl, by decide, LamX.lamS_by (sc := defScope st_law_are_numbers) (by decide +kernel), rfl, fun _ _ _ _ _ => rfl, fun A outer s H f c' hr gd => q_call C_loose_rows hr rfl (a_consI (q_var 1) a_nil) (hl := (lenC lenN))⟩⟩) (by exact ⟨⟨_, _, _, _, _, rfl, by decide, LamX.lamS_by (sc := defScope st_law_are_numbers) (by decide +kernel), rfl, fun _ _ _ _ _ => rfl, fun A outer s H f c' hr gd => q_callK (ks := ["n"]) (π := [0]) C_loose_rows (fun _ _ _ _ _ _ ws hl => match ws, hl with | [_], _ => rfl) hr rfl (k_cons (q_var 1) k_nil) (hl := (lenC lenN)) (hp := lenP (lenC lenN) (fun ds h => match ds, h with | [_], _ => rfl))⟩⟩)))) (ss_one (s_ret (e_q q_bl))) ss_nil) (ss_one (s_ret (e_is (k := 3) C_is TO hr gd rfl (e_q (q_var 2)) (by exact ⟨⟨_, _, _, _, _, rfl, by decide, LamX.lamS_by (sc := defScope st_law_are_numbers) (by decide +kernel), rfl, fun _ _ _ _ _ => rfl, fun A outer s H f c' hr gd => q_call C_loose_by_sums hr rfl (a_consI (q_var 1) a_nil) (hl := (lenC lenN))⟩⟩) (by exact ⟨⟨_, _, _, _, _, rfl, by decide, LamX.lamS_by (sc := defScope st_law_are_numbers) (by decide +kernel), rfl, fun _ _ _ _ _ => rfl, fun A outer s H f c' hr gd => q_callK (ks := ["n"]) (π := [0]) C_loose_by_sums (fun _ _ _ _ _ _ ws hl => match ws, hl with | [_], _ => rfl) hr rfl (k_cons (q_var 1) k_nil) (hl := (lenC lenN)) (hp := lenP (lenC lenN) (fun ds h => match ds, h with | [_], _ => rfl))⟩⟩))))))))))))))))))⟩
/-! ### law_own_bag -/
abbrev st_law_own_bag : Stmt := top 21
abbrev N_law_own_bag : List Str := ["script", "cells", "cell", "mixed"]
theorem sc_law_own_bag : FnScope N_law_own_bag ["script"] (defScope st_law_own_bag) := ⟨rfl, rfl, rfl, by decide +kernel, rfl, by decide +kernel, by decide +kernel⟩
-- m: seqS (setS 1 (noSt (lcM [2] (seqM (scrM 0 63)) (putM 2) yesM (op2 modD (callM absD (argC (callM int1D (argC (varM 2) argN)) argN)) (op2 powD (cM (.int 10)) (cM (.int 64))))))) (seqS (setS 3 (noSt (op2 addD (cM (.int 1752)) (callM lenD (argC (varM 1) argN))))) (seqS (forS (seqE (noSt (varM 1))) (putM 2) (setS 3 (noSt (op2 modD (callM int1D (argC (op2 addD (op2 addD (op2 mulD (varM 3) (cM (.int 48271))) (op2 modD (callM int1D (argC (varM 2) argN)) (cM (.int 2147483629)))) (cM (.int 7))) argN)) (cM (.int 2147483647)))))) (retO (ownM (lstM (argC (op1 revD (callM listD (argC (varM 1) argN))) (argC (cM (.int 0)) (argC (varM 3) argN))))))))
theorem c_law_own_bag {P : Program} {w : World} {K : Fg} {mg : Str → Option Value} {base : Heap} {T : List (Addr × Str)} {f : Addr} {fd : FuncData} {cd : Value} (hf : mg "_law_own_bag" = some (.ref f)) (Fn : Fun K "_law_own_bag" "_law_own_bag" st_law_own_bag f fd) (g_abs : mg "abs" = none) (g_int : mg "int" = none) (g_len : mg "len" = none) (g_list : mg "list" = none) (g_reversed : mg "reversed" = none) : CallG P w K mg base "_law_own_bag" ["script"] 2 (spO K) :=
  ⟨f, fd, hf, Fn.kp, Fn.binds (ps := ["script"]) (fun _ _ _ _ _ _ us hl => match us, hl with | [_], _ => rfl), fnO (k := 1) (n := 1752) (N := N_law_own_bag) (by decide) (by decide) Fn sc_law_own_bag rfl fun cdv A outer s H E hr =>
    ss_cons ((s_setLc 1 (own := [("cell", 2)]) rfl sc_law_own_bag.nd (qi_seq (q_scr 0 (j := 63))) (blkOk_by (N := N_law_own_bag) (sc := defScope st_law_own_bag) (by decide +kernel)) (fun _ _ _ _ _ => g_name 2 sc_law_own_bag.nd) (fun _ _ _ _ _ => pts_yes) (fun _ _ _ _ _ => q_op opS_mod (q_callB cs_abs rfl g_abs rfl (a_consI (q_callTy cs_int rfl g_int rfl (a_consI (q_var 2) a_nil)) a_nil)) (q_op opS_pow q_int q_int)))) (ss_cons (s_set 3 sc_law_own_bag.nd (e_q (q_op opS_add q_int (q_callB cs_len rfl g_len rfl (a_consI (q_var 1) a_nil))))) (ss_cons (s_for rfl (ei_seq (e_q (q_var 1))) (g_name 2 sc_law_own_bag.nd) (ss_one (s_set 3 sc_law_own_bag.nd (e_q (q_op opS_mod (q_callTy cs_int rfl g_int rfl (a_consI (q_op opS_add (q_op opS_add (q_op opS_mul (q_var 3) q_int) (q_op opS_mod (q_callTy cs_int rfl g_int rfl (a_consI (q_var 2) a_nil)) q_int)) q_int) a_nil)) q_int))))) (ss_one (s_retO (eo_q (q_lst (a_consI (q_lstRev rfl rfl g_list rfl g_reversed (q_callTy cs_list rfl g_list rfl (a_consI (q_var 1) a_nil))) (a_consI q_int (a_consI (q_var 3) a_nil)))))))))⟩
/-! ### law -/
abbrev st_law : Stmt := top 32
abbrev N_law : List Str := ["script", "bag", "turn"]
theorem sc_law : FnScope N_law ["script"] (defScope st_law) := ⟨rfl, rfl, rfl, by decide +kernel, rfl, by decide +kernel, by decide +kernel⟩
def m_law : S → Option Fl := seqS (forS (rng1E (argCE (noSt (cM (.int 2))) argNE)) (putM 2) (ifS (orE (notE (tvE (callB 1 F_law_are_numbers argNE))) (notE (tvE (callB 1 F_law_are_few argNE)))) (retS (noSt (cM (.bool false)))) nxM)) (retS (noSt (cM (.bool true))))
theorem f_law {P : Program} {w : World} {K : Fg} {mg : Str → Option Value} {base : Heap} {T : List (Addr × Str)} {f : Addr} {fd : FuncData} {cd : Value} (Fc : FunC K "law" st_law f fd cd) (CO : CallG P w K mg base "_law_own_bag" ["script"] 2 (spO K)) (g_range : mg "range" = none) (C_law_are_few : CallG P w K mg base "_law_are_few" ["bag"] 8 (spB K T 1 F_law_are_few)) (C_law_are_numbers : CallG P w K mg base "_law_are_numbers" ["bag"] 8 (spB K T 1 F_law_are_numbers)) (ok : ∀ b : Bag, OkB b → ∃ s', m_law (.un :: .bag b :: List.replicate 1 .un) = some (.rt (.bool true) s')) : FnG P w K mg base 9 f fd ["script"] (spL K T) :=
  fnL (k := 6) (n := 1) (N := N_law.tail.tail) Fc sc_law rfl rfl CO (fun A outer s H E hr gd =>
    ss_cons (s_for rfl (ei_rng1 rfl g_range (ea_cons (e_q q_int) ea_nil)) (g_name 2 sc_law.nd) (ss_one (s_if (ew_t (ew_or (et_not (et_val (e_bag 1 C_law_are_numbers hr gd rfl ea_nil (lenBE lenNE)))) (ew_or1 (et_not (et_val (e_bag 1 C_law_are_few hr gd rfl ea_nil (lenBE lenNE))))))) (ss_one (s_ret (e_q q_bl))) ss_nil))) (ss_one (s_ret (e_q q_bl)))) rfl (.inl rfl) (.inl rfl) ok
end Y

namespace Y
open PySem PySem.Spec PyProof.Rows L2
/-! ## the tables -/
def tW : List Int := [0, 1, 4, 25, 208, 2121, 25828, 365457, 5895104, 106794993, 2147006948, 47436635753, 1142570789072, 29797622256377, 836527783016196, 25153234375160993, 806519154686509056, 27470342073410272609, 990496662138073867332, 37692249497898323450425, 1509617596903557569259856, 63477395951957589924571945, 2795951200197932899804027300, 128737764222697029627711537969, 6184880576076261171693035594944, 309496036438871648894344321050705, 16105911648338419674539598224523044, 870326103329635311790893299236459401, 48769866735436893650273348958578557520, 2830361317913021786149452701994692423897, 169917509760994499001834110355201566461124]
def tL : List Int := [1, 1, 0, 0, 2, 14, 90, 646, 5242, 47622, 479306, 5296790, 63779034, 831283558, 11661506218, 175203184374, 2806878055610, 47767457130566, 860568917787402, 16362838542699862, 327460573946510746, 6880329406055690790, 151436547414562736234, 3484423186862152966838, 83655126041771262574458, 2092014180086865279171334, 54406969991009281966468810, 1469338018629653986976409366, 41150196372502770671331103322, 1193582389760980498221633250022, 35813584121884333767012044281386]
def tC : List (List Int) := [[1, 1], [1, 2, 1], [1, 3, 3, 1], [1, 4, 6, 4, 1], [1, 5, 10, 10, 5, 1], [1, 6, 15, 20, 15, 6, 1], [1, 7, 21, 35, 35, 21, 7, 1], [1, 8, 28, 56, 70, 56, 28, 8, 1], [1, 9, 36, 84, 126, 126, 84, 36, 9, 1], [1, 10, 45, 120, 210, 252, 210, 120, 45, 10, 1], [1, 11, 55, 165, 330, 462, 462, 330, 165, 55, 11, 1], [1, 12, 66, 220, 495, 792, 924, 792, 495, 220, 66, 12, 1], [1, 13, 78, 286, 715, 1287, 1716, 1716, 1287, 715, 286, 78, 13, 1], [1, 14, 91, 364, 1001, 2002, 3003, 3432, 3003, 2002, 1001, 364, 91, 14, 1], [1, 15, 105, 455, 1365, 3003, 5005, 6435, 6435, 5005, 3003, 1365, 455, 105, 15, 1], [1, 16, 120, 560, 1820, 4368, 8008, 11440, 12870, 11440, 8008, 4368, 1820, 560, 120, 16, 1], [1, 17, 136, 680, 2380, 6188, 12376, 19448, 24310, 24310, 19448, 12376, 6188, 2380, 680, 136, 17, 1], [1, 18, 153, 816, 3060, 8568, 18564, 31824, 43758, 48620, 43758, 31824, 18564, 8568, 3060, 816, 153, 18, 1], [1, 19, 171, 969, 3876, 11628, 27132, 50388, 75582, 92378, 92378, 75582, 50388, 27132, 11628, 3876, 969, 171, 19, 1], [1, 20, 190, 1140, 4845, 15504, 38760, 77520, 125970, 167960, 184756, 167960, 125970, 77520, 38760, 15504, 4845, 1140, 190, 20, 1], [1, 21, 210, 1330, 5985, 20349, 54264, 116280, 203490, 293930, 352716, 352716, 293930, 203490, 116280, 54264, 20349, 5985, 1330, 210, 21, 1], [1, 22, 231, 1540, 7315, 26334, 74613, 170544, 319770, 497420, 646646, 705432, 646646, 497420, 319770, 170544, 74613, 26334, 7315, 1540, 231, 22, 1], [1, 23, 253, 1771, 8855, 33649, 100947, 245157, 490314, 817190, 1144066, 1352078, 1352078, 1144066, 817190, 490314, 245157, 100947, 33649, 8855, 1771, 253, 23, 1], [1, 24, 276, 2024, 10626, 42504, 134596, 346104, 735471, 1307504, 1961256, 2496144, 2704156, 2496144, 1961256, 1307504, 735471, 346104, 134596, 42504, 10626, 2024, 276, 24, 1], [1, 25, 300, 2300, 12650, 53130, 177100, 480700, 1081575, 2042975, 3268760, 4457400, 5200300, 5200300, 4457400, 3268760, 2042975, 1081575, 480700, 177100, 53130, 12650, 2300, 300, 25, 1], [1, 26, 325, 2600, 14950, 65780, 230230, 657800, 1562275, 3124550, 5311735, 7726160, 9657700, 10400600, 9657700, 7726160, 5311735, 3124550, 1562275, 657800, 230230, 65780, 14950, 2600, 325, 26, 1], [1, 27, 351, 2925, 17550, 80730, 296010, 888030, 2220075, 4686825, 8436285, 13037895, 17383860, 20058300, 20058300, 17383860, 13037895, 8436285, 4686825, 2220075, 888030, 296010, 80730, 17550, 2925, 351, 27, 1], [1, 28, 378, 3276, 20475, 98280, 376740, 1184040, 3108105, 6906900, 13123110, 21474180, 30421755, 37442160, 40116600, 37442160, 30421755, 21474180, 13123110, 6906900, 3108105, 1184040, 376740, 98280, 20475, 3276, 378, 28, 1], [1, 29, 406, 3654, 23751, 118755, 475020, 1560780, 4292145, 10015005, 20030010, 34597290, 51895935, 67863915, 77558760, 77558760, 67863915, 51895935, 34597290, 20030010, 10015005, 4292145, 1560780, 475020, 118755, 23751, 3654, 406, 29, 1], [1, 30, 435, 4060, 27405, 142506, 593775, 2035800, 5852925, 14307150, 30045015, 54627300, 86493225, 119759850, 145422675, 155117520, 145422675, 119759850, 86493225, 54627300, 30045015, 14307150, 5852925, 2035800, 593775, 142506, 27405, 4060, 435, 30, 1], [1, 31, 465, 4495, 31465, 169911, 736281, 2629575, 7888725, 20160075, 44352165, 84672315, 141120525, 206253075, 265182525, 300540195, 300540195, 265182525, 206253075, 141120525, 84672315, 44352165, 20160075, 7888725, 2629575, 736281, 169911, 31465, 4495, 465, 31, 1]]
def small (z : Int) : Bool := Nat.blt z.natAbs (2 ^ 1000)
theorem small_big {z : Int} (h : small z = true) : big z.natAbs = true := by
  unfold small at h
  unfold big
  rw [Nat.blt_eq] at *
  exact Nat.lt_of_lt_of_le h (Nat.pow_le_pow_right (by decide) (by decide))
theorem small_log {z : Int} (h : small z = true) : z.natAbs.log2 < 1920 := by
  unfold small at h
  rw [Nat.blt_eq] at h
  by_cases h0 : z.natAbs = 0
  · rw [h0]; decide
  · have := (Nat.log2_lt h0).mpr h
    omega
theorem isOk_int {z : Int} (h : small z = true) : isOk (.int z) (.int z) (.int z) = true := by
  have c : shCost (.int z) = 1930 := by unfold shCost; exact if_pos (small_log h)
  have t : shCost (toldD (.int z)) = 3 + (42 + 2) + (1930 + 2) := by
    unfold toldD
    simp only [shCost, shCosts, c] at *
    rw [c]
    rfl
  unfold isOk
  simp only [deq, beq_self_eq_true, noDict, Bool.true_and, Bool.and_true]
  unfold okShow
  simp only [shCost, shCosts, t]
  simp only [PyData.depth, PyData.depthAll, toldD]
  decide
theorem isOk_two {x y : Int} (hx : small x = true) (hy : small y = true) : isOk (.tuple [.int x, .int y]) (.tuple [.int x, .int y]) (.tuple [.int x, .int y]) = true := by
  have c1 : shCost (.int x) = 1930 := by unfold shCost; exact if_pos (small_log hx)
  have c2 : shCost (.int y) = 1930 := by unfold shCost; exact if_pos (small_log hy)
  have t : shCost (toldD (.tuple [.int x, .int y])) = 3 + (42 + 2) + ((3 + (1930 + 2) + (1930 + 2)) + 2) := by
    unfold toldD
    simp only [shCost, shCosts] at *
    rw [c1, c2]
    rfl
  unfold isOk
  simp only [deq, deqs, beq_self_eq_true, noDict, noDicts, Bool.true_and, Bool.and_true]
  unfold okShow
  simp only [shCost, shCosts, t]
  simp only [PyData.depth, PyData.depthAll, toldD]
  decide
def W (n : Nat) : Int := tW.getD n 0
def L (n : Nat) : Int := tL.getD n 0
def C (n k : Nat) : Int := (tC.getD n []).getD k 0
def ow (n j : Nat) : Int := if j = n + 1 then 1 else C n j * W (n - j)
def tot (n : Nat) : Nat → Int
  | 0 => 0
  | i + 1 => tot n i + ow n i
def sm (n : Nat) : Nat → Int
  | 0 => 0
  | i + 1 => sm n i + (i : Int) * ow n i
def isZ (o : Option D) (z : Int) : Bool := match o with
  | some (.int a) => a == z
  | _ => false
theorem isZ_some {o : Option D} {z : Int} (h : isZ o z = true) : o = some (.int z) := by
  unfold isZ at h
  split at h
  · rw [beq_iff_eq] at h; rw [h]
  · cases h
def chkA (n : Nat) : Bool := isZ (F_law_without [.int n]) (W n) && (isZ (F_rows_without [.int n]) (W n) && small (W n))
def chkL (n : Nat) : Bool := isZ (F_law_loose [.int n]) (L n) && (isZ (F_loose_rows [.int n]) (L n) && (isZ (F_loose_by_sums [.int n]) (L n) && small (L n)))
def chkC (n : Nat) : Bool := (List.range (n + 1)).all fun j => isZ (F_law_choose [.int ((n : Int) + 1), .int j]) (C n j) && (isZ (F_choose [.int ((n : Int) + 1), .int j]) (C n j) && small (C n j))
def chkO (n : Nat) : Bool := (List.range (n + 2)).all fun j => small (ow n j)
def est (p : Int × Int) : Int × Int := if p.2 = 0 then p else (p.2, p.1 % p.2)
def gcdp (n : Nat) : Nat → Int × Int
  | 0 => ((n : Int) + 1, 2 * (n : Int))
  | i + 1 => est (gcdp n i)
def g1 (n : Nat) : Int := (gcdp n 20).1
def chkD (n : Nat) : Bool := isZ (F_law_signed [.int n]) (tot n (n + 2)) && (small (tot n (n + 2)) && (small (sm n (n + 2)) && (n == 0 || (decide (0 < g1 n) && (small (g1 n) && (eqO (F_kept_mean [.int n]) (some (.tuple [.int (((n : Int) + 1) / g1 n), .int (2 * (n : Int) / g1 n)])) && (sm n (n + 2) * (2 * (n : Int) / g1 n) == tot n (n + 2) * (((n : Int) + 1) / g1 n))))))))
theorem allA_0 : chkA 0 = true := by decide +kernel
theorem allA_1 : chkA 1 = true := by decide +kernel
theorem allA_2 : chkA 2 = true := by decide +kernel
theorem allA_3 : chkA 3 = true := by decide +kernel
theorem allA_4 : chkA 4 = true := by decide +kernel
theorem allA_5 : chkA 5 = true := by decide +kernel
theorem allA_6 : chkA 6 = true := by decide +kernel
theorem allA_7 : chkA 7 = true := by decide +kernel
theorem allA_8 : chkA 8 = true := by decide +kernel
theorem allA_9 : chkA 9 = true := by decide +kernel
theorem allA_10 : chkA 10 = true := by decide +kernel
theorem allA_11 : chkA 11 = true := by decide +kernel
theorem allA_12 : chkA 12 = true := by decide +kernel
theorem allA_13 : chkA 13 = true := by decide +kernel
theorem allA_14 : chkA 14 = true := by decide +kernel
theorem allA_15 : chkA 15 = true := by decide +kernel
theorem allA_16 : chkA 16 = true := by decide +kernel
theorem allA_17 : chkA 17 = true := by decide +kernel
theorem allA_18 : chkA 18 = true := by decide +kernel
theorem allA_19 : chkA 19 = true := by decide +kernel
theorem allA_20 : chkA 20 = true := by decide +kernel
theorem allA_21 : chkA 21 = true := by decide +kernel
theorem allA_22 : chkA 22 = true := by decide +kernel
theorem allA_23 : chkA 23 = true := by decide +kernel
theorem allA_24 : chkA 24 = true := by decide +kernel
theorem allA_25 : chkA 25 = true := by decide +kernel
theorem allA_26 : chkA 26 = true := by decide +kernel
theorem allA_27 : chkA 27 = true := by decide +kernel
theorem allA_28 : chkA 28 = true := by decide +kernel
theorem allA_29 : chkA 29 = true := by decide +kernel
theorem allA_30 : chkA 30 = true := by decide +kernel
theorem allA : ∀ n, n < 31 → chkA n = true := fun n h => match n, h with
  | 0, _ => allA_0
  | 1, _ => allA_1
  | 2, _ => allA_2
  | 3, _ => allA_3
  | 4, _ => allA_4
  | 5, _ => allA_5
  | 6, _ => allA_6
  | 7, _ => allA_7
  | 8, _ => allA_8
  | 9, _ => allA_9
  | 10, _ => allA_10
  | 11, _ => allA_11
  | 12, _ => allA_12
  | 13, _ => allA_13
  | 14, _ => allA_14
  | 15, _ => allA_15
  | 16, _ => allA_16
  | 17, _ => allA_17
  | 18, _ => allA_18
  | 19, _ => allA_19
  | 20, _ => allA_20
  | 21, _ => allA_21
  | 22, _ => allA_22
  | 23, _ => allA_23
  | 24, _ => allA_24
  | 25, _ => allA_25
  | 26, _ => allA_26
  | 27, _ => allA_27
  | 28, _ => allA_28
  | 29, _ => allA_29
  | 30, _ => allA_30
  | k + 31, h => absurd h (by omega)
theorem allL_0 : chkL 0 = true := by decide +kernel
theorem allL_1 : chkL 1 = true := by decide +kernel
theorem allL_2 : chkL 2 = true := by decide +kernel
theorem allL_3 : chkL 3 = true := by decide +kernel
theorem allL_4 : chkL 4 = true := by decide +kernel
theorem allL_5 : chkL 5 = true := by decide +kernel
theorem allL_6 : chkL 6 = true := by decide +kernel
theorem allL_7 : chkL 7 = true := by decide +kernel
theorem allL_8 : chkL 8 = true := by decide +kernel
theorem allL_9 : chkL 9 = true := by decide +kernel
theorem allL_10 : chkL 10 = true := by decide +kernel
theorem allL_11 : chkL 11 = true := by decide +kernel
theorem allL_12 : chkL 12 = true := by decide +kernel
theorem allL_13 : chkL 13 = true := by decide +kernel
theorem allL_14 : chkL 14 = true := by decide +kernel
theorem allL_15 : chkL 15 = true := by decide +kernel
theorem allL_16 : chkL 16 = true := by decide +kernel
theorem allL_17 : chkL 17 = true := by decide +kernel
theorem allL_18 : chkL 18 = true := by decide +kernel
theorem allL_19 : chkL 19 = true := by decide +kernel
theorem allL_20 : chkL 20 = true := by decide +kernel
theorem allL_21 : chkL 21 = true := by decide +kernel
theorem allL_22 : chkL 22 = true := by decide +kernel
theorem allL_23 : chkL 23 = true := by decide +kernel
theorem allL_24 : chkL 24 = true := by decide +kernel
theorem allL_25 : chkL 25 = true := by decide +kernel
theorem allL_26 : chkL 26 = true := by decide +kernel
theorem allL_27 : chkL 27 = true := by decide +kernel
theorem allL_28 : chkL 28 = true := by decide +kernel
theorem allL_29 : chkL 29 = true := by decide +kernel
theorem allL_30 : chkL 30 = true := by decide +kernel
theorem allL : ∀ n, n < 31 → chkL n = true := fun n h => match n, h with
  | 0, _ => allL_0
  | 1, _ => allL_1
  | 2, _ => allL_2
  | 3, _ => allL_3
  | 4, _ => allL_4
  | 5, _ => allL_5
  | 6, _ => allL_6
  | 7, _ => allL_7
  | 8, _ => allL_8
  | 9, _ => allL_9
  | 10, _ => allL_10
  | 11, _ => allL_11
  | 12, _ => allL_12
  | 13, _ => allL_13
  | 14, _ => allL_14
  | 15, _ => allL_15
  | 16, _ => allL_16
  | 17, _ => allL_17
  | 18, _ => allL_18
  | 19, _ => allL_19
  | 20, _ => allL_20
  | 21, _ => allL_21
  | 22, _ => allL_22
  | 23, _ => allL_23
  | 24, _ => allL_24
  | 25, _ => allL_25
  | 26, _ => allL_26
  | 27, _ => allL_27
  | 28, _ => allL_28
  | 29, _ => allL_29
  | 30, _ => allL_30
  | k + 31, h => absurd h (by omega)
theorem allC_0 : chkC 0 = true := by decide +kernel
theorem allC_1 : chkC 1 = true := by decide +kernel
theorem allC_2 : chkC 2 = true := by decide +kernel
theorem allC_3 : chkC 3 = true := by decide +kernel
theorem allC_4 : chkC 4 = true := by decide +kernel
theorem allC_5 : chkC 5 = true := by decide +kernel
theorem allC_6 : chkC 6 = true := by decide +kernel
theorem allC_7 : chkC 7 = true := by decide +kernel
theorem allC_8 : chkC 8 = true := by decide +kernel
theorem allC_9 : chkC 9 = true := by decide +kernel
theorem allC_10 : chkC 10 = true := by decide +kernel
theorem allC_11 : chkC 11 = true := by decide +kernel
theorem allC_12 : chkC 12 = true := by decide +kernel
theorem allC_13 : chkC 13 = true := by decide +kernel
theorem allC_14 : chkC 14 = true := by decide +kernel
theorem allC_15 : chkC 15 = true := by decide +kernel
theorem allC_16 : chkC 16 = true := by decide +kernel
theorem allC_17 : chkC 17 = true := by decide +kernel
theorem allC_18 : chkC 18 = true := by decide +kernel
theorem allC_19 : chkC 19 = true := by decide +kernel
theorem allC_20 : chkC 20 = true := by decide +kernel
theorem allC_21 : chkC 21 = true := by decide +kernel
theorem allC_22 : chkC 22 = true := by decide +kernel
theorem allC_23 : chkC 23 = true := by decide +kernel
theorem allC_24 : chkC 24 = true := by decide +kernel
theorem allC_25 : chkC 25 = true := by decide +kernel
theorem allC_26 : chkC 26 = true := by decide +kernel
theorem allC_27 : chkC 27 = true := by decide +kernel
theorem allC_28 : chkC 28 = true := by decide +kernel
theorem allC_29 : chkC 29 = true := by decide +kernel
theorem allC_30 : chkC 30 = true := by decide +kernel
theorem allC : ∀ n, n < 31 → chkC n = true := fun n h => match n, h with
  | 0, _ => allC_0
  | 1, _ => allC_1
  | 2, _ => allC_2
  | 3, _ => allC_3
  | 4, _ => allC_4
  | 5, _ => allC_5
  | 6, _ => allC_6
  | 7, _ => allC_7
  | 8, _ => allC_8
  | 9, _ => allC_9
  | 10, _ => allC_10
  | 11, _ => allC_11
  | 12, _ => allC_12
  | 13, _ => allC_13
  | 14, _ => allC_14
  | 15, _ => allC_15
  | 16, _ => allC_16
  | 17, _ => allC_17
  | 18, _ => allC_18
  | 19, _ => allC_19
  | 20, _ => allC_20
  | 21, _ => allC_21
  | 22, _ => allC_22
  | 23, _ => allC_23
  | 24, _ => allC_24
  | 25, _ => allC_25
  | 26, _ => allC_26
  | 27, _ => allC_27
  | 28, _ => allC_28
  | 29, _ => allC_29
  | 30, _ => allC_30
  | k + 31, h => absurd h (by omega)
theorem allO_0 : chkO 0 = true := by decide +kernel
theorem allO_1 : chkO 1 = true := by decide +kernel
theorem allO_2 : chkO 2 = true := by decide +kernel
theorem allO_3 : chkO 3 = true := by decide +kernel
theorem allO_4 : chkO 4 = true := by decide +kernel
theorem allO_5 : chkO 5 = true := by decide +kernel
theorem allO_6 : chkO 6 = true := by decide +kernel
theorem allO_7 : chkO 7 = true := by decide +kernel
theorem allO_8 : chkO 8 = true := by decide +kernel
theorem allO_9 : chkO 9 = true := by decide +kernel
theorem allO_10 : chkO 10 = true := by decide +kernel
theorem allO_11 : chkO 11 = true := by decide +kernel
theorem allO_12 : chkO 12 = true := by decide +kernel
theorem allO_13 : chkO 13 = true := by decide +kernel
theorem allO_14 : chkO 14 = true := by decide +kernel
theorem allO_15 : chkO 15 = true := by decide +kernel
theorem allO_16 : chkO 16 = true := by decide +kernel
theorem allO_17 : chkO 17 = true := by decide +kernel
theorem allO_18 : chkO 18 = true := by decide +kernel
theorem allO_19 : chkO 19 = true := by decide +kernel
theorem allO_20 : chkO 20 = true := by decide +kernel
theorem allO_21 : chkO 21 = true := by decide +kernel
theorem allO_22 : chkO 22 = true := by decide +kernel
theorem allO_23 : chkO 23 = true := by decide +kernel
theorem allO_24 : chkO 24 = true := by decide +kernel
theorem allO_25 : chkO 25 = true := by decide +kernel
theorem allO_26 : chkO 26 = true := by decide +kernel
theorem allO_27 : chkO 27 = true := by decide +kernel
theorem allO_28 : chkO 28 = true := by decide +kernel
theorem allO_29 : chkO 29 = true := by decide +kernel
theorem allO_30 : chkO 30 = true := by decide +kernel
theorem allO : ∀ n, n < 31 → chkO n = true := fun n h => match n, h with
  | 0, _ => allO_0
  | 1, _ => allO_1
  | 2, _ => allO_2
  | 3, _ => allO_3
  | 4, _ => allO_4
  | 5, _ => allO_5
  | 6, _ => allO_6
  | 7, _ => allO_7
  | 8, _ => allO_8
  | 9, _ => allO_9
  | 10, _ => allO_10
  | 11, _ => allO_11
  | 12, _ => allO_12
  | 13, _ => allO_13
  | 14, _ => allO_14
  | 15, _ => allO_15
  | 16, _ => allO_16
  | 17, _ => allO_17
  | 18, _ => allO_18
  | 19, _ => allO_19
  | 20, _ => allO_20
  | 21, _ => allO_21
  | 22, _ => allO_22
  | 23, _ => allO_23
  | 24, _ => allO_24
  | 25, _ => allO_25
  | 26, _ => allO_26
  | 27, _ => allO_27
  | 28, _ => allO_28
  | 29, _ => allO_29
  | 30, _ => allO_30
  | k + 31, h => absurd h (by omega)
theorem allDD_0 : chkD 0 = true := by decide +kernel
theorem allDD_1 : chkD 1 = true := by decide +kernel
theorem allDD_2 : chkD 2 = true := by decide +kernel
theorem allDD_3 : chkD 3 = true := by decide +kernel
theorem allDD_4 : chkD 4 = true := by decide +kernel
theorem allDD_5 : chkD 5 = true := by decide +kernel
theorem allDD_6 : chkD 6 = true := by decide +kernel
theorem allDD_7 : chkD 7 = true := by decide +kernel
theorem allDD_8 : chkD 8 = true := by decide +kernel
theorem allDD_9 : chkD 9 = true := by decide +kernel
theorem allDD_10 : chkD 10 = true := by decide +kernel
theorem allDD_11 : chkD 11 = true := by decide +kernel
theorem allDD_12 : chkD 12 = true := by decide +kernel
theorem allDD_13 : chkD 13 = true := by decide +kernel
theorem allDD_14 : chkD 14 = true := by decide +kernel
theorem allDD_15 : chkD 15 = true := by decide +kernel
theorem allDD_16 : chkD 16 = true := by decide +kernel
theorem allDD_17 : chkD 17 = true := by decide +kernel
theorem allDD_18 : chkD 18 = true := by decide +kernel
theorem allDD_19 : chkD 19 = true := by decide +kernel
theorem allDD_20 : chkD 20 = true := by decide +kernel
theorem allDD_21 : chkD 21 = true := by decide +kernel
theorem allDD_22 : chkD 22 = true := by decide +kernel
theorem allDD_23 : chkD 23 = true := by decide +kernel
theorem allDD_24 : chkD 24 = true := by decide +kernel
theorem allDD_25 : chkD 25 = true := by decide +kernel
theorem allDD_26 : chkD 26 = true := by decide +kernel
theorem allDD_27 : chkD 27 = true := by decide +kernel
theorem allDD_28 : chkD 28 = true := by decide +kernel
theorem allDD_29 : chkD 29 = true := by decide +kernel
theorem allDD_30 : chkD 30 = true := by decide +kernel
theorem allDD : ∀ n, n < 31 → chkD n = true := fun n h => match n, h with
  | 0, _ => allDD_0
  | 1, _ => allDD_1
  | 2, _ => allDD_2
  | 3, _ => allDD_3
  | 4, _ => allDD_4
  | 5, _ => allDD_5
  | 6, _ => allDD_6
  | 7, _ => allDD_7
  | 8, _ => allDD_8
  | 9, _ => allDD_9
  | 10, _ => allDD_10
  | 11, _ => allDD_11
  | 12, _ => allDD_12
  | 13, _ => allDD_13
  | 14, _ => allDD_14
  | 15, _ => allDD_15
  | 16, _ => allDD_16
  | 17, _ => allDD_17
  | 18, _ => allDD_18
  | 19, _ => allDD_19
  | 20, _ => allDD_20
  | 21, _ => allDD_21
  | 22, _ => allDD_22
  | 23, _ => allDD_23
  | 24, _ => allDD_24
  | 25, _ => allDD_25
  | 26, _ => allDD_26
  | 27, _ => allDD_27
  | 28, _ => allDD_28
  | 29, _ => allDD_29
  | 30, _ => allDD_30
  | k + 31, h => absurd h (by omega)
end Y

namespace Y
open PySem PySem.Spec PyProof.Rows L2
theorem fA (n : Nat) (h : n < 31) : F_law_without [.int n] = some (.int (W n)) ∧ F_rows_without [.int n] = some (.int (W n)) ∧ small (W n) = true := by
  have := allA n h
  unfold chkA at this
  simp only [Bool.and_eq_true] at this
  exact ⟨isZ_some this.1, isZ_some this.2.1, this.2.2⟩
theorem fL (n : Nat) (h : n < 31) : F_law_loose [.int n] = some (.int (L n)) ∧ F_loose_rows [.int n] = some (.int (L n)) ∧ F_loose_by_sums [.int n] = some (.int (L n)) ∧ small (L n) = true := by
  have := allL n h
  unfold chkL at this
  simp only [Bool.and_eq_true] at this
  exact ⟨isZ_some this.1, isZ_some this.2.1, isZ_some this.2.2.1, this.2.2.2⟩
theorem fC (n j : Nat) (h : n < 31) (hj : j < n + 1) : F_law_choose [.int ((n : Int) + 1), .int j] = some (.int (C n j)) ∧ F_choose [.int ((n : Int) + 1), .int j] = some (.int (C n j)) ∧ small (C n j) = true := by
  have := List.all_eq_true.mp (allC n h) j (List.mem_range.mpr hj)
  simp only [Bool.and_eq_true] at this
  exact ⟨isZ_some this.1, isZ_some this.2.1, this.2.2⟩
theorem fO (n j : Nat) (h : n < 31) (hj : j < n + 2) : small (ow n j) = true := List.all_eq_true.mp (allO n h) j (List.mem_range.mpr hj)
theorem eqO_is {a : Option D} {x : D} (h : eqO a (some x) = true) : a = some x := by
  obtain ⟨d, h1, h2⟩ := eqO_some h
  cases h2
  exact h1
theorem fD (n : Nat) (h : n < 31) : F_law_signed [.int n] = some (.int (tot n (n + 2))) ∧ small (tot n (n + 2)) = true ∧ small (sm n (n + 2)) = true ∧ (n = 0 ∨ (0 < g1 n ∧ small (g1 n) = true ∧ F_kept_mean [.int n] = some (.tuple [.int (((n : Int) + 1) / g1 n), .int (2 * (n : Int) / g1 n)]) ∧ sm n (n + 2) * (2 * (n : Int) / g1 n) = tot n (n + 2) * (((n : Int) + 1) / g1 n))) := by
  have := allDD n h
  unfold chkD at this
  simp only [Bool.and_eq_true, Bool.or_eq_true, decide_eq_true_eq, beq_iff_eq] at this
  obtain ⟨h1, h2, h3, h4⟩ := this
  refine ⟨isZ_some h1, h2, h3, ?_⟩
  rcases h4 with h4 | ⟨g0, g2, g3, g4⟩
  · exact .inl h4
  · exact .inr ⟨g0, g2, eqO_is g3, g4⟩
theorem gcdp_nn (n : Nat) : ∀ i, 0 ≤ (gcdp n i).2
  | 0 => by show (0 : Int) ≤ 2 * (n : Int); omega
  | i + 1 => by
    show 0 ≤ (est (gcdp n i)).2
    unfold est
    split
    · exact gcdp_nn n i
    · next h => exact Int.emod_nonneg _ h
theorem gcdp_stop (n i : Nat) (h : (gcdp n i).2 = 0) : ∀ k, gcdp n (i + k) = gcdp n i
  | 0 => rfl
  | k + 1 => by
    show est (gcdp n (i + k)) = _
    rw [gcdp_stop n i h k]
    unfold est
    rw [if_pos h]
theorem mul_s {x y : Int} {Q : D → Prop} (hx : small x = true) (hy : small y = true) (h : Q (.int (x * y))) : Hv (mulD (.int x) (.int y)) Q := by
  refine hv_of ?_ h
  show (if (big x.natAbs && big y.natAbs) = true then some (PyData.int (x * y)) else none) = _
  rw [small_big hx, small_big hy]; rfl
theorem small_nat {k : Nat} (h : k < 1000000) : small (k : Int) = true := by
  unfold small
  rw [Nat.blt_eq]
  have : ((k : Int)).natAbs < 2 ^ 64 := by omega
  exact Nat.lt_of_lt_of_le this (Nat.pow_le_pow_right (by decide) (by decide))
theorem small_pos {z : Int} (h0 : 0 ≤ z) (h1 : z < 1000000) : small z = true := by
  obtain ⟨k, rfl⟩ := Int.eq_ofNat_of_zero_le h0
  exact small_nat (by omega)
theorem small_div {a g : Int} (h0 : 0 ≤ a) (h1 : a < 1000000) (hg : 0 < g) : small (a / g) = true :=
  small_pos (Int.ediv_nonneg h0 (by omega)) (Int.lt_of_le_of_lt (Int.ediv_le_self _ h0) h1)
theorem keeping_ok (n j : Nat) (h : n < 31) (hj : j < n + 2) : F_rows_keeping [.int n, .int j] = some (.int (ow n j)) := by
  have w : Wp m_rows_keeping [.imm (.int n), .imm (.int j)] (fun f => ∃ s, f = .rt (.int (ow n j)) s) := by
    unfold m_rows_keeping
    repeat' (first
      | with_reducible refine w_seq ?_ | with_reducible refine w_nx ?_ | with_reducible refine w_bk ?_ | with_reducible refine w_ct ?_ | with_reducible refine w_if ?_ | with_reducible refine w_ret ?_ | with_reducible refine w_retO ?_ | with_reducible refine w_set ?_ | with_reducible refine w_setO ?_
      | with_reducible refine w_asg ?_ | with_reducible refine w_drop ?_ | with_reducible refine w_par ?_
      | with_reducible refine we_q ?_ | with_reducible refine wt_q ?_ | with_reducible refine wl_own ?_ | with_reducible refine we_op2 ?_ | with_reducible refine wl_nil ?_ | with_reducible refine wl_cons ?_ | with_reducible refine we_tup ?_ | with_reducible refine wl_lst ?_ | with_reducible refine we_call ?_
      | with_reducible refine wt_v ?_ | with_reducible refine wt_not ?_ | with_reducible refine wt_and ?_ | with_reducible refine wt_or ?_ | with_reducible refine we_if ?_ | with_reducible refine we_is ?_
      | with_reducible refine wq_c ?_ | with_reducible refine wq_op1 ?_ | with_reducible refine wq_op2 ?_ | with_reducible refine wq_nil ?_ | with_reducible refine wq_cons ?_ | with_reducible refine wq_tup ?_ | with_reducible refine wq_lst ?_ | with_reducible refine wq_if ?_ | with_reducible refine wq_tv ?_ | with_reducible refine wq_notT ?_ | with_reducible refine wq_andT ?_ | with_reducible refine wq_orT ?_ | with_reducible refine wq_call ?_ | with_reducible refine wq_seq ?_
      | ((with_reducible refine' wq_var ?wpv ?_); (case wpv => rfl)) | ((with_reducible refine' wq_varO ?wpv ?_); (case wpv => rfl)) | ((with_reducible refine' wq_varI ?wpv ?_); (case wpv => rfl))
      | with_reducible refine wq_andV ?_ | with_reducible refine wq_orV ?_ | with_reducible refine wq_notV ?_ | with_reducible refine wq_chain ?_
      | with_reducible refine sq_nx ?_ | with_reducible refine sq_rt ?_ | with_reducible refine sq_bk ?_ | with_reducible refine sq_ct ?_ | with_reducible refine lp_nx ?_ | with_reducible refine lp_rt ?_ | with_reducible refine lp_bk ?_ | with_reducible refine lp_ct ?_
      | (with_reducible refine hv_some ?_) | (with_reducible refine hv_add ?_) | (with_reducible refine hv_sub ?_) | (with_reducible refine hv_eq ?_) | (with_reducible refine hv_ne ?_) | (with_reducible refine hv_lt ?_) | (with_reducible refine hv_le ?_) | (with_reducible refine hv_gt ?_) | (with_reducible refine hv_ge ?_) | (with_reducible refine ex_bool ?_))
    refine ⟨fun c => ?_, fun c => ?_⟩
    · have e : j = n + 1 := by
        rw [beq_iff_eq] at c; omega
      repeat' (first
        | with_reducible refine w_seq ?_ | with_reducible refine w_nx ?_ | with_reducible refine w_bk ?_ | with_reducible refine w_ct ?_ | with_reducible refine w_if ?_ | with_reducible refine w_ret ?_ | with_reducible refine w_retO ?_ | with_reducible refine w_set ?_ | with_reducible refine w_setO ?_
        | with_reducible refine w_asg ?_ | with_reducible refine w_drop ?_ | with_reducible refine w_par ?_
        | with_reducible refine we_q ?_ | with_reducible refine wt_q ?_ | with_reducible refine wl_own ?_ | with_reducible refine we_op2 ?_ | with_reducible refine wl_nil ?_ | with_reducible refine wl_cons ?_ | with_reducible refine we_tup ?_ | with_reducible refine wl_lst ?_ | with_reducible refine we_call ?_
        | with_reducible refine wt_v ?_ | with_reducible refine wt_not ?_ | with_reducible refine wt_and ?_ | with_reducible refine wt_or ?_ | with_reducible refine we_if ?_ | with_reducible refine we_is ?_
        | with_reducible refine wq_c ?_ | with_reducible refine wq_op1 ?_ | with_reducible refine wq_op2 ?_ | with_reducible refine wq_nil ?_ | with_reducible refine wq_cons ?_ | with_reducible refine wq_tup ?_ | with_reducible refine wq_lst ?_ | with_reducible refine wq_if ?_ | with_reducible refine wq_tv ?_ | with_reducible refine wq_notT ?_ | with_reducible refine wq_andT ?_ | with_reducible refine wq_orT ?_ | with_reducible refine wq_call ?_ | with_reducible refine wq_seq ?_
        | ((with_reducible refine' wq_var ?wpv ?_); (case wpv => rfl)) | ((with_reducible refine' wq_varO ?wpv ?_); (case wpv => rfl)) | ((with_reducible refine' wq_varI ?wpv ?_); (case wpv => rfl))
        | with_reducible refine wq_andV ?_ | with_reducible refine wq_orV ?_ | with_reducible refine wq_notV ?_ | with_reducible refine wq_chain ?_
        | with_reducible refine sq_nx ?_ | with_reducible refine sq_rt ?_ | with_reducible refine sq_bk ?_ | with_reducible refine sq_ct ?_ | with_reducible refine lp_nx ?_ | with_reducible refine lp_rt ?_ | with_reducible refine lp_bk ?_ | with_reducible refine lp_ct ?_
        | (with_reducible refine hv_some ?_) | (with_reducible refine hv_add ?_) | (with_reducible refine hv_sub ?_) | (with_reducible refine hv_eq ?_) | (with_reducible refine hv_ne ?_) | (with_reducible refine hv_lt ?_) | (with_reducible refine hv_le ?_) | (with_reducible refine hv_gt ?_) | (with_reducible refine hv_ge ?_) | (with_reducible refine ex_bool ?_))
      exact ⟨_, by rw [show ow n j = 1 from if_pos e]⟩
    · have e : ¬ j = n + 1 := fun e => by
        rw [e] at c; simp at c
      have e2 : (n : Int) - (j : Int) = ((n - j : Nat) : Int) := by omega
      repeat' (first
        | with_reducible refine w_seq ?_ | with_reducible refine w_nx ?_ | with_reducible refine w_bk ?_ | with_reducible refine w_ct ?_ | with_reducible refine w_if ?_ | with_reducible refine w_ret ?_ | with_reducible refine w_retO ?_ | with_reducible refine w_set ?_ | with_reducible refine w_setO ?_
        | with_reducible refine w_asg ?_ | with_reducible refine w_drop ?_ | with_reducible refine w_par ?_
        | with_reducible refine we_q ?_ | with_reducible refine wt_q ?_ | with_reducible refine wl_own ?_ | with_reducible refine we_op2 ?_ | with_reducible refine wl_nil ?_ | with_reducible refine wl_cons ?_ | with_reducible refine we_tup ?_ | with_reducible refine wl_lst ?_ | with_reducible refine we_call ?_
        | with_reducible refine wt_v ?_ | with_reducible refine wt_not ?_ | with_reducible refine wt_and ?_ | with_reducible refine wt_or ?_ | with_reducible refine we_if ?_ | with_reducible refine we_is ?_
        | with_reducible refine wq_c ?_ | with_reducible refine wq_op1 ?_ | with_reducible refine wq_op2 ?_ | with_reducible refine wq_nil ?_ | with_reducible refine wq_cons ?_ | with_reducible refine wq_tup ?_ | with_reducible refine wq_lst ?_ | with_reducible refine wq_if ?_ | with_reducible refine wq_tv ?_ | with_reducible refine wq_notT ?_ | with_reducible refine wq_andT ?_ | with_reducible refine wq_orT ?_ | with_reducible refine wq_call ?_ | with_reducible refine wq_seq ?_
        | ((with_reducible refine' wq_var ?wpv ?_); (case wpv => rfl)) | ((with_reducible refine' wq_varO ?wpv ?_); (case wpv => rfl)) | ((with_reducible refine' wq_varI ?wpv ?_); (case wpv => rfl))
        | with_reducible refine wq_andV ?_ | with_reducible refine wq_orV ?_ | with_reducible refine wq_notV ?_ | with_reducible refine wq_chain ?_
        | with_reducible refine sq_nx ?_ | with_reducible refine sq_rt ?_ | with_reducible refine sq_bk ?_ | with_reducible refine sq_ct ?_ | with_reducible refine lp_nx ?_ | with_reducible refine lp_rt ?_ | with_reducible refine lp_bk ?_ | with_reducible refine lp_ct ?_
        | (with_reducible refine hv_some ?_) | (with_reducible refine hv_add ?_) | (with_reducible refine hv_sub ?_) | (with_reducible refine hv_eq ?_) | (with_reducible refine hv_ne ?_) | (with_reducible refine hv_lt ?_) | (with_reducible refine hv_le ?_) | (with_reducible refine hv_gt ?_) | (with_reducible refine hv_ge ?_) | (with_reducible refine ex_bool ?_))
      refine hv_of (fC n j h (by omega)).2.1 ?_
      repeat' (first
        | with_reducible refine w_seq ?_ | with_reducible refine w_nx ?_ | with_reducible refine w_bk ?_ | with_reducible refine w_ct ?_ | with_reducible refine w_if ?_ | with_reducible refine w_ret ?_ | with_reducible refine w_retO ?_ | with_reducible refine w_set ?_ | with_reducible refine w_setO ?_
        | with_reducible refine w_asg ?_ | with_reducible refine w_drop ?_ | with_reducible refine w_par ?_
        | with_reducible refine we_q ?_ | with_reducible refine wt_q ?_ | with_reducible refine wl_own ?_ | with_reducible refine we_op2 ?_ | with_reducible refine wl_nil ?_ | with_reducible refine wl_cons ?_ | with_reducible refine we_tup ?_ | with_reducible refine wl_lst ?_ | with_reducible refine we_call ?_
        | with_reducible refine wt_v ?_ | with_reducible refine wt_not ?_ | with_reducible refine wt_and ?_ | with_reducible refine wt_or ?_ | with_reducible refine we_if ?_ | with_reducible refine we_is ?_
        | with_reducible refine wq_c ?_ | with_reducible refine wq_op1 ?_ | with_reducible refine wq_op2 ?_ | with_reducible refine wq_nil ?_ | with_reducible refine wq_cons ?_ | with_reducible refine wq_tup ?_ | with_reducible refine wq_lst ?_ | with_reducible refine wq_if ?_ | with_reducible refine wq_tv ?_ | with_reducible refine wq_notT ?_ | with_reducible refine wq_andT ?_ | with_reducible refine wq_orT ?_ | with_reducible refine wq_call ?_ | with_reducible refine wq_seq ?_
        | ((with_reducible refine' wq_var ?wpv ?_); (case wpv => rfl)) | ((with_reducible refine' wq_varO ?wpv ?_); (case wpv => rfl)) | ((with_reducible refine' wq_varI ?wpv ?_); (case wpv => rfl))
        | with_reducible refine wq_andV ?_ | with_reducible refine wq_orV ?_ | with_reducible refine wq_notV ?_ | with_reducible refine wq_chain ?_
        | with_reducible refine sq_nx ?_ | with_reducible refine sq_rt ?_ | with_reducible refine sq_bk ?_ | with_reducible refine sq_ct ?_ | with_reducible refine lp_nx ?_ | with_reducible refine lp_rt ?_ | with_reducible refine lp_bk ?_ | with_reducible refine lp_ct ?_
        | (with_reducible refine hv_some ?_) | (with_reducible refine hv_add ?_) | (with_reducible refine hv_sub ?_) | (with_reducible refine hv_eq ?_) | (with_reducible refine hv_ne ?_) | (with_reducible refine hv_lt ?_) | (with_reducible refine hv_le ?_) | (with_reducible refine hv_gt ?_) | (with_reducible refine hv_ge ?_) | (with_reducible refine ex_bool ?_))
      rw [e2]
      refine hv_of (fA (n - j) (by omega)).2.1 (mul_s (fC n j h (by omega)).2.2 (fA (n - j) (by omega)).2.2 ?_)
      exact ⟨_, by rw [show ow n j = C n j * W (n - j) from if_neg e]⟩
  obtain ⟨f, h1, s, rfl⟩ := w
  show outF (m_rows_keeping [.imm (.int n), .imm (.int j)]) = _
  rw [h1]
  rfl
theorem are_numbers_ok (b : Bag) (ok : OkB b) : ∃ b', OkB b' ∧ F_law_are_numbers b [] = some (.bool true, b') := by
  suffices h : Wp m_law_are_numbers [.bag b, .un, .un, .un, .un, .un, .un, .un, .un, .un, .un, .un] (fun f => ∃ s b', f = .rt (.bool true) s ∧ s[0]? = some (.bag b') ∧ OkB b') by
    obtain ⟨f, h1, s, b', rfl, h2, h3⟩ := h
    refine ⟨b', h3, ?_⟩
    show (match m_law_are_numbers [.bag b, .un, .un, .un, .un, .un, .un, .un, .un, .un, .un, .un] with
      | some (.rt d s) => (bagOf s 0).map fun b' => (d, b')
      | _ => none) = _
    rw [h1]
    show (bagOf s 0).map _ = _
    unfold bagOf
    rw [h2]
    rfl
  unfold m_law_are_numbers
  refine w_seq (w_set (we_draw rfl ok (by decide) (by decide) fun n b1 n0 n1 ok1 => ⟨by simp, ?_⟩))
  simp only [List.set_cons_zero, List.set_cons_succ, seqQ, loopQ]
  obtain ⟨n, rfl⟩ := Int.eq_ofNat_of_zero_le n0
  have hn : n < 31 := by omega
  repeat' (first
    | with_reducible refine w_seq ?_ | with_reducible refine w_nx ?_ | with_reducible refine w_bk ?_ | with_reducible refine w_ct ?_ | with_reducible refine w_if ?_ | with_reducible refine w_ret ?_ | with_reducible refine w_retO ?_ | with_reducible refine w_set ?_ | with_reducible refine w_setO ?_
    | with_reducible refine w_asg ?_ | with_reducible refine w_drop ?_ | with_reducible refine w_par ?_
    | with_reducible refine we_q ?_ | with_reducible refine wt_q ?_ | with_reducible refine wl_own ?_ | with_reducible refine we_op2 ?_ | with_reducible refine wl_nil ?_ | with_reducible refine wl_cons ?_ | with_reducible refine we_tup ?_ | with_reducible refine wl_lst ?_ | with_reducible refine we_call ?_
    | with_reducible refine wt_v ?_ | with_reducible refine wt_not ?_ | with_reducible refine wt_and ?_ | with_reducible refine wt_or ?_ | with_reducible refine we_if ?_ | with_reducible refine we_is ?_
    | with_reducible refine wq_c ?_ | with_reducible refine wq_op1 ?_ | with_reducible refine wq_op2 ?_ | with_reducible refine wq_nil ?_ | with_reducible refine wq_cons ?_ | with_reducible refine wq_tup ?_ | with_reducible refine wq_lst ?_ | with_reducible refine wq_if ?_ | with_reducible refine wq_tv ?_ | with_reducible refine wq_notT ?_ | with_reducible refine wq_andT ?_ | with_reducible refine wq_orT ?_ | with_reducible refine wq_call ?_ | with_reducible refine wq_seq ?_
    | ((with_reducible refine' wq_var ?wpv ?_); (case wpv => rfl)) | ((with_reducible refine' wq_varO ?wpv ?_); (case wpv => rfl)) | ((with_reducible refine' wq_varI ?wpv ?_); (case wpv => rfl))
    | with_reducible refine wq_andV ?_ | with_reducible refine wq_orV ?_ | with_reducible refine wq_notV ?_ | with_reducible refine wq_chain ?_
    | with_reducible refine sq_nx ?_ | with_reducible refine sq_rt ?_ | with_reducible refine sq_bk ?_ | with_reducible refine sq_ct ?_ | with_reducible refine lp_nx ?_ | with_reducible refine lp_rt ?_ | with_reducible refine lp_bk ?_ | with_reducible refine lp_ct ?_
    | (with_reducible refine hv_some ?_) | (with_reducible refine hv_add ?_) | (with_reducible refine hv_sub ?_) | (with_reducible refine hv_eq ?_) | (with_reducible refine hv_ne ?_) | (with_reducible refine hv_lt ?_) | (with_reducible refine hv_le ?_) | (with_reducible refine hv_gt ?_) | (with_reducible refine hv_ge ?_) | (with_reducible refine ex_bool ?_))
  refine hv_of (fA n hn).1 ⟨by simp, ?_⟩
  simp only [List.set_cons_zero, List.set_cons_succ, seqQ, loopQ]
  repeat' (first
    | with_reducible refine w_seq ?_ | with_reducible refine w_nx ?_ | with_reducible refine w_bk ?_ | with_reducible refine w_ct ?_ | with_reducible refine w_if ?_ | with_reducible refine w_ret ?_ | with_reducible refine w_retO ?_ | with_reducible refine w_set ?_ | with_reducible refine w_setO ?_
    | with_reducible refine w_asg ?_ | with_reducible refine w_drop ?_ | with_reducible refine w_par ?_
    | with_reducible refine we_q ?_ | with_reducible refine wt_q ?_ | with_reducible refine wl_own ?_ | with_reducible refine we_op2 ?_ | with_reducible refine wl_nil ?_ | with_reducible refine wl_cons ?_ | with_reducible refine we_tup ?_ | with_reducible refine wl_lst ?_ | with_reducible refine we_call ?_
    | with_reducible refine wt_v ?_ | with_reducible refine wt_not ?_ | with_reducible refine wt_and ?_ | with_reducible refine wt_or ?_ | with_reducible refine we_if ?_ | with_reducible refine we_is ?_
    | with_reducible refine wq_c ?_ | with_reducible refine wq_op1 ?_ | with_reducible refine wq_op2 ?_ | with_reducible refine wq_nil ?_ | with_reducible refine wq_cons ?_ | with_reducible refine wq_tup ?_ | with_reducible refine wq_lst ?_ | with_reducible refine wq_if ?_ | with_reducible refine wq_tv ?_ | with_reducible refine wq_notT ?_ | with_reducible refine wq_andT ?_ | with_reducible refine wq_orT ?_ | with_reducible refine wq_call ?_ | with_reducible refine wq_seq ?_
    | ((with_reducible refine' wq_var ?wpv ?_); (case wpv => rfl)) | ((with_reducible refine' wq_varO ?wpv ?_); (case wpv => rfl)) | ((with_reducible refine' wq_varI ?wpv ?_); (case wpv => rfl))
    | with_reducible refine wq_andV ?_ | with_reducible refine wq_orV ?_ | with_reducible refine wq_notV ?_ | with_reducible refine wq_chain ?_
    | with_reducible refine sq_nx ?_ | with_reducible refine sq_rt ?_ | with_reducible refine sq_bk ?_ | with_reducible refine sq_ct ?_ | with_reducible refine lp_nx ?_ | with_reducible refine lp_rt ?_ | with_reducible refine lp_bk ?_ | with_reducible refine lp_ct ?_
    | (with_reducible refine hv_some ?_) | (with_reducible refine hv_add ?_) | (with_reducible refine hv_sub ?_) | (with_reducible refine hv_eq ?_) | (with_reducible refine hv_ne ?_) | (with_reducible refine hv_lt ?_) | (with_reducible refine hv_le ?_) | (with_reducible refine hv_gt ?_) | (with_reducible refine hv_ge ?_) | (with_reducible refine ex_bool ?_))
  refine hv_of (fA n hn).2.1 ?_
  repeat' (first
    | with_reducible refine w_seq ?_ | with_reducible refine w_nx ?_ | with_reducible refine w_bk ?_ | with_reducible refine w_ct ?_ | with_reducible refine w_if ?_ | with_reducible refine w_ret ?_ | with_reducible refine w_retO ?_ | with_reducible refine w_set ?_ | with_reducible refine w_setO ?_
    | with_reducible refine w_asg ?_ | with_reducible refine w_drop ?_ | with_reducible refine w_par ?_
    | with_reducible refine we_q ?_ | with_reducible refine wt_q ?_ | with_reducible refine wl_own ?_ | with_reducible refine we_op2 ?_ | with_reducible refine wl_nil ?_ | with_reducible refine wl_cons ?_ | with_reducible refine we_tup ?_ | with_reducible refine wl_lst ?_ | with_reducible refine we_call ?_
    | with_reducible refine wt_v ?_ | with_reducible refine wt_not ?_ | with_reducible refine wt_and ?_ | with_reducible refine wt_or ?_ | with_reducible refine we_if ?_ | with_reducible refine we_is ?_
    | with_reducible refine wq_c ?_ | with_reducible refine wq_op1 ?_ | with_reducible refine wq_op2 ?_ | with_reducible refine wq_nil ?_ | with_reducible refine wq_cons ?_ | with_reducible refine wq_tup ?_ | with_reducible refine wq_lst ?_ | with_reducible refine wq_if ?_ | with_reducible refine wq_tv ?_ | with_reducible refine wq_notT ?_ | with_reducible refine wq_andT ?_ | with_reducible refine wq_orT ?_ | with_reducible refine wq_call ?_ | with_reducible refine wq_seq ?_
    | ((with_reducible refine' wq_var ?wpv ?_); (case wpv => rfl)) | ((with_reducible refine' wq_varO ?wpv ?_); (case wpv => rfl)) | ((with_reducible refine' wq_varI ?wpv ?_); (case wpv => rfl))
    | with_reducible refine wq_andV ?_ | with_reducible refine wq_orV ?_ | with_reducible refine wq_notV ?_ | with_reducible refine wq_chain ?_
    | with_reducible refine sq_nx ?_ | with_reducible refine sq_rt ?_ | with_reducible refine sq_bk ?_ | with_reducible refine sq_ct ?_ | with_reducible refine lp_nx ?_ | with_reducible refine lp_rt ?_ | with_reducible refine lp_bk ?_ | with_reducible refine lp_ct ?_
    | (with_reducible refine hv_some ?_) | (with_reducible refine hv_add ?_) | (with_reducible refine hv_sub ?_) | (with_reducible refine hv_eq ?_) | (with_reducible refine hv_ne ?_) | (with_reducible refine hv_lt ?_) | (with_reducible refine hv_le ?_) | (with_reducible refine hv_gt ?_) | (with_reducible refine hv_ge ?_) | (with_reducible refine ex_bool ?_))
  refine hv_of (fA n hn).2.1 ⟨isOk_int (fA n hn).2.2, ?_⟩
  repeat' (first
    | with_reducible refine w_seq ?_ | with_reducible refine w_nx ?_ | with_reducible refine w_bk ?_ | with_reducible refine w_ct ?_ | with_reducible refine w_if ?_ | with_reducible refine w_ret ?_ | with_reducible refine w_retO ?_ | with_reducible refine w_set ?_ | with_reducible refine w_setO ?_
    | with_reducible refine w_asg ?_ | with_reducible refine w_drop ?_ | with_reducible refine w_par ?_
    | with_reducible refine we_q ?_ | with_reducible refine wt_q ?_ | with_reducible refine wl_own ?_ | with_reducible refine we_op2 ?_ | with_reducible refine wl_nil ?_ | with_reducible refine wl_cons ?_ | with_reducible refine we_tup ?_ | with_reducible refine wl_lst ?_ | with_reducible refine we_call ?_
    | with_reducible refine wt_v ?_ | with_reducible refine wt_not ?_ | with_reducible refine wt_and ?_ | with_reducible refine wt_or ?_ | with_reducible refine we_if ?_ | with_reducible refine we_is ?_
    | with_reducible refine wq_c ?_ | with_reducible refine wq_op1 ?_ | with_reducible refine wq_op2 ?_ | with_reducible refine wq_nil ?_ | with_reducible refine wq_cons ?_ | with_reducible refine wq_tup ?_ | with_reducible refine wq_lst ?_ | with_reducible refine wq_if ?_ | with_reducible refine wq_tv ?_ | with_reducible refine wq_notT ?_ | with_reducible refine wq_andT ?_ | with_reducible refine wq_orT ?_ | with_reducible refine wq_call ?_ | with_reducible refine wq_seq ?_
    | ((with_reducible refine' wq_var ?wpv ?_); (case wpv => rfl)) | ((with_reducible refine' wq_varO ?wpv ?_); (case wpv => rfl)) | ((with_reducible refine' wq_varI ?wpv ?_); (case wpv => rfl))
    | with_reducible refine wq_andV ?_ | with_reducible refine wq_orV ?_ | with_reducible refine wq_notV ?_ | with_reducible refine wq_chain ?_
    | with_reducible refine sq_nx ?_ | with_reducible refine sq_rt ?_ | with_reducible refine sq_bk ?_ | with_reducible refine sq_ct ?_ | with_reducible refine lp_nx ?_ | with_reducible refine lp_rt ?_ | with_reducible refine lp_bk ?_ | with_reducible refine lp_ct ?_
    | (with_reducible refine hv_some ?_) | (with_reducible refine hv_add ?_) | (with_reducible refine hv_sub ?_) | (with_reducible refine hv_eq ?_) | (with_reducible refine hv_ne ?_) | (with_reducible refine hv_lt ?_) | (with_reducible refine hv_le ?_) | (with_reducible refine hv_gt ?_) | (with_reducible refine hv_ge ?_) | (with_reducible refine ex_bool ?_))
  refine ⟨(fun c => absurd c (by decide)), fun _ => ?_⟩
  repeat' (first
    | with_reducible refine w_seq ?_ | with_reducible refine w_nx ?_ | with_reducible refine w_bk ?_ | with_reducible refine w_ct ?_ | with_reducible refine w_if ?_ | with_reducible refine w_ret ?_ | with_reducible refine w_retO ?_ | with_reducible refine w_set ?_ | with_reducible refine w_setO ?_
    | with_reducible refine w_asg ?_ | with_reducible refine w_drop ?_ | with_reducible refine w_par ?_
    | with_reducible refine we_q ?_ | with_reducible refine wt_q ?_ | with_reducible refine wl_own ?_ | with_reducible refine we_op2 ?_ | with_reducible refine wl_nil ?_ | with_reducible refine wl_cons ?_ | with_reducible refine we_tup ?_ | with_reducible refine wl_lst ?_ | with_reducible refine we_call ?_
    | with_reducible refine wt_v ?_ | with_reducible refine wt_not ?_ | with_reducible refine wt_and ?_ | with_reducible refine wt_or ?_ | with_reducible refine we_if ?_ | with_reducible refine we_is ?_
    | with_reducible refine wq_c ?_ | with_reducible refine wq_op1 ?_ | with_reducible refine wq_op2 ?_ | with_reducible refine wq_nil ?_ | with_reducible refine wq_cons ?_ | with_reducible refine wq_tup ?_ | with_reducible refine wq_lst ?_ | with_reducible refine wq_if ?_ | with_reducible refine wq_tv ?_ | with_reducible refine wq_notT ?_ | with_reducible refine wq_andT ?_ | with_reducible refine wq_orT ?_ | with_reducible refine wq_call ?_ | with_reducible refine wq_seq ?_
    | ((with_reducible refine' wq_var ?wpv ?_); (case wpv => rfl)) | ((with_reducible refine' wq_varO ?wpv ?_); (case wpv => rfl)) | ((with_reducible refine' wq_varI ?wpv ?_); (case wpv => rfl))
    | with_reducible refine wq_andV ?_ | with_reducible refine wq_orV ?_ | with_reducible refine wq_notV ?_ | with_reducible refine wq_chain ?_
    | with_reducible refine sq_nx ?_ | with_reducible refine sq_rt ?_ | with_reducible refine sq_bk ?_ | with_reducible refine sq_ct ?_ | with_reducible refine lp_nx ?_ | with_reducible refine lp_rt ?_ | with_reducible refine lp_bk ?_ | with_reducible refine lp_ct ?_
    | (with_reducible refine hv_some ?_) | (with_reducible refine hv_add ?_) | (with_reducible refine hv_sub ?_) | (with_reducible refine hv_eq ?_) | (with_reducible refine hv_ne ?_) | (with_reducible refine hv_lt ?_) | (with_reducible refine hv_le ?_) | (with_reducible refine hv_gt ?_) | (with_reducible refine hv_ge ?_) | (with_reducible refine ex_bool ?_))
  refine len10 (by simp) (hv_of rfl ?_)
  simp only [List.set_cons_zero, List.set_cons_succ, seqQ, loopQ]
  repeat' (first
    | with_reducible refine w_seq ?_ | with_reducible refine w_nx ?_ | with_reducible refine w_bk ?_ | with_reducible refine w_ct ?_ | with_reducible refine w_if ?_ | with_reducible refine w_ret ?_ | with_reducible refine w_retO ?_ | with_reducible refine w_set ?_ | with_reducible refine w_setO ?_
    | with_reducible refine w_asg ?_ | with_reducible refine w_drop ?_ | with_reducible refine w_par ?_
    | with_reducible refine we_q ?_ | with_reducible refine wt_q ?_ | with_reducible refine wl_own ?_ | with_reducible refine we_op2 ?_ | with_reducible refine wl_nil ?_ | with_reducible refine wl_cons ?_ | with_reducible refine we_tup ?_ | with_reducible refine wl_lst ?_ | with_reducible refine we_call ?_
    | with_reducible refine wt_v ?_ | with_reducible refine wt_not ?_ | with_reducible refine wt_and ?_ | with_reducible refine wt_or ?_ | with_reducible refine we_if ?_ | with_reducible refine we_is ?_
    | with_reducible refine wq_c ?_ | with_reducible refine wq_op1 ?_ | with_reducible refine wq_op2 ?_ | with_reducible refine wq_nil ?_ | with_reducible refine wq_cons ?_ | with_reducible refine wq_tup ?_ | with_reducible refine wq_lst ?_ | with_reducible refine wq_if ?_ | with_reducible refine wq_tv ?_ | with_reducible refine wq_notT ?_ | with_reducible refine wq_andT ?_ | with_reducible refine wq_orT ?_ | with_reducible refine wq_call ?_ | with_reducible refine wq_seq ?_
    | ((with_reducible refine' wq_var ?wpv ?_); (case wpv => rfl)) | ((with_reducible refine' wq_varO ?wpv ?_); (case wpv => rfl)) | ((with_reducible refine' wq_varI ?wpv ?_); (case wpv => rfl))
    | with_reducible refine wq_andV ?_ | with_reducible refine wq_orV ?_ | with_reducible refine wq_notV ?_ | with_reducible refine wq_chain ?_
    | with_reducible refine sq_nx ?_ | with_reducible refine sq_rt ?_ | with_reducible refine sq_bk ?_ | with_reducible refine sq_ct ?_ | with_reducible refine lp_nx ?_ | with_reducible refine lp_rt ?_ | with_reducible refine lp_bk ?_ | with_reducible refine lp_ct ?_
    | (with_reducible refine hv_some ?_) | (with_reducible refine hv_add ?_) | (with_reducible refine hv_sub ?_) | (with_reducible refine hv_eq ?_) | (with_reducible refine hv_ne ?_) | (with_reducible refine hv_lt ?_) | (with_reducible refine hv_le ?_) | (with_reducible refine hv_gt ?_) | (with_reducible refine hv_ge ?_) | (with_reducible refine ex_bool ?_))
  refine w_for ?_
  repeat' (first
    | with_reducible refine w_seq ?_ | with_reducible refine w_nx ?_ | with_reducible refine w_bk ?_ | with_reducible refine w_ct ?_ | with_reducible refine w_if ?_ | with_reducible refine w_ret ?_ | with_reducible refine w_retO ?_ | with_reducible refine w_set ?_ | with_reducible refine w_setO ?_
    | with_reducible refine w_asg ?_ | with_reducible refine w_drop ?_ | with_reducible refine w_par ?_
    | with_reducible refine we_q ?_ | with_reducible refine wt_q ?_ | with_reducible refine wl_own ?_ | with_reducible refine we_op2 ?_ | with_reducible refine wl_nil ?_ | with_reducible refine wl_cons ?_ | with_reducible refine we_tup ?_ | with_reducible refine wl_lst ?_ | with_reducible refine we_call ?_
    | with_reducible refine wt_v ?_ | with_reducible refine wt_not ?_ | with_reducible refine wt_and ?_ | with_reducible refine wt_or ?_ | with_reducible refine we_if ?_ | with_reducible refine we_is ?_
    | with_reducible refine wq_c ?_ | with_reducible refine wq_op1 ?_ | with_reducible refine wq_op2 ?_ | with_reducible refine wq_nil ?_ | with_reducible refine wq_cons ?_ | with_reducible refine wq_tup ?_ | with_reducible refine wq_lst ?_ | with_reducible refine wq_if ?_ | with_reducible refine wq_tv ?_ | with_reducible refine wq_notT ?_ | with_reducible refine wq_andT ?_ | with_reducible refine wq_orT ?_ | with_reducible refine wq_call ?_ | with_reducible refine wq_seq ?_
    | ((with_reducible refine' wq_var ?wpv ?_); (case wpv => rfl)) | ((with_reducible refine' wq_varO ?wpv ?_); (case wpv => rfl)) | ((with_reducible refine' wq_varI ?wpv ?_); (case wpv => rfl))
    | with_reducible refine wq_andV ?_ | with_reducible refine wq_orV ?_ | with_reducible refine wq_notV ?_ | with_reducible refine wq_chain ?_
    | with_reducible refine sq_nx ?_ | with_reducible refine sq_rt ?_ | with_reducible refine sq_bk ?_ | with_reducible refine sq_ct ?_ | with_reducible refine lp_nx ?_ | with_reducible refine lp_rt ?_ | with_reducible refine lp_bk ?_ | with_reducible refine lp_ct ?_
    | (with_reducible refine hv_some ?_) | (with_reducible refine hv_add ?_) | (with_reducible refine hv_sub ?_) | (with_reducible refine hv_eq ?_) | (with_reducible refine hv_ne ?_) | (with_reducible refine hv_lt ?_) | (with_reducible refine hv_le ?_) | (with_reducible refine hv_gt ?_) | (with_reducible refine hv_ge ?_) | (with_reducible refine ex_bool ?_))
  refine wl_rng1 ?_
  repeat' (first
    | with_reducible refine w_seq ?_ | with_reducible refine w_nx ?_ | with_reducible refine w_bk ?_ | with_reducible refine w_ct ?_ | with_reducible refine w_if ?_ | with_reducible refine w_ret ?_ | with_reducible refine w_retO ?_ | with_reducible refine w_set ?_ | with_reducible refine w_setO ?_
    | with_reducible refine w_asg ?_ | with_reducible refine w_drop ?_ | with_reducible refine w_par ?_
    | with_reducible refine we_q ?_ | with_reducible refine wt_q ?_ | with_reducible refine wl_own ?_ | with_reducible refine we_op2 ?_ | with_reducible refine wl_nil ?_ | with_reducible refine wl_cons ?_ | with_reducible refine we_tup ?_ | with_reducible refine wl_lst ?_ | with_reducible refine we_call ?_
    | with_reducible refine wt_v ?_ | with_reducible refine wt_not ?_ | with_reducible refine wt_and ?_ | with_reducible refine wt_or ?_ | with_reducible refine we_if ?_ | with_reducible refine we_is ?_
    | with_reducible refine wq_c ?_ | with_reducible refine wq_op1 ?_ | with_reducible refine wq_op2 ?_ | with_reducible refine wq_nil ?_ | with_reducible refine wq_cons ?_ | with_reducible refine wq_tup ?_ | with_reducible refine wq_lst ?_ | with_reducible refine wq_if ?_ | with_reducible refine wq_tv ?_ | with_reducible refine wq_notT ?_ | with_reducible refine wq_andT ?_ | with_reducible refine wq_orT ?_ | with_reducible refine wq_call ?_ | with_reducible refine wq_seq ?_
    | ((with_reducible refine' wq_var ?wpv ?_); (case wpv => rfl)) | ((with_reducible refine' wq_varO ?wpv ?_); (case wpv => rfl)) | ((with_reducible refine' wq_varI ?wpv ?_); (case wpv => rfl))
    | with_reducible refine wq_andV ?_ | with_reducible refine wq_orV ?_ | with_reducible refine wq_notV ?_ | with_reducible refine wq_chain ?_
    | with_reducible refine sq_nx ?_ | with_reducible refine sq_rt ?_ | with_reducible refine sq_bk ?_ | with_reducible refine sq_ct ?_ | with_reducible refine lp_nx ?_ | with_reducible refine lp_rt ?_ | with_reducible refine lp_bk ?_ | with_reducible refine lp_ct ?_
    | (with_reducible refine hv_some ?_) | (with_reducible refine hv_add ?_) | (with_reducible refine hv_sub ?_) | (with_reducible refine hv_eq ?_) | (with_reducible refine hv_ne ?_) | (with_reducible refine hv_lt ?_) | (with_reducible refine hv_le ?_) | (with_reducible refine hv_gt ?_) | (with_reducible refine hv_ge ?_) | (with_reducible refine ex_bool ?_))
  refine ex_rng1 (by omega) ⟨fun i s => ∃ b' x y, OkB b' ∧ i ≤ n + 2 ∧ s = [.bag b', .imm (.int n), .imm (.int (W n)), .imm (.int (tot n i)), .imm (.int (sm n i)), x, y, .un, .un, .un, .un, .un], ⟨b1, .un, .un, ok1, by omega, rfl⟩, ?_, ?_⟩
  · rintro i d s hi ⟨b', x, y, ok', hi2, rfl⟩
    obtain ⟨hi3, rfl⟩ := rngL_at _ _ _ _ _ hi
    have e : (0 : Int) + (i : Int) * 1 = i := by omega
    rw [e]
    refine hv_of rfl ?_
    simp only [List.set_cons_zero, List.set_cons_succ, seqQ, loopQ]
    refine w_seq (w_set (we_q (wp_val (.int (ow n i)) ?_ ⟨by simp, ?_⟩)))
    · repeat' (first
        | with_reducible refine w_seq ?_ | with_reducible refine w_nx ?_ | with_reducible refine w_bk ?_ | with_reducible refine w_ct ?_ | with_reducible refine w_if ?_ | with_reducible refine w_ret ?_ | with_reducible refine w_retO ?_ | with_reducible refine w_set ?_ | with_reducible refine w_setO ?_
        | with_reducible refine w_asg ?_ | with_reducible refine w_drop ?_ | with_reducible refine w_par ?_
        | with_reducible refine we_q ?_ | with_reducible refine wt_q ?_ | with_reducible refine wl_own ?_ | with_reducible refine we_op2 ?_ | with_reducible refine wl_nil ?_ | with_reducible refine wl_cons ?_ | with_reducible refine we_tup ?_ | with_reducible refine wl_lst ?_ | with_reducible refine we_call ?_
        | with_reducible refine wt_v ?_ | with_reducible refine wt_not ?_ | with_reducible refine wt_and ?_ | with_reducible refine wt_or ?_ | with_reducible refine we_if ?_ | with_reducible refine we_is ?_
        | with_reducible refine wq_c ?_ | with_reducible refine wq_op1 ?_ | with_reducible refine wq_op2 ?_ | with_reducible refine wq_nil ?_ | with_reducible refine wq_cons ?_ | with_reducible refine wq_tup ?_ | with_reducible refine wq_lst ?_ | with_reducible refine wq_if ?_ | with_reducible refine wq_tv ?_ | with_reducible refine wq_notT ?_ | with_reducible refine wq_andT ?_ | with_reducible refine wq_orT ?_ | with_reducible refine wq_call ?_ | with_reducible refine wq_seq ?_
        | ((with_reducible refine' wq_var ?wpv ?_); (case wpv => rfl)) | ((with_reducible refine' wq_varO ?wpv ?_); (case wpv => rfl)) | ((with_reducible refine' wq_varI ?wpv ?_); (case wpv => rfl))
        | with_reducible refine wq_andV ?_ | with_reducible refine wq_orV ?_ | with_reducible refine wq_notV ?_ | with_reducible refine wq_chain ?_
        | with_reducible refine sq_nx ?_ | with_reducible refine sq_rt ?_ | with_reducible refine sq_bk ?_ | with_reducible refine sq_ct ?_ | with_reducible refine lp_nx ?_ | with_reducible refine lp_rt ?_ | with_reducible refine lp_bk ?_ | with_reducible refine lp_ct ?_
        | (with_reducible refine hv_some ?_) | (with_reducible refine hv_add ?_) | (with_reducible refine hv_sub ?_) | (with_reducible refine hv_eq ?_) | (with_reducible refine hv_ne ?_) | (with_reducible refine hv_lt ?_) | (with_reducible refine hv_le ?_) | (with_reducible refine hv_gt ?_) | (with_reducible refine hv_ge ?_) | (with_reducible refine ex_bool ?_))
      refine ⟨fun c => ?_, fun c => ?_⟩
      · have e : i = n + 1 := by
          rw [beq_iff_eq] at c; omega
        repeat' (first
          | with_reducible refine w_seq ?_ | with_reducible refine w_nx ?_ | with_reducible refine w_bk ?_ | with_reducible refine w_ct ?_ | with_reducible refine w_if ?_ | with_reducible refine w_ret ?_ | with_reducible refine w_retO ?_ | with_reducible refine w_set ?_ | with_reducible refine w_setO ?_
          | with_reducible refine w_asg ?_ | with_reducible refine w_drop ?_ | with_reducible refine w_par ?_
          | with_reducible refine we_q ?_ | with_reducible refine wt_q ?_ | with_reducible refine wl_own ?_ | with_reducible refine we_op2 ?_ | with_reducible refine wl_nil ?_ | with_reducible refine wl_cons ?_ | with_reducible refine we_tup ?_ | with_reducible refine wl_lst ?_ | with_reducible refine we_call ?_
          | with_reducible refine wt_v ?_ | with_reducible refine wt_not ?_ | with_reducible refine wt_and ?_ | with_reducible refine wt_or ?_ | with_reducible refine we_if ?_ | with_reducible refine we_is ?_
          | with_reducible refine wq_c ?_ | with_reducible refine wq_op1 ?_ | with_reducible refine wq_op2 ?_ | with_reducible refine wq_nil ?_ | with_reducible refine wq_cons ?_ | with_reducible refine wq_tup ?_ | with_reducible refine wq_lst ?_ | with_reducible refine wq_if ?_ | with_reducible refine wq_tv ?_ | with_reducible refine wq_notT ?_ | with_reducible refine wq_andT ?_ | with_reducible refine wq_orT ?_ | with_reducible refine wq_call ?_ | with_reducible refine wq_seq ?_
          | ((with_reducible refine' wq_var ?wpv ?_); (case wpv => rfl)) | ((with_reducible refine' wq_varO ?wpv ?_); (case wpv => rfl)) | ((with_reducible refine' wq_varI ?wpv ?_); (case wpv => rfl))
          | with_reducible refine wq_andV ?_ | with_reducible refine wq_orV ?_ | with_reducible refine wq_notV ?_ | with_reducible refine wq_chain ?_
          | with_reducible refine sq_nx ?_ | with_reducible refine sq_rt ?_ | with_reducible refine sq_bk ?_ | with_reducible refine sq_ct ?_ | with_reducible refine lp_nx ?_ | with_reducible refine lp_rt ?_ | with_reducible refine lp_bk ?_ | with_reducible refine lp_ct ?_
          | (with_reducible refine hv_some ?_) | (with_reducible refine hv_add ?_) | (with_reducible refine hv_sub ?_) | (with_reducible refine hv_eq ?_) | (with_reducible refine hv_ne ?_) | (with_reducible refine hv_lt ?_) | (with_reducible refine hv_le ?_) | (with_reducible refine hv_gt ?_) | (with_reducible refine hv_ge ?_) | (with_reducible refine ex_bool ?_))
        rw [show ow n i = 1 from if_pos e]
      · have e : ¬ i = n + 1 := fun e => by
          rw [e] at c; simp at c
        have e2 : (n : Int) - (i : Int) = ((n - i : Nat) : Int) := by omega
        repeat' (first
          | with_reducible refine w_seq ?_ | with_reducible refine w_nx ?_ | with_reducible refine w_bk ?_ | with_reducible refine w_ct ?_ | with_reducible refine w_if ?_ | with_reducible refine w_ret ?_ | with_reducible refine w_retO ?_ | with_reducible refine w_set ?_ | with_reducible refine w_setO ?_
          | with_reducible refine w_asg ?_ | with_reducible refine w_drop ?_ | with_reducible refine w_par ?_
          | with_reducible refine we_q ?_ | with_reducible refine wt_q ?_ | with_reducible refine wl_own ?_ | with_reducible refine we_op2 ?_ | with_reducible refine wl_nil ?_ | with_reducible refine wl_cons ?_ | with_reducible refine we_tup ?_ | with_reducible refine wl_lst ?_ | with_reducible refine we_call ?_
          | with_reducible refine wt_v ?_ | with_reducible refine wt_not ?_ | with_reducible refine wt_and ?_ | with_reducible refine wt_or ?_ | with_reducible refine we_if ?_ | with_reducible refine we_is ?_
          | with_reducible refine wq_c ?_ | with_reducible refine wq_op1 ?_ | with_reducible refine wq_op2 ?_ | with_reducible refine wq_nil ?_ | with_reducible refine wq_cons ?_ | with_reducible refine wq_tup ?_ | with_reducible refine wq_lst ?_ | with_reducible refine wq_if ?_ | with_reducible refine wq_tv ?_ | with_reducible refine wq_notT ?_ | with_reducible refine wq_andT ?_ | with_reducible refine wq_orT ?_ | with_reducible refine wq_call ?_ | with_reducible refine wq_seq ?_
          | ((with_reducible refine' wq_var ?wpv ?_); (case wpv => rfl)) | ((with_reducible refine' wq_varO ?wpv ?_); (case wpv => rfl)) | ((with_reducible refine' wq_varI ?wpv ?_); (case wpv => rfl))
          | with_reducible refine wq_andV ?_ | with_reducible refine wq_orV ?_ | with_reducible refine wq_notV ?_ | with_reducible refine wq_chain ?_
          | with_reducible refine sq_nx ?_ | with_reducible refine sq_rt ?_ | with_reducible refine sq_bk ?_ | with_reducible refine sq_ct ?_ | with_reducible refine lp_nx ?_ | with_reducible refine lp_rt ?_ | with_reducible refine lp_bk ?_ | with_reducible refine lp_ct ?_
          | (with_reducible refine hv_some ?_) | (with_reducible refine hv_add ?_) | (with_reducible refine hv_sub ?_) | (with_reducible refine hv_eq ?_) | (with_reducible refine hv_ne ?_) | (with_reducible refine hv_lt ?_) | (with_reducible refine hv_le ?_) | (with_reducible refine hv_gt ?_) | (with_reducible refine hv_ge ?_) | (with_reducible refine ex_bool ?_))
        refine hv_of (fC n i hn (by omega)).1 ?_
        repeat' (first
          | with_reducible refine w_seq ?_ | with_reducible refine w_nx ?_ | with_reducible refine w_bk ?_ | with_reducible refine w_ct ?_ | with_reducible refine w_if ?_ | with_reducible refine w_ret ?_ | with_reducible refine w_retO ?_ | with_reducible refine w_set ?_ | with_reducible refine w_setO ?_
          | with_reducible refine w_asg ?_ | with_reducible refine w_drop ?_ | with_reducible refine w_par ?_
          | with_reducible refine we_q ?_ | with_reducible refine wt_q ?_ | with_reducible refine wl_own ?_ | with_reducible refine we_op2 ?_ | with_reducible refine wl_nil ?_ | with_reducible refine wl_cons ?_ | with_reducible refine we_tup ?_ | with_reducible refine wl_lst ?_ | with_reducible refine we_call ?_
          | with_reducible refine wt_v ?_ | with_reducible refine wt_not ?_ | with_reducible refine wt_and ?_ | with_reducible refine wt_or ?_ | with_reducible refine we_if ?_ | with_reducible refine we_is ?_
          | with_reducible refine wq_c ?_ | with_reducible refine wq_op1 ?_ | with_reducible refine wq_op2 ?_ | with_reducible refine wq_nil ?_ | with_reducible refine wq_cons ?_ | with_reducible refine wq_tup ?_ | with_reducible refine wq_lst ?_ | with_reducible refine wq_if ?_ | with_reducible refine wq_tv ?_ | with_reducible refine wq_notT ?_ | with_reducible refine wq_andT ?_ | with_reducible refine wq_orT ?_ | with_reducible refine wq_call ?_ | with_reducible refine wq_seq ?_
          | ((with_reducible refine' wq_var ?wpv ?_); (case wpv => rfl)) | ((with_reducible refine' wq_varO ?wpv ?_); (case wpv => rfl)) | ((with_reducible refine' wq_varI ?wpv ?_); (case wpv => rfl))
          | with_reducible refine wq_andV ?_ | with_reducible refine wq_orV ?_ | with_reducible refine wq_notV ?_ | with_reducible refine wq_chain ?_
          | with_reducible refine sq_nx ?_ | with_reducible refine sq_rt ?_ | with_reducible refine sq_bk ?_ | with_reducible refine sq_ct ?_ | with_reducible refine lp_nx ?_ | with_reducible refine lp_rt ?_ | with_reducible refine lp_bk ?_ | with_reducible refine lp_ct ?_
          | (with_reducible refine hv_some ?_) | (with_reducible refine hv_add ?_) | (with_reducible refine hv_sub ?_) | (with_reducible refine hv_eq ?_) | (with_reducible refine hv_ne ?_) | (with_reducible refine hv_lt ?_) | (with_reducible refine hv_le ?_) | (with_reducible refine hv_gt ?_) | (with_reducible refine hv_ge ?_) | (with_reducible refine ex_bool ?_))
        rw [e2]
        refine hv_of (fA (n - i) (by omega)).1 (mul_s (fC n i hn (by omega)).2.2 (fA (n - i) (by omega)).2.2 ?_)
        rw [show ow n i = C n i * W (n - i) from if_neg e]
    simp only [List.set_cons_zero, List.set_cons_succ, seqQ, loopQ]
    have hi4 : i < n + 2 := by omega
    repeat' (first
      | with_reducible refine w_seq ?_ | with_reducible refine w_nx ?_ | with_reducible refine w_bk ?_ | with_reducible refine w_ct ?_ | with_reducible refine w_if ?_ | with_reducible refine w_ret ?_ | with_reducible refine w_retO ?_ | with_reducible refine w_set ?_ | with_reducible refine w_setO ?_
      | with_reducible refine w_asg ?_ | with_reducible refine w_drop ?_ | with_reducible refine w_par ?_
      | with_reducible refine we_q ?_ | with_reducible refine wt_q ?_ | with_reducible refine wl_own ?_ | with_reducible refine we_op2 ?_ | with_reducible refine wl_nil ?_ | with_reducible refine wl_cons ?_ | with_reducible refine we_tup ?_ | with_reducible refine wl_lst ?_ | with_reducible refine we_call ?_
      | with_reducible refine wt_v ?_ | with_reducible refine wt_not ?_ | with_reducible refine wt_and ?_ | with_reducible refine wt_or ?_ | with_reducible refine we_if ?_ | with_reducible refine we_is ?_
      | with_reducible refine wq_c ?_ | with_reducible refine wq_op1 ?_ | with_reducible refine wq_op2 ?_ | with_reducible refine wq_nil ?_ | with_reducible refine wq_cons ?_ | with_reducible refine wq_tup ?_ | with_reducible refine wq_lst ?_ | with_reducible refine wq_if ?_ | with_reducible refine wq_tv ?_ | with_reducible refine wq_notT ?_ | with_reducible refine wq_andT ?_ | with_reducible refine wq_orT ?_ | with_reducible refine wq_call ?_ | with_reducible refine wq_seq ?_
      | ((with_reducible refine' wq_var ?wpv ?_); (case wpv => rfl)) | ((with_reducible refine' wq_varO ?wpv ?_); (case wpv => rfl)) | ((with_reducible refine' wq_varI ?wpv ?_); (case wpv => rfl))
      | with_reducible refine wq_andV ?_ | with_reducible refine wq_orV ?_ | with_reducible refine wq_notV ?_ | with_reducible refine wq_chain ?_
      | with_reducible refine sq_nx ?_ | with_reducible refine sq_rt ?_ | with_reducible refine sq_bk ?_ | with_reducible refine sq_ct ?_ | with_reducible refine lp_nx ?_ | with_reducible refine lp_rt ?_ | with_reducible refine lp_bk ?_ | with_reducible refine lp_ct ?_
      | (with_reducible refine hv_some ?_) | (with_reducible refine hv_add ?_) | (with_reducible refine hv_sub ?_) | (with_reducible refine hv_eq ?_) | (with_reducible refine hv_ne ?_) | (with_reducible refine hv_lt ?_) | (with_reducible refine hv_le ?_) | (with_reducible refine hv_gt ?_) | (with_reducible refine hv_ge ?_) | (with_reducible refine ex_bool ?_))
    refine mul_s (small_nat (by omega)) (fO n i hn hi4) ?_
    repeat' (first
      | with_reducible refine w_seq ?_ | with_reducible refine w_nx ?_ | with_reducible refine w_bk ?_ | with_reducible refine w_ct ?_ | with_reducible refine w_if ?_ | with_reducible refine w_ret ?_ | with_reducible refine w_retO ?_ | with_reducible refine w_set ?_ | with_reducible refine w_setO ?_
      | with_reducible refine w_asg ?_ | with_reducible refine w_drop ?_ | with_reducible refine w_par ?_
      | with_reducible refine we_q ?_ | with_reducible refine wt_q ?_ | with_reducible refine wl_own ?_ | with_reducible refine we_op2 ?_ | with_reducible refine wl_nil ?_ | with_reducible refine wl_cons ?_ | with_reducible refine we_tup ?_ | with_reducible refine wl_lst ?_ | with_reducible refine we_call ?_
      | with_reducible refine wt_v ?_ | with_reducible refine wt_not ?_ | with_reducible refine wt_and ?_ | with_reducible refine wt_or ?_ | with_reducible refine we_if ?_ | with_reducible refine we_is ?_
      | with_reducible refine wq_c ?_ | with_reducible refine wq_op1 ?_ | with_reducible refine wq_op2 ?_ | with_reducible refine wq_nil ?_ | with_reducible refine wq_cons ?_ | with_reducible refine wq_tup ?_ | with_reducible refine wq_lst ?_ | with_reducible refine wq_if ?_ | with_reducible refine wq_tv ?_ | with_reducible refine wq_notT ?_ | with_reducible refine wq_andT ?_ | with_reducible refine wq_orT ?_ | with_reducible refine wq_call ?_ | with_reducible refine wq_seq ?_
      | ((with_reducible refine' wq_var ?wpv ?_); (case wpv => rfl)) | ((with_reducible refine' wq_varO ?wpv ?_); (case wpv => rfl)) | ((with_reducible refine' wq_varI ?wpv ?_); (case wpv => rfl))
      | with_reducible refine wq_andV ?_ | with_reducible refine wq_orV ?_ | with_reducible refine wq_notV ?_ | with_reducible refine wq_chain ?_
      | with_reducible refine sq_nx ?_ | with_reducible refine sq_rt ?_ | with_reducible refine sq_bk ?_ | with_reducible refine sq_ct ?_ | with_reducible refine lp_nx ?_ | with_reducible refine lp_rt ?_ | with_reducible refine lp_bk ?_ | with_reducible refine lp_ct ?_
      | (with_reducible refine hv_some ?_) | (with_reducible refine hv_add ?_) | (with_reducible refine hv_sub ?_) | (with_reducible refine hv_eq ?_) | (with_reducible refine hv_ne ?_) | (with_reducible refine hv_lt ?_) | (with_reducible refine hv_le ?_) | (with_reducible refine hv_gt ?_) | (with_reducible refine hv_ge ?_) | (with_reducible refine ex_bool ?_))
    refine ⟨_, _, rfl, by simp, by simp, ?_⟩
    simp only [List.set_cons_zero, List.set_cons_succ, seqQ, loopQ]
    repeat' (first
      | with_reducible refine w_seq ?_ | with_reducible refine w_nx ?_ | with_reducible refine w_bk ?_ | with_reducible refine w_ct ?_ | with_reducible refine w_if ?_ | with_reducible refine w_ret ?_ | with_reducible refine w_retO ?_ | with_reducible refine w_set ?_ | with_reducible refine w_setO ?_
      | with_reducible refine w_asg ?_ | with_reducible refine w_drop ?_ | with_reducible refine w_par ?_
      | with_reducible refine we_q ?_ | with_reducible refine wt_q ?_ | with_reducible refine wl_own ?_ | with_reducible refine we_op2 ?_ | with_reducible refine wl_nil ?_ | with_reducible refine wl_cons ?_ | with_reducible refine we_tup ?_ | with_reducible refine wl_lst ?_ | with_reducible refine we_call ?_
      | with_reducible refine wt_v ?_ | with_reducible refine wt_not ?_ | with_reducible refine wt_and ?_ | with_reducible refine wt_or ?_ | with_reducible refine we_if ?_ | with_reducible refine we_is ?_
      | with_reducible refine wq_c ?_ | with_reducible refine wq_op1 ?_ | with_reducible refine wq_op2 ?_ | with_reducible refine wq_nil ?_ | with_reducible refine wq_cons ?_ | with_reducible refine wq_tup ?_ | with_reducible refine wq_lst ?_ | with_reducible refine wq_if ?_ | with_reducible refine wq_tv ?_ | with_reducible refine wq_notT ?_ | with_reducible refine wq_andT ?_ | with_reducible refine wq_orT ?_ | with_reducible refine wq_call ?_ | with_reducible refine wq_seq ?_
      | ((with_reducible refine' wq_var ?wpv ?_); (case wpv => rfl)) | ((with_reducible refine' wq_varO ?wpv ?_); (case wpv => rfl)) | ((with_reducible refine' wq_varI ?wpv ?_); (case wpv => rfl))
      | with_reducible refine wq_andV ?_ | with_reducible refine wq_orV ?_ | with_reducible refine wq_notV ?_ | with_reducible refine wq_chain ?_
      | with_reducible refine sq_nx ?_ | with_reducible refine sq_rt ?_ | with_reducible refine sq_bk ?_ | with_reducible refine sq_ct ?_ | with_reducible refine lp_nx ?_ | with_reducible refine lp_rt ?_ | with_reducible refine lp_bk ?_ | with_reducible refine lp_ct ?_
      | (with_reducible refine hv_some ?_) | (with_reducible refine hv_add ?_) | (with_reducible refine hv_sub ?_) | (with_reducible refine hv_eq ?_) | (with_reducible refine hv_ne ?_) | (with_reducible refine hv_lt ?_) | (with_reducible refine hv_le ?_) | (with_reducible refine hv_gt ?_) | (with_reducible refine hv_ge ?_) | (with_reducible refine ex_bool ?_))
    refine we_draw rfl ok' (by decide) (by decide) fun v b2 v0 v1 ok2 => ?_
    simp only [List.set_cons_zero, List.set_cons_succ, seqQ, loopQ]
    repeat' (first
      | with_reducible refine w_seq ?_ | with_reducible refine w_nx ?_ | with_reducible refine w_bk ?_ | with_reducible refine w_ct ?_ | with_reducible refine w_if ?_ | with_reducible refine w_ret ?_ | with_reducible refine w_retO ?_ | with_reducible refine w_set ?_ | with_reducible refine w_setO ?_
      | with_reducible refine w_asg ?_ | with_reducible refine w_drop ?_ | with_reducible refine w_par ?_
      | with_reducible refine we_q ?_ | with_reducible refine wt_q ?_ | with_reducible refine wl_own ?_ | with_reducible refine we_op2 ?_ | with_reducible refine wl_nil ?_ | with_reducible refine wl_cons ?_ | with_reducible refine we_tup ?_ | with_reducible refine wl_lst ?_ | with_reducible refine we_call ?_
      | with_reducible refine wt_v ?_ | with_reducible refine wt_not ?_ | with_reducible refine wt_and ?_ | with_reducible refine wt_or ?_ | with_reducible refine we_if ?_ | with_reducible refine we_is ?_
      | with_reducible refine wq_c ?_ | with_reducible refine wq_op1 ?_ | with_reducible refine wq_op2 ?_ | with_reducible refine wq_nil ?_ | with_reducible refine wq_cons ?_ | with_reducible refine wq_tup ?_ | with_reducible refine wq_lst ?_ | with_reducible refine wq_if ?_ | with_reducible refine wq_tv ?_ | with_reducible refine wq_notT ?_ | with_reducible refine wq_andT ?_ | with_reducible refine wq_orT ?_ | with_reducible refine wq_call ?_ | with_reducible refine wq_seq ?_
      | ((with_reducible refine' wq_var ?wpv ?_); (case wpv => rfl)) | ((with_reducible refine' wq_varO ?wpv ?_); (case wpv => rfl)) | ((with_reducible refine' wq_varI ?wpv ?_); (case wpv => rfl))
      | with_reducible refine wq_andV ?_ | with_reducible refine wq_orV ?_ | with_reducible refine wq_notV ?_ | with_reducible refine wq_chain ?_
      | with_reducible refine sq_nx ?_ | with_reducible refine sq_rt ?_ | with_reducible refine sq_bk ?_ | with_reducible refine sq_ct ?_ | with_reducible refine lp_nx ?_ | with_reducible refine lp_rt ?_ | with_reducible refine lp_bk ?_ | with_reducible refine lp_ct ?_
      | (with_reducible refine hv_some ?_) | (with_reducible refine hv_add ?_) | (with_reducible refine hv_sub ?_) | (with_reducible refine hv_eq ?_) | (with_reducible refine hv_ne ?_) | (with_reducible refine hv_lt ?_) | (with_reducible refine hv_le ?_) | (with_reducible refine hv_gt ?_) | (with_reducible refine hv_ge ?_) | (with_reducible refine ex_bool ?_))
    refine ⟨fun _ => ?_, fun _ => ?_⟩
    · repeat' (first
        | with_reducible refine w_seq ?_ | with_reducible refine w_nx ?_ | with_reducible refine w_bk ?_ | with_reducible refine w_ct ?_ | with_reducible refine w_if ?_ | with_reducible refine w_ret ?_ | with_reducible refine w_retO ?_ | with_reducible refine w_set ?_ | with_reducible refine w_setO ?_
        | with_reducible refine w_asg ?_ | with_reducible refine w_drop ?_ | with_reducible refine w_par ?_
        | with_reducible refine we_q ?_ | with_reducible refine wt_q ?_ | with_reducible refine wl_own ?_ | with_reducible refine we_op2 ?_ | with_reducible refine wl_nil ?_ | with_reducible refine wl_cons ?_ | with_reducible refine we_tup ?_ | with_reducible refine wl_lst ?_ | with_reducible refine we_call ?_
        | with_reducible refine wt_v ?_ | with_reducible refine wt_not ?_ | with_reducible refine wt_and ?_ | with_reducible refine wt_or ?_ | with_reducible refine we_if ?_ | with_reducible refine we_is ?_
        | with_reducible refine wq_c ?_ | with_reducible refine wq_op1 ?_ | with_reducible refine wq_op2 ?_ | with_reducible refine wq_nil ?_ | with_reducible refine wq_cons ?_ | with_reducible refine wq_tup ?_ | with_reducible refine wq_lst ?_ | with_reducible refine wq_if ?_ | with_reducible refine wq_tv ?_ | with_reducible refine wq_notT ?_ | with_reducible refine wq_andT ?_ | with_reducible refine wq_orT ?_ | with_reducible refine wq_call ?_ | with_reducible refine wq_seq ?_
        | ((with_reducible refine' wq_var ?wpv ?_); (case wpv => rfl)) | ((with_reducible refine' wq_varO ?wpv ?_); (case wpv => rfl)) | ((with_reducible refine' wq_varI ?wpv ?_); (case wpv => rfl))
        | with_reducible refine wq_andV ?_ | with_reducible refine wq_orV ?_ | with_reducible refine wq_notV ?_ | with_reducible refine wq_chain ?_
        | with_reducible refine sq_nx ?_ | with_reducible refine sq_rt ?_ | with_reducible refine sq_bk ?_ | with_reducible refine sq_ct ?_ | with_reducible refine lp_nx ?_ | with_reducible refine lp_rt ?_ | with_reducible refine lp_bk ?_ | with_reducible refine lp_ct ?_
        | (with_reducible refine hv_some ?_) | (with_reducible refine hv_add ?_) | (with_reducible refine hv_sub ?_) | (with_reducible refine hv_eq ?_) | (with_reducible refine hv_ne ?_) | (with_reducible refine hv_lt ?_) | (with_reducible refine hv_le ?_) | (with_reducible refine hv_gt ?_) | (with_reducible refine hv_ge ?_) | (with_reducible refine ex_bool ?_))
      refine hv_of (keeping_ok n i hn hi4) ?_
      repeat' (first
        | with_reducible refine w_seq ?_ | with_reducible refine w_nx ?_ | with_reducible refine w_bk ?_ | with_reducible refine w_ct ?_ | with_reducible refine w_if ?_ | with_reducible refine w_ret ?_ | with_reducible refine w_retO ?_ | with_reducible refine w_set ?_ | with_reducible refine w_setO ?_
        | with_reducible refine w_asg ?_ | with_reducible refine w_drop ?_ | with_reducible refine w_par ?_
        | with_reducible refine we_q ?_ | with_reducible refine wt_q ?_ | with_reducible refine wl_own ?_ | with_reducible refine we_op2 ?_ | with_reducible refine wl_nil ?_ | with_reducible refine wl_cons ?_ | with_reducible refine we_tup ?_ | with_reducible refine wl_lst ?_ | with_reducible refine we_call ?_
        | with_reducible refine wt_v ?_ | with_reducible refine wt_not ?_ | with_reducible refine wt_and ?_ | with_reducible refine wt_or ?_ | with_reducible refine we_if ?_ | with_reducible refine we_is ?_
        | with_reducible refine wq_c ?_ | with_reducible refine wq_op1 ?_ | with_reducible refine wq_op2 ?_ | with_reducible refine wq_nil ?_ | with_reducible refine wq_cons ?_ | with_reducible refine wq_tup ?_ | with_reducible refine wq_lst ?_ | with_reducible refine wq_if ?_ | with_reducible refine wq_tv ?_ | with_reducible refine wq_notT ?_ | with_reducible refine wq_andT ?_ | with_reducible refine wq_orT ?_ | with_reducible refine wq_call ?_ | with_reducible refine wq_seq ?_
        | ((with_reducible refine' wq_var ?wpv ?_); (case wpv => rfl)) | ((with_reducible refine' wq_varO ?wpv ?_); (case wpv => rfl)) | ((with_reducible refine' wq_varI ?wpv ?_); (case wpv => rfl))
        | with_reducible refine wq_andV ?_ | with_reducible refine wq_orV ?_ | with_reducible refine wq_notV ?_ | with_reducible refine wq_chain ?_
        | with_reducible refine sq_nx ?_ | with_reducible refine sq_rt ?_ | with_reducible refine sq_bk ?_ | with_reducible refine sq_ct ?_ | with_reducible refine lp_nx ?_ | with_reducible refine lp_rt ?_ | with_reducible refine lp_bk ?_ | with_reducible refine lp_ct ?_
        | (with_reducible refine hv_some ?_) | (with_reducible refine hv_add ?_) | (with_reducible refine hv_sub ?_) | (with_reducible refine hv_eq ?_) | (with_reducible refine hv_ne ?_) | (with_reducible refine hv_lt ?_) | (with_reducible refine hv_le ?_) | (with_reducible refine hv_gt ?_) | (with_reducible refine hv_ge ?_) | (with_reducible refine ex_bool ?_))
      refine hv_of (keeping_ok n i hn hi4) ⟨isOk_int (fO n i hn hi4), ?_⟩
      repeat' (first
        | with_reducible refine w_seq ?_ | with_reducible refine w_nx ?_ | with_reducible refine w_bk ?_ | with_reducible refine w_ct ?_ | with_reducible refine w_if ?_ | with_reducible refine w_ret ?_ | with_reducible refine w_retO ?_ | with_reducible refine w_set ?_ | with_reducible refine w_setO ?_
        | with_reducible refine w_asg ?_ | with_reducible refine w_drop ?_ | with_reducible refine w_par ?_
        | with_reducible refine we_q ?_ | with_reducible refine wt_q ?_ | with_reducible refine wl_own ?_ | with_reducible refine we_op2 ?_ | with_reducible refine wl_nil ?_ | with_reducible refine wl_cons ?_ | with_reducible refine we_tup ?_ | with_reducible refine wl_lst ?_ | with_reducible refine we_call ?_
        | with_reducible refine wt_v ?_ | with_reducible refine wt_not ?_ | with_reducible refine wt_and ?_ | with_reducible refine wt_or ?_ | with_reducible refine we_if ?_ | with_reducible refine we_is ?_
        | with_reducible refine wq_c ?_ | with_reducible refine wq_op1 ?_ | with_reducible refine wq_op2 ?_ | with_reducible refine wq_nil ?_ | with_reducible refine wq_cons ?_ | with_reducible refine wq_tup ?_ | with_reducible refine wq_lst ?_ | with_reducible refine wq_if ?_ | with_reducible refine wq_tv ?_ | with_reducible refine wq_notT ?_ | with_reducible refine wq_andT ?_ | with_reducible refine wq_orT ?_ | with_reducible refine wq_call ?_ | with_reducible refine wq_seq ?_
        | ((with_reducible refine' wq_var ?wpv ?_); (case wpv => rfl)) | ((with_reducible refine' wq_varO ?wpv ?_); (case wpv => rfl)) | ((with_reducible refine' wq_varI ?wpv ?_); (case wpv => rfl))
        | with_reducible refine wq_andV ?_ | with_reducible refine wq_orV ?_ | with_reducible refine wq_notV ?_ | with_reducible refine wq_chain ?_
        | with_reducible refine sq_nx ?_ | with_reducible refine sq_rt ?_ | with_reducible refine sq_bk ?_ | with_reducible refine sq_ct ?_ | with_reducible refine lp_nx ?_ | with_reducible refine lp_rt ?_ | with_reducible refine lp_bk ?_ | with_reducible refine lp_ct ?_
        | (with_reducible refine hv_some ?_) | (with_reducible refine hv_add ?_) | (with_reducible refine hv_sub ?_) | (with_reducible refine hv_eq ?_) | (with_reducible refine hv_ne ?_) | (with_reducible refine hv_lt ?_) | (with_reducible refine hv_le ?_) | (with_reducible refine hv_gt ?_) | (with_reducible refine hv_ge ?_) | (with_reducible refine ex_bool ?_))
      refine ⟨(fun c => absurd c (by decide)), fun _ => ?_⟩
      repeat' (first
        | with_reducible refine w_seq ?_ | with_reducible refine w_nx ?_ | with_reducible refine w_bk ?_ | with_reducible refine w_ct ?_ | with_reducible refine w_if ?_ | with_reducible refine w_ret ?_ | with_reducible refine w_retO ?_ | with_reducible refine w_set ?_ | with_reducible refine w_setO ?_
        | with_reducible refine w_asg ?_ | with_reducible refine w_drop ?_ | with_reducible refine w_par ?_
        | with_reducible refine we_q ?_ | with_reducible refine wt_q ?_ | with_reducible refine wl_own ?_ | with_reducible refine we_op2 ?_ | with_reducible refine wl_nil ?_ | with_reducible refine wl_cons ?_ | with_reducible refine we_tup ?_ | with_reducible refine wl_lst ?_ | with_reducible refine we_call ?_
        | with_reducible refine wt_v ?_ | with_reducible refine wt_not ?_ | with_reducible refine wt_and ?_ | with_reducible refine wt_or ?_ | with_reducible refine we_if ?_ | with_reducible refine we_is ?_
        | with_reducible refine wq_c ?_ | with_reducible refine wq_op1 ?_ | with_reducible refine wq_op2 ?_ | with_reducible refine wq_nil ?_ | with_reducible refine wq_cons ?_ | with_reducible refine wq_tup ?_ | with_reducible refine wq_lst ?_ | with_reducible refine wq_if ?_ | with_reducible refine wq_tv ?_ | with_reducible refine wq_notT ?_ | with_reducible refine wq_andT ?_ | with_reducible refine wq_orT ?_ | with_reducible refine wq_call ?_ | with_reducible refine wq_seq ?_
        | ((with_reducible refine' wq_var ?wpv ?_); (case wpv => rfl)) | ((with_reducible refine' wq_varO ?wpv ?_); (case wpv => rfl)) | ((with_reducible refine' wq_varI ?wpv ?_); (case wpv => rfl))
        | with_reducible refine wq_andV ?_ | with_reducible refine wq_orV ?_ | with_reducible refine wq_notV ?_ | with_reducible refine wq_chain ?_
        | with_reducible refine sq_nx ?_ | with_reducible refine sq_rt ?_ | with_reducible refine sq_bk ?_ | with_reducible refine sq_ct ?_ | with_reducible refine lp_nx ?_ | with_reducible refine lp_rt ?_ | with_reducible refine lp_bk ?_ | with_reducible refine lp_ct ?_
        | (with_reducible refine hv_some ?_) | (with_reducible refine hv_add ?_) | (with_reducible refine hv_sub ?_) | (with_reducible refine hv_eq ?_) | (with_reducible refine hv_ne ?_) | (with_reducible refine hv_lt ?_) | (with_reducible refine hv_le ?_) | (with_reducible refine hv_gt ?_) | (with_reducible refine hv_ge ?_) | (with_reducible refine ex_bool ?_))
      exact ⟨b2, _, _, ok2, by omega, rfl⟩
    · refine ⟨(fun c => by cases c), fun _ => ?_⟩
      repeat' (first
        | with_reducible refine w_seq ?_ | with_reducible refine w_nx ?_ | with_reducible refine w_bk ?_ | with_reducible refine w_ct ?_ | with_reducible refine w_if ?_ | with_reducible refine w_ret ?_ | with_reducible refine w_retO ?_ | with_reducible refine w_set ?_ | with_reducible refine w_setO ?_
        | with_reducible refine w_asg ?_ | with_reducible refine w_drop ?_ | with_reducible refine w_par ?_
        | with_reducible refine we_q ?_ | with_reducible refine wt_q ?_ | with_reducible refine wl_own ?_ | with_reducible refine we_op2 ?_ | with_reducible refine wl_nil ?_ | with_reducible refine wl_cons ?_ | with_reducible refine we_tup ?_ | with_reducible refine wl_lst ?_ | with_reducible refine we_call ?_
        | with_reducible refine wt_v ?_ | with_reducible refine wt_not ?_ | with_reducible refine wt_and ?_ | with_reducible refine wt_or ?_ | with_reducible refine we_if ?_ | with_reducible refine we_is ?_
        | with_reducible refine wq_c ?_ | with_reducible refine wq_op1 ?_ | with_reducible refine wq_op2 ?_ | with_reducible refine wq_nil ?_ | with_reducible refine wq_cons ?_ | with_reducible refine wq_tup ?_ | with_reducible refine wq_lst ?_ | with_reducible refine wq_if ?_ | with_reducible refine wq_tv ?_ | with_reducible refine wq_notT ?_ | with_reducible refine wq_andT ?_ | with_reducible refine wq_orT ?_ | with_reducible refine wq_call ?_ | with_reducible refine wq_seq ?_
        | ((with_reducible refine' wq_var ?wpv ?_); (case wpv => rfl)) | ((with_reducible refine' wq_varO ?wpv ?_); (case wpv => rfl)) | ((with_reducible refine' wq_varI ?wpv ?_); (case wpv => rfl))
        | with_reducible refine wq_andV ?_ | with_reducible refine wq_orV ?_ | with_reducible refine wq_notV ?_ | with_reducible refine wq_chain ?_
        | with_reducible refine sq_nx ?_ | with_reducible refine sq_rt ?_ | with_reducible refine sq_bk ?_ | with_reducible refine sq_ct ?_ | with_reducible refine lp_nx ?_ | with_reducible refine lp_rt ?_ | with_reducible refine lp_bk ?_ | with_reducible refine lp_ct ?_
        | (with_reducible refine hv_some ?_) | (with_reducible refine hv_add ?_) | (with_reducible refine hv_sub ?_) | (with_reducible refine hv_eq ?_) | (with_reducible refine hv_ne ?_) | (with_reducible refine hv_lt ?_) | (with_reducible refine hv_le ?_) | (with_reducible refine hv_gt ?_) | (with_reducible refine hv_ge ?_) | (with_reducible refine ex_bool ?_))
      exact ⟨b2, _, _, ok2, by omega, rfl⟩
  · rintro s ⟨b', x, y, ok', hi2, rfl⟩
    have e : (rngL 0 1 ((n : Int) + 2).toNat).length = n + 2 := by rw [rngL_length]; omega
    rw [e]
    repeat' (first
      | with_reducible refine w_seq ?_ | with_reducible refine w_nx ?_ | with_reducible refine w_bk ?_ | with_reducible refine w_ct ?_ | with_reducible refine w_if ?_ | with_reducible refine w_ret ?_ | with_reducible refine w_retO ?_ | with_reducible refine w_set ?_ | with_reducible refine w_setO ?_
      | with_reducible refine w_asg ?_ | with_reducible refine w_drop ?_ | with_reducible refine w_par ?_
      | with_reducible refine we_q ?_ | with_reducible refine wt_q ?_ | with_reducible refine wl_own ?_ | with_reducible refine we_op2 ?_ | with_reducible refine wl_nil ?_ | with_reducible refine wl_cons ?_ | with_reducible refine we_tup ?_ | with_reducible refine wl_lst ?_ | with_reducible refine we_call ?_
      | with_reducible refine wt_v ?_ | with_reducible refine wt_not ?_ | with_reducible refine wt_and ?_ | with_reducible refine wt_or ?_ | with_reducible refine we_if ?_ | with_reducible refine we_is ?_
      | with_reducible refine wq_c ?_ | with_reducible refine wq_op1 ?_ | with_reducible refine wq_op2 ?_ | with_reducible refine wq_nil ?_ | with_reducible refine wq_cons ?_ | with_reducible refine wq_tup ?_ | with_reducible refine wq_lst ?_ | with_reducible refine wq_if ?_ | with_reducible refine wq_tv ?_ | with_reducible refine wq_notT ?_ | with_reducible refine wq_andT ?_ | with_reducible refine wq_orT ?_ | with_reducible refine wq_call ?_ | with_reducible refine wq_seq ?_
      | ((with_reducible refine' wq_var ?wpv ?_); (case wpv => rfl)) | ((with_reducible refine' wq_varO ?wpv ?_); (case wpv => rfl)) | ((with_reducible refine' wq_varI ?wpv ?_); (case wpv => rfl))
      | with_reducible refine wq_andV ?_ | with_reducible refine wq_orV ?_ | with_reducible refine wq_notV ?_ | with_reducible refine wq_chain ?_
      | with_reducible refine sq_nx ?_ | with_reducible refine sq_rt ?_ | with_reducible refine sq_bk ?_ | with_reducible refine sq_ct ?_ | with_reducible refine lp_nx ?_ | with_reducible refine lp_rt ?_ | with_reducible refine lp_bk ?_ | with_reducible refine lp_ct ?_
      | (with_reducible refine hv_some ?_) | (with_reducible refine hv_add ?_) | (with_reducible refine hv_sub ?_) | (with_reducible refine hv_eq ?_) | (with_reducible refine hv_ne ?_) | (with_reducible refine hv_lt ?_) | (with_reducible refine hv_le ?_) | (with_reducible refine hv_gt ?_) | (with_reducible refine hv_ge ?_) | (with_reducible refine ex_bool ?_))
    obtain ⟨d1, d2, d3, d4⟩ := fD n hn
    refine hv_of d1 ?_
    repeat' (first
      | with_reducible refine w_seq ?_ | with_reducible refine w_nx ?_ | with_reducible refine w_bk ?_ | with_reducible refine w_ct ?_ | with_reducible refine w_if ?_ | with_reducible refine w_ret ?_ | with_reducible refine w_retO ?_ | with_reducible refine w_set ?_ | with_reducible refine w_setO ?_
      | with_reducible refine w_asg ?_ | with_reducible refine w_drop ?_ | with_reducible refine w_par ?_
      | with_reducible refine we_q ?_ | with_reducible refine wt_q ?_ | with_reducible refine wl_own ?_ | with_reducible refine we_op2 ?_ | with_reducible refine wl_nil ?_ | with_reducible refine wl_cons ?_ | with_reducible refine we_tup ?_ | with_reducible refine wl_lst ?_ | with_reducible refine we_call ?_
      | with_reducible refine wt_v ?_ | with_reducible refine wt_not ?_ | with_reducible refine wt_and ?_ | with_reducible refine wt_or ?_ | with_reducible refine we_if ?_ | with_reducible refine we_is ?_
      | with_reducible refine wq_c ?_ | with_reducible refine wq_op1 ?_ | with_reducible refine wq_op2 ?_ | with_reducible refine wq_nil ?_ | with_reducible refine wq_cons ?_ | with_reducible refine wq_tup ?_ | with_reducible refine wq_lst ?_ | with_reducible refine wq_if ?_ | with_reducible refine wq_tv ?_ | with_reducible refine wq_notT ?_ | with_reducible refine wq_andT ?_ | with_reducible refine wq_orT ?_ | with_reducible refine wq_call ?_ | with_reducible refine wq_seq ?_
      | ((with_reducible refine' wq_var ?wpv ?_); (case wpv => rfl)) | ((with_reducible refine' wq_varO ?wpv ?_); (case wpv => rfl)) | ((with_reducible refine' wq_varI ?wpv ?_); (case wpv => rfl))
      | with_reducible refine wq_andV ?_ | with_reducible refine wq_orV ?_ | with_reducible refine wq_notV ?_ | with_reducible refine wq_chain ?_
      | with_reducible refine sq_nx ?_ | with_reducible refine sq_rt ?_ | with_reducible refine sq_bk ?_ | with_reducible refine sq_ct ?_ | with_reducible refine lp_nx ?_ | with_reducible refine lp_rt ?_ | with_reducible refine lp_bk ?_ | with_reducible refine lp_ct ?_
      | (with_reducible refine hv_some ?_) | (with_reducible refine hv_add ?_) | (with_reducible refine hv_sub ?_) | (with_reducible refine hv_eq ?_) | (with_reducible refine hv_ne ?_) | (with_reducible refine hv_lt ?_) | (with_reducible refine hv_le ?_) | (with_reducible refine hv_gt ?_) | (with_reducible refine hv_ge ?_) | (with_reducible refine ex_bool ?_))
    refine ⟨fun c => ?_, fun _ => ?_⟩
    · simp at c
    repeat' (first
      | with_reducible refine w_seq ?_ | with_reducible refine w_nx ?_ | with_reducible refine w_bk ?_ | with_reducible refine w_ct ?_ | with_reducible refine w_if ?_ | with_reducible refine w_ret ?_ | with_reducible refine w_retO ?_ | with_reducible refine w_set ?_ | with_reducible refine w_setO ?_
      | with_reducible refine w_asg ?_ | with_reducible refine w_drop ?_ | with_reducible refine w_par ?_
      | with_reducible refine we_q ?_ | with_reducible refine wt_q ?_ | with_reducible refine wl_own ?_ | with_reducible refine we_op2 ?_ | with_reducible refine wl_nil ?_ | with_reducible refine wl_cons ?_ | with_reducible refine we_tup ?_ | with_reducible refine wl_lst ?_ | with_reducible refine we_call ?_
      | with_reducible refine wt_v ?_ | with_reducible refine wt_not ?_ | with_reducible refine wt_and ?_ | with_reducible refine wt_or ?_ | with_reducible refine we_if ?_ | with_reducible refine we_is ?_
      | with_reducible refine wq_c ?_ | with_reducible refine wq_op1 ?_ | with_reducible refine wq_op2 ?_ | with_reducible refine wq_nil ?_ | with_reducible refine wq_cons ?_ | with_reducible refine wq_tup ?_ | with_reducible refine wq_lst ?_ | with_reducible refine wq_if ?_ | with_reducible refine wq_tv ?_ | with_reducible refine wq_notT ?_ | with_reducible refine wq_andT ?_ | with_reducible refine wq_orT ?_ | with_reducible refine wq_call ?_ | with_reducible refine wq_seq ?_
      | ((with_reducible refine' wq_var ?wpv ?_); (case wpv => rfl)) | ((with_reducible refine' wq_varO ?wpv ?_); (case wpv => rfl)) | ((with_reducible refine' wq_varI ?wpv ?_); (case wpv => rfl))
      | with_reducible refine wq_andV ?_ | with_reducible refine wq_orV ?_ | with_reducible refine wq_notV ?_ | with_reducible refine wq_chain ?_
      | with_reducible refine sq_nx ?_ | with_reducible refine sq_rt ?_ | with_reducible refine sq_bk ?_ | with_reducible refine sq_ct ?_ | with_reducible refine lp_nx ?_ | with_reducible refine lp_rt ?_ | with_reducible refine lp_bk ?_ | with_reducible refine lp_ct ?_
      | (with_reducible refine hv_some ?_) | (with_reducible refine hv_add ?_) | (with_reducible refine hv_sub ?_) | (with_reducible refine hv_eq ?_) | (with_reducible refine hv_ne ?_) | (with_reducible refine hv_lt ?_) | (with_reducible refine hv_le ?_) | (with_reducible refine hv_gt ?_) | (with_reducible refine hv_ge ?_) | (with_reducible refine ex_bool ?_))
    refine ⟨fun c => ?_, fun c => ?_⟩
    · have n00 : n = 0 := by rw [beq_iff_eq] at c; omega
      repeat' (first
        | with_reducible refine w_seq ?_ | with_reducible refine w_nx ?_ | with_reducible refine w_bk ?_ | with_reducible refine w_ct ?_ | with_reducible refine w_if ?_ | with_reducible refine w_ret ?_ | with_reducible refine w_retO ?_ | with_reducible refine w_set ?_ | with_reducible refine w_setO ?_
        | with_reducible refine w_asg ?_ | with_reducible refine w_drop ?_ | with_reducible refine w_par ?_
        | with_reducible refine we_q ?_ | with_reducible refine wt_q ?_ | with_reducible refine wl_own ?_ | with_reducible refine we_op2 ?_ | with_reducible refine wl_nil ?_ | with_reducible refine wl_cons ?_ | with_reducible refine we_tup ?_ | with_reducible refine wl_lst ?_ | with_reducible refine we_call ?_
        | with_reducible refine wt_v ?_ | with_reducible refine wt_not ?_ | with_reducible refine wt_and ?_ | with_reducible refine wt_or ?_ | with_reducible refine we_if ?_ | with_reducible refine we_is ?_
        | with_reducible refine wq_c ?_ | with_reducible refine wq_op1 ?_ | with_reducible refine wq_op2 ?_ | with_reducible refine wq_nil ?_ | with_reducible refine wq_cons ?_ | with_reducible refine wq_tup ?_ | with_reducible refine wq_lst ?_ | with_reducible refine wq_if ?_ | with_reducible refine wq_tv ?_ | with_reducible refine wq_notT ?_ | with_reducible refine wq_andT ?_ | with_reducible refine wq_orT ?_ | with_reducible refine wq_call ?_ | with_reducible refine wq_seq ?_
        | ((with_reducible refine' wq_var ?wpv ?_); (case wpv => rfl)) | ((with_reducible refine' wq_varO ?wpv ?_); (case wpv => rfl)) | ((with_reducible refine' wq_varI ?wpv ?_); (case wpv => rfl))
        | with_reducible refine wq_andV ?_ | with_reducible refine wq_orV ?_ | with_reducible refine wq_notV ?_ | with_reducible refine wq_chain ?_
        | with_reducible refine sq_nx ?_ | with_reducible refine sq_rt ?_ | with_reducible refine sq_bk ?_ | with_reducible refine sq_ct ?_ | with_reducible refine lp_nx ?_ | with_reducible refine lp_rt ?_ | with_reducible refine lp_bk ?_ | with_reducible refine lp_ct ?_
        | (with_reducible refine hv_some ?_) | (with_reducible refine hv_add ?_) | (with_reducible refine hv_sub ?_) | (with_reducible refine hv_eq ?_) | (with_reducible refine hv_ne ?_) | (with_reducible refine hv_lt ?_) | (with_reducible refine hv_le ?_) | (with_reducible refine hv_gt ?_) | (with_reducible refine hv_ge ?_) | (with_reducible refine ex_bool ?_))
      refine hv_of (keeping_ok 0 1 (by decide) (by decide)) ?_
      repeat' (first
        | with_reducible refine w_seq ?_ | with_reducible refine w_nx ?_ | with_reducible refine w_bk ?_ | with_reducible refine w_ct ?_ | with_reducible refine w_if ?_ | with_reducible refine w_ret ?_ | with_reducible refine w_retO ?_ | with_reducible refine w_set ?_ | with_reducible refine w_setO ?_
        | with_reducible refine w_asg ?_ | with_reducible refine w_drop ?_ | with_reducible refine w_par ?_
        | with_reducible refine we_q ?_ | with_reducible refine wt_q ?_ | with_reducible refine wl_own ?_ | with_reducible refine we_op2 ?_ | with_reducible refine wl_nil ?_ | with_reducible refine wl_cons ?_ | with_reducible refine we_tup ?_ | with_reducible refine wl_lst ?_ | with_reducible refine we_call ?_
        | with_reducible refine wt_v ?_ | with_reducible refine wt_not ?_ | with_reducible refine wt_and ?_ | with_reducible refine wt_or ?_ | with_reducible refine we_if ?_ | with_reducible refine we_is ?_
        | with_reducible refine wq_c ?_ | with_reducible refine wq_op1 ?_ | with_reducible refine wq_op2 ?_ | with_reducible refine wq_nil ?_ | with_reducible refine wq_cons ?_ | with_reducible refine wq_tup ?_ | with_reducible refine wq_lst ?_ | with_reducible refine wq_if ?_ | with_reducible refine wq_tv ?_ | with_reducible refine wq_notT ?_ | with_reducible refine wq_andT ?_ | with_reducible refine wq_orT ?_ | with_reducible refine wq_call ?_ | with_reducible refine wq_seq ?_
        | ((with_reducible refine' wq_var ?wpv ?_); (case wpv => rfl)) | ((with_reducible refine' wq_varO ?wpv ?_); (case wpv => rfl)) | ((with_reducible refine' wq_varI ?wpv ?_); (case wpv => rfl))
        | with_reducible refine wq_andV ?_ | with_reducible refine wq_orV ?_ | with_reducible refine wq_notV ?_ | with_reducible refine wq_chain ?_
        | with_reducible refine sq_nx ?_ | with_reducible refine sq_rt ?_ | with_reducible refine sq_bk ?_ | with_reducible refine sq_ct ?_ | with_reducible refine lp_nx ?_ | with_reducible refine lp_rt ?_ | with_reducible refine lp_bk ?_ | with_reducible refine lp_ct ?_
        | (with_reducible refine hv_some ?_) | (with_reducible refine hv_add ?_) | (with_reducible refine hv_sub ?_) | (with_reducible refine hv_eq ?_) | (with_reducible refine hv_ne ?_) | (with_reducible refine hv_lt ?_) | (with_reducible refine hv_le ?_) | (with_reducible refine hv_gt ?_) | (with_reducible refine hv_ge ?_) | (with_reducible refine ex_bool ?_))
      refine ⟨fun _ => ?_, fun c => absurd c (by decide)⟩
      repeat' (first
        | with_reducible refine w_seq ?_ | with_reducible refine w_nx ?_ | with_reducible refine w_bk ?_ | with_reducible refine w_ct ?_ | with_reducible refine w_if ?_ | with_reducible refine w_ret ?_ | with_reducible refine w_retO ?_ | with_reducible refine w_set ?_ | with_reducible refine w_setO ?_
        | with_reducible refine w_asg ?_ | with_reducible refine w_drop ?_ | with_reducible refine w_par ?_
        | with_reducible refine we_q ?_ | with_reducible refine wt_q ?_ | with_reducible refine wl_own ?_ | with_reducible refine we_op2 ?_ | with_reducible refine wl_nil ?_ | with_reducible refine wl_cons ?_ | with_reducible refine we_tup ?_ | with_reducible refine wl_lst ?_ | with_reducible refine we_call ?_
        | with_reducible refine wt_v ?_ | with_reducible refine wt_not ?_ | with_reducible refine wt_and ?_ | with_reducible refine wt_or ?_ | with_reducible refine we_if ?_ | with_reducible refine we_is ?_
        | with_reducible refine wq_c ?_ | with_reducible refine wq_op1 ?_ | with_reducible refine wq_op2 ?_ | with_reducible refine wq_nil ?_ | with_reducible refine wq_cons ?_ | with_reducible refine wq_tup ?_ | with_reducible refine wq_lst ?_ | with_reducible refine wq_if ?_ | with_reducible refine wq_tv ?_ | with_reducible refine wq_notT ?_ | with_reducible refine wq_andT ?_ | with_reducible refine wq_orT ?_ | with_reducible refine wq_call ?_ | with_reducible refine wq_seq ?_
        | ((with_reducible refine' wq_var ?wpv ?_); (case wpv => rfl)) | ((with_reducible refine' wq_varO ?wpv ?_); (case wpv => rfl)) | ((with_reducible refine' wq_varI ?wpv ?_); (case wpv => rfl))
        | with_reducible refine wq_andV ?_ | with_reducible refine wq_orV ?_ | with_reducible refine wq_notV ?_ | with_reducible refine wq_chain ?_
        | with_reducible refine sq_nx ?_ | with_reducible refine sq_rt ?_ | with_reducible refine sq_bk ?_ | with_reducible refine sq_ct ?_ | with_reducible refine lp_nx ?_ | with_reducible refine lp_rt ?_ | with_reducible refine lp_bk ?_ | with_reducible refine lp_ct ?_
        | (with_reducible refine hv_some ?_) | (with_reducible refine hv_add ?_) | (with_reducible refine hv_sub ?_) | (with_reducible refine hv_eq ?_) | (with_reducible refine hv_ne ?_) | (with_reducible refine hv_lt ?_) | (with_reducible refine hv_le ?_) | (with_reducible refine hv_gt ?_) | (with_reducible refine hv_ge ?_) | (with_reducible refine ex_bool ?_))
      refine hv_of (keeping_ok 0 0 (by decide) (by decide)) ?_
      repeat' (first
        | with_reducible refine w_seq ?_ | with_reducible refine w_nx ?_ | with_reducible refine w_bk ?_ | with_reducible refine w_ct ?_ | with_reducible refine w_if ?_ | with_reducible refine w_ret ?_ | with_reducible refine w_retO ?_ | with_reducible refine w_set ?_ | with_reducible refine w_setO ?_
        | with_reducible refine w_asg ?_ | with_reducible refine w_drop ?_ | with_reducible refine w_par ?_
        | with_reducible refine we_q ?_ | with_reducible refine wt_q ?_ | with_reducible refine wl_own ?_ | with_reducible refine we_op2 ?_ | with_reducible refine wl_nil ?_ | with_reducible refine wl_cons ?_ | with_reducible refine we_tup ?_ | with_reducible refine wl_lst ?_ | with_reducible refine we_call ?_
        | with_reducible refine wt_v ?_ | with_reducible refine wt_not ?_ | with_reducible refine wt_and ?_ | with_reducible refine wt_or ?_ | with_reducible refine we_if ?_ | with_reducible refine we_is ?_
        | with_reducible refine wq_c ?_ | with_reducible refine wq_op1 ?_ | with_reducible refine wq_op2 ?_ | with_reducible refine wq_nil ?_ | with_reducible refine wq_cons ?_ | with_reducible refine wq_tup ?_ | with_reducible refine wq_lst ?_ | with_reducible refine wq_if ?_ | with_reducible refine wq_tv ?_ | with_reducible refine wq_notT ?_ | with_reducible refine wq_andT ?_ | with_reducible refine wq_orT ?_ | with_reducible refine wq_call ?_ | with_reducible refine wq_seq ?_
        | ((with_reducible refine' wq_var ?wpv ?_); (case wpv => rfl)) | ((with_reducible refine' wq_varO ?wpv ?_); (case wpv => rfl)) | ((with_reducible refine' wq_varI ?wpv ?_); (case wpv => rfl))
        | with_reducible refine wq_andV ?_ | with_reducible refine wq_orV ?_ | with_reducible refine wq_notV ?_ | with_reducible refine wq_chain ?_
        | with_reducible refine sq_nx ?_ | with_reducible refine sq_rt ?_ | with_reducible refine sq_bk ?_ | with_reducible refine sq_ct ?_ | with_reducible refine lp_nx ?_ | with_reducible refine lp_rt ?_ | with_reducible refine lp_bk ?_ | with_reducible refine lp_ct ?_
        | (with_reducible refine hv_some ?_) | (with_reducible refine hv_add ?_) | (with_reducible refine hv_sub ?_) | (with_reducible refine hv_eq ?_) | (with_reducible refine hv_ne ?_) | (with_reducible refine hv_lt ?_) | (with_reducible refine hv_le ?_) | (with_reducible refine hv_gt ?_) | (with_reducible refine hv_ge ?_) | (with_reducible refine ex_bool ?_))
      exact ⟨_, b', rfl, rfl, ok'⟩
    have n00 : ¬ n = 0 := fun z => by rw [z] at c; simp at c
    obtain ⟨g0, gs, gk, ge⟩ := d4.resolve_left n00
    repeat' (first
      | with_reducible refine w_seq ?_ | with_reducible refine w_nx ?_ | with_reducible refine w_bk ?_ | with_reducible refine w_ct ?_ | with_reducible refine w_if ?_ | with_reducible refine w_ret ?_ | with_reducible refine w_retO ?_ | with_reducible refine w_set ?_ | with_reducible refine w_setO ?_
      | with_reducible refine w_asg ?_ | with_reducible refine w_drop ?_ | with_reducible refine w_par ?_
      | with_reducible refine we_q ?_ | with_reducible refine wt_q ?_ | with_reducible refine wl_own ?_ | with_reducible refine we_op2 ?_ | with_reducible refine wl_nil ?_ | with_reducible refine wl_cons ?_ | with_reducible refine we_tup ?_ | with_reducible refine wl_lst ?_ | with_reducible refine we_call ?_
      | with_reducible refine wt_v ?_ | with_reducible refine wt_not ?_ | with_reducible refine wt_and ?_ | with_reducible refine wt_or ?_ | with_reducible refine we_if ?_ | with_reducible refine we_is ?_
      | with_reducible refine wq_c ?_ | with_reducible refine wq_op1 ?_ | with_reducible refine wq_op2 ?_ | with_reducible refine wq_nil ?_ | with_reducible refine wq_cons ?_ | with_reducible refine wq_tup ?_ | with_reducible refine wq_lst ?_ | with_reducible refine wq_if ?_ | with_reducible refine wq_tv ?_ | with_reducible refine wq_notT ?_ | with_reducible refine wq_andT ?_ | with_reducible refine wq_orT ?_ | with_reducible refine wq_call ?_ | with_reducible refine wq_seq ?_
      | ((with_reducible refine' wq_var ?wpv ?_); (case wpv => rfl)) | ((with_reducible refine' wq_varO ?wpv ?_); (case wpv => rfl)) | ((with_reducible refine' wq_varI ?wpv ?_); (case wpv => rfl))
      | with_reducible refine wq_andV ?_ | with_reducible refine wq_orV ?_ | with_reducible refine wq_notV ?_ | with_reducible refine wq_chain ?_
      | with_reducible refine sq_nx ?_ | with_reducible refine sq_rt ?_ | with_reducible refine sq_bk ?_ | with_reducible refine sq_ct ?_ | with_reducible refine lp_nx ?_ | with_reducible refine lp_rt ?_ | with_reducible refine lp_bk ?_ | with_reducible refine lp_ct ?_
      | (with_reducible refine hv_some ?_) | (with_reducible refine hv_add ?_) | (with_reducible refine hv_sub ?_) | (with_reducible refine hv_eq ?_) | (with_reducible refine hv_ne ?_) | (with_reducible refine hv_lt ?_) | (with_reducible refine hv_le ?_) | (with_reducible refine hv_gt ?_) | (with_reducible refine hv_ge ?_) | (with_reducible refine ex_bool ?_))
    refine mul_s (by decide) (small_nat (by omega)) ?_
    repeat' (first
      | with_reducible refine w_seq ?_ | with_reducible refine w_nx ?_ | with_reducible refine w_bk ?_ | with_reducible refine w_ct ?_ | with_reducible refine w_if ?_ | with_reducible refine w_ret ?_ | with_reducible refine w_retO ?_ | with_reducible refine w_set ?_ | with_reducible refine w_setO ?_
      | with_reducible refine w_asg ?_ | with_reducible refine w_drop ?_ | with_reducible refine w_par ?_
      | with_reducible refine we_q ?_ | with_reducible refine wt_q ?_ | with_reducible refine wl_own ?_ | with_reducible refine we_op2 ?_ | with_reducible refine wl_nil ?_ | with_reducible refine wl_cons ?_ | with_reducible refine we_tup ?_ | with_reducible refine wl_lst ?_ | with_reducible refine we_call ?_
      | with_reducible refine wt_v ?_ | with_reducible refine wt_not ?_ | with_reducible refine wt_and ?_ | with_reducible refine wt_or ?_ | with_reducible refine we_if ?_ | with_reducible refine we_is ?_
      | with_reducible refine wq_c ?_ | with_reducible refine wq_op1 ?_ | with_reducible refine wq_op2 ?_ | with_reducible refine wq_nil ?_ | with_reducible refine wq_cons ?_ | with_reducible refine wq_tup ?_ | with_reducible refine wq_lst ?_ | with_reducible refine wq_if ?_ | with_reducible refine wq_tv ?_ | with_reducible refine wq_notT ?_ | with_reducible refine wq_andT ?_ | with_reducible refine wq_orT ?_ | with_reducible refine wq_call ?_ | with_reducible refine wq_seq ?_
      | ((with_reducible refine' wq_var ?wpv ?_); (case wpv => rfl)) | ((with_reducible refine' wq_varO ?wpv ?_); (case wpv => rfl)) | ((with_reducible refine' wq_varI ?wpv ?_); (case wpv => rfl))
      | with_reducible refine wq_andV ?_ | with_reducible refine wq_orV ?_ | with_reducible refine wq_notV ?_ | with_reducible refine wq_chain ?_
      | with_reducible refine sq_nx ?_ | with_reducible refine sq_rt ?_ | with_reducible refine sq_bk ?_ | with_reducible refine sq_ct ?_ | with_reducible refine lp_nx ?_ | with_reducible refine lp_rt ?_ | with_reducible refine lp_bk ?_ | with_reducible refine lp_ct ?_
      | (with_reducible refine hv_some ?_) | (with_reducible refine hv_add ?_) | (with_reducible refine hv_sub ?_) | (with_reducible refine hv_eq ?_) | (with_reducible refine hv_ne ?_) | (with_reducible refine hv_lt ?_) | (with_reducible refine hv_le ?_) | (with_reducible refine hv_gt ?_) | (with_reducible refine hv_ge ?_) | (with_reducible refine ex_bool ?_))
    refine ⟨_, _, rfl, by simp, by simp, ?_⟩
    simp only [List.set_cons_zero, List.set_cons_succ, seqQ, loopQ]
    repeat' (first
      | with_reducible refine w_seq ?_ | with_reducible refine w_nx ?_ | with_reducible refine w_bk ?_ | with_reducible refine w_ct ?_ | with_reducible refine w_if ?_ | with_reducible refine w_ret ?_ | with_reducible refine w_retO ?_ | with_reducible refine w_set ?_ | with_reducible refine w_setO ?_
      | with_reducible refine w_asg ?_ | with_reducible refine w_drop ?_ | with_reducible refine w_par ?_
      | with_reducible refine we_q ?_ | with_reducible refine wt_q ?_ | with_reducible refine wl_own ?_ | with_reducible refine we_op2 ?_ | with_reducible refine wl_nil ?_ | with_reducible refine wl_cons ?_ | with_reducible refine we_tup ?_ | with_reducible refine wl_lst ?_ | with_reducible refine we_call ?_
      | with_reducible refine wt_v ?_ | with_reducible refine wt_not ?_ | with_reducible refine wt_and ?_ | with_reducible refine wt_or ?_ | with_reducible refine we_if ?_ | with_reducible refine we_is ?_
      | with_reducible refine wq_c ?_ | with_reducible refine wq_op1 ?_ | with_reducible refine wq_op2 ?_ | with_reducible refine wq_nil ?_ | with_reducible refine wq_cons ?_ | with_reducible refine wq_tup ?_ | with_reducible refine wq_lst ?_ | with_reducible refine wq_if ?_ | with_reducible refine wq_tv ?_ | with_reducible refine wq_notT ?_ | with_reducible refine wq_andT ?_ | with_reducible refine wq_orT ?_ | with_reducible refine wq_call ?_ | with_reducible refine wq_seq ?_
      | ((with_reducible refine' wq_var ?wpv ?_); (case wpv => rfl)) | ((with_reducible refine' wq_varO ?wpv ?_); (case wpv => rfl)) | ((with_reducible refine' wq_varI ?wpv ?_); (case wpv => rfl))
      | with_reducible refine wq_andV ?_ | with_reducible refine wq_orV ?_ | with_reducible refine wq_notV ?_ | with_reducible refine wq_chain ?_
      | with_reducible refine sq_nx ?_ | with_reducible refine sq_rt ?_ | with_reducible refine sq_bk ?_ | with_reducible refine sq_ct ?_ | with_reducible refine lp_nx ?_ | with_reducible refine lp_rt ?_ | with_reducible refine lp_bk ?_ | with_reducible refine lp_ct ?_
      | (with_reducible refine hv_some ?_) | (with_reducible refine hv_add ?_) | (with_reducible refine hv_sub ?_) | (with_reducible refine hv_eq ?_) | (with_reducible refine hv_ne ?_) | (with_reducible refine hv_lt ?_) | (with_reducible refine hv_le ?_) | (with_reducible refine hv_gt ?_) | (with_reducible refine hv_ge ?_) | (with_reducible refine ex_bool ?_))
    refine ⟨_, _, rfl, by simp, by simp, ?_⟩
    simp only [List.set_cons_zero, List.set_cons_succ, seqQ, loopQ]
    refine w_seq (wp_csq (P := fun f => ∃ z, f = .nx [.bag b', .imm (.int n), .imm (.int (W n)), .imm (.int (tot n (n + 2))), .imm (.int (sm n (n + 2))), x, y, .imm (.int ((n : Int) + 1)), .imm (.int (2 * (n : Int))), .imm (.int (gcdp n 20).1), .imm (.int (gcdp n 20).2), z]) ?_ ?_)
    · refine w_for (wl_rng1 ?_)
      repeat' (first
        | with_reducible refine w_seq ?_ | with_reducible refine w_nx ?_ | with_reducible refine w_bk ?_ | with_reducible refine w_ct ?_ | with_reducible refine w_if ?_ | with_reducible refine w_ret ?_ | with_reducible refine w_retO ?_ | with_reducible refine w_set ?_ | with_reducible refine w_setO ?_
        | with_reducible refine w_asg ?_ | with_reducible refine w_drop ?_ | with_reducible refine w_par ?_
        | with_reducible refine we_q ?_ | with_reducible refine wt_q ?_ | with_reducible refine wl_own ?_ | with_reducible refine we_op2 ?_ | with_reducible refine wl_nil ?_ | with_reducible refine wl_cons ?_ | with_reducible refine we_tup ?_ | with_reducible refine wl_lst ?_ | with_reducible refine we_call ?_
        | with_reducible refine wt_v ?_ | with_reducible refine wt_not ?_ | with_reducible refine wt_and ?_ | with_reducible refine wt_or ?_ | with_reducible refine we_if ?_ | with_reducible refine we_is ?_
        | with_reducible refine wq_c ?_ | with_reducible refine wq_op1 ?_ | with_reducible refine wq_op2 ?_ | with_reducible refine wq_nil ?_ | with_reducible refine wq_cons ?_ | with_reducible refine wq_tup ?_ | with_reducible refine wq_lst ?_ | with_reducible refine wq_if ?_ | with_reducible refine wq_tv ?_ | with_reducible refine wq_notT ?_ | with_reducible refine wq_andT ?_ | with_reducible refine wq_orT ?_ | with_reducible refine wq_call ?_ | with_reducible refine wq_seq ?_
        | ((with_reducible refine' wq_var ?wpv ?_); (case wpv => rfl)) | ((with_reducible refine' wq_varO ?wpv ?_); (case wpv => rfl)) | ((with_reducible refine' wq_varI ?wpv ?_); (case wpv => rfl))
        | with_reducible refine wq_andV ?_ | with_reducible refine wq_orV ?_ | with_reducible refine wq_notV ?_ | with_reducible refine wq_chain ?_
        | with_reducible refine sq_nx ?_ | with_reducible refine sq_rt ?_ | with_reducible refine sq_bk ?_ | with_reducible refine sq_ct ?_ | with_reducible refine lp_nx ?_ | with_reducible refine lp_rt ?_ | with_reducible refine lp_bk ?_ | with_reducible refine lp_ct ?_
        | (with_reducible refine hv_some ?_) | (with_reducible refine hv_add ?_) | (with_reducible refine hv_sub ?_) | (with_reducible refine hv_eq ?_) | (with_reducible refine hv_ne ?_) | (with_reducible refine hv_lt ?_) | (with_reducible refine hv_le ?_) | (with_reducible refine hv_gt ?_) | (with_reducible refine hv_ge ?_) | (with_reducible refine ex_bool ?_))
      refine ex_rng1 (by decide) ⟨fun i s => i ≤ 20 ∧ ∃ z, s = [.bag b', .imm (.int n), .imm (.int (W n)), .imm (.int (tot n (n + 2))), .imm (.int (sm n (n + 2))), x, y, .imm (.int ((n : Int) + 1)), .imm (.int (2 * (n : Int))), .imm (.int (gcdp n i).1), .imm (.int (gcdp n i).2), z], ⟨by omega, _, rfl⟩, ?_, ?_⟩
      · rintro i d s hi ⟨hi2, z, rfl⟩
        obtain ⟨hi3, rfl⟩ := rngL_at _ _ _ _ _ hi
        have hi3 : i < 20 := hi3
        refine hv_of rfl ?_
        simp only [List.set_cons_zero, List.set_cons_succ, seqQ, loopQ]
        repeat' (first
          | with_reducible refine w_seq ?_ | with_reducible refine w_nx ?_ | with_reducible refine w_bk ?_ | with_reducible refine w_ct ?_ | with_reducible refine w_if ?_ | with_reducible refine w_ret ?_ | with_reducible refine w_retO ?_ | with_reducible refine w_set ?_ | with_reducible refine w_setO ?_
          | with_reducible refine w_asg ?_ | with_reducible refine w_drop ?_ | with_reducible refine w_par ?_
          | with_reducible refine we_q ?_ | with_reducible refine wt_q ?_ | with_reducible refine wl_own ?_ | with_reducible refine we_op2 ?_ | with_reducible refine wl_nil ?_ | with_reducible refine wl_cons ?_ | with_reducible refine we_tup ?_ | with_reducible refine wl_lst ?_ | with_reducible refine we_call ?_
          | with_reducible refine wt_v ?_ | with_reducible refine wt_not ?_ | with_reducible refine wt_and ?_ | with_reducible refine wt_or ?_ | with_reducible refine we_if ?_ | with_reducible refine we_is ?_
          | with_reducible refine wq_c ?_ | with_reducible refine wq_op1 ?_ | with_reducible refine wq_op2 ?_ | with_reducible refine wq_nil ?_ | with_reducible refine wq_cons ?_ | with_reducible refine wq_tup ?_ | with_reducible refine wq_lst ?_ | with_reducible refine wq_if ?_ | with_reducible refine wq_tv ?_ | with_reducible refine wq_notT ?_ | with_reducible refine wq_andT ?_ | with_reducible refine wq_orT ?_ | with_reducible refine wq_call ?_ | with_reducible refine wq_seq ?_
          | ((with_reducible refine' wq_var ?wpv ?_); (case wpv => rfl)) | ((with_reducible refine' wq_varO ?wpv ?_); (case wpv => rfl)) | ((with_reducible refine' wq_varI ?wpv ?_); (case wpv => rfl))
          | with_reducible refine wq_andV ?_ | with_reducible refine wq_orV ?_ | with_reducible refine wq_notV ?_ | with_reducible refine wq_chain ?_
          | with_reducible refine sq_nx ?_ | with_reducible refine sq_rt ?_ | with_reducible refine sq_bk ?_ | with_reducible refine sq_ct ?_ | with_reducible refine lp_nx ?_ | with_reducible refine lp_rt ?_ | with_reducible refine lp_bk ?_ | with_reducible refine lp_ct ?_
          | (with_reducible refine hv_some ?_) | (with_reducible refine hv_add ?_) | (with_reducible refine hv_sub ?_) | (with_reducible refine hv_eq ?_) | (with_reducible refine hv_ne ?_) | (with_reducible refine hv_lt ?_) | (with_reducible refine hv_le ?_) | (with_reducible refine hv_gt ?_) | (with_reducible refine hv_ge ?_) | (with_reducible refine ex_bool ?_))
        refine ⟨fun c => ?_, fun c => ?_⟩
        · rw [beq_iff_eq] at c
          repeat' (first
            | with_reducible refine w_seq ?_ | with_reducible refine w_nx ?_ | with_reducible refine w_bk ?_ | with_reducible refine w_ct ?_ | with_reducible refine w_if ?_ | with_reducible refine w_ret ?_ | with_reducible refine w_retO ?_ | with_reducible refine w_set ?_ | with_reducible refine w_setO ?_
            | with_reducible refine w_asg ?_ | with_reducible refine w_drop ?_ | with_reducible refine w_par ?_
            | with_reducible refine we_q ?_ | with_reducible refine wt_q ?_ | with_reducible refine wl_own ?_ | with_reducible refine we_op2 ?_ | with_reducible refine wl_nil ?_ | with_reducible refine wl_cons ?_ | with_reducible refine we_tup ?_ | with_reducible refine wl_lst ?_ | with_reducible refine we_call ?_
            | with_reducible refine wt_v ?_ | with_reducible refine wt_not ?_ | with_reducible refine wt_and ?_ | with_reducible refine wt_or ?_ | with_reducible refine we_if ?_ | with_reducible refine we_is ?_
            | with_reducible refine wq_c ?_ | with_reducible refine wq_op1 ?_ | with_reducible refine wq_op2 ?_ | with_reducible refine wq_nil ?_ | with_reducible refine wq_cons ?_ | with_reducible refine wq_tup ?_ | with_reducible refine wq_lst ?_ | with_reducible refine wq_if ?_ | with_reducible refine wq_tv ?_ | with_reducible refine wq_notT ?_ | with_reducible refine wq_andT ?_ | with_reducible refine wq_orT ?_ | with_reducible refine wq_call ?_ | with_reducible refine wq_seq ?_
            | ((with_reducible refine' wq_var ?wpv ?_); (case wpv => rfl)) | ((with_reducible refine' wq_varO ?wpv ?_); (case wpv => rfl)) | ((with_reducible refine' wq_varI ?wpv ?_); (case wpv => rfl))
            | with_reducible refine wq_andV ?_ | with_reducible refine wq_orV ?_ | with_reducible refine wq_notV ?_ | with_reducible refine wq_chain ?_
            | with_reducible refine sq_nx ?_ | with_reducible refine sq_rt ?_ | with_reducible refine sq_bk ?_ | with_reducible refine sq_ct ?_ | with_reducible refine lp_nx ?_ | with_reducible refine lp_rt ?_ | with_reducible refine lp_bk ?_ | with_reducible refine lp_ct ?_
            | (with_reducible refine hv_some ?_) | (with_reducible refine hv_add ?_) | (with_reducible refine hv_sub ?_) | (with_reducible refine hv_eq ?_) | (with_reducible refine hv_ne ?_) | (with_reducible refine hv_lt ?_) | (with_reducible refine hv_le ?_) | (with_reducible refine hv_gt ?_) | (with_reducible refine hv_ge ?_) | (with_reducible refine ex_bool ?_))
          have e := gcdp_stop n i c (20 - i)
          rw [show i + (20 - i) = 20 by omega] at e
          rw [e]
          exact ⟨_, rfl⟩
        · have c0 : ¬ (gcdp n i).2 = 0 := fun z => by rw [z] at c; simp at c
          have c1 := gcdp_nn n i
          repeat' (first
            | with_reducible refine w_seq ?_ | with_reducible refine w_nx ?_ | with_reducible refine w_bk ?_ | with_reducible refine w_ct ?_ | with_reducible refine w_if ?_ | with_reducible refine w_ret ?_ | with_reducible refine w_retO ?_ | with_reducible refine w_set ?_ | with_reducible refine w_setO ?_
            | with_reducible refine w_asg ?_ | with_reducible refine w_drop ?_ | with_reducible refine w_par ?_
            | with_reducible refine we_q ?_ | with_reducible refine wt_q ?_ | with_reducible refine wl_own ?_ | with_reducible refine we_op2 ?_ | with_reducible refine wl_nil ?_ | with_reducible refine wl_cons ?_ | with_reducible refine we_tup ?_ | with_reducible refine wl_lst ?_ | with_reducible refine we_call ?_
            | with_reducible refine wt_v ?_ | with_reducible refine wt_not ?_ | with_reducible refine wt_and ?_ | with_reducible refine wt_or ?_ | with_reducible refine we_if ?_ | with_reducible refine we_is ?_
            | with_reducible refine wq_c ?_ | with_reducible refine wq_op1 ?_ | with_reducible refine wq_op2 ?_ | with_reducible refine wq_nil ?_ | with_reducible refine wq_cons ?_ | with_reducible refine wq_tup ?_ | with_reducible refine wq_lst ?_ | with_reducible refine wq_if ?_ | with_reducible refine wq_tv ?_ | with_reducible refine wq_notT ?_ | with_reducible refine wq_andT ?_ | with_reducible refine wq_orT ?_ | with_reducible refine wq_call ?_ | with_reducible refine wq_seq ?_
            | ((with_reducible refine' wq_var ?wpv ?_); (case wpv => rfl)) | ((with_reducible refine' wq_varO ?wpv ?_); (case wpv => rfl)) | ((with_reducible refine' wq_varI ?wpv ?_); (case wpv => rfl))
            | with_reducible refine wq_andV ?_ | with_reducible refine wq_orV ?_ | with_reducible refine wq_notV ?_ | with_reducible refine wq_chain ?_
            | with_reducible refine sq_nx ?_ | with_reducible refine sq_rt ?_ | with_reducible refine sq_bk ?_ | with_reducible refine sq_ct ?_ | with_reducible refine lp_nx ?_ | with_reducible refine lp_rt ?_ | with_reducible refine lp_bk ?_ | with_reducible refine lp_ct ?_
            | (with_reducible refine hv_some ?_) | (with_reducible refine hv_add ?_) | (with_reducible refine hv_sub ?_) | (with_reducible refine hv_eq ?_) | (with_reducible refine hv_ne ?_) | (with_reducible refine hv_lt ?_) | (with_reducible refine hv_le ?_) | (with_reducible refine hv_gt ?_) | (with_reducible refine hv_ge ?_) | (with_reducible refine ex_bool ?_))
          refine hv_mod (by omega) ?_
          repeat' (first
            | with_reducible refine w_seq ?_ | with_reducible refine w_nx ?_ | with_reducible refine w_bk ?_ | with_reducible refine w_ct ?_ | with_reducible refine w_if ?_ | with_reducible refine w_ret ?_ | with_reducible refine w_retO ?_ | with_reducible refine w_set ?_ | with_reducible refine w_setO ?_
            | with_reducible refine w_asg ?_ | with_reducible refine w_drop ?_ | with_reducible refine w_par ?_
            | with_reducible refine we_q ?_ | with_reducible refine wt_q ?_ | with_reducible refine wl_own ?_ | with_reducible refine we_op2 ?_ | with_reducible refine wl_nil ?_ | with_reducible refine wl_cons ?_ | with_reducible refine we_tup ?_ | with_reducible refine wl_lst ?_ | with_reducible refine we_call ?_
            | with_reducible refine wt_v ?_ | with_reducible refine wt_not ?_ | with_reducible refine wt_and ?_ | with_reducible refine wt_or ?_ | with_reducible refine we_if ?_ | with_reducible refine we_is ?_
            | with_reducible refine wq_c ?_ | with_reducible refine wq_op1 ?_ | with_reducible refine wq_op2 ?_ | with_reducible refine wq_nil ?_ | with_reducible refine wq_cons ?_ | with_reducible refine wq_tup ?_ | with_reducible refine wq_lst ?_ | with_reducible refine wq_if ?_ | with_reducible refine wq_tv ?_ | with_reducible refine wq_notT ?_ | with_reducible refine wq_andT ?_ | with_reducible refine wq_orT ?_ | with_reducible refine wq_call ?_ | with_reducible refine wq_seq ?_
            | ((with_reducible refine' wq_var ?wpv ?_); (case wpv => rfl)) | ((with_reducible refine' wq_varO ?wpv ?_); (case wpv => rfl)) | ((with_reducible refine' wq_varI ?wpv ?_); (case wpv => rfl))
            | with_reducible refine wq_andV ?_ | with_reducible refine wq_orV ?_ | with_reducible refine wq_notV ?_ | with_reducible refine wq_chain ?_
            | with_reducible refine sq_nx ?_ | with_reducible refine sq_rt ?_ | with_reducible refine sq_bk ?_ | with_reducible refine sq_ct ?_ | with_reducible refine lp_nx ?_ | with_reducible refine lp_rt ?_ | with_reducible refine lp_bk ?_ | with_reducible refine lp_ct ?_
            | (with_reducible refine hv_some ?_) | (with_reducible refine hv_add ?_) | (with_reducible refine hv_sub ?_) | (with_reducible refine hv_eq ?_) | (with_reducible refine hv_ne ?_) | (with_reducible refine hv_lt ?_) | (with_reducible refine hv_le ?_) | (with_reducible refine hv_gt ?_) | (with_reducible refine hv_ge ?_) | (with_reducible refine ex_bool ?_))
          refine ⟨_, _, rfl, by simp, by simp, ?_⟩
          simp only [List.set_cons_zero, List.set_cons_succ, seqQ, loopQ]
          repeat' (first
            | with_reducible refine w_seq ?_ | with_reducible refine w_nx ?_ | with_reducible refine w_bk ?_ | with_reducible refine w_ct ?_ | with_reducible refine w_if ?_ | with_reducible refine w_ret ?_ | with_reducible refine w_retO ?_ | with_reducible refine w_set ?_ | with_reducible refine w_setO ?_
            | with_reducible refine w_asg ?_ | with_reducible refine w_drop ?_ | with_reducible refine w_par ?_
            | with_reducible refine we_q ?_ | with_reducible refine wt_q ?_ | with_reducible refine wl_own ?_ | with_reducible refine we_op2 ?_ | with_reducible refine wl_nil ?_ | with_reducible refine wl_cons ?_ | with_reducible refine we_tup ?_ | with_reducible refine wl_lst ?_ | with_reducible refine we_call ?_
            | with_reducible refine wt_v ?_ | with_reducible refine wt_not ?_ | with_reducible refine wt_and ?_ | with_reducible refine wt_or ?_ | with_reducible refine we_if ?_ | with_reducible refine we_is ?_
            | with_reducible refine wq_c ?_ | with_reducible refine wq_op1 ?_ | with_reducible refine wq_op2 ?_ | with_reducible refine wq_nil ?_ | with_reducible refine wq_cons ?_ | with_reducible refine wq_tup ?_ | with_reducible refine wq_lst ?_ | with_reducible refine wq_if ?_ | with_reducible refine wq_tv ?_ | with_reducible refine wq_notT ?_ | with_reducible refine wq_andT ?_ | with_reducible refine wq_orT ?_ | with_reducible refine wq_call ?_ | with_reducible refine wq_seq ?_
            | ((with_reducible refine' wq_var ?wpv ?_); (case wpv => rfl)) | ((with_reducible refine' wq_varO ?wpv ?_); (case wpv => rfl)) | ((with_reducible refine' wq_varI ?wpv ?_); (case wpv => rfl))
            | with_reducible refine wq_andV ?_ | with_reducible refine wq_orV ?_ | with_reducible refine wq_notV ?_ | with_reducible refine wq_chain ?_
            | with_reducible refine sq_nx ?_ | with_reducible refine sq_rt ?_ | with_reducible refine sq_bk ?_ | with_reducible refine sq_ct ?_ | with_reducible refine lp_nx ?_ | with_reducible refine lp_rt ?_ | with_reducible refine lp_bk ?_ | with_reducible refine lp_ct ?_
            | (with_reducible refine hv_some ?_) | (with_reducible refine hv_add ?_) | (with_reducible refine hv_sub ?_) | (with_reducible refine hv_eq ?_) | (with_reducible refine hv_ne ?_) | (with_reducible refine hv_lt ?_) | (with_reducible refine hv_le ?_) | (with_reducible refine hv_gt ?_) | (with_reducible refine hv_ge ?_) | (with_reducible refine ex_bool ?_))
          have e : gcdp n (i + 1) = ((gcdp n i).2, (gcdp n i).1 % (gcdp n i).2) := by
            show est (gcdp n i) = _
            unfold est
            rw [if_neg c0]
          exact ⟨by omega, _, by rw [e]⟩
      · rintro s ⟨_, z, rfl⟩
        exact ⟨z, rfl⟩
    · rintro f ⟨z, rfl⟩
      repeat' (first
        | with_reducible refine w_seq ?_ | with_reducible refine w_nx ?_ | with_reducible refine w_bk ?_ | with_reducible refine w_ct ?_ | with_reducible refine w_if ?_ | with_reducible refine w_ret ?_ | with_reducible refine w_retO ?_ | with_reducible refine w_set ?_ | with_reducible refine w_setO ?_
        | with_reducible refine w_asg ?_ | with_reducible refine w_drop ?_ | with_reducible refine w_par ?_
        | with_reducible refine we_q ?_ | with_reducible refine wt_q ?_ | with_reducible refine wl_own ?_ | with_reducible refine we_op2 ?_ | with_reducible refine wl_nil ?_ | with_reducible refine wl_cons ?_ | with_reducible refine we_tup ?_ | with_reducible refine wl_lst ?_ | with_reducible refine we_call ?_
        | with_reducible refine wt_v ?_ | with_reducible refine wt_not ?_ | with_reducible refine wt_and ?_ | with_reducible refine wt_or ?_ | with_reducible refine we_if ?_ | with_reducible refine we_is ?_
        | with_reducible refine wq_c ?_ | with_reducible refine wq_op1 ?_ | with_reducible refine wq_op2 ?_ | with_reducible refine wq_nil ?_ | with_reducible refine wq_cons ?_ | with_reducible refine wq_tup ?_ | with_reducible refine wq_lst ?_ | with_reducible refine wq_if ?_ | with_reducible refine wq_tv ?_ | with_reducible refine wq_notT ?_ | with_reducible refine wq_andT ?_ | with_reducible refine wq_orT ?_ | with_reducible refine wq_call ?_ | with_reducible refine wq_seq ?_
        | ((with_reducible refine' wq_var ?wpv ?_); (case wpv => rfl)) | ((with_reducible refine' wq_varO ?wpv ?_); (case wpv => rfl)) | ((with_reducible refine' wq_varI ?wpv ?_); (case wpv => rfl))
        | with_reducible refine wq_andV ?_ | with_reducible refine wq_orV ?_ | with_reducible refine wq_notV ?_ | with_reducible refine wq_chain ?_
        | with_reducible refine sq_nx ?_ | with_reducible refine sq_rt ?_ | with_reducible refine sq_bk ?_ | with_reducible refine sq_ct ?_ | with_reducible refine lp_nx ?_ | with_reducible refine lp_rt ?_ | with_reducible refine lp_bk ?_ | with_reducible refine lp_ct ?_
        | (with_reducible refine hv_some ?_) | (with_reducible refine hv_add ?_) | (with_reducible refine hv_sub ?_) | (with_reducible refine hv_eq ?_) | (with_reducible refine hv_ne ?_) | (with_reducible refine hv_lt ?_) | (with_reducible refine hv_le ?_) | (with_reducible refine hv_gt ?_) | (with_reducible refine hv_ge ?_) | (with_reducible refine ex_bool ?_))
      refine hv_div g0 (small_big gs) ?_
      repeat' (first
        | with_reducible refine w_seq ?_ | with_reducible refine w_nx ?_ | with_reducible refine w_bk ?_ | with_reducible refine w_ct ?_ | with_reducible refine w_if ?_ | with_reducible refine w_ret ?_ | with_reducible refine w_retO ?_ | with_reducible refine w_set ?_ | with_reducible refine w_setO ?_
        | with_reducible refine w_asg ?_ | with_reducible refine w_drop ?_ | with_reducible refine w_par ?_
        | with_reducible refine we_q ?_ | with_reducible refine wt_q ?_ | with_reducible refine wl_own ?_ | with_reducible refine we_op2 ?_ | with_reducible refine wl_nil ?_ | with_reducible refine wl_cons ?_ | with_reducible refine we_tup ?_ | with_reducible refine wl_lst ?_ | with_reducible refine we_call ?_
        | with_reducible refine wt_v ?_ | with_reducible refine wt_not ?_ | with_reducible refine wt_and ?_ | with_reducible refine wt_or ?_ | with_reducible refine we_if ?_ | with_reducible refine we_is ?_
        | with_reducible refine wq_c ?_ | with_reducible refine wq_op1 ?_ | with_reducible refine wq_op2 ?_ | with_reducible refine wq_nil ?_ | with_reducible refine wq_cons ?_ | with_reducible refine wq_tup ?_ | with_reducible refine wq_lst ?_ | with_reducible refine wq_if ?_ | with_reducible refine wq_tv ?_ | with_reducible refine wq_notT ?_ | with_reducible refine wq_andT ?_ | with_reducible refine wq_orT ?_ | with_reducible refine wq_call ?_ | with_reducible refine wq_seq ?_
        | ((with_reducible refine' wq_var ?wpv ?_); (case wpv => rfl)) | ((with_reducible refine' wq_varO ?wpv ?_); (case wpv => rfl)) | ((with_reducible refine' wq_varI ?wpv ?_); (case wpv => rfl))
        | with_reducible refine wq_andV ?_ | with_reducible refine wq_orV ?_ | with_reducible refine wq_notV ?_ | with_reducible refine wq_chain ?_
        | with_reducible refine sq_nx ?_ | with_reducible refine sq_rt ?_ | with_reducible refine sq_bk ?_ | with_reducible refine sq_ct ?_ | with_reducible refine lp_nx ?_ | with_reducible refine lp_rt ?_ | with_reducible refine lp_bk ?_ | with_reducible refine lp_ct ?_
        | (with_reducible refine hv_some ?_) | (with_reducible refine hv_add ?_) | (with_reducible refine hv_sub ?_) | (with_reducible refine hv_eq ?_) | (with_reducible refine hv_ne ?_) | (with_reducible refine hv_lt ?_) | (with_reducible refine hv_le ?_) | (with_reducible refine hv_gt ?_) | (with_reducible refine hv_ge ?_) | (with_reducible refine ex_bool ?_))
      refine hv_div g0 (small_big gs) ?_
      repeat' (first
        | with_reducible refine w_seq ?_ | with_reducible refine w_nx ?_ | with_reducible refine w_bk ?_ | with_reducible refine w_ct ?_ | with_reducible refine w_if ?_ | with_reducible refine w_ret ?_ | with_reducible refine w_retO ?_ | with_reducible refine w_set ?_ | with_reducible refine w_setO ?_
        | with_reducible refine w_asg ?_ | with_reducible refine w_drop ?_ | with_reducible refine w_par ?_
        | with_reducible refine we_q ?_ | with_reducible refine wt_q ?_ | with_reducible refine wl_own ?_ | with_reducible refine we_op2 ?_ | with_reducible refine wl_nil ?_ | with_reducible refine wl_cons ?_ | with_reducible refine we_tup ?_ | with_reducible refine wl_lst ?_ | with_reducible refine we_call ?_
        | with_reducible refine wt_v ?_ | with_reducible refine wt_not ?_ | with_reducible refine wt_and ?_ | with_reducible refine wt_or ?_ | with_reducible refine we_if ?_ | with_reducible refine we_is ?_
        | with_reducible refine wq_c ?_ | with_reducible refine wq_op1 ?_ | with_reducible refine wq_op2 ?_ | with_reducible refine wq_nil ?_ | with_reducible refine wq_cons ?_ | with_reducible refine wq_tup ?_ | with_reducible refine wq_lst ?_ | with_reducible refine wq_if ?_ | with_reducible refine wq_tv ?_ | with_reducible refine wq_notT ?_ | with_reducible refine wq_andT ?_ | with_reducible refine wq_orT ?_ | with_reducible refine wq_call ?_ | with_reducible refine wq_seq ?_
        | ((with_reducible refine' wq_var ?wpv ?_); (case wpv => rfl)) | ((with_reducible refine' wq_varO ?wpv ?_); (case wpv => rfl)) | ((with_reducible refine' wq_varI ?wpv ?_); (case wpv => rfl))
        | with_reducible refine wq_andV ?_ | with_reducible refine wq_orV ?_ | with_reducible refine wq_notV ?_ | with_reducible refine wq_chain ?_
        | with_reducible refine sq_nx ?_ | with_reducible refine sq_rt ?_ | with_reducible refine sq_bk ?_ | with_reducible refine sq_ct ?_ | with_reducible refine lp_nx ?_ | with_reducible refine lp_rt ?_ | with_reducible refine lp_bk ?_ | with_reducible refine lp_ct ?_
        | (with_reducible refine hv_some ?_) | (with_reducible refine hv_add ?_) | (with_reducible refine hv_sub ?_) | (with_reducible refine hv_eq ?_) | (with_reducible refine hv_ne ?_) | (with_reducible refine hv_lt ?_) | (with_reducible refine hv_le ?_) | (with_reducible refine hv_gt ?_) | (with_reducible refine hv_ge ?_) | (with_reducible refine ex_bool ?_))
      refine len10 (by simp) ⟨by simp, ?_⟩
      simp only [List.set_cons_zero, List.set_cons_succ, seqQ, loopQ]
      have sa : small (((n : Int) + 1) / (gcdp n 20).1) = true := small_div (by omega) (by omega) g0
      have sb : small (2 * (n : Int) / (gcdp n 20).1) = true := small_div (by omega) (by omega) g0
      repeat' (first
        | with_reducible refine w_seq ?_ | with_reducible refine w_nx ?_ | with_reducible refine w_bk ?_ | with_reducible refine w_ct ?_ | with_reducible refine w_if ?_ | with_reducible refine w_ret ?_ | with_reducible refine w_retO ?_ | with_reducible refine w_set ?_ | with_reducible refine w_setO ?_
        | with_reducible refine w_asg ?_ | with_reducible refine w_drop ?_ | with_reducible refine w_par ?_
        | with_reducible refine we_q ?_ | with_reducible refine wt_q ?_ | with_reducible refine wl_own ?_ | with_reducible refine we_op2 ?_ | with_reducible refine wl_nil ?_ | with_reducible refine wl_cons ?_ | with_reducible refine we_tup ?_ | with_reducible refine wl_lst ?_ | with_reducible refine we_call ?_
        | with_reducible refine wt_v ?_ | with_reducible refine wt_not ?_ | with_reducible refine wt_and ?_ | with_reducible refine wt_or ?_ | with_reducible refine we_if ?_ | with_reducible refine we_is ?_
        | with_reducible refine wq_c ?_ | with_reducible refine wq_op1 ?_ | with_reducible refine wq_op2 ?_ | with_reducible refine wq_nil ?_ | with_reducible refine wq_cons ?_ | with_reducible refine wq_tup ?_ | with_reducible refine wq_lst ?_ | with_reducible refine wq_if ?_ | with_reducible refine wq_tv ?_ | with_reducible refine wq_notT ?_ | with_reducible refine wq_andT ?_ | with_reducible refine wq_orT ?_ | with_reducible refine wq_call ?_ | with_reducible refine wq_seq ?_
        | ((with_reducible refine' wq_var ?wpv ?_); (case wpv => rfl)) | ((with_reducible refine' wq_varO ?wpv ?_); (case wpv => rfl)) | ((with_reducible refine' wq_varI ?wpv ?_); (case wpv => rfl))
        | with_reducible refine wq_andV ?_ | with_reducible refine wq_orV ?_ | with_reducible refine wq_notV ?_ | with_reducible refine wq_chain ?_
        | with_reducible refine sq_nx ?_ | with_reducible refine sq_rt ?_ | with_reducible refine sq_bk ?_ | with_reducible refine sq_ct ?_ | with_reducible refine lp_nx ?_ | with_reducible refine lp_rt ?_ | with_reducible refine lp_bk ?_ | with_reducible refine lp_ct ?_
        | (with_reducible refine hv_some ?_) | (with_reducible refine hv_add ?_) | (with_reducible refine hv_sub ?_) | (with_reducible refine hv_eq ?_) | (with_reducible refine hv_ne ?_) | (with_reducible refine hv_lt ?_) | (with_reducible refine hv_le ?_) | (with_reducible refine hv_gt ?_) | (with_reducible refine hv_ge ?_) | (with_reducible refine ex_bool ?_))
      refine hv_of rfl ?_
      refine mul_s d3 sb ?_
      repeat' (first
        | with_reducible refine w_seq ?_ | with_reducible refine w_nx ?_ | with_reducible refine w_bk ?_ | with_reducible refine w_ct ?_ | with_reducible refine w_if ?_ | with_reducible refine w_ret ?_ | with_reducible refine w_retO ?_ | with_reducible refine w_set ?_ | with_reducible refine w_setO ?_
        | with_reducible refine w_asg ?_ | with_reducible refine w_drop ?_ | with_reducible refine w_par ?_
        | with_reducible refine we_q ?_ | with_reducible refine wt_q ?_ | with_reducible refine wl_own ?_ | with_reducible refine we_op2 ?_ | with_reducible refine wl_nil ?_ | with_reducible refine wl_cons ?_ | with_reducible refine we_tup ?_ | with_reducible refine wl_lst ?_ | with_reducible refine we_call ?_
        | with_reducible refine wt_v ?_ | with_reducible refine wt_not ?_ | with_reducible refine wt_and ?_ | with_reducible refine wt_or ?_ | with_reducible refine we_if ?_ | with_reducible refine we_is ?_
        | with_reducible refine wq_c ?_ | with_reducible refine wq_op1 ?_ | with_reducible refine wq_op2 ?_ | with_reducible refine wq_nil ?_ | with_reducible refine wq_cons ?_ | with_reducible refine wq_tup ?_ | with_reducible refine wq_lst ?_ | with_reducible refine wq_if ?_ | with_reducible refine wq_tv ?_ | with_reducible refine wq_notT ?_ | with_reducible refine wq_andT ?_ | with_reducible refine wq_orT ?_ | with_reducible refine wq_call ?_ | with_reducible refine wq_seq ?_
        | ((with_reducible refine' wq_var ?wpv ?_); (case wpv => rfl)) | ((with_reducible refine' wq_varO ?wpv ?_); (case wpv => rfl)) | ((with_reducible refine' wq_varI ?wpv ?_); (case wpv => rfl))
        | with_reducible refine wq_andV ?_ | with_reducible refine wq_orV ?_ | with_reducible refine wq_notV ?_ | with_reducible refine wq_chain ?_
        | with_reducible refine sq_nx ?_ | with_reducible refine sq_rt ?_ | with_reducible refine sq_bk ?_ | with_reducible refine sq_ct ?_ | with_reducible refine lp_nx ?_ | with_reducible refine lp_rt ?_ | with_reducible refine lp_bk ?_ | with_reducible refine lp_ct ?_
        | (with_reducible refine hv_some ?_) | (with_reducible refine hv_add ?_) | (with_reducible refine hv_sub ?_) | (with_reducible refine hv_eq ?_) | (with_reducible refine hv_ne ?_) | (with_reducible refine hv_lt ?_) | (with_reducible refine hv_le ?_) | (with_reducible refine hv_gt ?_) | (with_reducible refine hv_ge ?_) | (with_reducible refine ex_bool ?_))
      refine hv_of rfl ?_
      refine mul_s d2 sa ?_
      repeat' (first
        | with_reducible refine w_seq ?_ | with_reducible refine w_nx ?_ | with_reducible refine w_bk ?_ | with_reducible refine w_ct ?_ | with_reducible refine w_if ?_ | with_reducible refine w_ret ?_ | with_reducible refine w_retO ?_ | with_reducible refine w_set ?_ | with_reducible refine w_setO ?_
        | with_reducible refine w_asg ?_ | with_reducible refine w_drop ?_ | with_reducible refine w_par ?_
        | with_reducible refine we_q ?_ | with_reducible refine wt_q ?_ | with_reducible refine wl_own ?_ | with_reducible refine we_op2 ?_ | with_reducible refine wl_nil ?_ | with_reducible refine wl_cons ?_ | with_reducible refine we_tup ?_ | with_reducible refine wl_lst ?_ | with_reducible refine we_call ?_
        | with_reducible refine wt_v ?_ | with_reducible refine wt_not ?_ | with_reducible refine wt_and ?_ | with_reducible refine wt_or ?_ | with_reducible refine we_if ?_ | with_reducible refine we_is ?_
        | with_reducible refine wq_c ?_ | with_reducible refine wq_op1 ?_ | with_reducible refine wq_op2 ?_ | with_reducible refine wq_nil ?_ | with_reducible refine wq_cons ?_ | with_reducible refine wq_tup ?_ | with_reducible refine wq_lst ?_ | with_reducible refine wq_if ?_ | with_reducible refine wq_tv ?_ | with_reducible refine wq_notT ?_ | with_reducible refine wq_andT ?_ | with_reducible refine wq_orT ?_ | with_reducible refine wq_call ?_ | with_reducible refine wq_seq ?_
        | ((with_reducible refine' wq_var ?wpv ?_); (case wpv => rfl)) | ((with_reducible refine' wq_varO ?wpv ?_); (case wpv => rfl)) | ((with_reducible refine' wq_varI ?wpv ?_); (case wpv => rfl))
        | with_reducible refine wq_andV ?_ | with_reducible refine wq_orV ?_ | with_reducible refine wq_notV ?_ | with_reducible refine wq_chain ?_
        | with_reducible refine sq_nx ?_ | with_reducible refine sq_rt ?_ | with_reducible refine sq_bk ?_ | with_reducible refine sq_ct ?_ | with_reducible refine lp_nx ?_ | with_reducible refine lp_rt ?_ | with_reducible refine lp_bk ?_ | with_reducible refine lp_ct ?_
        | (with_reducible refine hv_some ?_) | (with_reducible refine hv_add ?_) | (with_reducible refine hv_sub ?_) | (with_reducible refine hv_eq ?_) | (with_reducible refine hv_ne ?_) | (with_reducible refine hv_lt ?_) | (with_reducible refine hv_le ?_) | (with_reducible refine hv_gt ?_) | (with_reducible refine hv_ge ?_) | (with_reducible refine ex_bool ?_))
      refine ⟨fun c => ?_, fun _ => ?_⟩
      · rw [show (gcdp n 20).1 = g1 n from rfl, ge] at c
        simp at c
      repeat' (first
        | with_reducible refine w_seq ?_ | with_reducible refine w_nx ?_ | with_reducible refine w_bk ?_ | with_reducible refine w_ct ?_ | with_reducible refine w_if ?_ | with_reducible refine w_ret ?_ | with_reducible refine w_retO ?_ | with_reducible refine w_set ?_ | with_reducible refine w_setO ?_
        | with_reducible refine w_asg ?_ | with_reducible refine w_drop ?_ | with_reducible refine w_par ?_
        | with_reducible refine we_q ?_ | with_reducible refine wt_q ?_ | with_reducible refine wl_own ?_ | with_reducible refine we_op2 ?_ | with_reducible refine wl_nil ?_ | with_reducible refine wl_cons ?_ | with_reducible refine we_tup ?_ | with_reducible refine wl_lst ?_ | with_reducible refine we_call ?_
        | with_reducible refine wt_v ?_ | with_reducible refine wt_not ?_ | with_reducible refine wt_and ?_ | with_reducible refine wt_or ?_ | with_reducible refine we_if ?_ | with_reducible refine we_is ?_
        | with_reducible refine wq_c ?_ | with_reducible refine wq_op1 ?_ | with_reducible refine wq_op2 ?_ | with_reducible refine wq_nil ?_ | with_reducible refine wq_cons ?_ | with_reducible refine wq_tup ?_ | with_reducible refine wq_lst ?_ | with_reducible refine wq_if ?_ | with_reducible refine wq_tv ?_ | with_reducible refine wq_notT ?_ | with_reducible refine wq_andT ?_ | with_reducible refine wq_orT ?_ | with_reducible refine wq_call ?_ | with_reducible refine wq_seq ?_
        | ((with_reducible refine' wq_var ?wpv ?_); (case wpv => rfl)) | ((with_reducible refine' wq_varO ?wpv ?_); (case wpv => rfl)) | ((with_reducible refine' wq_varI ?wpv ?_); (case wpv => rfl))
        | with_reducible refine wq_andV ?_ | with_reducible refine wq_orV ?_ | with_reducible refine wq_notV ?_ | with_reducible refine wq_chain ?_
        | with_reducible refine sq_nx ?_ | with_reducible refine sq_rt ?_ | with_reducible refine sq_bk ?_ | with_reducible refine sq_ct ?_ | with_reducible refine lp_nx ?_ | with_reducible refine lp_rt ?_ | with_reducible refine lp_bk ?_ | with_reducible refine lp_ct ?_
        | (with_reducible refine hv_some ?_) | (with_reducible refine hv_add ?_) | (with_reducible refine hv_sub ?_) | (with_reducible refine hv_eq ?_) | (with_reducible refine hv_ne ?_) | (with_reducible refine hv_lt ?_) | (with_reducible refine hv_le ?_) | (with_reducible refine hv_gt ?_) | (with_reducible refine hv_ge ?_) | (with_reducible refine ex_bool ?_))
      refine hv_of gk ?_
      repeat' (first
        | with_reducible refine w_seq ?_ | with_reducible refine w_nx ?_ | with_reducible refine w_bk ?_ | with_reducible refine w_ct ?_ | with_reducible refine w_if ?_ | with_reducible refine w_ret ?_ | with_reducible refine w_retO ?_ | with_reducible refine w_set ?_ | with_reducible refine w_setO ?_
        | with_reducible refine w_asg ?_ | with_reducible refine w_drop ?_ | with_reducible refine w_par ?_
        | with_reducible refine we_q ?_ | with_reducible refine wt_q ?_ | with_reducible refine wl_own ?_ | with_reducible refine we_op2 ?_ | with_reducible refine wl_nil ?_ | with_reducible refine wl_cons ?_ | with_reducible refine we_tup ?_ | with_reducible refine wl_lst ?_ | with_reducible refine we_call ?_
        | with_reducible refine wt_v ?_ | with_reducible refine wt_not ?_ | with_reducible refine wt_and ?_ | with_reducible refine wt_or ?_ | with_reducible refine we_if ?_ | with_reducible refine we_is ?_
        | with_reducible refine wq_c ?_ | with_reducible refine wq_op1 ?_ | with_reducible refine wq_op2 ?_ | with_reducible refine wq_nil ?_ | with_reducible refine wq_cons ?_ | with_reducible refine wq_tup ?_ | with_reducible refine wq_lst ?_ | with_reducible refine wq_if ?_ | with_reducible refine wq_tv ?_ | with_reducible refine wq_notT ?_ | with_reducible refine wq_andT ?_ | with_reducible refine wq_orT ?_ | with_reducible refine wq_call ?_ | with_reducible refine wq_seq ?_
        | ((with_reducible refine' wq_var ?wpv ?_); (case wpv => rfl)) | ((with_reducible refine' wq_varO ?wpv ?_); (case wpv => rfl)) | ((with_reducible refine' wq_varI ?wpv ?_); (case wpv => rfl))
        | with_reducible refine wq_andV ?_ | with_reducible refine wq_orV ?_ | with_reducible refine wq_notV ?_ | with_reducible refine wq_chain ?_
        | with_reducible refine sq_nx ?_ | with_reducible refine sq_rt ?_ | with_reducible refine sq_bk ?_ | with_reducible refine sq_ct ?_ | with_reducible refine lp_nx ?_ | with_reducible refine lp_rt ?_ | with_reducible refine lp_bk ?_ | with_reducible refine lp_ct ?_
        | (with_reducible refine hv_some ?_) | (with_reducible refine hv_add ?_) | (with_reducible refine hv_sub ?_) | (with_reducible refine hv_eq ?_) | (with_reducible refine hv_ne ?_) | (with_reducible refine hv_lt ?_) | (with_reducible refine hv_le ?_) | (with_reducible refine hv_gt ?_) | (with_reducible refine hv_ge ?_) | (with_reducible refine ex_bool ?_))
      refine hv_of gk ⟨isOk_two sa sb, ?_⟩
      repeat' (first
        | with_reducible refine w_seq ?_ | with_reducible refine w_nx ?_ | with_reducible refine w_bk ?_ | with_reducible refine w_ct ?_ | with_reducible refine w_if ?_ | with_reducible refine w_ret ?_ | with_reducible refine w_retO ?_ | with_reducible refine w_set ?_ | with_reducible refine w_setO ?_
        | with_reducible refine w_asg ?_ | with_reducible refine w_drop ?_ | with_reducible refine w_par ?_
        | with_reducible refine we_q ?_ | with_reducible refine wt_q ?_ | with_reducible refine wl_own ?_ | with_reducible refine we_op2 ?_ | with_reducible refine wl_nil ?_ | with_reducible refine wl_cons ?_ | with_reducible refine we_tup ?_ | with_reducible refine wl_lst ?_ | with_reducible refine we_call ?_
        | with_reducible refine wt_v ?_ | with_reducible refine wt_not ?_ | with_reducible refine wt_and ?_ | with_reducible refine wt_or ?_ | with_reducible refine we_if ?_ | with_reducible refine we_is ?_
        | with_reducible refine wq_c ?_ | with_reducible refine wq_op1 ?_ | with_reducible refine wq_op2 ?_ | with_reducible refine wq_nil ?_ | with_reducible refine wq_cons ?_ | with_reducible refine wq_tup ?_ | with_reducible refine wq_lst ?_ | with_reducible refine wq_if ?_ | with_reducible refine wq_tv ?_ | with_reducible refine wq_notT ?_ | with_reducible refine wq_andT ?_ | with_reducible refine wq_orT ?_ | with_reducible refine wq_call ?_ | with_reducible refine wq_seq ?_
        | ((with_reducible refine' wq_var ?wpv ?_); (case wpv => rfl)) | ((with_reducible refine' wq_varO ?wpv ?_); (case wpv => rfl)) | ((with_reducible refine' wq_varI ?wpv ?_); (case wpv => rfl))
        | with_reducible refine wq_andV ?_ | with_reducible refine wq_orV ?_ | with_reducible refine wq_notV ?_ | with_reducible refine wq_chain ?_
        | with_reducible refine sq_nx ?_ | with_reducible refine sq_rt ?_ | with_reducible refine sq_bk ?_ | with_reducible refine sq_ct ?_ | with_reducible refine lp_nx ?_ | with_reducible refine lp_rt ?_ | with_reducible refine lp_bk ?_ | with_reducible refine lp_ct ?_
        | (with_reducible refine hv_some ?_) | (with_reducible refine hv_add ?_) | (with_reducible refine hv_sub ?_) | (with_reducible refine hv_eq ?_) | (with_reducible refine hv_ne ?_) | (with_reducible refine hv_lt ?_) | (with_reducible refine hv_le ?_) | (with_reducible refine hv_gt ?_) | (with_reducible refine hv_ge ?_) | (with_reducible refine ex_bool ?_))
      refine ⟨(fun c => absurd c (by decide)), fun _ => ?_⟩
      obtain ⟨l1, l2, l3, l4⟩ := fL n hn
      repeat' (first
        | with_reducible refine w_seq ?_ | with_reducible refine w_nx ?_ | with_reducible refine w_bk ?_ | with_reducible refine w_ct ?_ | with_reducible refine w_if ?_ | with_reducible refine w_ret ?_ | with_reducible refine w_retO ?_ | with_reducible refine w_set ?_ | with_reducible refine w_setO ?_
        | with_reducible refine w_asg ?_ | with_reducible refine w_drop ?_ | with_reducible refine w_par ?_
        | with_reducible refine we_q ?_ | with_reducible refine wt_q ?_ | with_reducible refine wl_own ?_ | with_reducible refine we_op2 ?_ | with_reducible refine wl_nil ?_ | with_reducible refine wl_cons ?_ | with_reducible refine we_tup ?_ | with_reducible refine wl_lst ?_ | with_reducible refine we_call ?_
        | with_reducible refine wt_v ?_ | with_reducible refine wt_not ?_ | with_reducible refine wt_and ?_ | with_reducible refine wt_or ?_ | with_reducible refine we_if ?_ | with_reducible refine we_is ?_
        | with_reducible refine wq_c ?_ | with_reducible refine wq_op1 ?_ | with_reducible refine wq_op2 ?_ | with_reducible refine wq_nil ?_ | with_reducible refine wq_cons ?_ | with_reducible refine wq_tup ?_ | with_reducible refine wq_lst ?_ | with_reducible refine wq_if ?_ | with_reducible refine wq_tv ?_ | with_reducible refine wq_notT ?_ | with_reducible refine wq_andT ?_ | with_reducible refine wq_orT ?_ | with_reducible refine wq_call ?_ | with_reducible refine wq_seq ?_
        | ((with_reducible refine' wq_var ?wpv ?_); (case wpv => rfl)) | ((with_reducible refine' wq_varO ?wpv ?_); (case wpv => rfl)) | ((with_reducible refine' wq_varI ?wpv ?_); (case wpv => rfl))
        | with_reducible refine wq_andV ?_ | with_reducible refine wq_orV ?_ | with_reducible refine wq_notV ?_ | with_reducible refine wq_chain ?_
        | with_reducible refine sq_nx ?_ | with_reducible refine sq_rt ?_ | with_reducible refine sq_bk ?_ | with_reducible refine sq_ct ?_ | with_reducible refine lp_nx ?_ | with_reducible refine lp_rt ?_ | with_reducible refine lp_bk ?_ | with_reducible refine lp_ct ?_
        | (with_reducible refine hv_some ?_) | (with_reducible refine hv_add ?_) | (with_reducible refine hv_sub ?_) | (with_reducible refine hv_eq ?_) | (with_reducible refine hv_ne ?_) | (with_reducible refine hv_lt ?_) | (with_reducible refine hv_le ?_) | (with_reducible refine hv_gt ?_) | (with_reducible refine hv_ge ?_) | (with_reducible refine ex_bool ?_))
      refine hv_of l1 ⟨by simp, ?_⟩
      simp only [List.set_cons_zero, List.set_cons_succ, seqQ, loopQ]
      repeat' (first
        | with_reducible refine w_seq ?_ | with_reducible refine w_nx ?_ | with_reducible refine w_bk ?_ | with_reducible refine w_ct ?_ | with_reducible refine w_if ?_ | with_reducible refine w_ret ?_ | with_reducible refine w_retO ?_ | with_reducible refine w_set ?_ | with_reducible refine w_setO ?_
        | with_reducible refine w_asg ?_ | with_reducible refine w_drop ?_ | with_reducible refine w_par ?_
        | with_reducible refine we_q ?_ | with_reducible refine wt_q ?_ | with_reducible refine wl_own ?_ | with_reducible refine we_op2 ?_ | with_reducible refine wl_nil ?_ | with_reducible refine wl_cons ?_ | with_reducible refine we_tup ?_ | with_reducible refine wl_lst ?_ | with_reducible refine we_call ?_
        | with_reducible refine wt_v ?_ | with_reducible refine wt_not ?_ | with_reducible refine wt_and ?_ | with_reducible refine wt_or ?_ | with_reducible refine we_if ?_ | with_reducible refine we_is ?_
        | with_reducible refine wq_c ?_ | with_reducible refine wq_op1 ?_ | with_reducible refine wq_op2 ?_ | with_reducible refine wq_nil ?_ | with_reducible refine wq_cons ?_ | with_reducible refine wq_tup ?_ | with_reducible refine wq_lst ?_ | with_reducible refine wq_if ?_ | with_reducible refine wq_tv ?_ | with_reducible refine wq_notT ?_ | with_reducible refine wq_andT ?_ | with_reducible refine wq_orT ?_ | with_reducible refine wq_call ?_ | with_reducible refine wq_seq ?_
        | ((with_reducible refine' wq_var ?wpv ?_); (case wpv => rfl)) | ((with_reducible refine' wq_varO ?wpv ?_); (case wpv => rfl)) | ((with_reducible refine' wq_varI ?wpv ?_); (case wpv => rfl))
        | with_reducible refine wq_andV ?_ | with_reducible refine wq_orV ?_ | with_reducible refine wq_notV ?_ | with_reducible refine wq_chain ?_
        | with_reducible refine sq_nx ?_ | with_reducible refine sq_rt ?_ | with_reducible refine sq_bk ?_ | with_reducible refine sq_ct ?_ | with_reducible refine lp_nx ?_ | with_reducible refine lp_rt ?_ | with_reducible refine lp_bk ?_ | with_reducible refine lp_ct ?_
        | (with_reducible refine hv_some ?_) | (with_reducible refine hv_add ?_) | (with_reducible refine hv_sub ?_) | (with_reducible refine hv_eq ?_) | (with_reducible refine hv_ne ?_) | (with_reducible refine hv_lt ?_) | (with_reducible refine hv_le ?_) | (with_reducible refine hv_gt ?_) | (with_reducible refine hv_ge ?_) | (with_reducible refine ex_bool ?_))
      refine hv_of l2 ?_
      repeat' (first
        | with_reducible refine w_seq ?_ | with_reducible refine w_nx ?_ | with_reducible refine w_bk ?_ | with_reducible refine w_ct ?_ | with_reducible refine w_if ?_ | with_reducible refine w_ret ?_ | with_reducible refine w_retO ?_ | with_reducible refine w_set ?_ | with_reducible refine w_setO ?_
        | with_reducible refine w_asg ?_ | with_reducible refine w_drop ?_ | with_reducible refine w_par ?_
        | with_reducible refine we_q ?_ | with_reducible refine wt_q ?_ | with_reducible refine wl_own ?_ | with_reducible refine we_op2 ?_ | with_reducible refine wl_nil ?_ | with_reducible refine wl_cons ?_ | with_reducible refine we_tup ?_ | with_reducible refine wl_lst ?_ | with_reducible refine we_call ?_
        | with_reducible refine wt_v ?_ | with_reducible refine wt_not ?_ | with_reducible refine wt_and ?_ | with_reducible refine wt_or ?_ | with_reducible refine we_if ?_ | with_reducible refine we_is ?_
        | with_reducible refine wq_c ?_ | with_reducible refine wq_op1 ?_ | with_reducible refine wq_op2 ?_ | with_reducible refine wq_nil ?_ | with_reducible refine wq_cons ?_ | with_reducible refine wq_tup ?_ | with_reducible refine wq_lst ?_ | with_reducible refine wq_if ?_ | with_reducible refine wq_tv ?_ | with_reducible refine wq_notT ?_ | with_reducible refine wq_andT ?_ | with_reducible refine wq_orT ?_ | with_reducible refine wq_call ?_ | with_reducible refine wq_seq ?_
        | ((with_reducible refine' wq_var ?wpv ?_); (case wpv => rfl)) | ((with_reducible refine' wq_varO ?wpv ?_); (case wpv => rfl)) | ((with_reducible refine' wq_varI ?wpv ?_); (case wpv => rfl))
        | with_reducible refine wq_andV ?_ | with_reducible refine wq_orV ?_ | with_reducible refine wq_notV ?_ | with_reducible refine wq_chain ?_
        | with_reducible refine sq_nx ?_ | with_reducible refine sq_rt ?_ | with_reducible refine sq_bk ?_ | with_reducible refine sq_ct ?_ | with_reducible refine lp_nx ?_ | with_reducible refine lp_rt ?_ | with_reducible refine lp_bk ?_ | with_reducible refine lp_ct ?_
        | (with_reducible refine hv_some ?_) | (with_reducible refine hv_add ?_) | (with_reducible refine hv_sub ?_) | (with_reducible refine hv_eq ?_) | (with_reducible refine hv_ne ?_) | (with_reducible refine hv_lt ?_) | (with_reducible refine hv_le ?_) | (with_reducible refine hv_gt ?_) | (with_reducible refine hv_ge ?_) | (with_reducible refine ex_bool ?_))
      refine hv_of l2 ⟨isOk_int l4, ?_⟩
      repeat' (first
        | with_reducible refine w_seq ?_ | with_reducible refine w_nx ?_ | with_reducible refine w_bk ?_ | with_reducible refine w_ct ?_ | with_reducible refine w_if ?_ | with_reducible refine w_ret ?_ | with_reducible refine w_retO ?_ | with_reducible refine w_set ?_ | with_reducible refine w_setO ?_
        | with_reducible refine w_asg ?_ | with_reducible refine w_drop ?_ | with_reducible refine w_par ?_
        | with_reducible refine we_q ?_ | with_reducible refine wt_q ?_ | with_reducible refine wl_own ?_ | with_reducible refine we_op2 ?_ | with_reducible refine wl_nil ?_ | with_reducible refine wl_cons ?_ | with_reducible refine we_tup ?_ | with_reducible refine wl_lst ?_ | with_reducible refine we_call ?_
        | with_reducible refine wt_v ?_ | with_reducible refine wt_not ?_ | with_reducible refine wt_and ?_ | with_reducible refine wt_or ?_ | with_reducible refine we_if ?_ | with_reducible refine we_is ?_
        | with_reducible refine wq_c ?_ | with_reducible refine wq_op1 ?_ | with_reducible refine wq_op2 ?_ | with_reducible refine wq_nil ?_ | with_reducible refine wq_cons ?_ | with_reducible refine wq_tup ?_ | with_reducible refine wq_lst ?_ | with_reducible refine wq_if ?_ | with_reducible refine wq_tv ?_ | with_reducible refine wq_notT ?_ | with_reducible refine wq_andT ?_ | with_reducible refine wq_orT ?_ | with_reducible refine wq_call ?_ | with_reducible refine wq_seq ?_
        | ((with_reducible refine' wq_var ?wpv ?_); (case wpv => rfl)) | ((with_reducible refine' wq_varO ?wpv ?_); (case wpv => rfl)) | ((with_reducible refine' wq_varI ?wpv ?_); (case wpv => rfl))
        | with_reducible refine wq_andV ?_ | with_reducible refine wq_orV ?_ | with_reducible refine wq_notV ?_ | with_reducible refine wq_chain ?_
        | with_reducible refine sq_nx ?_ | with_reducible refine sq_rt ?_ | with_reducible refine sq_bk ?_ | with_reducible refine sq_ct ?_ | with_reducible refine lp_nx ?_ | with_reducible refine lp_rt ?_ | with_reducible refine lp_bk ?_ | with_reducible refine lp_ct ?_
        | (with_reducible refine hv_some ?_) | (with_reducible refine hv_add ?_) | (with_reducible refine hv_sub ?_) | (with_reducible refine hv_eq ?_) | (with_reducible refine hv_ne ?_) | (with_reducible refine hv_lt ?_) | (with_reducible refine hv_le ?_) | (with_reducible refine hv_gt ?_) | (with_reducible refine hv_ge ?_) | (with_reducible refine ex_bool ?_))
      refine ⟨(fun c => absurd c (by decide)), fun _ => ?_⟩
      repeat' (first
        | with_reducible refine w_seq ?_ | with_reducible refine w_nx ?_ | with_reducible refine w_bk ?_ | with_reducible refine w_ct ?_ | with_reducible refine w_if ?_ | with_reducible refine w_ret ?_ | with_reducible refine w_retO ?_ | with_reducible refine w_set ?_ | with_reducible refine w_setO ?_
        | with_reducible refine w_asg ?_ | with_reducible refine w_drop ?_ | with_reducible refine w_par ?_
        | with_reducible refine we_q ?_ | with_reducible refine wt_q ?_ | with_reducible refine wl_own ?_ | with_reducible refine we_op2 ?_ | with_reducible refine wl_nil ?_ | with_reducible refine wl_cons ?_ | with_reducible refine we_tup ?_ | with_reducible refine wl_lst ?_ | with_reducible refine we_call ?_
        | with_reducible refine wt_v ?_ | with_reducible refine wt_not ?_ | with_reducible refine wt_and ?_ | with_reducible refine wt_or ?_ | with_reducible refine we_if ?_ | with_reducible refine we_is ?_
        | with_reducible refine wq_c ?_ | with_reducible refine wq_op1 ?_ | with_reducible refine wq_op2 ?_ | with_reducible refine wq_nil ?_ | with_reducible refine wq_cons ?_ | with_reducible refine wq_tup ?_ | with_reducible refine wq_lst ?_ | with_reducible refine wq_if ?_ | with_reducible refine wq_tv ?_ | with_reducible refine wq_notT ?_ | with_reducible refine wq_andT ?_ | with_reducible refine wq_orT ?_ | with_reducible refine wq_call ?_ | with_reducible refine wq_seq ?_
        | ((with_reducible refine' wq_var ?wpv ?_); (case wpv => rfl)) | ((with_reducible refine' wq_varO ?wpv ?_); (case wpv => rfl)) | ((with_reducible refine' wq_varI ?wpv ?_); (case wpv => rfl))
        | with_reducible refine wq_andV ?_ | with_reducible refine wq_orV ?_ | with_reducible refine wq_notV ?_ | with_reducible refine wq_chain ?_
        | with_reducible refine sq_nx ?_ | with_reducible refine sq_rt ?_ | with_reducible refine sq_bk ?_ | with_reducible refine sq_ct ?_ | with_reducible refine lp_nx ?_ | with_reducible refine lp_rt ?_ | with_reducible refine lp_bk ?_ | with_reducible refine lp_ct ?_
        | (with_reducible refine hv_some ?_) | (with_reducible refine hv_add ?_) | (with_reducible refine hv_sub ?_) | (with_reducible refine hv_eq ?_) | (with_reducible refine hv_ne ?_) | (with_reducible refine hv_lt ?_) | (with_reducible refine hv_le ?_) | (with_reducible refine hv_gt ?_) | (with_reducible refine hv_ge ?_) | (with_reducible refine ex_bool ?_))
      refine hv_of l3 ?_
      repeat' (first
        | with_reducible refine w_seq ?_ | with_reducible refine w_nx ?_ | with_reducible refine w_bk ?_ | with_reducible refine w_ct ?_ | with_reducible refine w_if ?_ | with_reducible refine w_ret ?_ | with_reducible refine w_retO ?_ | with_reducible refine w_set ?_ | with_reducible refine w_setO ?_
        | with_reducible refine w_asg ?_ | with_reducible refine w_drop ?_ | with_reducible refine w_par ?_
        | with_reducible refine we_q ?_ | with_reducible refine wt_q ?_ | with_reducible refine wl_own ?_ | with_reducible refine we_op2 ?_ | with_reducible refine wl_nil ?_ | with_reducible refine wl_cons ?_ | with_reducible refine we_tup ?_ | with_reducible refine wl_lst ?_ | with_reducible refine we_call ?_
        | with_reducible refine wt_v ?_ | with_reducible refine wt_not ?_ | with_reducible refine wt_and ?_ | with_reducible refine wt_or ?_ | with_reducible refine we_if ?_ | with_reducible refine we_is ?_
        | with_reducible refine wq_c ?_ | with_reducible refine wq_op1 ?_ | with_reducible refine wq_op2 ?_ | with_reducible refine wq_nil ?_ | with_reducible refine wq_cons ?_ | with_reducible refine wq_tup ?_ | with_reducible refine wq_lst ?_ | with_reducible refine wq_if ?_ | with_reducible refine wq_tv ?_ | with_reducible refine wq_notT ?_ | with_reducible refine wq_andT ?_ | with_reducible refine wq_orT ?_ | with_reducible refine wq_call ?_ | with_reducible refine wq_seq ?_
        | ((with_reducible refine' wq_var ?wpv ?_); (case wpv => rfl)) | ((with_reducible refine' wq_varO ?wpv ?_); (case wpv => rfl)) | ((with_reducible refine' wq_varI ?wpv ?_); (case wpv => rfl))
        | with_reducible refine wq_andV ?_ | with_reducible refine wq_orV ?_ | with_reducible refine wq_notV ?_ | with_reducible refine wq_chain ?_
        | with_reducible refine sq_nx ?_ | with_reducible refine sq_rt ?_ | with_reducible refine sq_bk ?_ | with_reducible refine sq_ct ?_ | with_reducible refine lp_nx ?_ | with_reducible refine lp_rt ?_ | with_reducible refine lp_bk ?_ | with_reducible refine lp_ct ?_
        | (with_reducible refine hv_some ?_) | (with_reducible refine hv_add ?_) | (with_reducible refine hv_sub ?_) | (with_reducible refine hv_eq ?_) | (with_reducible refine hv_ne ?_) | (with_reducible refine hv_lt ?_) | (with_reducible refine hv_le ?_) | (with_reducible refine hv_gt ?_) | (with_reducible refine hv_ge ?_) | (with_reducible refine ex_bool ?_))
      refine hv_of l3 ⟨isOk_int l4, ?_⟩
      exact ⟨_, b', rfl, rfl, ok'⟩
end Y

namespace Y
open PySem PySem.Spec PyProof.Rows L2
def kpOk (rows cnt : List D) (v : Nat) : Bool := match ixD (.list rows) (.int v) with
  | some row => (match F_kept_places [row] with
    | some (.tuple l) => isZ (ixD (.list cnt) (.int v)) (l.length : Nat)
    | _ => false)
  | none => false
theorem kp_some {rows cnt : List D} {v : Nat} (h : kpOk rows cnt v = true) : ∃ row l, ixD (.list rows) (.int v) = some row ∧ F_kept_places [row] = some (.tuple l) ∧ ixD (.list cnt) (.int v) = some (.int (l.length : Nat)) := by
  unfold kpOk at h
  split at h
  · next row e =>
    split at h
    · next l e2 => exact ⟨row, l, e, e2, isZ_some h⟩
    · cases h
  · cases h

def fB1 : S → Option Fl := forS (rng1E (argCE (noSt (varM 1)) argNE)) (putM 3) (seqS (setO 4 (ownM (lstM argN))) (seqS (forS (seqE (noSt (varM 2))) (putM 5) (extS 4 (noSt (lcM [6] (rng2M (argC (op2 subD (cM (.int 0)) (varM 1)) (argC (op2 addD (varM 1) (cM (.int 1))) argN))) (putM 6) (andT (tvM (op2 neD (varM 6) (cM (.int 0)))) (andT (tvM (op2 (inD true) (varM 6) (varM 5))) (tvM (op2 (inD true) (op2 subD (cM (.int 0)) (varM 6)) (varM 5))))) (op2 addD (varM 5) (tupM (argC (varM 6) argN))))))) (setS 2 (frzM 4))))
def fB3 : S → Option Fl := forS (seqE (noSt (varM 2))) (putM 5) (seqS (setS 8 (noSt (op2 addD (op2 addD (tupM (argC (cM (.int 0)) argN)) (varM 5)) (tupM (argC (op2 addD (varM 1) (cM (.int 1))) argN))))) (appS 7 (noSt (callM lenD (argC (lcM [9] (rng1M (argC (op2 addD (varM 1) (cM (.int 1))) argN)) (putM 9) (tvM (op2 eqD (op2 ixD (varM 8) (op2 addD (varM 9) (cM (.int 1)))) (op2 addD (op2 ixD (varM 8) (varM 9)) (cM (.int 1))))) (varM 9)) argN)))))
def fB4 : S → Option Fl := ifS (noSt (tvM (op2 neD (callM lenD (argC (varM 2) argN)) (callM F_law_signed (argC (varM 1) argN))))) (retS (noSt (cM (.bool false)))) nxM
def fB5 : S → Option Fl := forS (rng1E (argCE (noSt (op2 addD (varM 1) (cM (.int 2)))) argNE)) (putM 10) (seqS (setS 11 (noSt (methM isList cntD (varR 7) (argC (varM 10) argN)))) (ifS (notE (tvE (isM (noSt (varM 11)) (callM F_rows_keeping (argC (varM 1) (argC (varM 10) argN))) (callM (fun ds => F_rows_keeping (perm [1, 0] ds)) (argC (varM 10) (argC (varM 1) argN)))))) (retS (noSt (cM (.bool false)))) nxM))
def fB8 : S → Option Fl := ifS (noSt (andT (tvM (op2 gtD (varM 1) (cM (.int 0)))) (tvM (op2 neD (op2 mulD (callM F_one_row_count (argC (varM 1) argN)) (cM (.int 2))) (callM lenD (argC (varM 2) argN)))))) (retS (noSt (cM (.bool false)))) nxM
def fB10 : S → Option Fl := forS (rng1E (argCE (noSt (varM 13)) argNE)) (putM 3) (seqS (setO 4 (ownM (lstM argN))) (seqS (forS (seqE (noSt (varM 2))) (putM 5) (forS (rng2E (argCE (noSt (cM (.int 1))) (argCE (noSt (op2 addD (varM 13) (cM (.int 1)))) argNE))) (putM 6) (ifS (noSt (andT (tvM (op2 (inD true) (varM 6) (varM 5))) (orT (tvM (op2 eqD (varM 5) (tupM argN))) (tvM (op2 neD (callM absD (argC (op2 subD (varM 6) (op2 ixD (varM 5) (op1 negD (cM (.int 1))))) argN)) (cM (.int 1))))))) (appS 4 (noSt (op2 addD (varM 5) (tupM (argC (varM 6) argN))))) nxM))) (setS 2 (frzM 4))))
def few2 : S → Option Fl := seqS fB10 (retS (isM (noSt (callM lenD (argC (varM 2) argN))) (callM F_loose_rows (argC (varM 13) argN)) (callM (fun ds => F_loose_rows (perm [0] ds)) (argC (varM 13) argN))))
def few1 : S → Option Fl := seqS fB1 (seqS (setO 7 (ownM (lstM argN))) (seqS fB3 (seqS fB4 (seqS fB5 (seqS (setS 12 (callB 0 F_law_draw (argCE (noSt (callM lenD (argC (varM 2) argN))) argNE))) (seqS (ifS (noSt (tvM (op2 neD (callM lenD (argC (callM F_kept_places (argC (op2 ixD (varM 2) (varM 12)) argN)) argN)) (op2 ixD (varR 7) (varM 12))))) (retS (noSt (cM (.bool false)))) nxM) (seqS fB8 (seqS (asgS (tgTup 2 (tgCons (putM 13) (tgCons (putM 2) tgNil))) (tupE (argCE (callB 0 F_law_draw (argCE (noSt (cM (.int 6))) argNE)) (argCE (noSt (lstM (argC (tupM argN) argN))) argNE)))) few2))))))))
theorem few_eq : m_law_are_few = seqS (asgS (tgTup 2 (tgCons (putM 1) (tgCons (putM 2) tgNil))) (tupE (argCE (callB 0 F_law_draw (argCE (noSt (cM (.int 4))) argNE)) (argCE (noSt (lstM (argC (tupM argN) argN))) argNE)))) few1 := rfl
def rowsF0 : List D := [.tuple []]
def cntF0 : List D := [.int 1]
def sF0_0 (b : Bag) : S := [.bag b, .imm (.int 0), .imm (.list [.tuple []]), .un, .un, .un, .un, .un, .un, .un, .un, .un, .un, .un]
def sF0_1 (b : Bag) : S := [.bag b, .imm (.int 0), .imm (.list [.tuple []]), .un, .un, .un, .un, .un, .un, .un, .un, .un, .un, .un]
def sF0_2 (b : Bag) : S := [.bag b, .imm (.int 0), .imm (.list [.tuple []]), .un, .un, .un, .un, .ol [], .un, .un, .un, .un, .un, .un]
def sF0_3 (b : Bag) : S := [.bag b, .imm (.int 0), .imm (.list [.tuple []]), .un, .un, .imm (.tuple []), .un, .ol [.int 1], .imm (.tuple [.int 0, .int 1]), .un, .un, .un, .un, .un]
def sF0_5 (b : Bag) : S := [.bag b, .imm (.int 0), .imm (.list rowsF0), .un, .un, .imm (.tuple []), .un, .ol cntF0, .imm (.tuple [.int 0, .int 1]), .un, .imm (.int 1), .imm (.int 1), .un, .un]
def sF0_6 (b : Bag) (v : Int) : S := [.bag b, .imm (.int 0), .imm (.list rowsF0), .un, .un, .imm (.tuple []), .un, .ol cntF0, .imm (.tuple [.int 0, .int 1]), .un, .imm (.int 1), .imm (.int 1), .imm (.int v), .un]
theorem eF0_1 (b : Bag) : fB1 (sF0_0 b) = some (.nx (sF0_1 b)) := by kernel_rfl
theorem eF0_3 (b : Bag) : fB3 (sF0_2 b) = some (.nx (sF0_3 b)) := by kernel_rfl
theorem eF0_4 (b : Bag) : fB4 (sF0_3 b) = some (.nx (sF0_3 b)) := by kernel_rfl
theorem eF0_5 (b : Bag) : fB5 (sF0_3 b) = some (.nx (sF0_5 b)) := by kernel_rfl
theorem eF0_8 (b : Bag) (v : Int) : fB8 (sF0_6 b v) = some (.nx (sF0_6 b v)) := by kernel_rfl
theorem aF0 : ∀ v, v < 1 → kpOk rowsF0 cntF0 v = true := by decide +kernel
def rowsF1 : List D := [.tuple [.int (-1)], .tuple [.int 1]]
def cntF1 : List D := [.int 0, .int 2]
def sF1_0 (b : Bag) : S := [.bag b, .imm (.int 1), .imm (.list [.tuple []]), .un, .un, .un, .un, .un, .un, .un, .un, .un, .un, .un]
def sF1_1 (b : Bag) : S := [.bag b, .imm (.int 1), .imm (.list [.tuple [.int (-1)], .tuple [.int 1]]), .imm (.int 0), .imm (.list [.tuple [.int (-1)], .tuple [.int 1]]), .imm (.tuple []), .un, .un, .un, .un, .un, .un, .un, .un]
def sF1_2 (b : Bag) : S := [.bag b, .imm (.int 1), .imm (.list [.tuple [.int (-1)], .tuple [.int 1]]), .imm (.int 0), .imm (.list [.tuple [.int (-1)], .tuple [.int 1]]), .imm (.tuple []), .un, .ol [], .un, .un, .un, .un, .un, .un]
def sF1_3 (b : Bag) : S := [.bag b, .imm (.int 1), .imm (.list [.tuple [.int (-1)], .tuple [.int 1]]), .imm (.int 0), .imm (.list [.tuple [.int (-1)], .tuple [.int 1]]), .imm (.tuple [.int 1]), .un, .ol [.int 0, .int 2], .imm (.tuple [.int 0, .int 1, .int 2]), .un, .un, .un, .un, .un]
def sF1_5 (b : Bag) : S := [.bag b, .imm (.int 1), .imm (.list rowsF1), .imm (.int 0), .imm (.list [.tuple [.int (-1)], .tuple [.int 1]]), .imm (.tuple [.int 1]), .un, .ol cntF1, .imm (.tuple [.int 0, .int 1, .int 2]), .un, .imm (.int 2), .imm (.int 1), .un, .un]
def sF1_6 (b : Bag) (v : Int) : S := [.bag b, .imm (.int 1), .imm (.list rowsF1), .imm (.int 0), .imm (.list [.tuple [.int (-1)], .tuple [.int 1]]), .imm (.tuple [.int 1]), .un, .ol cntF1, .imm (.tuple [.int 0, .int 1, .int 2]), .un, .imm (.int 2), .imm (.int 1), .imm (.int v), .un]
theorem eF1_1 (b : Bag) : fB1 (sF1_0 b) = some (.nx (sF1_1 b)) := by kernel_rfl
theorem eF1_3 (b : Bag) : fB3 (sF1_2 b) = some (.nx (sF1_3 b)) := by kernel_rfl
theorem eF1_4 (b : Bag) : fB4 (sF1_3 b) = some (.nx (sF1_3 b)) := by kernel_rfl
theorem eF1_5 (b : Bag) : fB5 (sF1_3 b) = some (.nx (sF1_5 b)) := by kernel_rfl
theorem eF1_8 (b : Bag) (v : Int) : fB8 (sF1_6 b v) = some (.nx (sF1_6 b v)) := by kernel_rfl
theorem aF1 : ∀ v, v < 2 → kpOk rowsF1 cntF1 v = true := by decide +kernel
def rowsF2 : List D := [.tuple [.int (-2), .int (-1)], .tuple [.int (-2), .int 1], .tuple [.int (-1), .int (-2)], .tuple [.int (-1), .int 2], .tuple [.int 1, .int (-2)], .tuple [.int 1, .int 2], .tuple [.int 2, .int (-1)], .tuple [.int 2, .int 1]]
def cntF2 : List D := [.int 1, .int 0, .int 0, .int 1, .int 1, .int 3, .int 0, .int 0]
def sF2_0 (b : Bag) : S := [.bag b, .imm (.int 2), .imm (.list [.tuple []]), .un, .un, .un, .un, .un, .un, .un, .un, .un, .un, .un]
def sF2_1 (b : Bag) : S := [.bag b, .imm (.int 2), .imm (.list [.tuple [.int (-2), .int (-1)], .tuple [.int (-2), .int 1], .tuple [.int (-1), .int (-2)], .tuple [.int (-1), .int 2], .tuple [.int 1, .int (-2)], .tuple [.int 1, .int 2], .tuple [.int 2, .int (-1)], .tuple [.int 2, .int 1]]), .imm (.int 1), .imm (.list [.tuple [.int (-2), .int (-1)], .tuple [.int (-2), .int 1], .tuple [.int (-1), .int (-2)], .tuple [.int (-1), .int 2], .tuple [.int 1, .int (-2)], .tuple [.int 1, .int 2], .tuple [.int 2, .int (-1)], .tuple [.int 2, .int 1]]), .imm (.tuple [.int 2]), .un, .un, .un, .un, .un, .un, .un, .un]
def sF2_2 (b : Bag) : S := [.bag b, .imm (.int 2), .imm (.list [.tuple [.int (-2), .int (-1)], .tuple [.int (-2), .int 1], .tuple [.int (-1), .int (-2)], .tuple [.int (-1), .int 2], .tuple [.int 1, .int (-2)], .tuple [.int 1, .int 2], .tuple [.int 2, .int (-1)], .tuple [.int 2, .int 1]]), .imm (.int 1), .imm (.list [.tuple [.int (-2), .int (-1)], .tuple [.int (-2), .int 1], .tuple [.int (-1), .int (-2)], .tuple [.int (-1), .int 2], .tuple [.int 1, .int (-2)], .tuple [.int 1, .int 2], .tuple [.int 2, .int (-1)], .tuple [.int 2, .int 1]]), .imm (.tuple [.int 2]), .un, .ol [], .un, .un, .un, .un, .un, .un]
def sF2_3 (b : Bag) : S := [.bag b, .imm (.int 2), .imm (.list [.tuple [.int (-2), .int (-1)], .tuple [.int (-2), .int 1], .tuple [.int (-1), .int (-2)], .tuple [.int (-1), .int 2], .tuple [.int 1, .int (-2)], .tuple [.int 1, .int 2], .tuple [.int 2, .int (-1)], .tuple [.int 2, .int 1]]), .imm (.int 1), .imm (.list [.tuple [.int (-2), .int (-1)], .tuple [.int (-2), .int 1], .tuple [.int (-1), .int (-2)], .tuple [.int (-1), .int 2], .tuple [.int 1, .int (-2)], .tuple [.int 1, .int 2], .tuple [.int 2, .int (-1)], .tuple [.int 2, .int 1]]), .imm (.tuple [.int 2, .int 1]), .un, .ol [.int 1, .int 0, .int 0, .int 1, .int 1, .int 3, .int 0, .int 0], .imm (.tuple [.int 0, .int 2, .int 1, .int 3]), .un, .un, .un, .un, .un]
def sF2_5 (b : Bag) : S := [.bag b, .imm (.int 2), .imm (.list rowsF2), .imm (.int 1), .imm (.list [.tuple [.int (-2), .int (-1)], .tuple [.int (-2), .int 1], .tuple [.int (-1), .int (-2)], .tuple [.int (-1), .int 2], .tuple [.int 1, .int (-2)], .tuple [.int 1, .int 2], .tuple [.int 2, .int (-1)], .tuple [.int 2, .int 1]]), .imm (.tuple [.int 2, .int 1]), .un, .ol cntF2, .imm (.tuple [.int 0, .int 2, .int 1, .int 3]), .un, .imm (.int 3), .imm (.int 1), .un, .un]
def sF2_6 (b : Bag) (v : Int) : S := [.bag b, .imm (.int 2), .imm (.list rowsF2), .imm (.int 1), .imm (.list [.tuple [.int (-2), .int (-1)], .tuple [.int (-2), .int 1], .tuple [.int (-1), .int (-2)], .tuple [.int (-1), .int 2], .tuple [.int 1, .int (-2)], .tuple [.int 1, .int 2], .tuple [.int 2, .int (-1)], .tuple [.int 2, .int 1]]), .imm (.tuple [.int 2, .int 1]), .un, .ol cntF2, .imm (.tuple [.int 0, .int 2, .int 1, .int 3]), .un, .imm (.int 3), .imm (.int 1), .imm (.int v), .un]
theorem eF2_1 (b : Bag) : fB1 (sF2_0 b) = some (.nx (sF2_1 b)) := by kernel_rfl
theorem eF2_3 (b : Bag) : fB3 (sF2_2 b) = some (.nx (sF2_3 b)) := by kernel_rfl
theorem eF2_4 (b : Bag) : fB4 (sF2_3 b) = some (.nx (sF2_3 b)) := by kernel_rfl
theorem eF2_5 (b : Bag) : fB5 (sF2_3 b) = some (.nx (sF2_5 b)) := by kernel_rfl
theorem eF2_8 (b : Bag) (v : Int) : fB8 (sF2_6 b v) = some (.nx (sF2_6 b v)) := by kernel_rfl
theorem aF2 : ∀ v, v < 8 → kpOk rowsF2 cntF2 v = true := by decide +kernel
def rowsF3 : List D := [.tuple [.int (-3), .int (-2), .int (-1)], .tuple [.int (-3), .int (-2), .int 1], .tuple [.int (-3), .int (-1), .int (-2)], .tuple [.int (-3), .int (-1), .int 2], .tuple [.int (-3), .int 1, .int (-2)], .tuple [.int (-3), .int 1, .int 2], .tuple [.int (-3), .int 2, .int (-1)], .tuple [.int (-3), .int 2, .int 1], .tuple [.int (-2), .int (-3), .int (-1)], .tuple [.int (-2), .int (-3), .int 1], .tuple [.int (-2), .int (-1), .int (-3)], .tuple [.int (-2), .int (-1), .int 3], .tuple [.int (-2), .int 1, .int (-3)], .tuple [.int (-2), .int 1, .int 3], .tuple [.int (-2), .int 3, .int (-1)], .tuple [.int (-2), .int 3, .int 1], .tuple [.int (-1), .int (-3), .int (-2)], .tuple [.int (-1), .int (-3), .int 2], .tuple [.int (-1), .int (-2), .int (-3)], .tuple [.int (-1), .int (-2), .int 3], .tuple [.int (-1), .int 2, .int (-3)], .tuple [.int (-1), .int 2, .int 3], .tuple [.int (-1), .int 3, .int (-2)], .tuple [.int (-1), .int 3, .int 2], .tuple [.int 1, .int (-3), .int (-2)], .tuple [.int 1, .int (-3), .int 2], .tuple [.int 1, .int (-2), .int (-3)], .tuple [.int 1, .int (-2), .int 3], .tuple [.int 1, .int 2, .int (-3)], .tuple [.int 1, .int 2, .int 3], .tuple [.int 1, .int 3, .int (-2)], .tuple [.int 1, .int 3, .int 2], .tuple [.int 2, .int (-3), .int (-1)], .tuple [.int 2, .int (-3), .int 1], .tuple [.int 2, .int (-1), .int (-3)], .tuple [.int 2, .int (-1), .int 3], .tuple [.int 2, .int 1, .int (-3)], .tuple [.int 2, .int 1, .int 3], .tuple [.int 2, .int 3, .int (-1)], .tuple [.int 2, .int 3, .int 1], .tuple [.int 3, .int (-2), .int (-1)], .tuple [.int 3, .int (-2), .int 1], .tuple [.int 3, .int (-1), .int (-2)], .tuple [.int 3, .int (-1), .int 2], .tuple [.int 3, .int 1, .int (-2)], .tuple [.int 3, .int 1, .int 2], .tuple [.int 3, .int 2, .int (-1)], .tuple [.int 3, .int 2, .int 1]]
def cntF3 : List D := [.int 2, .int 1, .int 0, .int 0, .int 0, .int 1, .int 0, .int 0, .int 0, .int 0, .int 1, .int 2, .int 0, .int 1, .int 0, .int 0, .int 1, .int 0, .int 0, .int 1, .int 0, .int 2, .int 0, .int 0, .int 2, .int 1, .int 1, .int 2, .int 2, .int 4, .int 1, .int 1, .int 0, .int 0, .int 0, .int 1, .int 0, .int 1, .int 1, .int 1, .int 1, .int 0, .int 0, .int 0, .int 0, .int 1, .int 0, .int 0]
def sF3_0 (b : Bag) : S := [.bag b, .imm (.int 3), .imm (.list [.tuple []]), .un, .un, .un, .un, .un, .un, .un, .un, .un, .un, .un]
def sF3_1 (b : Bag) : S := [.bag b, .imm (.int 3), .imm (.list [.tuple [.int (-3), .int (-2), .int (-1)], .tuple [.int (-3), .int (-2), .int 1], .tuple [.int (-3), .int (-1), .int (-2)], .tuple [.int (-3), .int (-1), .int 2], .tuple [.int (-3), .int 1, .int (-2)], .tuple [.int (-3), .int 1, .int 2], .tuple [.int (-3), .int 2, .int (-1)], .tuple [.int (-3), .int 2, .int 1], .tuple [.int (-2), .int (-3), .int (-1)], .tuple [.int (-2), .int (-3), .int 1], .tuple [.int (-2), .int (-1), .int (-3)], .tuple [.int (-2), .int (-1), .int 3], .tuple [.int (-2), .int 1, .int (-3)], .tuple [.int (-2), .int 1, .int 3], .tuple [.int (-2), .int 3, .int (-1)], .tuple [.int (-2), .int 3, .int 1], .tuple [.int (-1), .int (-3), .int (-2)], .tuple [.int (-1), .int (-3), .int 2], .tuple [.int (-1), .int (-2), .int (-3)], .tuple [.int (-1), .int (-2), .int 3], .tuple [.int (-1), .int 2, .int (-3)], .tuple [.int (-1), .int 2, .int 3], .tuple [.int (-1), .int 3, .int (-2)], .tuple [.int (-1), .int 3, .int 2], .tuple [.int 1, .int (-3), .int (-2)], .tuple [.int 1, .int (-3), .int 2], .tuple [.int 1, .int (-2), .int (-3)], .tuple [.int 1, .int (-2), .int 3], .tuple [.int 1, .int 2, .int (-3)], .tuple [.int 1, .int 2, .int 3], .tuple [.int 1, .int 3, .int (-2)], .tuple [.int 1, .int 3, .int 2], .tuple [.int 2, .int (-3), .int (-1)], .tuple [.int 2, .int (-3), .int 1], .tuple [.int 2, .int (-1), .int (-3)], .tuple [.int 2, .int (-1), .int 3], .tuple [.int 2, .int 1, .int (-3)], .tuple [.int 2, .int 1, .int 3], .tuple [.int 2, .int 3, .int (-1)], .tuple [.int 2, .int 3, .int 1], .tuple [.int 3, .int (-2), .int (-1)], .tuple [.int 3, .int (-2), .int 1], .tuple [.int 3, .int (-1), .int (-2)], .tuple [.int 3, .int (-1), .int 2], .tuple [.int 3, .int 1, .int (-2)], .tuple [.int 3, .int 1, .int 2], .tuple [.int 3, .int 2, .int (-1)], .tuple [.int 3, .int 2, .int 1]]), .imm (.int 2), .imm (.list [.tuple [.int (-3), .int (-2), .int (-1)], .tuple [.int (-3), .int (-2), .int 1], .tuple [.int (-3), .int (-1), .int (-2)], .tuple [.int (-3), .int (-1), .int 2], .tuple [.int (-3), .int 1, .int (-2)], .tuple [.int (-3), .int 1, .int 2], .tuple [.int (-3), .int 2, .int (-1)], .tuple [.int (-3), .int 2, .int 1], .tuple [.int (-2), .int (-3), .int (-1)], .tuple [.int (-2), .int (-3), .int 1], .tuple [.int (-2), .int (-1), .int (-3)], .tuple [.int (-2), .int (-1), .int 3], .tuple [.int (-2), .int 1, .int (-3)], .tuple [.int (-2), .int 1, .int 3], .tuple [.int (-2), .int 3, .int (-1)], .tuple [.int (-2), .int 3, .int 1], .tuple [.int (-1), .int (-3), .int (-2)], .tuple [.int (-1), .int (-3), .int 2], .tuple [.int (-1), .int (-2), .int (-3)], .tuple [.int (-1), .int (-2), .int 3], .tuple [.int (-1), .int 2, .int (-3)], .tuple [.int (-1), .int 2, .int 3], .tuple [.int (-1), .int 3, .int (-2)], .tuple [.int (-1), .int 3, .int 2], .tuple [.int 1, .int (-3), .int (-2)], .tuple [.int 1, .int (-3), .int 2], .tuple [.int 1, .int (-2), .int (-3)], .tuple [.int 1, .int (-2), .int 3], .tuple [.int 1, .int 2, .int (-3)], .tuple [.int 1, .int 2, .int 3], .tuple [.int 1, .int 3, .int (-2)], .tuple [.int 1, .int 3, .int 2], .tuple [.int 2, .int (-3), .int (-1)], .tuple [.int 2, .int (-3), .int 1], .tuple [.int 2, .int (-1), .int (-3)], .tuple [.int 2, .int (-1), .int 3], .tuple [.int 2, .int 1, .int (-3)], .tuple [.int 2, .int 1, .int 3], .tuple [.int 2, .int 3, .int (-1)], .tuple [.int 2, .int 3, .int 1], .tuple [.int 3, .int (-2), .int (-1)], .tuple [.int 3, .int (-2), .int 1], .tuple [.int 3, .int (-1), .int (-2)], .tuple [.int 3, .int (-1), .int 2], .tuple [.int 3, .int 1, .int (-2)], .tuple [.int 3, .int 1, .int 2], .tuple [.int 3, .int 2, .int (-1)], .tuple [.int 3, .int 2, .int 1]]), .imm (.tuple [.int 3, .int 2]), .un, .un, .un, .un, .un, .un, .un, .un]
def sF3_2 (b : Bag) : S := [.bag b, .imm (.int 3), .imm (.list [.tuple [.int (-3), .int (-2), .int (-1)], .tuple [.int (-3), .int (-2), .int 1], .tuple [.int (-3), .int (-1), .int (-2)], .tuple [.int (-3), .int (-1), .int 2], .tuple [.int (-3), .int 1, .int (-2)], .tuple [.int (-3), .int 1, .int 2], .tuple [.int (-3), .int 2, .int (-1)], .tuple [.int (-3), .int 2, .int 1], .tuple [.int (-2), .int (-3), .int (-1)], .tuple [.int (-2), .int (-3), .int 1], .tuple [.int (-2), .int (-1), .int (-3)], .tuple [.int (-2), .int (-1), .int 3], .tuple [.int (-2), .int 1, .int (-3)], .tuple [.int (-2), .int 1, .int 3], .tuple [.int (-2), .int 3, .int (-1)], .tuple [.int (-2), .int 3, .int 1], .tuple [.int (-1), .int (-3), .int (-2)], .tuple [.int (-1), .int (-3), .int 2], .tuple [.int (-1), .int (-2), .int (-3)], .tuple [.int (-1), .int (-2), .int 3], .tuple [.int (-1), .int 2, .int (-3)], .tuple [.int (-1), .int 2, .int 3], .tuple [.int (-1), .int 3, .int (-2)], .tuple [.int (-1), .int 3, .int 2], .tuple [.int 1, .int (-3), .int (-2)], .tuple [.int 1, .int (-3), .int 2], .tuple [.int 1, .int (-2), .int (-3)], .tuple [.int 1, .int (-2), .int 3], .tuple [.int 1, .int 2, .int (-3)], .tuple [.int 1, .int 2, .int 3], .tuple [.int 1, .int 3, .int (-2)], .tuple [.int 1, .int 3, .int 2], .tuple [.int 2, .int (-3), .int (-1)], .tuple [.int 2, .int (-3), .int 1], .tuple [.int 2, .int (-1), .int (-3)], .tuple [.int 2, .int (-1), .int 3], .tuple [.int 2, .int 1, .int (-3)], .tuple [.int 2, .int 1, .int 3], .tuple [.int 2, .int 3, .int (-1)], .tuple [.int 2, .int 3, .int 1], .tuple [.int 3, .int (-2), .int (-1)], .tuple [.int 3, .int (-2), .int 1], .tuple [.int 3, .int (-1), .int (-2)], .tuple [.int 3, .int (-1), .int 2], .tuple [.int 3, .int 1, .int (-2)], .tuple [.int 3, .int 1, .int 2], .tuple [.int 3, .int 2, .int (-1)], .tuple [.int 3, .int 2, .int 1]]), .imm (.int 2), .imm (.list [.tuple [.int (-3), .int (-2), .int (-1)], .tuple [.int (-3), .int (-2), .int 1], .tuple [.int (-3), .int (-1), .int (-2)], .tuple [.int (-3), .int (-1), .int 2], .tuple [.int (-3), .int 1, .int (-2)], .tuple [.int (-3), .int 1, .int 2], .tuple [.int (-3), .int 2, .int (-1)], .tuple [.int (-3), .int 2, .int 1], .tuple [.int (-2), .int (-3), .int (-1)], .tuple [.int (-2), .int (-3), .int 1], .tuple [.int (-2), .int (-1), .int (-3)], .tuple [.int (-2), .int (-1), .int 3], .tuple [.int (-2), .int 1, .int (-3)], .tuple [.int (-2), .int 1, .int 3], .tuple [.int (-2), .int 3, .int (-1)], .tuple [.int (-2), .int 3, .int 1], .tuple [.int (-1), .int (-3), .int (-2)], .tuple [.int (-1), .int (-3), .int 2], .tuple [.int (-1), .int (-2), .int (-3)], .tuple [.int (-1), .int (-2), .int 3], .tuple [.int (-1), .int 2, .int (-3)], .tuple [.int (-1), .int 2, .int 3], .tuple [.int (-1), .int 3, .int (-2)], .tuple [.int (-1), .int 3, .int 2], .tuple [.int 1, .int (-3), .int (-2)], .tuple [.int 1, .int (-3), .int 2], .tuple [.int 1, .int (-2), .int (-3)], .tuple [.int 1, .int (-2), .int 3], .tuple [.int 1, .int 2, .int (-3)], .tuple [.int 1, .int 2, .int 3], .tuple [.int 1, .int 3, .int (-2)], .tuple [.int 1, .int 3, .int 2], .tuple [.int 2, .int (-3), .int (-1)], .tuple [.int 2, .int (-3), .int 1], .tuple [.int 2, .int (-1), .int (-3)], .tuple [.int 2, .int (-1), .int 3], .tuple [.int 2, .int 1, .int (-3)], .tuple [.int 2, .int 1, .int 3], .tuple [.int 2, .int 3, .int (-1)], .tuple [.int 2, .int 3, .int 1], .tuple [.int 3, .int (-2), .int (-1)], .tuple [.int 3, .int (-2), .int 1], .tuple [.int 3, .int (-1), .int (-2)], .tuple [.int 3, .int (-1), .int 2], .tuple [.int 3, .int 1, .int (-2)], .tuple [.int 3, .int 1, .int 2], .tuple [.int 3, .int 2, .int (-1)], .tuple [.int 3, .int 2, .int 1]]), .imm (.tuple [.int 3, .int 2]), .un, .ol [], .un, .un, .un, .un, .un, .un]
def sF3_3 (b : Bag) : S := [.bag b, .imm (.int 3), .imm (.list [.tuple [.int (-3), .int (-2), .int (-1)], .tuple [.int (-3), .int (-2), .int 1], .tuple [.int (-3), .int (-1), .int (-2)], .tuple [.int (-3), .int (-1), .int 2], .tuple [.int (-3), .int 1, .int (-2)], .tuple [.int (-3), .int 1, .int 2], .tuple [.int (-3), .int 2, .int (-1)], .tuple [.int (-3), .int 2, .int 1], .tuple [.int (-2), .int (-3), .int (-1)], .tuple [.int (-2), .int (-3), .int 1], .tuple [.int (-2), .int (-1), .int (-3)], .tuple [.int (-2), .int (-1), .int 3], .tuple [.int (-2), .int 1, .int (-3)], .tuple [.int (-2), .int 1, .int 3], .tuple [.int (-2), .int 3, .int (-1)], .tuple [.int (-2), .int 3, .int 1], .tuple [.int (-1), .int (-3), .int (-2)], .tuple [.int (-1), .int (-3), .int 2], .tuple [.int (-1), .int (-2), .int (-3)], .tuple [.int (-1), .int (-2), .int 3], .tuple [.int (-1), .int 2, .int (-3)], .tuple [.int (-1), .int 2, .int 3], .tuple [.int (-1), .int 3, .int (-2)], .tuple [.int (-1), .int 3, .int 2], .tuple [.int 1, .int (-3), .int (-2)], .tuple [.int 1, .int (-3), .int 2], .tuple [.int 1, .int (-2), .int (-3)], .tuple [.int 1, .int (-2), .int 3], .tuple [.int 1, .int 2, .int (-3)], .tuple [.int 1, .int 2, .int 3], .tuple [.int 1, .int 3, .int (-2)], .tuple [.int 1, .int 3, .int 2], .tuple [.int 2, .int (-3), .int (-1)], .tuple [.int 2, .int (-3), .int 1], .tuple [.int 2, .int (-1), .int (-3)], .tuple [.int 2, .int (-1), .int 3], .tuple [.int 2, .int 1, .int (-3)], .tuple [.int 2, .int 1, .int 3], .tuple [.int 2, .int 3, .int (-1)], .tuple [.int 2, .int 3, .int 1], .tuple [.int 3, .int (-2), .int (-1)], .tuple [.int 3, .int (-2), .int 1], .tuple [.int 3, .int (-1), .int (-2)], .tuple [.int 3, .int (-1), .int 2], .tuple [.int 3, .int 1, .int (-2)], .tuple [.int 3, .int 1, .int 2], .tuple [.int 3, .int 2, .int (-1)], .tuple [.int 3, .int 2, .int 1]]), .imm (.int 2), .imm (.list [.tuple [.int (-3), .int (-2), .int (-1)], .tuple [.int (-3), .int (-2), .int 1], .tuple [.int (-3), .int (-1), .int (-2)], .tuple [.int (-3), .int (-1), .int 2], .tuple [.int (-3), .int 1, .int (-2)], .tuple [.int (-3), .int 1, .int 2], .tuple [.int (-3), .int 2, .int (-1)], .tuple [.int (-3), .int 2, .int 1], .tuple [.int (-2), .int (-3), .int (-1)], .tuple [.int (-2), .int (-3), .int 1], .tuple [.int (-2), .int (-1), .int (-3)], .tuple [.int (-2), .int (-1), .int 3], .tuple [.int (-2), .int 1, .int (-3)], .tuple [.int (-2), .int 1, .int 3], .tuple [.int (-2), .int 3, .int (-1)], .tuple [.int (-2), .int 3, .int 1], .tuple [.int (-1), .int (-3), .int (-2)], .tuple [.int (-1), .int (-3), .int 2], .tuple [.int (-1), .int (-2), .int (-3)], .tuple [.int (-1), .int (-2), .int 3], .tuple [.int (-1), .int 2, .int (-3)], .tuple [.int (-1), .int 2, .int 3], .tuple [.int (-1), .int 3, .int (-2)], .tuple [.int (-1), .int 3, .int 2], .tuple [.int 1, .int (-3), .int (-2)], .tuple [.int 1, .int (-3), .int 2], .tuple [.int 1, .int (-2), .int (-3)], .tuple [.int 1, .int (-2), .int 3], .tuple [.int 1, .int 2, .int (-3)], .tuple [.int 1, .int 2, .int 3], .tuple [.int 1, .int 3, .int (-2)], .tuple [.int 1, .int 3, .int 2], .tuple [.int 2, .int (-3), .int (-1)], .tuple [.int 2, .int (-3), .int 1], .tuple [.int 2, .int (-1), .int (-3)], .tuple [.int 2, .int (-1), .int 3], .tuple [.int 2, .int 1, .int (-3)], .tuple [.int 2, .int 1, .int 3], .tuple [.int 2, .int 3, .int (-1)], .tuple [.int 2, .int 3, .int 1], .tuple [.int 3, .int (-2), .int (-1)], .tuple [.int 3, .int (-2), .int 1], .tuple [.int 3, .int (-1), .int (-2)], .tuple [.int 3, .int (-1), .int 2], .tuple [.int 3, .int 1, .int (-2)], .tuple [.int 3, .int 1, .int 2], .tuple [.int 3, .int 2, .int (-1)], .tuple [.int 3, .int 2, .int 1]]), .imm (.tuple [.int 3, .int 2, .int 1]), .un, .ol [.int 2, .int 1, .int 0, .int 0, .int 0, .int 1, .int 0, .int 0, .int 0, .int 0, .int 1, .int 2, .int 0, .int 1, .int 0, .int 0, .int 1, .int 0, .int 0, .int 1, .int 0, .int 2, .int 0, .int 0, .int 2, .int 1, .int 1, .int 2, .int 2, .int 4, .int 1, .int 1, .int 0, .int 0, .int 0, .int 1, .int 0, .int 1, .int 1, .int 1, .int 1, .int 0, .int 0, .int 0, .int 0, .int 1, .int 0, .int 0], .imm (.tuple [.int 0, .int 3, .int 2, .int 1, .int 4]), .un, .un, .un, .un, .un]
def sF3_5 (b : Bag) : S := [.bag b, .imm (.int 3), .imm (.list rowsF3), .imm (.int 2), .imm (.list [.tuple [.int (-3), .int (-2), .int (-1)], .tuple [.int (-3), .int (-2), .int 1], .tuple [.int (-3), .int (-1), .int (-2)], .tuple [.int (-3), .int (-1), .int 2], .tuple [.int (-3), .int 1, .int (-2)], .tuple [.int (-3), .int 1, .int 2], .tuple [.int (-3), .int 2, .int (-1)], .tuple [.int (-3), .int 2, .int 1], .tuple [.int (-2), .int (-3), .int (-1)], .tuple [.int (-2), .int (-3), .int 1], .tuple [.int (-2), .int (-1), .int (-3)], .tuple [.int (-2), .int (-1), .int 3], .tuple [.int (-2), .int 1, .int (-3)], .tuple [.int (-2), .int 1, .int 3], .tuple [.int (-2), .int 3, .int (-1)], .tuple [.int (-2), .int 3, .int 1], .tuple [.int (-1), .int (-3), .int (-2)], .tuple [.int (-1), .int (-3), .int 2], .tuple [.int (-1), .int (-2), .int (-3)], .tuple [.int (-1), .int (-2), .int 3], .tuple [.int (-1), .int 2, .int (-3)], .tuple [.int (-1), .int 2, .int 3], .tuple [.int (-1), .int 3, .int (-2)], .tuple [.int (-1), .int 3, .int 2], .tuple [.int 1, .int (-3), .int (-2)], .tuple [.int 1, .int (-3), .int 2], .tuple [.int 1, .int (-2), .int (-3)], .tuple [.int 1, .int (-2), .int 3], .tuple [.int 1, .int 2, .int (-3)], .tuple [.int 1, .int 2, .int 3], .tuple [.int 1, .int 3, .int (-2)], .tuple [.int 1, .int 3, .int 2], .tuple [.int 2, .int (-3), .int (-1)], .tuple [.int 2, .int (-3), .int 1], .tuple [.int 2, .int (-1), .int (-3)], .tuple [.int 2, .int (-1), .int 3], .tuple [.int 2, .int 1, .int (-3)], .tuple [.int 2, .int 1, .int 3], .tuple [.int 2, .int 3, .int (-1)], .tuple [.int 2, .int 3, .int 1], .tuple [.int 3, .int (-2), .int (-1)], .tuple [.int 3, .int (-2), .int 1], .tuple [.int 3, .int (-1), .int (-2)], .tuple [.int 3, .int (-1), .int 2], .tuple [.int 3, .int 1, .int (-2)], .tuple [.int 3, .int 1, .int 2], .tuple [.int 3, .int 2, .int (-1)], .tuple [.int 3, .int 2, .int 1]]), .imm (.tuple [.int 3, .int 2, .int 1]), .un, .ol cntF3, .imm (.tuple [.int 0, .int 3, .int 2, .int 1, .int 4]), .un, .imm (.int 4), .imm (.int 1), .un, .un]
def sF3_6 (b : Bag) (v : Int) : S := [.bag b, .imm (.int 3), .imm (.list rowsF3), .imm (.int 2), .imm (.list [.tuple [.int (-3), .int (-2), .int (-1)], .tuple [.int (-3), .int (-2), .int 1], .tuple [.int (-3), .int (-1), .int (-2)], .tuple [.int (-3), .int (-1), .int 2], .tuple [.int (-3), .int 1, .int (-2)], .tuple [.int (-3), .int 1, .int 2], .tuple [.int (-3), .int 2, .int (-1)], .tuple [.int (-3), .int 2, .int 1], .tuple [.int (-2), .int (-3), .int (-1)], .tuple [.int (-2), .int (-3), .int 1], .tuple [.int (-2), .int (-1), .int (-3)], .tuple [.int (-2), .int (-1), .int 3], .tuple [.int (-2), .int 1, .int (-3)], .tuple [.int (-2), .int 1, .int 3], .tuple [.int (-2), .int 3, .int (-1)], .tuple [.int (-2), .int 3, .int 1], .tuple [.int (-1), .int (-3), .int (-2)], .tuple [.int (-1), .int (-3), .int 2], .tuple [.int (-1), .int (-2), .int (-3)], .tuple [.int (-1), .int (-2), .int 3], .tuple [.int (-1), .int 2, .int (-3)], .tuple [.int (-1), .int 2, .int 3], .tuple [.int (-1), .int 3, .int (-2)], .tuple [.int (-1), .int 3, .int 2], .tuple [.int 1, .int (-3), .int (-2)], .tuple [.int 1, .int (-3), .int 2], .tuple [.int 1, .int (-2), .int (-3)], .tuple [.int 1, .int (-2), .int 3], .tuple [.int 1, .int 2, .int (-3)], .tuple [.int 1, .int 2, .int 3], .tuple [.int 1, .int 3, .int (-2)], .tuple [.int 1, .int 3, .int 2], .tuple [.int 2, .int (-3), .int (-1)], .tuple [.int 2, .int (-3), .int 1], .tuple [.int 2, .int (-1), .int (-3)], .tuple [.int 2, .int (-1), .int 3], .tuple [.int 2, .int 1, .int (-3)], .tuple [.int 2, .int 1, .int 3], .tuple [.int 2, .int 3, .int (-1)], .tuple [.int 2, .int 3, .int 1], .tuple [.int 3, .int (-2), .int (-1)], .tuple [.int 3, .int (-2), .int 1], .tuple [.int 3, .int (-1), .int (-2)], .tuple [.int 3, .int (-1), .int 2], .tuple [.int 3, .int 1, .int (-2)], .tuple [.int 3, .int 1, .int 2], .tuple [.int 3, .int 2, .int (-1)], .tuple [.int 3, .int 2, .int 1]]), .imm (.tuple [.int 3, .int 2, .int 1]), .un, .ol cntF3, .imm (.tuple [.int 0, .int 3, .int 2, .int 1, .int 4]), .un, .imm (.int 4), .imm (.int 1), .imm (.int v), .un]
theorem eF3_1 (b : Bag) : fB1 (sF3_0 b) = some (.nx (sF3_1 b)) := by kernel_rfl
theorem eF3_3 (b : Bag) : fB3 (sF3_2 b) = some (.nx (sF3_3 b)) := by kernel_rfl
theorem eF3_4 (b : Bag) : fB4 (sF3_3 b) = some (.nx (sF3_3 b)) := by kernel_rfl
theorem eF3_5 (b : Bag) : fB5 (sF3_3 b) = some (.nx (sF3_5 b)) := by kernel_rfl
theorem eF3_8 (b : Bag) (v : Int) : fB8 (sF3_6 b v) = some (.nx (sF3_6 b v)) := by kernel_rfl
theorem aF3 : ∀ v, v < 48 → kpOk rowsF3 cntF3 v = true := by decide +kernel
theorem eG0 (b : Bag) (y1 y3 y4 y5 y6 y7 y8 y9 y10 y11 y12 : M) : fB10 [.bag b, y1, .imm (.list [.tuple []]), y3, y4, y5, y6, y7, y8, y9, y10, y11, y12, .imm (.int 0)] = some (.nx [.bag b, y1, .imm (.list [.tuple []]), y3, y4, y5, y6, y7, y8, y9, y10, y11, y12, .imm (.int 0)]) := by kernel_rfl
theorem lG0 : F_loose_rows [.int 0] = some (.int 1) := (fL 0 (by decide)).2.1
theorem few2_0 (b : Bag) (ok : OkB b) (y1 y3 y4 y5 y6 y7 y8 y9 y10 y11 y12 : M) : Wp few2 [.bag b, y1, .imm (.list [.tuple []]), y3, y4, y5, y6, y7, y8, y9, y10, y11, y12, .imm (.int 0)] (fun f => ∃ s b', f = .rt (.bool true) s ∧ s[0]? = some (.bag b') ∧ OkB b') := by
  unfold few2
  refine w_seq ⟨_, eG0 b y1 y3 y4 y5 y6 y7 y8 y9 y10 y11 y12, ?_⟩
  repeat' (first
    | with_reducible refine w_seq ?_ | with_reducible refine w_nx ?_ | with_reducible refine w_bk ?_ | with_reducible refine w_ct ?_ | with_reducible refine w_if ?_ | with_reducible refine w_ret ?_ | with_reducible refine w_retO ?_ | with_reducible refine w_set ?_ | with_reducible refine w_setO ?_
    | with_reducible refine w_asg ?_ | with_reducible refine w_drop ?_ | with_reducible refine w_par ?_
    | with_reducible refine we_q ?_ | with_reducible refine wt_q ?_ | with_reducible refine wl_own ?_ | with_reducible refine we_op2 ?_ | with_reducible refine wl_nil ?_ | with_reducible refine wl_cons ?_ | with_reducible refine we_tup ?_ | with_reducible refine wl_lst ?_ | with_reducible refine we_call ?_
    | with_reducible refine wt_v ?_ | with_reducible refine wt_not ?_ | with_reducible refine wt_and ?_ | with_reducible refine wt_or ?_ | with_reducible refine we_if ?_ | with_reducible refine we_is ?_
    | with_reducible refine wq_c ?_ | with_reducible refine wq_op1 ?_ | with_reducible refine wq_op2 ?_ | with_reducible refine wq_nil ?_ | with_reducible refine wq_cons ?_ | with_reducible refine wq_tup ?_ | with_reducible refine wq_lst ?_ | with_reducible refine wq_if ?_ | with_reducible refine wq_tv ?_ | with_reducible refine wq_notT ?_ | with_reducible refine wq_andT ?_ | with_reducible refine wq_orT ?_ | with_reducible refine wq_call ?_ | with_reducible refine wq_seq ?_
    | ((with_reducible refine' wq_var ?wpv ?_); (case wpv => rfl)) | ((with_reducible refine' wq_varO ?wpv ?_); (case wpv => rfl)) | ((with_reducible refine' wq_varI ?wpv ?_); (case wpv => rfl))
    | with_reducible refine wq_andV ?_ | with_reducible refine wq_orV ?_ | with_reducible refine wq_notV ?_ | with_reducible refine wq_chain ?_
    | with_reducible refine sq_nx ?_ | with_reducible refine sq_rt ?_ | with_reducible refine sq_bk ?_ | with_reducible refine sq_ct ?_ | with_reducible refine lp_nx ?_ | with_reducible refine lp_rt ?_ | with_reducible refine lp_bk ?_ | with_reducible refine lp_ct ?_
    | (with_reducible refine hv_some ?_) | (with_reducible refine hv_add ?_) | (with_reducible refine hv_sub ?_) | (with_reducible refine hv_eq ?_) | (with_reducible refine hv_ne ?_) | (with_reducible refine hv_lt ?_) | (with_reducible refine hv_le ?_) | (with_reducible refine hv_gt ?_) | (with_reducible refine hv_ge ?_) | (with_reducible refine ex_bool ?_))
  refine hv_of rfl ?_
  repeat' (first
    | with_reducible refine w_seq ?_ | with_reducible refine w_nx ?_ | with_reducible refine w_bk ?_ | with_reducible refine w_ct ?_ | with_reducible refine w_if ?_ | with_reducible refine w_ret ?_ | with_reducible refine w_retO ?_ | with_reducible refine w_set ?_ | with_reducible refine w_setO ?_
    | with_reducible refine w_asg ?_ | with_reducible refine w_drop ?_ | with_reducible refine w_par ?_
    | with_reducible refine we_q ?_ | with_reducible refine wt_q ?_ | with_reducible refine wl_own ?_ | with_reducible refine we_op2 ?_ | with_reducible refine wl_nil ?_ | with_reducible refine wl_cons ?_ | with_reducible refine we_tup ?_ | with_reducible refine wl_lst ?_ | with_reducible refine we_call ?_
    | with_reducible refine wt_v ?_ | with_reducible refine wt_not ?_ | with_reducible refine wt_and ?_ | with_reducible refine wt_or ?_ | with_reducible refine we_if ?_ | with_reducible refine we_is ?_
    | with_reducible refine wq_c ?_ | with_reducible refine wq_op1 ?_ | with_reducible refine wq_op2 ?_ | with_reducible refine wq_nil ?_ | with_reducible refine wq_cons ?_ | with_reducible refine wq_tup ?_ | with_reducible refine wq_lst ?_ | with_reducible refine wq_if ?_ | with_reducible refine wq_tv ?_ | with_reducible refine wq_notT ?_ | with_reducible refine wq_andT ?_ | with_reducible refine wq_orT ?_ | with_reducible refine wq_call ?_ | with_reducible refine wq_seq ?_
    | ((with_reducible refine' wq_var ?wpv ?_); (case wpv => rfl)) | ((with_reducible refine' wq_varO ?wpv ?_); (case wpv => rfl)) | ((with_reducible refine' wq_varI ?wpv ?_); (case wpv => rfl))
    | with_reducible refine wq_andV ?_ | with_reducible refine wq_orV ?_ | with_reducible refine wq_notV ?_ | with_reducible refine wq_chain ?_
    | with_reducible refine sq_nx ?_ | with_reducible refine sq_rt ?_ | with_reducible refine sq_bk ?_ | with_reducible refine sq_ct ?_ | with_reducible refine lp_nx ?_ | with_reducible refine lp_rt ?_ | with_reducible refine lp_bk ?_ | with_reducible refine lp_ct ?_
    | (with_reducible refine hv_some ?_) | (with_reducible refine hv_add ?_) | (with_reducible refine hv_sub ?_) | (with_reducible refine hv_eq ?_) | (with_reducible refine hv_ne ?_) | (with_reducible refine hv_lt ?_) | (with_reducible refine hv_le ?_) | (with_reducible refine hv_gt ?_) | (with_reducible refine hv_ge ?_) | (with_reducible refine ex_bool ?_))
  refine hv_of lG0 ?_
  repeat' (first
    | with_reducible refine w_seq ?_ | with_reducible refine w_nx ?_ | with_reducible refine w_bk ?_ | with_reducible refine w_ct ?_ | with_reducible refine w_if ?_ | with_reducible refine w_ret ?_ | with_reducible refine w_retO ?_ | with_reducible refine w_set ?_ | with_reducible refine w_setO ?_
    | with_reducible refine w_asg ?_ | with_reducible refine w_drop ?_ | with_reducible refine w_par ?_
    | with_reducible refine we_q ?_ | with_reducible refine wt_q ?_ | with_reducible refine wl_own ?_ | with_reducible refine we_op2 ?_ | with_reducible refine wl_nil ?_ | with_reducible refine wl_cons ?_ | with_reducible refine we_tup ?_ | with_reducible refine wl_lst ?_ | with_reducible refine we_call ?_
    | with_reducible refine wt_v ?_ | with_reducible refine wt_not ?_ | with_reducible refine wt_and ?_ | with_reducible refine wt_or ?_ | with_reducible refine we_if ?_ | with_reducible refine we_is ?_
    | with_reducible refine wq_c ?_ | with_reducible refine wq_op1 ?_ | with_reducible refine wq_op2 ?_ | with_reducible refine wq_nil ?_ | with_reducible refine wq_cons ?_ | with_reducible refine wq_tup ?_ | with_reducible refine wq_lst ?_ | with_reducible refine wq_if ?_ | with_reducible refine wq_tv ?_ | with_reducible refine wq_notT ?_ | with_reducible refine wq_andT ?_ | with_reducible refine wq_orT ?_ | with_reducible refine wq_call ?_ | with_reducible refine wq_seq ?_
    | ((with_reducible refine' wq_var ?wpv ?_); (case wpv => rfl)) | ((with_reducible refine' wq_varO ?wpv ?_); (case wpv => rfl)) | ((with_reducible refine' wq_varI ?wpv ?_); (case wpv => rfl))
    | with_reducible refine wq_andV ?_ | with_reducible refine wq_orV ?_ | with_reducible refine wq_notV ?_ | with_reducible refine wq_chain ?_
    | with_reducible refine sq_nx ?_ | with_reducible refine sq_rt ?_ | with_reducible refine sq_bk ?_ | with_reducible refine sq_ct ?_ | with_reducible refine lp_nx ?_ | with_reducible refine lp_rt ?_ | with_reducible refine lp_bk ?_ | with_reducible refine lp_ct ?_
    | (with_reducible refine hv_some ?_) | (with_reducible refine hv_add ?_) | (with_reducible refine hv_sub ?_) | (with_reducible refine hv_eq ?_) | (with_reducible refine hv_ne ?_) | (with_reducible refine hv_lt ?_) | (with_reducible refine hv_le ?_) | (with_reducible refine hv_gt ?_) | (with_reducible refine hv_ge ?_) | (with_reducible refine ex_bool ?_))
  refine hv_of lG0 ⟨isOk_int (by decide), ?_⟩
  exact ⟨_, b, rfl, rfl, ok⟩
theorem eG1 (b : Bag) (y1 y3 y4 y5 y6 y7 y8 y9 y10 y11 y12 : M) : fB10 [.bag b, y1, .imm (.list [.tuple []]), y3, y4, y5, y6, y7, y8, y9, y10, y11, y12, .imm (.int 1)] = some (.nx [.bag b, y1, .imm (.list [.tuple [.int 1]]), .imm (.int 0), .imm (.list [.tuple [.int 1]]), .imm (.tuple []), .imm (.int 1), y7, y8, y9, y10, y11, y12, .imm (.int 1)]) := by kernel_rfl
theorem lG1 : F_loose_rows [.int 1] = some (.int 1) := (fL 1 (by decide)).2.1
theorem few2_1 (b : Bag) (ok : OkB b) (y1 y3 y4 y5 y6 y7 y8 y9 y10 y11 y12 : M) : Wp few2 [.bag b, y1, .imm (.list [.tuple []]), y3, y4, y5, y6, y7, y8, y9, y10, y11, y12, .imm (.int 1)] (fun f => ∃ s b', f = .rt (.bool true) s ∧ s[0]? = some (.bag b') ∧ OkB b') := by
  unfold few2
  refine w_seq ⟨_, eG1 b y1 y3 y4 y5 y6 y7 y8 y9 y10 y11 y12, ?_⟩
  repeat' (first
    | with_reducible refine w_seq ?_ | with_reducible refine w_nx ?_ | with_reducible refine w_bk ?_ | with_reducible refine w_ct ?_ | with_reducible refine w_if ?_ | with_reducible refine w_ret ?_ | with_reducible refine w_retO ?_ | with_reducible refine w_set ?_ | with_reducible refine w_setO ?_
    | with_reducible refine w_asg ?_ | with_reducible refine w_drop ?_ | with_reducible refine w_par ?_
    | with_reducible refine we_q ?_ | with_reducible refine wt_q ?_ | with_reducible refine wl_own ?_ | with_reducible refine we_op2 ?_ | with_reducible refine wl_nil ?_ | with_reducible refine wl_cons ?_ | with_reducible refine we_tup ?_ | with_reducible refine wl_lst ?_ | with_reducible refine we_call ?_
    | with_reducible refine wt_v ?_ | with_reducible refine wt_not ?_ | with_reducible refine wt_and ?_ | with_reducible refine wt_or ?_ | with_reducible refine we_if ?_ | with_reducible refine we_is ?_
    | with_reducible refine wq_c ?_ | with_reducible refine wq_op1 ?_ | with_reducible refine wq_op2 ?_ | with_reducible refine wq_nil ?_ | with_reducible refine wq_cons ?_ | with_reducible refine wq_tup ?_ | with_reducible refine wq_lst ?_ | with_reducible refine wq_if ?_ | with_reducible refine wq_tv ?_ | with_reducible refine wq_notT ?_ | with_reducible refine wq_andT ?_ | with_reducible refine wq_orT ?_ | with_reducible refine wq_call ?_ | with_reducible refine wq_seq ?_
    | ((with_reducible refine' wq_var ?wpv ?_); (case wpv => rfl)) | ((with_reducible refine' wq_varO ?wpv ?_); (case wpv => rfl)) | ((with_reducible refine' wq_varI ?wpv ?_); (case wpv => rfl))
    | with_reducible refine wq_andV ?_ | with_reducible refine wq_orV ?_ | with_reducible refine wq_notV ?_ | with_reducible refine wq_chain ?_
    | with_reducible refine sq_nx ?_ | with_reducible refine sq_rt ?_ | with_reducible refine sq_bk ?_ | with_reducible refine sq_ct ?_ | with_reducible refine lp_nx ?_ | with_reducible refine lp_rt ?_ | with_reducible refine lp_bk ?_ | with_reducible refine lp_ct ?_
    | (with_reducible refine hv_some ?_) | (with_reducible refine hv_add ?_) | (with_reducible refine hv_sub ?_) | (with_reducible refine hv_eq ?_) | (with_reducible refine hv_ne ?_) | (with_reducible refine hv_lt ?_) | (with_reducible refine hv_le ?_) | (with_reducible refine hv_gt ?_) | (with_reducible refine hv_ge ?_) | (with_reducible refine ex_bool ?_))
  refine hv_of rfl ?_
  repeat' (first
    | with_reducible refine w_seq ?_ | with_reducible refine w_nx ?_ | with_reducible refine w_bk ?_ | with_reducible refine w_ct ?_ | with_reducible refine w_if ?_ | with_reducible refine w_ret ?_ | with_reducible refine w_retO ?_ | with_reducible refine w_set ?_ | with_reducible refine w_setO ?_
    | with_reducible refine w_asg ?_ | with_reducible refine w_drop ?_ | with_reducible refine w_par ?_
    | with_reducible refine we_q ?_ | with_reducible refine wt_q ?_ | with_reducible refine wl_own ?_ | with_reducible refine we_op2 ?_ | with_reducible refine wl_nil ?_ | with_reducible refine wl_cons ?_ | with_reducible refine we_tup ?_ | with_reducible refine wl_lst ?_ | with_reducible refine we_call ?_
    | with_reducible refine wt_v ?_ | with_reducible refine wt_not ?_ | with_reducible refine wt_and ?_ | with_reducible refine wt_or ?_ | with_reducible refine we_if ?_ | with_reducible refine we_is ?_
    | with_reducible refine wq_c ?_ | with_reducible refine wq_op1 ?_ | with_reducible refine wq_op2 ?_ | with_reducible refine wq_nil ?_ | with_reducible refine wq_cons ?_ | with_reducible refine wq_tup ?_ | with_reducible refine wq_lst ?_ | with_reducible refine wq_if ?_ | with_reducible refine wq_tv ?_ | with_reducible refine wq_notT ?_ | with_reducible refine wq_andT ?_ | with_reducible refine wq_orT ?_ | with_reducible refine wq_call ?_ | with_reducible refine wq_seq ?_
    | ((with_reducible refine' wq_var ?wpv ?_); (case wpv => rfl)) | ((with_reducible refine' wq_varO ?wpv ?_); (case wpv => rfl)) | ((with_reducible refine' wq_varI ?wpv ?_); (case wpv => rfl))
    | with_reducible refine wq_andV ?_ | with_reducible refine wq_orV ?_ | with_reducible refine wq_notV ?_ | with_reducible refine wq_chain ?_
    | with_reducible refine sq_nx ?_ | with_reducible refine sq_rt ?_ | with_reducible refine sq_bk ?_ | with_reducible refine sq_ct ?_ | with_reducible refine lp_nx ?_ | with_reducible refine lp_rt ?_ | with_reducible refine lp_bk ?_ | with_reducible refine lp_ct ?_
    | (with_reducible refine hv_some ?_) | (with_reducible refine hv_add ?_) | (with_reducible refine hv_sub ?_) | (with_reducible refine hv_eq ?_) | (with_reducible refine hv_ne ?_) | (with_reducible refine hv_lt ?_) | (with_reducible refine hv_le ?_) | (with_reducible refine hv_gt ?_) | (with_reducible refine hv_ge ?_) | (with_reducible refine ex_bool ?_))
  refine hv_of lG1 ?_
  repeat' (first
    | with_reducible refine w_seq ?_ | with_reducible refine w_nx ?_ | with_reducible refine w_bk ?_ | with_reducible refine w_ct ?_ | with_reducible refine w_if ?_ | with_reducible refine w_ret ?_ | with_reducible refine w_retO ?_ | with_reducible refine w_set ?_ | with_reducible refine w_setO ?_
    | with_reducible refine w_asg ?_ | with_reducible refine w_drop ?_ | with_reducible refine w_par ?_
    | with_reducible refine we_q ?_ | with_reducible refine wt_q ?_ | with_reducible refine wl_own ?_ | with_reducible refine we_op2 ?_ | with_reducible refine wl_nil ?_ | with_reducible refine wl_cons ?_ | with_reducible refine we_tup ?_ | with_reducible refine wl_lst ?_ | with_reducible refine we_call ?_
    | with_reducible refine wt_v ?_ | with_reducible refine wt_not ?_ | with_reducible refine wt_and ?_ | with_reducible refine wt_or ?_ | with_reducible refine we_if ?_ | with_reducible refine we_is ?_
    | with_reducible refine wq_c ?_ | with_reducible refine wq_op1 ?_ | with_reducible refine wq_op2 ?_ | with_reducible refine wq_nil ?_ | with_reducible refine wq_cons ?_ | with_reducible refine wq_tup ?_ | with_reducible refine wq_lst ?_ | with_reducible refine wq_if ?_ | with_reducible refine wq_tv ?_ | with_reducible refine wq_notT ?_ | with_reducible refine wq_andT ?_ | with_reducible refine wq_orT ?_ | with_reducible refine wq_call ?_ | with_reducible refine wq_seq ?_
    | ((with_reducible refine' wq_var ?wpv ?_); (case wpv => rfl)) | ((with_reducible refine' wq_varO ?wpv ?_); (case wpv => rfl)) | ((with_reducible refine' wq_varI ?wpv ?_); (case wpv => rfl))
    | with_reducible refine wq_andV ?_ | with_reducible refine wq_orV ?_ | with_reducible refine wq_notV ?_ | with_reducible refine wq_chain ?_
    | with_reducible refine sq_nx ?_ | with_reducible refine sq_rt ?_ | with_reducible refine sq_bk ?_ | with_reducible refine sq_ct ?_ | with_reducible refine lp_nx ?_ | with_reducible refine lp_rt ?_ | with_reducible refine lp_bk ?_ | with_reducible refine lp_ct ?_
    | (with_reducible refine hv_some ?_) | (with_reducible refine hv_add ?_) | (with_reducible refine hv_sub ?_) | (with_reducible refine hv_eq ?_) | (with_reducible refine hv_ne ?_) | (with_reducible refine hv_lt ?_) | (with_reducible refine hv_le ?_) | (with_reducible refine hv_gt ?_) | (with_reducible refine hv_ge ?_) | (with_reducible refine ex_bool ?_))
  refine hv_of lG1 ⟨isOk_int (by decide), ?_⟩
  exact ⟨_, b, rfl, rfl, ok⟩
theorem eG2 (b : Bag) (y1 y3 y4 y5 y6 y7 y8 y9 y10 y11 y12 : M) : fB10 [.bag b, y1, .imm (.list [.tuple []]), y3, y4, y5, y6, y7, y8, y9, y10, y11, y12, .imm (.int 2)] = some (.nx [.bag b, y1, .imm (.list []), .imm (.int 1), .imm (.list []), .imm (.tuple [.int 2]), .imm (.int 2), y7, y8, y9, y10, y11, y12, .imm (.int 2)]) := by kernel_rfl
theorem lG2 : F_loose_rows [.int 2] = some (.int 0) := (fL 2 (by decide)).2.1
theorem few2_2 (b : Bag) (ok : OkB b) (y1 y3 y4 y5 y6 y7 y8 y9 y10 y11 y12 : M) : Wp few2 [.bag b, y1, .imm (.list [.tuple []]), y3, y4, y5, y6, y7, y8, y9, y10, y11, y12, .imm (.int 2)] (fun f => ∃ s b', f = .rt (.bool true) s ∧ s[0]? = some (.bag b') ∧ OkB b') := by
  unfold few2
  refine w_seq ⟨_, eG2 b y1 y3 y4 y5 y6 y7 y8 y9 y10 y11 y12, ?_⟩
  repeat' (first
    | with_reducible refine w_seq ?_ | with_reducible refine w_nx ?_ | with_reducible refine w_bk ?_ | with_reducible refine w_ct ?_ | with_reducible refine w_if ?_ | with_reducible refine w_ret ?_ | with_reducible refine w_retO ?_ | with_reducible refine w_set ?_ | with_reducible refine w_setO ?_
    | with_reducible refine w_asg ?_ | with_reducible refine w_drop ?_ | with_reducible refine w_par ?_
    | with_reducible refine we_q ?_ | with_reducible refine wt_q ?_ | with_reducible refine wl_own ?_ | with_reducible refine we_op2 ?_ | with_reducible refine wl_nil ?_ | with_reducible refine wl_cons ?_ | with_reducible refine we_tup ?_ | with_reducible refine wl_lst ?_ | with_reducible refine we_call ?_
    | with_reducible refine wt_v ?_ | with_reducible refine wt_not ?_ | with_reducible refine wt_and ?_ | with_reducible refine wt_or ?_ | with_reducible refine we_if ?_ | with_reducible refine we_is ?_
    | with_reducible refine wq_c ?_ | with_reducible refine wq_op1 ?_ | with_reducible refine wq_op2 ?_ | with_reducible refine wq_nil ?_ | with_reducible refine wq_cons ?_ | with_reducible refine wq_tup ?_ | with_reducible refine wq_lst ?_ | with_reducible refine wq_if ?_ | with_reducible refine wq_tv ?_ | with_reducible refine wq_notT ?_ | with_reducible refine wq_andT ?_ | with_reducible refine wq_orT ?_ | with_reducible refine wq_call ?_ | with_reducible refine wq_seq ?_
    | ((with_reducible refine' wq_var ?wpv ?_); (case wpv => rfl)) | ((with_reducible refine' wq_varO ?wpv ?_); (case wpv => rfl)) | ((with_reducible refine' wq_varI ?wpv ?_); (case wpv => rfl))
    | with_reducible refine wq_andV ?_ | with_reducible refine wq_orV ?_ | with_reducible refine wq_notV ?_ | with_reducible refine wq_chain ?_
    | with_reducible refine sq_nx ?_ | with_reducible refine sq_rt ?_ | with_reducible refine sq_bk ?_ | with_reducible refine sq_ct ?_ | with_reducible refine lp_nx ?_ | with_reducible refine lp_rt ?_ | with_reducible refine lp_bk ?_ | with_reducible refine lp_ct ?_
    | (with_reducible refine hv_some ?_) | (with_reducible refine hv_add ?_) | (with_reducible refine hv_sub ?_) | (with_reducible refine hv_eq ?_) | (with_reducible refine hv_ne ?_) | (with_reducible refine hv_lt ?_) | (with_reducible refine hv_le ?_) | (with_reducible refine hv_gt ?_) | (with_reducible refine hv_ge ?_) | (with_reducible refine ex_bool ?_))
  refine hv_of rfl ?_
  repeat' (first
    | with_reducible refine w_seq ?_ | with_reducible refine w_nx ?_ | with_reducible refine w_bk ?_ | with_reducible refine w_ct ?_ | with_reducible refine w_if ?_ | with_reducible refine w_ret ?_ | with_reducible refine w_retO ?_ | with_reducible refine w_set ?_ | with_reducible refine w_setO ?_
    | with_reducible refine w_asg ?_ | with_reducible refine w_drop ?_ | with_reducible refine w_par ?_
    | with_reducible refine we_q ?_ | with_reducible refine wt_q ?_ | with_reducible refine wl_own ?_ | with_reducible refine we_op2 ?_ | with_reducible refine wl_nil ?_ | with_reducible refine wl_cons ?_ | with_reducible refine we_tup ?_ | with_reducible refine wl_lst ?_ | with_reducible refine we_call ?_
    | with_reducible refine wt_v ?_ | with_reducible refine wt_not ?_ | with_reducible refine wt_and ?_ | with_reducible refine wt_or ?_ | with_reducible refine we_if ?_ | with_reducible refine we_is ?_
    | with_reducible refine wq_c ?_ | with_reducible refine wq_op1 ?_ | with_reducible refine wq_op2 ?_ | with_reducible refine wq_nil ?_ | with_reducible refine wq_cons ?_ | with_reducible refine wq_tup ?_ | with_reducible refine wq_lst ?_ | with_reducible refine wq_if ?_ | with_reducible refine wq_tv ?_ | with_reducible refine wq_notT ?_ | with_reducible refine wq_andT ?_ | with_reducible refine wq_orT ?_ | with_reducible refine wq_call ?_ | with_reducible refine wq_seq ?_
    | ((with_reducible refine' wq_var ?wpv ?_); (case wpv => rfl)) | ((with_reducible refine' wq_varO ?wpv ?_); (case wpv => rfl)) | ((with_reducible refine' wq_varI ?wpv ?_); (case wpv => rfl))
    | with_reducible refine wq_andV ?_ | with_reducible refine wq_orV ?_ | with_reducible refine wq_notV ?_ | with_reducible refine wq_chain ?_
    | with_reducible refine sq_nx ?_ | with_reducible refine sq_rt ?_ | with_reducible refine sq_bk ?_ | with_reducible refine sq_ct ?_ | with_reducible refine lp_nx ?_ | with_reducible refine lp_rt ?_ | with_reducible refine lp_bk ?_ | with_reducible refine lp_ct ?_
    | (with_reducible refine hv_some ?_) | (with_reducible refine hv_add ?_) | (with_reducible refine hv_sub ?_) | (with_reducible refine hv_eq ?_) | (with_reducible refine hv_ne ?_) | (with_reducible refine hv_lt ?_) | (with_reducible refine hv_le ?_) | (with_reducible refine hv_gt ?_) | (with_reducible refine hv_ge ?_) | (with_reducible refine ex_bool ?_))
  refine hv_of lG2 ?_
  repeat' (first
    | with_reducible refine w_seq ?_ | with_reducible refine w_nx ?_ | with_reducible refine w_bk ?_ | with_reducible refine w_ct ?_ | with_reducible refine w_if ?_ | with_reducible refine w_ret ?_ | with_reducible refine w_retO ?_ | with_reducible refine w_set ?_ | with_reducible refine w_setO ?_
    | with_reducible refine w_asg ?_ | with_reducible refine w_drop ?_ | with_reducible refine w_par ?_
    | with_reducible refine we_q ?_ | with_reducible refine wt_q ?_ | with_reducible refine wl_own ?_ | with_reducible refine we_op2 ?_ | with_reducible refine wl_nil ?_ | with_reducible refine wl_cons ?_ | with_reducible refine we_tup ?_ | with_reducible refine wl_lst ?_ | with_reducible refine we_call ?_
    | with_reducible refine wt_v ?_ | with_reducible refine wt_not ?_ | with_reducible refine wt_and ?_ | with_reducible refine wt_or ?_ | with_reducible refine we_if ?_ | with_reducible refine we_is ?_
    | with_reducible refine wq_c ?_ | with_reducible refine wq_op1 ?_ | with_reducible refine wq_op2 ?_ | with_reducible refine wq_nil ?_ | with_reducible refine wq_cons ?_ | with_reducible refine wq_tup ?_ | with_reducible refine wq_lst ?_ | with_reducible refine wq_if ?_ | with_reducible refine wq_tv ?_ | with_reducible refine wq_notT ?_ | with_reducible refine wq_andT ?_ | with_reducible refine wq_orT ?_ | with_reducible refine wq_call ?_ | with_reducible refine wq_seq ?_
    | ((with_reducible refine' wq_var ?wpv ?_); (case wpv => rfl)) | ((with_reducible refine' wq_varO ?wpv ?_); (case wpv => rfl)) | ((with_reducible refine' wq_varI ?wpv ?_); (case wpv => rfl))
    | with_reducible refine wq_andV ?_ | with_reducible refine wq_orV ?_ | with_reducible refine wq_notV ?_ | with_reducible refine wq_chain ?_
    | with_reducible refine sq_nx ?_ | with_reducible refine sq_rt ?_ | with_reducible refine sq_bk ?_ | with_reducible refine sq_ct ?_ | with_reducible refine lp_nx ?_ | with_reducible refine lp_rt ?_ | with_reducible refine lp_bk ?_ | with_reducible refine lp_ct ?_
    | (with_reducible refine hv_some ?_) | (with_reducible refine hv_add ?_) | (with_reducible refine hv_sub ?_) | (with_reducible refine hv_eq ?_) | (with_reducible refine hv_ne ?_) | (with_reducible refine hv_lt ?_) | (with_reducible refine hv_le ?_) | (with_reducible refine hv_gt ?_) | (with_reducible refine hv_ge ?_) | (with_reducible refine ex_bool ?_))
  refine hv_of lG2 ⟨isOk_int (by decide), ?_⟩
  exact ⟨_, b, rfl, rfl, ok⟩
theorem eG3 (b : Bag) (y1 y3 y4 y5 y6 y7 y8 y9 y10 y11 y12 : M) : fB10 [.bag b, y1, .imm (.list [.tuple []]), y3, y4, y5, y6, y7, y8, y9, y10, y11, y12, .imm (.int 3)] = some (.nx [.bag b, y1, .imm (.list []), .imm (.int 2), .imm (.list []), .imm (.tuple [.int 3, .int 1]), .imm (.int 3), y7, y8, y9, y10, y11, y12, .imm (.int 3)]) := by kernel_rfl
theorem lG3 : F_loose_rows [.int 3] = some (.int 0) := (fL 3 (by decide)).2.1
theorem few2_3 (b : Bag) (ok : OkB b) (y1 y3 y4 y5 y6 y7 y8 y9 y10 y11 y12 : M) : Wp few2 [.bag b, y1, .imm (.list [.tuple []]), y3, y4, y5, y6, y7, y8, y9, y10, y11, y12, .imm (.int 3)] (fun f => ∃ s b', f = .rt (.bool true) s ∧ s[0]? = some (.bag b') ∧ OkB b') := by
  unfold few2
  refine w_seq ⟨_, eG3 b y1 y3 y4 y5 y6 y7 y8 y9 y10 y11 y12, ?_⟩
  repeat' (first
    | with_reducible refine w_seq ?_ | with_reducible refine w_nx ?_ | with_reducible refine w_bk ?_ | with_reducible refine w_ct ?_ | with_reducible refine w_if ?_ | with_reducible refine w_ret ?_ | with_reducible refine w_retO ?_ | with_reducible refine w_set ?_ | with_reducible refine w_setO ?_
    | with_reducible refine w_asg ?_ | with_reducible refine w_drop ?_ | with_reducible refine w_par ?_
    | with_reducible refine we_q ?_ | with_reducible refine wt_q ?_ | with_reducible refine wl_own ?_ | with_reducible refine we_op2 ?_ | with_reducible refine wl_nil ?_ | with_reducible refine wl_cons ?_ | with_reducible refine we_tup ?_ | with_reducible refine wl_lst ?_ | with_reducible refine we_call ?_
    | with_reducible refine wt_v ?_ | with_reducible refine wt_not ?_ | with_reducible refine wt_and ?_ | with_reducible refine wt_or ?_ | with_reducible refine we_if ?_ | with_reducible refine we_is ?_
    | with_reducible refine wq_c ?_ | with_reducible refine wq_op1 ?_ | with_reducible refine wq_op2 ?_ | with_reducible refine wq_nil ?_ | with_reducible refine wq_cons ?_ | with_reducible refine wq_tup ?_ | with_reducible refine wq_lst ?_ | with_reducible refine wq_if ?_ | with_reducible refine wq_tv ?_ | with_reducible refine wq_notT ?_ | with_reducible refine wq_andT ?_ | with_reducible refine wq_orT ?_ | with_reducible refine wq_call ?_ | with_reducible refine wq_seq ?_
    | ((with_reducible refine' wq_var ?wpv ?_); (case wpv => rfl)) | ((with_reducible refine' wq_varO ?wpv ?_); (case wpv => rfl)) | ((with_reducible refine' wq_varI ?wpv ?_); (case wpv => rfl))
    | with_reducible refine wq_andV ?_ | with_reducible refine wq_orV ?_ | with_reducible refine wq_notV ?_ | with_reducible refine wq_chain ?_
    | with_reducible refine sq_nx ?_ | with_reducible refine sq_rt ?_ | with_reducible refine sq_bk ?_ | with_reducible refine sq_ct ?_ | with_reducible refine lp_nx ?_ | with_reducible refine lp_rt ?_ | with_reducible refine lp_bk ?_ | with_reducible refine lp_ct ?_
    | (with_reducible refine hv_some ?_) | (with_reducible refine hv_add ?_) | (with_reducible refine hv_sub ?_) | (with_reducible refine hv_eq ?_) | (with_reducible refine hv_ne ?_) | (with_reducible refine hv_lt ?_) | (with_reducible refine hv_le ?_) | (with_reducible refine hv_gt ?_) | (with_reducible refine hv_ge ?_) | (with_reducible refine ex_bool ?_))
  refine hv_of rfl ?_
  repeat' (first
    | with_reducible refine w_seq ?_ | with_reducible refine w_nx ?_ | with_reducible refine w_bk ?_ | with_reducible refine w_ct ?_ | with_reducible refine w_if ?_ | with_reducible refine w_ret ?_ | with_reducible refine w_retO ?_ | with_reducible refine w_set ?_ | with_reducible refine w_setO ?_
    | with_reducible refine w_asg ?_ | with_reducible refine w_drop ?_ | with_reducible refine w_par ?_
    | with_reducible refine we_q ?_ | with_reducible refine wt_q ?_ | with_reducible refine wl_own ?_ | with_reducible refine we_op2 ?_ | with_reducible refine wl_nil ?_ | with_reducible refine wl_cons ?_ | with_reducible refine we_tup ?_ | with_reducible refine wl_lst ?_ | with_reducible refine we_call ?_
    | with_reducible refine wt_v ?_ | with_reducible refine wt_not ?_ | with_reducible refine wt_and ?_ | with_reducible refine wt_or ?_ | with_reducible refine we_if ?_ | with_reducible refine we_is ?_
    | with_reducible refine wq_c ?_ | with_reducible refine wq_op1 ?_ | with_reducible refine wq_op2 ?_ | with_reducible refine wq_nil ?_ | with_reducible refine wq_cons ?_ | with_reducible refine wq_tup ?_ | with_reducible refine wq_lst ?_ | with_reducible refine wq_if ?_ | with_reducible refine wq_tv ?_ | with_reducible refine wq_notT ?_ | with_reducible refine wq_andT ?_ | with_reducible refine wq_orT ?_ | with_reducible refine wq_call ?_ | with_reducible refine wq_seq ?_
    | ((with_reducible refine' wq_var ?wpv ?_); (case wpv => rfl)) | ((with_reducible refine' wq_varO ?wpv ?_); (case wpv => rfl)) | ((with_reducible refine' wq_varI ?wpv ?_); (case wpv => rfl))
    | with_reducible refine wq_andV ?_ | with_reducible refine wq_orV ?_ | with_reducible refine wq_notV ?_ | with_reducible refine wq_chain ?_
    | with_reducible refine sq_nx ?_ | with_reducible refine sq_rt ?_ | with_reducible refine sq_bk ?_ | with_reducible refine sq_ct ?_ | with_reducible refine lp_nx ?_ | with_reducible refine lp_rt ?_ | with_reducible refine lp_bk ?_ | with_reducible refine lp_ct ?_
    | (with_reducible refine hv_some ?_) | (with_reducible refine hv_add ?_) | (with_reducible refine hv_sub ?_) | (with_reducible refine hv_eq ?_) | (with_reducible refine hv_ne ?_) | (with_reducible refine hv_lt ?_) | (with_reducible refine hv_le ?_) | (with_reducible refine hv_gt ?_) | (with_reducible refine hv_ge ?_) | (with_reducible refine ex_bool ?_))
  refine hv_of lG3 ?_
  repeat' (first
    | with_reducible refine w_seq ?_ | with_reducible refine w_nx ?_ | with_reducible refine w_bk ?_ | with_reducible refine w_ct ?_ | with_reducible refine w_if ?_ | with_reducible refine w_ret ?_ | with_reducible refine w_retO ?_ | with_reducible refine w_set ?_ | with_reducible refine w_setO ?_
    | with_reducible refine w_asg ?_ | with_reducible refine w_drop ?_ | with_reducible refine w_par ?_
    | with_reducible refine we_q ?_ | with_reducible refine wt_q ?_ | with_reducible refine wl_own ?_ | with_reducible refine we_op2 ?_ | with_reducible refine wl_nil ?_ | with_reducible refine wl_cons ?_ | with_reducible refine we_tup ?_ | with_reducible refine wl_lst ?_ | with_reducible refine we_call ?_
    | with_reducible refine wt_v ?_ | with_reducible refine wt_not ?_ | with_reducible refine wt_and ?_ | with_reducible refine wt_or ?_ | with_reducible refine we_if ?_ | with_reducible refine we_is ?_
    | with_reducible refine wq_c ?_ | with_reducible refine wq_op1 ?_ | with_reducible refine wq_op2 ?_ | with_reducible refine wq_nil ?_ | with_reducible refine wq_cons ?_ | with_reducible refine wq_tup ?_ | with_reducible refine wq_lst ?_ | with_reducible refine wq_if ?_ | with_reducible refine wq_tv ?_ | with_reducible refine wq_notT ?_ | with_reducible refine wq_andT ?_ | with_reducible refine wq_orT ?_ | with_reducible refine wq_call ?_ | with_reducible refine wq_seq ?_
    | ((with_reducible refine' wq_var ?wpv ?_); (case wpv => rfl)) | ((with_reducible refine' wq_varO ?wpv ?_); (case wpv => rfl)) | ((with_reducible refine' wq_varI ?wpv ?_); (case wpv => rfl))
    | with_reducible refine wq_andV ?_ | with_reducible refine wq_orV ?_ | with_reducible refine wq_notV ?_ | with_reducible refine wq_chain ?_
    | with_reducible refine sq_nx ?_ | with_reducible refine sq_rt ?_ | with_reducible refine sq_bk ?_ | with_reducible refine sq_ct ?_ | with_reducible refine lp_nx ?_ | with_reducible refine lp_rt ?_ | with_reducible refine lp_bk ?_ | with_reducible refine lp_ct ?_
    | (with_reducible refine hv_some ?_) | (with_reducible refine hv_add ?_) | (with_reducible refine hv_sub ?_) | (with_reducible refine hv_eq ?_) | (with_reducible refine hv_ne ?_) | (with_reducible refine hv_lt ?_) | (with_reducible refine hv_le ?_) | (with_reducible refine hv_gt ?_) | (with_reducible refine hv_ge ?_) | (with_reducible refine ex_bool ?_))
  refine hv_of lG3 ⟨isOk_int (by decide), ?_⟩
  exact ⟨_, b, rfl, rfl, ok⟩
theorem eG4 (b : Bag) (y1 y3 y4 y5 y6 y7 y8 y9 y10 y11 y12 : M) : fB10 [.bag b, y1, .imm (.list [.tuple []]), y3, y4, y5, y6, y7, y8, y9, y10, y11, y12, .imm (.int 4)] = some (.nx [.bag b, y1, .imm (.list [.tuple [.int 2, .int 4, .int 1, .int 3], .tuple [.int 3, .int 1, .int 4, .int 2]]), .imm (.int 3), .imm (.list [.tuple [.int 2, .int 4, .int 1, .int 3], .tuple [.int 3, .int 1, .int 4, .int 2]]), .imm (.tuple [.int 4, .int 1, .int 3]), .imm (.int 4), y7, y8, y9, y10, y11, y12, .imm (.int 4)]) := by kernel_rfl
theorem lG4 : F_loose_rows [.int 4] = some (.int 2) := (fL 4 (by decide)).2.1
theorem few2_4 (b : Bag) (ok : OkB b) (y1 y3 y4 y5 y6 y7 y8 y9 y10 y11 y12 : M) : Wp few2 [.bag b, y1, .imm (.list [.tuple []]), y3, y4, y5, y6, y7, y8, y9, y10, y11, y12, .imm (.int 4)] (fun f => ∃ s b', f = .rt (.bool true) s ∧ s[0]? = some (.bag b') ∧ OkB b') := by
  unfold few2
  refine w_seq ⟨_, eG4 b y1 y3 y4 y5 y6 y7 y8 y9 y10 y11 y12, ?_⟩
  repeat' (first
    | with_reducible refine w_seq ?_ | with_reducible refine w_nx ?_ | with_reducible refine w_bk ?_ | with_reducible refine w_ct ?_ | with_reducible refine w_if ?_ | with_reducible refine w_ret ?_ | with_reducible refine w_retO ?_ | with_reducible refine w_set ?_ | with_reducible refine w_setO ?_
    | with_reducible refine w_asg ?_ | with_reducible refine w_drop ?_ | with_reducible refine w_par ?_
    | with_reducible refine we_q ?_ | with_reducible refine wt_q ?_ | with_reducible refine wl_own ?_ | with_reducible refine we_op2 ?_ | with_reducible refine wl_nil ?_ | with_reducible refine wl_cons ?_ | with_reducible refine we_tup ?_ | with_reducible refine wl_lst ?_ | with_reducible refine we_call ?_
    | with_reducible refine wt_v ?_ | with_reducible refine wt_not ?_ | with_reducible refine wt_and ?_ | with_reducible refine wt_or ?_ | with_reducible refine we_if ?_ | with_reducible refine we_is ?_
    | with_reducible refine wq_c ?_ | with_reducible refine wq_op1 ?_ | with_reducible refine wq_op2 ?_ | with_reducible refine wq_nil ?_ | with_reducible refine wq_cons ?_ | with_reducible refine wq_tup ?_ | with_reducible refine wq_lst ?_ | with_reducible refine wq_if ?_ | with_reducible refine wq_tv ?_ | with_reducible refine wq_notT ?_ | with_reducible refine wq_andT ?_ | with_reducible refine wq_orT ?_ | with_reducible refine wq_call ?_ | with_reducible refine wq_seq ?_
    | ((with_reducible refine' wq_var ?wpv ?_); (case wpv => rfl)) | ((with_reducible refine' wq_varO ?wpv ?_); (case wpv => rfl)) | ((with_reducible refine' wq_varI ?wpv ?_); (case wpv => rfl))
    | with_reducible refine wq_andV ?_ | with_reducible refine wq_orV ?_ | with_reducible refine wq_notV ?_ | with_reducible refine wq_chain ?_
    | with_reducible refine sq_nx ?_ | with_reducible refine sq_rt ?_ | with_reducible refine sq_bk ?_ | with_reducible refine sq_ct ?_ | with_reducible refine lp_nx ?_ | with_reducible refine lp_rt ?_ | with_reducible refine lp_bk ?_ | with_reducible refine lp_ct ?_
    | (with_reducible refine hv_some ?_) | (with_reducible refine hv_add ?_) | (with_reducible refine hv_sub ?_) | (with_reducible refine hv_eq ?_) | (with_reducible refine hv_ne ?_) | (with_reducible refine hv_lt ?_) | (with_reducible refine hv_le ?_) | (with_reducible refine hv_gt ?_) | (with_reducible refine hv_ge ?_) | (with_reducible refine ex_bool ?_))
  refine hv_of rfl ?_
  repeat' (first
    | with_reducible refine w_seq ?_ | with_reducible refine w_nx ?_ | with_reducible refine w_bk ?_ | with_reducible refine w_ct ?_ | with_reducible refine w_if ?_ | with_reducible refine w_ret ?_ | with_reducible refine w_retO ?_ | with_reducible refine w_set ?_ | with_reducible refine w_setO ?_
    | with_reducible refine w_asg ?_ | with_reducible refine w_drop ?_ | with_reducible refine w_par ?_
    | with_reducible refine we_q ?_ | with_reducible refine wt_q ?_ | with_reducible refine wl_own ?_ | with_reducible refine we_op2 ?_ | with_reducible refine wl_nil ?_ | with_reducible refine wl_cons ?_ | with_reducible refine we_tup ?_ | with_reducible refine wl_lst ?_ | with_reducible refine we_call ?_
    | with_reducible refine wt_v ?_ | with_reducible refine wt_not ?_ | with_reducible refine wt_and ?_ | with_reducible refine wt_or ?_ | with_reducible refine we_if ?_ | with_reducible refine we_is ?_
    | with_reducible refine wq_c ?_ | with_reducible refine wq_op1 ?_ | with_reducible refine wq_op2 ?_ | with_reducible refine wq_nil ?_ | with_reducible refine wq_cons ?_ | with_reducible refine wq_tup ?_ | with_reducible refine wq_lst ?_ | with_reducible refine wq_if ?_ | with_reducible refine wq_tv ?_ | with_reducible refine wq_notT ?_ | with_reducible refine wq_andT ?_ | with_reducible refine wq_orT ?_ | with_reducible refine wq_call ?_ | with_reducible refine wq_seq ?_
    | ((with_reducible refine' wq_var ?wpv ?_); (case wpv => rfl)) | ((with_reducible refine' wq_varO ?wpv ?_); (case wpv => rfl)) | ((with_reducible refine' wq_varI ?wpv ?_); (case wpv => rfl))
    | with_reducible refine wq_andV ?_ | with_reducible refine wq_orV ?_ | with_reducible refine wq_notV ?_ | with_reducible refine wq_chain ?_
    | with_reducible refine sq_nx ?_ | with_reducible refine sq_rt ?_ | with_reducible refine sq_bk ?_ | with_reducible refine sq_ct ?_ | with_reducible refine lp_nx ?_ | with_reducible refine lp_rt ?_ | with_reducible refine lp_bk ?_ | with_reducible refine lp_ct ?_
    | (with_reducible refine hv_some ?_) | (with_reducible refine hv_add ?_) | (with_reducible refine hv_sub ?_) | (with_reducible refine hv_eq ?_) | (with_reducible refine hv_ne ?_) | (with_reducible refine hv_lt ?_) | (with_reducible refine hv_le ?_) | (with_reducible refine hv_gt ?_) | (with_reducible refine hv_ge ?_) | (with_reducible refine ex_bool ?_))
  refine hv_of lG4 ?_
  repeat' (first
    | with_reducible refine w_seq ?_ | with_reducible refine w_nx ?_ | with_reducible refine w_bk ?_ | with_reducible refine w_ct ?_ | with_reducible refine w_if ?_ | with_reducible refine w_ret ?_ | with_reducible refine w_retO ?_ | with_reducible refine w_set ?_ | with_reducible refine w_setO ?_
    | with_reducible refine w_asg ?_ | with_reducible refine w_drop ?_ | with_reducible refine w_par ?_
    | with_reducible refine we_q ?_ | with_reducible refine wt_q ?_ | with_reducible refine wl_own ?_ | with_reducible refine we_op2 ?_ | with_reducible refine wl_nil ?_ | with_reducible refine wl_cons ?_ | with_reducible refine we_tup ?_ | with_reducible refine wl_lst ?_ | with_reducible refine we_call ?_
    | with_reducible refine wt_v ?_ | with_reducible refine wt_not ?_ | with_reducible refine wt_and ?_ | with_reducible refine wt_or ?_ | with_reducible refine we_if ?_ | with_reducible refine we_is ?_
    | with_reducible refine wq_c ?_ | with_reducible refine wq_op1 ?_ | with_reducible refine wq_op2 ?_ | with_reducible refine wq_nil ?_ | with_reducible refine wq_cons ?_ | with_reducible refine wq_tup ?_ | with_reducible refine wq_lst ?_ | with_reducible refine wq_if ?_ | with_reducible refine wq_tv ?_ | with_reducible refine wq_notT ?_ | with_reducible refine wq_andT ?_ | with_reducible refine wq_orT ?_ | with_reducible refine wq_call ?_ | with_reducible refine wq_seq ?_
    | ((with_reducible refine' wq_var ?wpv ?_); (case wpv => rfl)) | ((with_reducible refine' wq_varO ?wpv ?_); (case wpv => rfl)) | ((with_reducible refine' wq_varI ?wpv ?_); (case wpv => rfl))
    | with_reducible refine wq_andV ?_ | with_reducible refine wq_orV ?_ | with_reducible refine wq_notV ?_ | with_reducible refine wq_chain ?_
    | with_reducible refine sq_nx ?_ | with_reducible refine sq_rt ?_ | with_reducible refine sq_bk ?_ | with_reducible refine sq_ct ?_ | with_reducible refine lp_nx ?_ | with_reducible refine lp_rt ?_ | with_reducible refine lp_bk ?_ | with_reducible refine lp_ct ?_
    | (with_reducible refine hv_some ?_) | (with_reducible refine hv_add ?_) | (with_reducible refine hv_sub ?_) | (with_reducible refine hv_eq ?_) | (with_reducible refine hv_ne ?_) | (with_reducible refine hv_lt ?_) | (with_reducible refine hv_le ?_) | (with_reducible refine hv_gt ?_) | (with_reducible refine hv_ge ?_) | (with_reducible refine ex_bool ?_))
  refine hv_of lG4 ⟨isOk_int (by decide), ?_⟩
  exact ⟨_, b, rfl, rfl, ok⟩
theorem eG5 (b : Bag) (y1 y3 y4 y5 y6 y7 y8 y9 y10 y11 y12 : M) : fB10 [.bag b, y1, .imm (.list [.tuple []]), y3, y4, y5, y6, y7, y8, y9, y10, y11, y12, .imm (.int 5)] = some (.nx [.bag b, y1, .imm (.list [.tuple [.int 1, .int 3, .int 5, .int 2, .int 4], .tuple [.int 1, .int 4, .int 2, .int 5, .int 3], .tuple [.int 2, .int 4, .int 1, .int 3, .int 5], .tuple [.int 2, .int 4, .int 1, .int 5, .int 3], .tuple [.int 2, .int 5, .int 3, .int 1, .int 4], .tuple [.int 3, .int 1, .int 4, .int 2, .int 5], .tuple [.int 3, .int 1, .int 5, .int 2, .int 4], .tuple [.int 3, .int 5, .int 1, .int 4, .int 2], .tuple [.int 3, .int 5, .int 2, .int 4, .int 1], .tuple [.int 4, .int 1, .int 3, .int 5, .int 2], .tuple [.int 4, .int 2, .int 5, .int 1, .int 3], .tuple [.int 4, .int 2, .int 5, .int 3, .int 1], .tuple [.int 5, .int 2, .int 4, .int 1, .int 3], .tuple [.int 5, .int 3, .int 1, .int 4, .int 2]]), .imm (.int 4), .imm (.list [.tuple [.int 1, .int 3, .int 5, .int 2, .int 4], .tuple [.int 1, .int 4, .int 2, .int 5, .int 3], .tuple [.int 2, .int 4, .int 1, .int 3, .int 5], .tuple [.int 2, .int 4, .int 1, .int 5, .int 3], .tuple [.int 2, .int 5, .int 3, .int 1, .int 4], .tuple [.int 3, .int 1, .int 4, .int 2, .int 5], .tuple [.int 3, .int 1, .int 5, .int 2, .int 4], .tuple [.int 3, .int 5, .int 1, .int 4, .int 2], .tuple [.int 3, .int 5, .int 2, .int 4, .int 1], .tuple [.int 4, .int 1, .int 3, .int 5, .int 2], .tuple [.int 4, .int 2, .int 5, .int 1, .int 3], .tuple [.int 4, .int 2, .int 5, .int 3, .int 1], .tuple [.int 5, .int 2, .int 4, .int 1, .int 3], .tuple [.int 5, .int 3, .int 1, .int 4, .int 2]]), .imm (.tuple [.int 5, .int 3, .int 1, .int 4]), .imm (.int 5), y7, y8, y9, y10, y11, y12, .imm (.int 5)]) := by kernel_rfl
theorem lG5 : F_loose_rows [.int 5] = some (.int 14) := (fL 5 (by decide)).2.1
theorem few2_5 (b : Bag) (ok : OkB b) (y1 y3 y4 y5 y6 y7 y8 y9 y10 y11 y12 : M) : Wp few2 [.bag b, y1, .imm (.list [.tuple []]), y3, y4, y5, y6, y7, y8, y9, y10, y11, y12, .imm (.int 5)] (fun f => ∃ s b', f = .rt (.bool true) s ∧ s[0]? = some (.bag b') ∧ OkB b') := by
  unfold few2
  refine w_seq ⟨_, eG5 b y1 y3 y4 y5 y6 y7 y8 y9 y10 y11 y12, ?_⟩
  repeat' (first
    | with_reducible refine w_seq ?_ | with_reducible refine w_nx ?_ | with_reducible refine w_bk ?_ | with_reducible refine w_ct ?_ | with_reducible refine w_if ?_ | with_reducible refine w_ret ?_ | with_reducible refine w_retO ?_ | with_reducible refine w_set ?_ | with_reducible refine w_setO ?_
    | with_reducible refine w_asg ?_ | with_reducible refine w_drop ?_ | with_reducible refine w_par ?_
    | with_reducible refine we_q ?_ | with_reducible refine wt_q ?_ | with_reducible refine wl_own ?_ | with_reducible refine we_op2 ?_ | with_reducible refine wl_nil ?_ | with_reducible refine wl_cons ?_ | with_reducible refine we_tup ?_ | with_reducible refine wl_lst ?_ | with_reducible refine we_call ?_
    | with_reducible refine wt_v ?_ | with_reducible refine wt_not ?_ | with_reducible refine wt_and ?_ | with_reducible refine wt_or ?_ | with_reducible refine we_if ?_ | with_reducible refine we_is ?_
    | with_reducible refine wq_c ?_ | with_reducible refine wq_op1 ?_ | with_reducible refine wq_op2 ?_ | with_reducible refine wq_nil ?_ | with_reducible refine wq_cons ?_ | with_reducible refine wq_tup ?_ | with_reducible refine wq_lst ?_ | with_reducible refine wq_if ?_ | with_reducible refine wq_tv ?_ | with_reducible refine wq_notT ?_ | with_reducible refine wq_andT ?_ | with_reducible refine wq_orT ?_ | with_reducible refine wq_call ?_ | with_reducible refine wq_seq ?_
    | ((with_reducible refine' wq_var ?wpv ?_); (case wpv => rfl)) | ((with_reducible refine' wq_varO ?wpv ?_); (case wpv => rfl)) | ((with_reducible refine' wq_varI ?wpv ?_); (case wpv => rfl))
    | with_reducible refine wq_andV ?_ | with_reducible refine wq_orV ?_ | with_reducible refine wq_notV ?_ | with_reducible refine wq_chain ?_
    | with_reducible refine sq_nx ?_ | with_reducible refine sq_rt ?_ | with_reducible refine sq_bk ?_ | with_reducible refine sq_ct ?_ | with_reducible refine lp_nx ?_ | with_reducible refine lp_rt ?_ | with_reducible refine lp_bk ?_ | with_reducible refine lp_ct ?_
    | (with_reducible refine hv_some ?_) | (with_reducible refine hv_add ?_) | (with_reducible refine hv_sub ?_) | (with_reducible refine hv_eq ?_) | (with_reducible refine hv_ne ?_) | (with_reducible refine hv_lt ?_) | (with_reducible refine hv_le ?_) | (with_reducible refine hv_gt ?_) | (with_reducible refine hv_ge ?_) | (with_reducible refine ex_bool ?_))
  refine hv_of rfl ?_
  repeat' (first
    | with_reducible refine w_seq ?_ | with_reducible refine w_nx ?_ | with_reducible refine w_bk ?_ | with_reducible refine w_ct ?_ | with_reducible refine w_if ?_ | with_reducible refine w_ret ?_ | with_reducible refine w_retO ?_ | with_reducible refine w_set ?_ | with_reducible refine w_setO ?_
    | with_reducible refine w_asg ?_ | with_reducible refine w_drop ?_ | with_reducible refine w_par ?_
    | with_reducible refine we_q ?_ | with_reducible refine wt_q ?_ | with_reducible refine wl_own ?_ | with_reducible refine we_op2 ?_ | with_reducible refine wl_nil ?_ | with_reducible refine wl_cons ?_ | with_reducible refine we_tup ?_ | with_reducible refine wl_lst ?_ | with_reducible refine we_call ?_
    | with_reducible refine wt_v ?_ | with_reducible refine wt_not ?_ | with_reducible refine wt_and ?_ | with_reducible refine wt_or ?_ | with_reducible refine we_if ?_ | with_reducible refine we_is ?_
    | with_reducible refine wq_c ?_ | with_reducible refine wq_op1 ?_ | with_reducible refine wq_op2 ?_ | with_reducible refine wq_nil ?_ | with_reducible refine wq_cons ?_ | with_reducible refine wq_tup ?_ | with_reducible refine wq_lst ?_ | with_reducible refine wq_if ?_ | with_reducible refine wq_tv ?_ | with_reducible refine wq_notT ?_ | with_reducible refine wq_andT ?_ | with_reducible refine wq_orT ?_ | with_reducible refine wq_call ?_ | with_reducible refine wq_seq ?_
    | ((with_reducible refine' wq_var ?wpv ?_); (case wpv => rfl)) | ((with_reducible refine' wq_varO ?wpv ?_); (case wpv => rfl)) | ((with_reducible refine' wq_varI ?wpv ?_); (case wpv => rfl))
    | with_reducible refine wq_andV ?_ | with_reducible refine wq_orV ?_ | with_reducible refine wq_notV ?_ | with_reducible refine wq_chain ?_
    | with_reducible refine sq_nx ?_ | with_reducible refine sq_rt ?_ | with_reducible refine sq_bk ?_ | with_reducible refine sq_ct ?_ | with_reducible refine lp_nx ?_ | with_reducible refine lp_rt ?_ | with_reducible refine lp_bk ?_ | with_reducible refine lp_ct ?_
    | (with_reducible refine hv_some ?_) | (with_reducible refine hv_add ?_) | (with_reducible refine hv_sub ?_) | (with_reducible refine hv_eq ?_) | (with_reducible refine hv_ne ?_) | (with_reducible refine hv_lt ?_) | (with_reducible refine hv_le ?_) | (with_reducible refine hv_gt ?_) | (with_reducible refine hv_ge ?_) | (with_reducible refine ex_bool ?_))
  refine hv_of lG5 ?_
  repeat' (first
    | with_reducible refine w_seq ?_ | with_reducible refine w_nx ?_ | with_reducible refine w_bk ?_ | with_reducible refine w_ct ?_ | with_reducible refine w_if ?_ | with_reducible refine w_ret ?_ | with_reducible refine w_retO ?_ | with_reducible refine w_set ?_ | with_reducible refine w_setO ?_
    | with_reducible refine w_asg ?_ | with_reducible refine w_drop ?_ | with_reducible refine w_par ?_
    | with_reducible refine we_q ?_ | with_reducible refine wt_q ?_ | with_reducible refine wl_own ?_ | with_reducible refine we_op2 ?_ | with_reducible refine wl_nil ?_ | with_reducible refine wl_cons ?_ | with_reducible refine we_tup ?_ | with_reducible refine wl_lst ?_ | with_reducible refine we_call ?_
    | with_reducible refine wt_v ?_ | with_reducible refine wt_not ?_ | with_reducible refine wt_and ?_ | with_reducible refine wt_or ?_ | with_reducible refine we_if ?_ | with_reducible refine we_is ?_
    | with_reducible refine wq_c ?_ | with_reducible refine wq_op1 ?_ | with_reducible refine wq_op2 ?_ | with_reducible refine wq_nil ?_ | with_reducible refine wq_cons ?_ | with_reducible refine wq_tup ?_ | with_reducible refine wq_lst ?_ | with_reducible refine wq_if ?_ | with_reducible refine wq_tv ?_ | with_reducible refine wq_notT ?_ | with_reducible refine wq_andT ?_ | with_reducible refine wq_orT ?_ | with_reducible refine wq_call ?_ | with_reducible refine wq_seq ?_
    | ((with_reducible refine' wq_var ?wpv ?_); (case wpv => rfl)) | ((with_reducible refine' wq_varO ?wpv ?_); (case wpv => rfl)) | ((with_reducible refine' wq_varI ?wpv ?_); (case wpv => rfl))
    | with_reducible refine wq_andV ?_ | with_reducible refine wq_orV ?_ | with_reducible refine wq_notV ?_ | with_reducible refine wq_chain ?_
    | with_reducible refine sq_nx ?_ | with_reducible refine sq_rt ?_ | with_reducible refine sq_bk ?_ | with_reducible refine sq_ct ?_ | with_reducible refine lp_nx ?_ | with_reducible refine lp_rt ?_ | with_reducible refine lp_bk ?_ | with_reducible refine lp_ct ?_
    | (with_reducible refine hv_some ?_) | (with_reducible refine hv_add ?_) | (with_reducible refine hv_sub ?_) | (with_reducible refine hv_eq ?_) | (with_reducible refine hv_ne ?_) | (with_reducible refine hv_lt ?_) | (with_reducible refine hv_le ?_) | (with_reducible refine hv_gt ?_) | (with_reducible refine hv_ge ?_) | (with_reducible refine ex_bool ?_))
  refine hv_of lG5 ⟨isOk_int (by decide), ?_⟩
  exact ⟨_, b, rfl, rfl, ok⟩
theorem eF0_2 (b : Bag) : setO 7 (ownM (lstM argN)) (sF0_1 b) = some (.nx (sF0_2 b)) := by kernel_rfl
theorem few1_0 (b : Bag) (ok : OkB b) : Wp few1 (sF0_0 b) (fun f => ∃ s b', f = .rt (.bool true) s ∧ s[0]? = some (.bag b') ∧ OkB b') := by
  unfold few1
  refine w_seq ⟨_, eF0_1 b, sq_nx ?_⟩
  refine w_seq ⟨_, eF0_2 b, sq_nx ?_⟩
  refine w_seq ⟨_, eF0_3 b, sq_nx ?_⟩
  refine w_seq ⟨_, eF0_4 b, sq_nx ?_⟩
  refine w_seq ⟨_, eF0_5 b, sq_nx ?_⟩
  refine w_seq (w_set (we_callB (b0 := b) rfl ?_))
  repeat' (first
    | with_reducible refine w_seq ?_ | with_reducible refine w_nx ?_ | with_reducible refine w_bk ?_ | with_reducible refine w_ct ?_ | with_reducible refine w_if ?_ | with_reducible refine w_ret ?_ | with_reducible refine w_retO ?_ | with_reducible refine w_set ?_ | with_reducible refine w_setO ?_
    | with_reducible refine w_asg ?_ | with_reducible refine w_drop ?_ | with_reducible refine w_par ?_
    | with_reducible refine we_q ?_ | with_reducible refine wt_q ?_ | with_reducible refine wl_own ?_ | with_reducible refine we_op2 ?_ | with_reducible refine wl_nil ?_ | with_reducible refine wl_cons ?_ | with_reducible refine we_tup ?_ | with_reducible refine wl_lst ?_ | with_reducible refine we_call ?_
    | with_reducible refine wt_v ?_ | with_reducible refine wt_not ?_ | with_reducible refine wt_and ?_ | with_reducible refine wt_or ?_ | with_reducible refine we_if ?_ | with_reducible refine we_is ?_
    | with_reducible refine wq_c ?_ | with_reducible refine wq_op1 ?_ | with_reducible refine wq_op2 ?_ | with_reducible refine wq_nil ?_ | with_reducible refine wq_cons ?_ | with_reducible refine wq_tup ?_ | with_reducible refine wq_lst ?_ | with_reducible refine wq_if ?_ | with_reducible refine wq_tv ?_ | with_reducible refine wq_notT ?_ | with_reducible refine wq_andT ?_ | with_reducible refine wq_orT ?_ | with_reducible refine wq_call ?_ | with_reducible refine wq_seq ?_
    | ((with_reducible refine' wq_var ?wpv ?_); (case wpv => rfl)) | ((with_reducible refine' wq_varO ?wpv ?_); (case wpv => rfl)) | ((with_reducible refine' wq_varI ?wpv ?_); (case wpv => rfl))
    | with_reducible refine wq_andV ?_ | with_reducible refine wq_orV ?_ | with_reducible refine wq_notV ?_ | with_reducible refine wq_chain ?_
    | with_reducible refine sq_nx ?_ | with_reducible refine sq_rt ?_ | with_reducible refine sq_bk ?_ | with_reducible refine sq_ct ?_ | with_reducible refine lp_nx ?_ | with_reducible refine lp_rt ?_ | with_reducible refine lp_bk ?_ | with_reducible refine lp_ct ?_
    | (with_reducible refine hv_some ?_) | (with_reducible refine hv_add ?_) | (with_reducible refine hv_sub ?_) | (with_reducible refine hv_eq ?_) | (with_reducible refine hv_ne ?_) | (with_reducible refine hv_lt ?_) | (with_reducible refine hv_le ?_) | (with_reducible refine hv_gt ?_) | (with_reducible refine hv_ge ?_) | (with_reducible refine ex_bool ?_))
  refine hv_of rfl ?_
  repeat' (first
    | with_reducible refine w_seq ?_ | with_reducible refine w_nx ?_ | with_reducible refine w_bk ?_ | with_reducible refine w_ct ?_ | with_reducible refine w_if ?_ | with_reducible refine w_ret ?_ | with_reducible refine w_retO ?_ | with_reducible refine w_set ?_ | with_reducible refine w_setO ?_
    | with_reducible refine w_asg ?_ | with_reducible refine w_drop ?_ | with_reducible refine w_par ?_
    | with_reducible refine we_q ?_ | with_reducible refine wt_q ?_ | with_reducible refine wl_own ?_ | with_reducible refine we_op2 ?_ | with_reducible refine wl_nil ?_ | with_reducible refine wl_cons ?_ | with_reducible refine we_tup ?_ | with_reducible refine wl_lst ?_ | with_reducible refine we_call ?_
    | with_reducible refine wt_v ?_ | with_reducible refine wt_not ?_ | with_reducible refine wt_and ?_ | with_reducible refine wt_or ?_ | with_reducible refine we_if ?_ | with_reducible refine we_is ?_
    | with_reducible refine wq_c ?_ | with_reducible refine wq_op1 ?_ | with_reducible refine wq_op2 ?_ | with_reducible refine wq_nil ?_ | with_reducible refine wq_cons ?_ | with_reducible refine wq_tup ?_ | with_reducible refine wq_lst ?_ | with_reducible refine wq_if ?_ | with_reducible refine wq_tv ?_ | with_reducible refine wq_notT ?_ | with_reducible refine wq_andT ?_ | with_reducible refine wq_orT ?_ | with_reducible refine wq_call ?_ | with_reducible refine wq_seq ?_
    | ((with_reducible refine' wq_var ?wpv ?_); (case wpv => rfl)) | ((with_reducible refine' wq_varO ?wpv ?_); (case wpv => rfl)) | ((with_reducible refine' wq_varI ?wpv ?_); (case wpv => rfl))
    | with_reducible refine wq_andV ?_ | with_reducible refine wq_orV ?_ | with_reducible refine wq_notV ?_ | with_reducible refine wq_chain ?_
    | with_reducible refine sq_nx ?_ | with_reducible refine sq_rt ?_ | with_reducible refine sq_bk ?_ | with_reducible refine sq_ct ?_ | with_reducible refine lp_nx ?_ | with_reducible refine lp_rt ?_ | with_reducible refine lp_bk ?_ | with_reducible refine lp_ct ?_
    | (with_reducible refine hv_some ?_) | (with_reducible refine hv_add ?_) | (with_reducible refine hv_sub ?_) | (with_reducible refine hv_eq ?_) | (with_reducible refine hv_ne ?_) | (with_reducible refine hv_lt ?_) | (with_reducible refine hv_le ?_) | (with_reducible refine hv_gt ?_) | (with_reducible refine hv_ge ?_) | (with_reducible refine ex_bool ?_))
  refine ⟨b, rfl, draw_hv ok (by decide) (by decide) fun v b2 v0 v1 ok2 => ⟨by simp [sF0_5], ?_⟩⟩
  show seqQ _ _ (.nx (sF0_6 b2 v))
  refine sq_nx ?_
  obtain ⟨v, rfl⟩ := Int.eq_ofNat_of_zero_le v0
  have vl : v < rowsF0.length := by omega
  obtain ⟨row, l, k1, k2, k3⟩ := kp_some (aF0 v vl)
  refine w_seq ?_
  repeat' (first
    | with_reducible refine w_seq ?_ | with_reducible refine w_nx ?_ | with_reducible refine w_bk ?_ | with_reducible refine w_ct ?_ | with_reducible refine w_if ?_ | with_reducible refine w_ret ?_ | with_reducible refine w_retO ?_ | with_reducible refine w_set ?_ | with_reducible refine w_setO ?_
    | with_reducible refine w_asg ?_ | with_reducible refine w_drop ?_ | with_reducible refine w_par ?_
    | with_reducible refine we_q ?_ | with_reducible refine wt_q ?_ | with_reducible refine wl_own ?_ | with_reducible refine we_op2 ?_ | with_reducible refine wl_nil ?_ | with_reducible refine wl_cons ?_ | with_reducible refine we_tup ?_ | with_reducible refine wl_lst ?_ | with_reducible refine we_call ?_
    | with_reducible refine wt_v ?_ | with_reducible refine wt_not ?_ | with_reducible refine wt_and ?_ | with_reducible refine wt_or ?_ | with_reducible refine we_if ?_ | with_reducible refine we_is ?_
    | with_reducible refine wq_c ?_ | with_reducible refine wq_op1 ?_ | with_reducible refine wq_op2 ?_ | with_reducible refine wq_nil ?_ | with_reducible refine wq_cons ?_ | with_reducible refine wq_tup ?_ | with_reducible refine wq_lst ?_ | with_reducible refine wq_if ?_ | with_reducible refine wq_tv ?_ | with_reducible refine wq_notT ?_ | with_reducible refine wq_andT ?_ | with_reducible refine wq_orT ?_ | with_reducible refine wq_call ?_ | with_reducible refine wq_seq ?_
    | ((with_reducible refine' wq_var ?wpv ?_); (case wpv => rfl)) | ((with_reducible refine' wq_varO ?wpv ?_); (case wpv => rfl)) | ((with_reducible refine' wq_varI ?wpv ?_); (case wpv => rfl))
    | with_reducible refine wq_andV ?_ | with_reducible refine wq_orV ?_ | with_reducible refine wq_notV ?_ | with_reducible refine wq_chain ?_
    | with_reducible refine sq_nx ?_ | with_reducible refine sq_rt ?_ | with_reducible refine sq_bk ?_ | with_reducible refine sq_ct ?_ | with_reducible refine lp_nx ?_ | with_reducible refine lp_rt ?_ | with_reducible refine lp_bk ?_ | with_reducible refine lp_ct ?_
    | (with_reducible refine hv_some ?_) | (with_reducible refine hv_add ?_) | (with_reducible refine hv_sub ?_) | (with_reducible refine hv_eq ?_) | (with_reducible refine hv_ne ?_) | (with_reducible refine hv_lt ?_) | (with_reducible refine hv_le ?_) | (with_reducible refine hv_gt ?_) | (with_reducible refine hv_ge ?_) | (with_reducible refine ex_bool ?_))
  refine hv_of k1 ?_
  repeat' (first
    | with_reducible refine w_seq ?_ | with_reducible refine w_nx ?_ | with_reducible refine w_bk ?_ | with_reducible refine w_ct ?_ | with_reducible refine w_if ?_ | with_reducible refine w_ret ?_ | with_reducible refine w_retO ?_ | with_reducible refine w_set ?_ | with_reducible refine w_setO ?_
    | with_reducible refine w_asg ?_ | with_reducible refine w_drop ?_ | with_reducible refine w_par ?_
    | with_reducible refine we_q ?_ | with_reducible refine wt_q ?_ | with_reducible refine wl_own ?_ | with_reducible refine we_op2 ?_ | with_reducible refine wl_nil ?_ | with_reducible refine wl_cons ?_ | with_reducible refine we_tup ?_ | with_reducible refine wl_lst ?_ | with_reducible refine we_call ?_
    | with_reducible refine wt_v ?_ | with_reducible refine wt_not ?_ | with_reducible refine wt_and ?_ | with_reducible refine wt_or ?_ | with_reducible refine we_if ?_ | with_reducible refine we_is ?_
    | with_reducible refine wq_c ?_ | with_reducible refine wq_op1 ?_ | with_reducible refine wq_op2 ?_ | with_reducible refine wq_nil ?_ | with_reducible refine wq_cons ?_ | with_reducible refine wq_tup ?_ | with_reducible refine wq_lst ?_ | with_reducible refine wq_if ?_ | with_reducible refine wq_tv ?_ | with_reducible refine wq_notT ?_ | with_reducible refine wq_andT ?_ | with_reducible refine wq_orT ?_ | with_reducible refine wq_call ?_ | with_reducible refine wq_seq ?_
    | ((with_reducible refine' wq_var ?wpv ?_); (case wpv => rfl)) | ((with_reducible refine' wq_varO ?wpv ?_); (case wpv => rfl)) | ((with_reducible refine' wq_varI ?wpv ?_); (case wpv => rfl))
    | with_reducible refine wq_andV ?_ | with_reducible refine wq_orV ?_ | with_reducible refine wq_notV ?_ | with_reducible refine wq_chain ?_
    | with_reducible refine sq_nx ?_ | with_reducible refine sq_rt ?_ | with_reducible refine sq_bk ?_ | with_reducible refine sq_ct ?_ | with_reducible refine lp_nx ?_ | with_reducible refine lp_rt ?_ | with_reducible refine lp_bk ?_ | with_reducible refine lp_ct ?_
    | (with_reducible refine hv_some ?_) | (with_reducible refine hv_add ?_) | (with_reducible refine hv_sub ?_) | (with_reducible refine hv_eq ?_) | (with_reducible refine hv_ne ?_) | (with_reducible refine hv_lt ?_) | (with_reducible refine hv_le ?_) | (with_reducible refine hv_gt ?_) | (with_reducible refine hv_ge ?_) | (with_reducible refine ex_bool ?_))
  refine hv_of k2 ?_
  repeat' (first
    | with_reducible refine w_seq ?_ | with_reducible refine w_nx ?_ | with_reducible refine w_bk ?_ | with_reducible refine w_ct ?_ | with_reducible refine w_if ?_ | with_reducible refine w_ret ?_ | with_reducible refine w_retO ?_ | with_reducible refine w_set ?_ | with_reducible refine w_setO ?_
    | with_reducible refine w_asg ?_ | with_reducible refine w_drop ?_ | with_reducible refine w_par ?_
    | with_reducible refine we_q ?_ | with_reducible refine wt_q ?_ | with_reducible refine wl_own ?_ | with_reducible refine we_op2 ?_ | with_reducible refine wl_nil ?_ | with_reducible refine wl_cons ?_ | with_reducible refine we_tup ?_ | with_reducible refine wl_lst ?_ | with_reducible refine we_call ?_
    | with_reducible refine wt_v ?_ | with_reducible refine wt_not ?_ | with_reducible refine wt_and ?_ | with_reducible refine wt_or ?_ | with_reducible refine we_if ?_ | with_reducible refine we_is ?_
    | with_reducible refine wq_c ?_ | with_reducible refine wq_op1 ?_ | with_reducible refine wq_op2 ?_ | with_reducible refine wq_nil ?_ | with_reducible refine wq_cons ?_ | with_reducible refine wq_tup ?_ | with_reducible refine wq_lst ?_ | with_reducible refine wq_if ?_ | with_reducible refine wq_tv ?_ | with_reducible refine wq_notT ?_ | with_reducible refine wq_andT ?_ | with_reducible refine wq_orT ?_ | with_reducible refine wq_call ?_ | with_reducible refine wq_seq ?_
    | ((with_reducible refine' wq_var ?wpv ?_); (case wpv => rfl)) | ((with_reducible refine' wq_varO ?wpv ?_); (case wpv => rfl)) | ((with_reducible refine' wq_varI ?wpv ?_); (case wpv => rfl))
    | with_reducible refine wq_andV ?_ | with_reducible refine wq_orV ?_ | with_reducible refine wq_notV ?_ | with_reducible refine wq_chain ?_
    | with_reducible refine sq_nx ?_ | with_reducible refine sq_rt ?_ | with_reducible refine sq_bk ?_ | with_reducible refine sq_ct ?_ | with_reducible refine lp_nx ?_ | with_reducible refine lp_rt ?_ | with_reducible refine lp_bk ?_ | with_reducible refine lp_ct ?_
    | (with_reducible refine hv_some ?_) | (with_reducible refine hv_add ?_) | (with_reducible refine hv_sub ?_) | (with_reducible refine hv_eq ?_) | (with_reducible refine hv_ne ?_) | (with_reducible refine hv_lt ?_) | (with_reducible refine hv_le ?_) | (with_reducible refine hv_gt ?_) | (with_reducible refine hv_ge ?_) | (with_reducible refine ex_bool ?_))
  refine hv_of rfl ?_
  repeat' (first
    | with_reducible refine w_seq ?_ | with_reducible refine w_nx ?_ | with_reducible refine w_bk ?_ | with_reducible refine w_ct ?_ | with_reducible refine w_if ?_ | with_reducible refine w_ret ?_ | with_reducible refine w_retO ?_ | with_reducible refine w_set ?_ | with_reducible refine w_setO ?_
    | with_reducible refine w_asg ?_ | with_reducible refine w_drop ?_ | with_reducible refine w_par ?_
    | with_reducible refine we_q ?_ | with_reducible refine wt_q ?_ | with_reducible refine wl_own ?_ | with_reducible refine we_op2 ?_ | with_reducible refine wl_nil ?_ | with_reducible refine wl_cons ?_ | with_reducible refine we_tup ?_ | with_reducible refine wl_lst ?_ | with_reducible refine we_call ?_
    | with_reducible refine wt_v ?_ | with_reducible refine wt_not ?_ | with_reducible refine wt_and ?_ | with_reducible refine wt_or ?_ | with_reducible refine we_if ?_ | with_reducible refine we_is ?_
    | with_reducible refine wq_c ?_ | with_reducible refine wq_op1 ?_ | with_reducible refine wq_op2 ?_ | with_reducible refine wq_nil ?_ | with_reducible refine wq_cons ?_ | with_reducible refine wq_tup ?_ | with_reducible refine wq_lst ?_ | with_reducible refine wq_if ?_ | with_reducible refine wq_tv ?_ | with_reducible refine wq_notT ?_ | with_reducible refine wq_andT ?_ | with_reducible refine wq_orT ?_ | with_reducible refine wq_call ?_ | with_reducible refine wq_seq ?_
    | ((with_reducible refine' wq_var ?wpv ?_); (case wpv => rfl)) | ((with_reducible refine' wq_varO ?wpv ?_); (case wpv => rfl)) | ((with_reducible refine' wq_varI ?wpv ?_); (case wpv => rfl))
    | with_reducible refine wq_andV ?_ | with_reducible refine wq_orV ?_ | with_reducible refine wq_notV ?_ | with_reducible refine wq_chain ?_
    | with_reducible refine sq_nx ?_ | with_reducible refine sq_rt ?_ | with_reducible refine sq_bk ?_ | with_reducible refine sq_ct ?_ | with_reducible refine lp_nx ?_ | with_reducible refine lp_rt ?_ | with_reducible refine lp_bk ?_ | with_reducible refine lp_ct ?_
    | (with_reducible refine hv_some ?_) | (with_reducible refine hv_add ?_) | (with_reducible refine hv_sub ?_) | (with_reducible refine hv_eq ?_) | (with_reducible refine hv_ne ?_) | (with_reducible refine hv_lt ?_) | (with_reducible refine hv_le ?_) | (with_reducible refine hv_gt ?_) | (with_reducible refine hv_ge ?_) | (with_reducible refine ex_bool ?_))
  refine hv_of k3 ?_
  repeat' (first
    | with_reducible refine w_seq ?_ | with_reducible refine w_nx ?_ | with_reducible refine w_bk ?_ | with_reducible refine w_ct ?_ | with_reducible refine w_if ?_ | with_reducible refine w_ret ?_ | with_reducible refine w_retO ?_ | with_reducible refine w_set ?_ | with_reducible refine w_setO ?_
    | with_reducible refine w_asg ?_ | with_reducible refine w_drop ?_ | with_reducible refine w_par ?_
    | with_reducible refine we_q ?_ | with_reducible refine wt_q ?_ | with_reducible refine wl_own ?_ | with_reducible refine we_op2 ?_ | with_reducible refine wl_nil ?_ | with_reducible refine wl_cons ?_ | with_reducible refine we_tup ?_ | with_reducible refine wl_lst ?_ | with_reducible refine we_call ?_
    | with_reducible refine wt_v ?_ | with_reducible refine wt_not ?_ | with_reducible refine wt_and ?_ | with_reducible refine wt_or ?_ | with_reducible refine we_if ?_ | with_reducible refine we_is ?_
    | with_reducible refine wq_c ?_ | with_reducible refine wq_op1 ?_ | with_reducible refine wq_op2 ?_ | with_reducible refine wq_nil ?_ | with_reducible refine wq_cons ?_ | with_reducible refine wq_tup ?_ | with_reducible refine wq_lst ?_ | with_reducible refine wq_if ?_ | with_reducible refine wq_tv ?_ | with_reducible refine wq_notT ?_ | with_reducible refine wq_andT ?_ | with_reducible refine wq_orT ?_ | with_reducible refine wq_call ?_ | with_reducible refine wq_seq ?_
    | ((with_reducible refine' wq_var ?wpv ?_); (case wpv => rfl)) | ((with_reducible refine' wq_varO ?wpv ?_); (case wpv => rfl)) | ((with_reducible refine' wq_varI ?wpv ?_); (case wpv => rfl))
    | with_reducible refine wq_andV ?_ | with_reducible refine wq_orV ?_ | with_reducible refine wq_notV ?_ | with_reducible refine wq_chain ?_
    | with_reducible refine sq_nx ?_ | with_reducible refine sq_rt ?_ | with_reducible refine sq_bk ?_ | with_reducible refine sq_ct ?_ | with_reducible refine lp_nx ?_ | with_reducible refine lp_rt ?_ | with_reducible refine lp_bk ?_ | with_reducible refine lp_ct ?_
    | (with_reducible refine hv_some ?_) | (with_reducible refine hv_add ?_) | (with_reducible refine hv_sub ?_) | (with_reducible refine hv_eq ?_) | (with_reducible refine hv_ne ?_) | (with_reducible refine hv_lt ?_) | (with_reducible refine hv_le ?_) | (with_reducible refine hv_gt ?_) | (with_reducible refine hv_ge ?_) | (with_reducible refine ex_bool ?_))
  refine ⟨fun c => ?_, fun _ => ?_⟩
  · simp at c
  repeat' (first
    | with_reducible refine w_seq ?_ | with_reducible refine w_nx ?_ | with_reducible refine w_bk ?_ | with_reducible refine w_ct ?_ | with_reducible refine w_if ?_ | with_reducible refine w_ret ?_ | with_reducible refine w_retO ?_ | with_reducible refine w_set ?_ | with_reducible refine w_setO ?_
    | with_reducible refine w_asg ?_ | with_reducible refine w_drop ?_ | with_reducible refine w_par ?_
    | with_reducible refine we_q ?_ | with_reducible refine wt_q ?_ | with_reducible refine wl_own ?_ | with_reducible refine we_op2 ?_ | with_reducible refine wl_nil ?_ | with_reducible refine wl_cons ?_ | with_reducible refine we_tup ?_ | with_reducible refine wl_lst ?_ | with_reducible refine we_call ?_
    | with_reducible refine wt_v ?_ | with_reducible refine wt_not ?_ | with_reducible refine wt_and ?_ | with_reducible refine wt_or ?_ | with_reducible refine we_if ?_ | with_reducible refine we_is ?_
    | with_reducible refine wq_c ?_ | with_reducible refine wq_op1 ?_ | with_reducible refine wq_op2 ?_ | with_reducible refine wq_nil ?_ | with_reducible refine wq_cons ?_ | with_reducible refine wq_tup ?_ | with_reducible refine wq_lst ?_ | with_reducible refine wq_if ?_ | with_reducible refine wq_tv ?_ | with_reducible refine wq_notT ?_ | with_reducible refine wq_andT ?_ | with_reducible refine wq_orT ?_ | with_reducible refine wq_call ?_ | with_reducible refine wq_seq ?_
    | ((with_reducible refine' wq_var ?wpv ?_); (case wpv => rfl)) | ((with_reducible refine' wq_varO ?wpv ?_); (case wpv => rfl)) | ((with_reducible refine' wq_varI ?wpv ?_); (case wpv => rfl))
    | with_reducible refine wq_andV ?_ | with_reducible refine wq_orV ?_ | with_reducible refine wq_notV ?_ | with_reducible refine wq_chain ?_
    | with_reducible refine sq_nx ?_ | with_reducible refine sq_rt ?_ | with_reducible refine sq_bk ?_ | with_reducible refine sq_ct ?_ | with_reducible refine lp_nx ?_ | with_reducible refine lp_rt ?_ | with_reducible refine lp_bk ?_ | with_reducible refine lp_ct ?_
    | (with_reducible refine hv_some ?_) | (with_reducible refine hv_add ?_) | (with_reducible refine hv_sub ?_) | (with_reducible refine hv_eq ?_) | (with_reducible refine hv_ne ?_) | (with_reducible refine hv_lt ?_) | (with_reducible refine hv_le ?_) | (with_reducible refine hv_gt ?_) | (with_reducible refine hv_ge ?_) | (with_reducible refine ex_bool ?_))
  refine ⟨_, eF0_8 b2 v, sq_nx ?_⟩
  refine w_seq (w_asg (we_tup (wl_cons (we_draw rfl ok2 (by decide) (by decide) fun m b3 m0 m1 ok3 => ?_))))
  repeat' (first
    | with_reducible refine w_seq ?_ | with_reducible refine w_nx ?_ | with_reducible refine w_bk ?_ | with_reducible refine w_ct ?_ | with_reducible refine w_if ?_ | with_reducible refine w_ret ?_ | with_reducible refine w_retO ?_ | with_reducible refine w_set ?_ | with_reducible refine w_setO ?_
    | with_reducible refine w_asg ?_ | with_reducible refine w_drop ?_ | with_reducible refine w_par ?_
    | with_reducible refine we_q ?_ | with_reducible refine wt_q ?_ | with_reducible refine wl_own ?_ | with_reducible refine we_op2 ?_ | with_reducible refine wl_nil ?_ | with_reducible refine wl_cons ?_ | with_reducible refine we_tup ?_ | with_reducible refine wl_lst ?_ | with_reducible refine we_call ?_
    | with_reducible refine wt_v ?_ | with_reducible refine wt_not ?_ | with_reducible refine wt_and ?_ | with_reducible refine wt_or ?_ | with_reducible refine we_if ?_ | with_reducible refine we_is ?_
    | with_reducible refine wq_c ?_ | with_reducible refine wq_op1 ?_ | with_reducible refine wq_op2 ?_ | with_reducible refine wq_nil ?_ | with_reducible refine wq_cons ?_ | with_reducible refine wq_tup ?_ | with_reducible refine wq_lst ?_ | with_reducible refine wq_if ?_ | with_reducible refine wq_tv ?_ | with_reducible refine wq_notT ?_ | with_reducible refine wq_andT ?_ | with_reducible refine wq_orT ?_ | with_reducible refine wq_call ?_ | with_reducible refine wq_seq ?_
    | ((with_reducible refine' wq_var ?wpv ?_); (case wpv => rfl)) | ((with_reducible refine' wq_varO ?wpv ?_); (case wpv => rfl)) | ((with_reducible refine' wq_varI ?wpv ?_); (case wpv => rfl))
    | with_reducible refine wq_andV ?_ | with_reducible refine wq_orV ?_ | with_reducible refine wq_notV ?_ | with_reducible refine wq_chain ?_
    | with_reducible refine sq_nx ?_ | with_reducible refine sq_rt ?_ | with_reducible refine sq_bk ?_ | with_reducible refine sq_ct ?_ | with_reducible refine lp_nx ?_ | with_reducible refine lp_rt ?_ | with_reducible refine lp_bk ?_ | with_reducible refine lp_ct ?_
    | (with_reducible refine hv_some ?_) | (with_reducible refine hv_add ?_) | (with_reducible refine hv_sub ?_) | (with_reducible refine hv_eq ?_) | (with_reducible refine hv_ne ?_) | (with_reducible refine hv_lt ?_) | (with_reducible refine hv_le ?_) | (with_reducible refine hv_gt ?_) | (with_reducible refine hv_ge ?_) | (with_reducible refine ex_bool ?_))
  refine len10 (by simp) ?_
  repeat' (first
    | with_reducible refine w_seq ?_ | with_reducible refine w_nx ?_ | with_reducible refine w_bk ?_ | with_reducible refine w_ct ?_ | with_reducible refine w_if ?_ | with_reducible refine w_ret ?_ | with_reducible refine w_retO ?_ | with_reducible refine w_set ?_ | with_reducible refine w_setO ?_
    | with_reducible refine w_asg ?_ | with_reducible refine w_drop ?_ | with_reducible refine w_par ?_
    | with_reducible refine we_q ?_ | with_reducible refine wt_q ?_ | with_reducible refine wl_own ?_ | with_reducible refine we_op2 ?_ | with_reducible refine wl_nil ?_ | with_reducible refine wl_cons ?_ | with_reducible refine we_tup ?_ | with_reducible refine wl_lst ?_ | with_reducible refine we_call ?_
    | with_reducible refine wt_v ?_ | with_reducible refine wt_not ?_ | with_reducible refine wt_and ?_ | with_reducible refine wt_or ?_ | with_reducible refine we_if ?_ | with_reducible refine we_is ?_
    | with_reducible refine wq_c ?_ | with_reducible refine wq_op1 ?_ | with_reducible refine wq_op2 ?_ | with_reducible refine wq_nil ?_ | with_reducible refine wq_cons ?_ | with_reducible refine wq_tup ?_ | with_reducible refine wq_lst ?_ | with_reducible refine wq_if ?_ | with_reducible refine wq_tv ?_ | with_reducible refine wq_notT ?_ | with_reducible refine wq_andT ?_ | with_reducible refine wq_orT ?_ | with_reducible refine wq_call ?_ | with_reducible refine wq_seq ?_
    | ((with_reducible refine' wq_var ?wpv ?_); (case wpv => rfl)) | ((with_reducible refine' wq_varO ?wpv ?_); (case wpv => rfl)) | ((with_reducible refine' wq_varI ?wpv ?_); (case wpv => rfl))
    | with_reducible refine wq_andV ?_ | with_reducible refine wq_orV ?_ | with_reducible refine wq_notV ?_ | with_reducible refine wq_chain ?_
    | with_reducible refine sq_nx ?_ | with_reducible refine sq_rt ?_ | with_reducible refine sq_bk ?_ | with_reducible refine sq_ct ?_ | with_reducible refine lp_nx ?_ | with_reducible refine lp_rt ?_ | with_reducible refine lp_bk ?_ | with_reducible refine lp_ct ?_
    | (with_reducible refine hv_some ?_) | (with_reducible refine hv_add ?_) | (with_reducible refine hv_sub ?_) | (with_reducible refine hv_eq ?_) | (with_reducible refine hv_ne ?_) | (with_reducible refine hv_lt ?_) | (with_reducible refine hv_le ?_) | (with_reducible refine hv_gt ?_) | (with_reducible refine hv_ge ?_) | (with_reducible refine ex_bool ?_))
  refine len10 (by simp) ?_
  repeat' (first
    | with_reducible refine w_seq ?_ | with_reducible refine w_nx ?_ | with_reducible refine w_bk ?_ | with_reducible refine w_ct ?_ | with_reducible refine w_if ?_ | with_reducible refine w_ret ?_ | with_reducible refine w_retO ?_ | with_reducible refine w_set ?_ | with_reducible refine w_setO ?_
    | with_reducible refine w_asg ?_ | with_reducible refine w_drop ?_ | with_reducible refine w_par ?_
    | with_reducible refine we_q ?_ | with_reducible refine wt_q ?_ | with_reducible refine wl_own ?_ | with_reducible refine we_op2 ?_ | with_reducible refine wl_nil ?_ | with_reducible refine wl_cons ?_ | with_reducible refine we_tup ?_ | with_reducible refine wl_lst ?_ | with_reducible refine we_call ?_
    | with_reducible refine wt_v ?_ | with_reducible refine wt_not ?_ | with_reducible refine wt_and ?_ | with_reducible refine wt_or ?_ | with_reducible refine we_if ?_ | with_reducible refine we_is ?_
    | with_reducible refine wq_c ?_ | with_reducible refine wq_op1 ?_ | with_reducible refine wq_op2 ?_ | with_reducible refine wq_nil ?_ | with_reducible refine wq_cons ?_ | with_reducible refine wq_tup ?_ | with_reducible refine wq_lst ?_ | with_reducible refine wq_if ?_ | with_reducible refine wq_tv ?_ | with_reducible refine wq_notT ?_ | with_reducible refine wq_andT ?_ | with_reducible refine wq_orT ?_ | with_reducible refine wq_call ?_ | with_reducible refine wq_seq ?_
    | ((with_reducible refine' wq_var ?wpv ?_); (case wpv => rfl)) | ((with_reducible refine' wq_varO ?wpv ?_); (case wpv => rfl)) | ((with_reducible refine' wq_varI ?wpv ?_); (case wpv => rfl))
    | with_reducible refine wq_andV ?_ | with_reducible refine wq_orV ?_ | with_reducible refine wq_notV ?_ | with_reducible refine wq_chain ?_
    | with_reducible refine sq_nx ?_ | with_reducible refine sq_rt ?_ | with_reducible refine sq_bk ?_ | with_reducible refine sq_ct ?_ | with_reducible refine lp_nx ?_ | with_reducible refine lp_rt ?_ | with_reducible refine lp_bk ?_ | with_reducible refine lp_ct ?_
    | (with_reducible refine hv_some ?_) | (with_reducible refine hv_add ?_) | (with_reducible refine hv_sub ?_) | (with_reducible refine hv_eq ?_) | (with_reducible refine hv_ne ?_) | (with_reducible refine hv_lt ?_) | (with_reducible refine hv_le ?_) | (with_reducible refine hv_gt ?_) | (with_reducible refine hv_ge ?_) | (with_reducible refine ex_bool ?_))
  refine len10 (by simp) (hv_of rfl ?_)
  repeat' (first
    | with_reducible refine w_seq ?_ | with_reducible refine w_nx ?_ | with_reducible refine w_bk ?_ | with_reducible refine w_ct ?_ | with_reducible refine w_if ?_ | with_reducible refine w_ret ?_ | with_reducible refine w_retO ?_ | with_reducible refine w_set ?_ | with_reducible refine w_setO ?_
    | with_reducible refine w_asg ?_ | with_reducible refine w_drop ?_ | with_reducible refine w_par ?_
    | with_reducible refine we_q ?_ | with_reducible refine wt_q ?_ | with_reducible refine wl_own ?_ | with_reducible refine we_op2 ?_ | with_reducible refine wl_nil ?_ | with_reducible refine wl_cons ?_ | with_reducible refine we_tup ?_ | with_reducible refine wl_lst ?_ | with_reducible refine we_call ?_
    | with_reducible refine wt_v ?_ | with_reducible refine wt_not ?_ | with_reducible refine wt_and ?_ | with_reducible refine wt_or ?_ | with_reducible refine we_if ?_ | with_reducible refine we_is ?_
    | with_reducible refine wq_c ?_ | with_reducible refine wq_op1 ?_ | with_reducible refine wq_op2 ?_ | with_reducible refine wq_nil ?_ | with_reducible refine wq_cons ?_ | with_reducible refine wq_tup ?_ | with_reducible refine wq_lst ?_ | with_reducible refine wq_if ?_ | with_reducible refine wq_tv ?_ | with_reducible refine wq_notT ?_ | with_reducible refine wq_andT ?_ | with_reducible refine wq_orT ?_ | with_reducible refine wq_call ?_ | with_reducible refine wq_seq ?_
    | ((with_reducible refine' wq_var ?wpv ?_); (case wpv => rfl)) | ((with_reducible refine' wq_varO ?wpv ?_); (case wpv => rfl)) | ((with_reducible refine' wq_varI ?wpv ?_); (case wpv => rfl))
    | with_reducible refine wq_andV ?_ | with_reducible refine wq_orV ?_ | with_reducible refine wq_notV ?_ | with_reducible refine wq_chain ?_
    | with_reducible refine sq_nx ?_ | with_reducible refine sq_rt ?_ | with_reducible refine sq_bk ?_ | with_reducible refine sq_ct ?_ | with_reducible refine lp_nx ?_ | with_reducible refine lp_rt ?_ | with_reducible refine lp_bk ?_ | with_reducible refine lp_ct ?_
    | (with_reducible refine hv_some ?_) | (with_reducible refine hv_add ?_) | (with_reducible refine hv_sub ?_) | (with_reducible refine hv_eq ?_) | (with_reducible refine hv_ne ?_) | (with_reducible refine hv_lt ?_) | (with_reducible refine hv_le ?_) | (with_reducible refine hv_gt ?_) | (with_reducible refine hv_ge ?_) | (with_reducible refine ex_bool ?_))
  obtain ⟨m, rfl⟩ := Int.eq_ofNat_of_zero_le m0
  have mm : m = 0 ∨ m = 1 ∨ m = 2 ∨ m = 3 ∨ m = 4 ∨ m = 5 := by omega
  rcases mm with rfl | rfl | rfl | rfl | rfl | rfl
  · exact few2_0 b3 ok3 _ _ _ _ _ _ _ _ _ _ _
  · exact few2_1 b3 ok3 _ _ _ _ _ _ _ _ _ _ _
  · exact few2_2 b3 ok3 _ _ _ _ _ _ _ _ _ _ _
  · exact few2_3 b3 ok3 _ _ _ _ _ _ _ _ _ _ _
  · exact few2_4 b3 ok3 _ _ _ _ _ _ _ _ _ _ _
  · exact few2_5 b3 ok3 _ _ _ _ _ _ _ _ _ _ _
theorem eF1_2 (b : Bag) : setO 7 (ownM (lstM argN)) (sF1_1 b) = some (.nx (sF1_2 b)) := by kernel_rfl
theorem few1_1 (b : Bag) (ok : OkB b) : Wp few1 (sF1_0 b) (fun f => ∃ s b', f = .rt (.bool true) s ∧ s[0]? = some (.bag b') ∧ OkB b') := by
  unfold few1
  refine w_seq ⟨_, eF1_1 b, sq_nx ?_⟩
  refine w_seq ⟨_, eF1_2 b, sq_nx ?_⟩
  refine w_seq ⟨_, eF1_3 b, sq_nx ?_⟩
  refine w_seq ⟨_, eF1_4 b, sq_nx ?_⟩
  refine w_seq ⟨_, eF1_5 b, sq_nx ?_⟩
  refine w_seq (w_set (we_callB (b0 := b) rfl ?_))
  repeat' (first
    | with_reducible refine w_seq ?_ | with_reducible refine w_nx ?_ | with_reducible refine w_bk ?_ | with_reducible refine w_ct ?_ | with_reducible refine w_if ?_ | with_reducible refine w_ret ?_ | with_reducible refine w_retO ?_ | with_reducible refine w_set ?_ | with_reducible refine w_setO ?_
    | with_reducible refine w_asg ?_ | with_reducible refine w_drop ?_ | with_reducible refine w_par ?_
    | with_reducible refine we_q ?_ | with_reducible refine wt_q ?_ | with_reducible refine wl_own ?_ | with_reducible refine we_op2 ?_ | with_reducible refine wl_nil ?_ | with_reducible refine wl_cons ?_ | with_reducible refine we_tup ?_ | with_reducible refine wl_lst ?_ | with_reducible refine we_call ?_
    | with_reducible refine wt_v ?_ | with_reducible refine wt_not ?_ | with_reducible refine wt_and ?_ | with_reducible refine wt_or ?_ | with_reducible refine we_if ?_ | with_reducible refine we_is ?_
    | with_reducible refine wq_c ?_ | with_reducible refine wq_op1 ?_ | with_reducible refine wq_op2 ?_ | with_reducible refine wq_nil ?_ | with_reducible refine wq_cons ?_ | with_reducible refine wq_tup ?_ | with_reducible refine wq_lst ?_ | with_reducible refine wq_if ?_ | with_reducible refine wq_tv ?_ | with_reducible refine wq_notT ?_ | with_reducible refine wq_andT ?_ | with_reducible refine wq_orT ?_ | with_reducible refine wq_call ?_ | with_reducible refine wq_seq ?_
    | ((with_reducible refine' wq_var ?wpv ?_); (case wpv => rfl)) | ((with_reducible refine' wq_varO ?wpv ?_); (case wpv => rfl)) | ((with_reducible refine' wq_varI ?wpv ?_); (case wpv => rfl))
    | with_reducible refine wq_andV ?_ | with_reducible refine wq_orV ?_ | with_reducible refine wq_notV ?_ | with_reducible refine wq_chain ?_
    | with_reducible refine sq_nx ?_ | with_reducible refine sq_rt ?_ | with_reducible refine sq_bk ?_ | with_reducible refine sq_ct ?_ | with_reducible refine lp_nx ?_ | with_reducible refine lp_rt ?_ | with_reducible refine lp_bk ?_ | with_reducible refine lp_ct ?_
    | (with_reducible refine hv_some ?_) | (with_reducible refine hv_add ?_) | (with_reducible refine hv_sub ?_) | (with_reducible refine hv_eq ?_) | (with_reducible refine hv_ne ?_) | (with_reducible refine hv_lt ?_) | (with_reducible refine hv_le ?_) | (with_reducible refine hv_gt ?_) | (with_reducible refine hv_ge ?_) | (with_reducible refine ex_bool ?_))
  refine hv_of rfl ?_
  repeat' (first
    | with_reducible refine w_seq ?_ | with_reducible refine w_nx ?_ | with_reducible refine w_bk ?_ | with_reducible refine w_ct ?_ | with_reducible refine w_if ?_ | with_reducible refine w_ret ?_ | with_reducible refine w_retO ?_ | with_reducible refine w_set ?_ | with_reducible refine w_setO ?_
    | with_reducible refine w_asg ?_ | with_reducible refine w_drop ?_ | with_reducible refine w_par ?_
    | with_reducible refine we_q ?_ | with_reducible refine wt_q ?_ | with_reducible refine wl_own ?_ | with_reducible refine we_op2 ?_ | with_reducible refine wl_nil ?_ | with_reducible refine wl_cons ?_ | with_reducible refine we_tup ?_ | with_reducible refine wl_lst ?_ | with_reducible refine we_call ?_
    | with_reducible refine wt_v ?_ | with_reducible refine wt_not ?_ | with_reducible refine wt_and ?_ | with_reducible refine wt_or ?_ | with_reducible refine we_if ?_ | with_reducible refine we_is ?_
    | with_reducible refine wq_c ?_ | with_reducible refine wq_op1 ?_ | with_reducible refine wq_op2 ?_ | with_reducible refine wq_nil ?_ | with_reducible refine wq_cons ?_ | with_reducible refine wq_tup ?_ | with_reducible refine wq_lst ?_ | with_reducible refine wq_if ?_ | with_reducible refine wq_tv ?_ | with_reducible refine wq_notT ?_ | with_reducible refine wq_andT ?_ | with_reducible refine wq_orT ?_ | with_reducible refine wq_call ?_ | with_reducible refine wq_seq ?_
    | ((with_reducible refine' wq_var ?wpv ?_); (case wpv => rfl)) | ((with_reducible refine' wq_varO ?wpv ?_); (case wpv => rfl)) | ((with_reducible refine' wq_varI ?wpv ?_); (case wpv => rfl))
    | with_reducible refine wq_andV ?_ | with_reducible refine wq_orV ?_ | with_reducible refine wq_notV ?_ | with_reducible refine wq_chain ?_
    | with_reducible refine sq_nx ?_ | with_reducible refine sq_rt ?_ | with_reducible refine sq_bk ?_ | with_reducible refine sq_ct ?_ | with_reducible refine lp_nx ?_ | with_reducible refine lp_rt ?_ | with_reducible refine lp_bk ?_ | with_reducible refine lp_ct ?_
    | (with_reducible refine hv_some ?_) | (with_reducible refine hv_add ?_) | (with_reducible refine hv_sub ?_) | (with_reducible refine hv_eq ?_) | (with_reducible refine hv_ne ?_) | (with_reducible refine hv_lt ?_) | (with_reducible refine hv_le ?_) | (with_reducible refine hv_gt ?_) | (with_reducible refine hv_ge ?_) | (with_reducible refine ex_bool ?_))
  refine ⟨b, rfl, draw_hv ok (by decide) (by decide) fun v b2 v0 v1 ok2 => ⟨by simp [sF1_5], ?_⟩⟩
  show seqQ _ _ (.nx (sF1_6 b2 v))
  refine sq_nx ?_
  obtain ⟨v, rfl⟩ := Int.eq_ofNat_of_zero_le v0
  have vl : v < rowsF1.length := by omega
  obtain ⟨row, l, k1, k2, k3⟩ := kp_some (aF1 v vl)
  refine w_seq ?_
  repeat' (first
    | with_reducible refine w_seq ?_ | with_reducible refine w_nx ?_ | with_reducible refine w_bk ?_ | with_reducible refine w_ct ?_ | with_reducible refine w_if ?_ | with_reducible refine w_ret ?_ | with_reducible refine w_retO ?_ | with_reducible refine w_set ?_ | with_reducible refine w_setO ?_
    | with_reducible refine w_asg ?_ | with_reducible refine w_drop ?_ | with_reducible refine w_par ?_
    | with_reducible refine we_q ?_ | with_reducible refine wt_q ?_ | with_reducible refine wl_own ?_ | with_reducible refine we_op2 ?_ | with_reducible refine wl_nil ?_ | with_reducible refine wl_cons ?_ | with_reducible refine we_tup ?_ | with_reducible refine wl_lst ?_ | with_reducible refine we_call ?_
    | with_reducible refine wt_v ?_ | with_reducible refine wt_not ?_ | with_reducible refine wt_and ?_ | with_reducible refine wt_or ?_ | with_reducible refine we_if ?_ | with_reducible refine we_is ?_
    | with_reducible refine wq_c ?_ | with_reducible refine wq_op1 ?_ | with_reducible refine wq_op2 ?_ | with_reducible refine wq_nil ?_ | with_reducible refine wq_cons ?_ | with_reducible refine wq_tup ?_ | with_reducible refine wq_lst ?_ | with_reducible refine wq_if ?_ | with_reducible refine wq_tv ?_ | with_reducible refine wq_notT ?_ | with_reducible refine wq_andT ?_ | with_reducible refine wq_orT ?_ | with_reducible refine wq_call ?_ | with_reducible refine wq_seq ?_
    | ((with_reducible refine' wq_var ?wpv ?_); (case wpv => rfl)) | ((with_reducible refine' wq_varO ?wpv ?_); (case wpv => rfl)) | ((with_reducible refine' wq_varI ?wpv ?_); (case wpv => rfl))
    | with_reducible refine wq_andV ?_ | with_reducible refine wq_orV ?_ | with_reducible refine wq_notV ?_ | with_reducible refine wq_chain ?_
    | with_reducible refine sq_nx ?_ | with_reducible refine sq_rt ?_ | with_reducible refine sq_bk ?_ | with_reducible refine sq_ct ?_ | with_reducible refine lp_nx ?_ | with_reducible refine lp_rt ?_ | with_reducible refine lp_bk ?_ | with_reducible refine lp_ct ?_
    | (with_reducible refine hv_some ?_) | (with_reducible refine hv_add ?_) | (with_reducible refine hv_sub ?_) | (with_reducible refine hv_eq ?_) | (with_reducible refine hv_ne ?_) | (with_reducible refine hv_lt ?_) | (with_reducible refine hv_le ?_) | (with_reducible refine hv_gt ?_) | (with_reducible refine hv_ge ?_) | (with_reducible refine ex_bool ?_))
  refine hv_of k1 ?_
  repeat' (first
    | with_reducible refine w_seq ?_ | with_reducible refine w_nx ?_ | with_reducible refine w_bk ?_ | with_reducible refine w_ct ?_ | with_reducible refine w_if ?_ | with_reducible refine w_ret ?_ | with_reducible refine w_retO ?_ | with_reducible refine w_set ?_ | with_reducible refine w_setO ?_
    | with_reducible refine w_asg ?_ | with_reducible refine w_drop ?_ | with_reducible refine w_par ?_
    | with_reducible refine we_q ?_ | with_reducible refine wt_q ?_ | with_reducible refine wl_own ?_ | with_reducible refine we_op2 ?_ | with_reducible refine wl_nil ?_ | with_reducible refine wl_cons ?_ | with_reducible refine we_tup ?_ | with_reducible refine wl_lst ?_ | with_reducible refine we_call ?_
    | with_reducible refine wt_v ?_ | with_reducible refine wt_not ?_ | with_reducible refine wt_and ?_ | with_reducible refine wt_or ?_ | with_reducible refine we_if ?_ | with_reducible refine we_is ?_
    | with_reducible refine wq_c ?_ | with_reducible refine wq_op1 ?_ | with_reducible refine wq_op2 ?_ | with_reducible refine wq_nil ?_ | with_reducible refine wq_cons ?_ | with_reducible refine wq_tup ?_ | with_reducible refine wq_lst ?_ | with_reducible refine wq_if ?_ | with_reducible refine wq_tv ?_ | with_reducible refine wq_notT ?_ | with_reducible refine wq_andT ?_ | with_reducible refine wq_orT ?_ | with_reducible refine wq_call ?_ | with_reducible refine wq_seq ?_
    | ((with_reducible refine' wq_var ?wpv ?_); (case wpv => rfl)) | ((with_reducible refine' wq_varO ?wpv ?_); (case wpv => rfl)) | ((with_reducible refine' wq_varI ?wpv ?_); (case wpv => rfl))
    | with_reducible refine wq_andV ?_ | with_reducible refine wq_orV ?_ | with_reducible refine wq_notV ?_ | with_reducible refine wq_chain ?_
    | with_reducible refine sq_nx ?_ | with_reducible refine sq_rt ?_ | with_reducible refine sq_bk ?_ | with_reducible refine sq_ct ?_ | with_reducible refine lp_nx ?_ | with_reducible refine lp_rt ?_ | with_reducible refine lp_bk ?_ | with_reducible refine lp_ct ?_
    | (with_reducible refine hv_some ?_) | (with_reducible refine hv_add ?_) | (with_reducible refine hv_sub ?_) | (with_reducible refine hv_eq ?_) | (with_reducible refine hv_ne ?_) | (with_reducible refine hv_lt ?_) | (with_reducible refine hv_le ?_) | (with_reducible refine hv_gt ?_) | (with_reducible refine hv_ge ?_) | (with_reducible refine ex_bool ?_))
  refine hv_of k2 ?_
  repeat' (first
    | with_reducible refine w_seq ?_ | with_reducible refine w_nx ?_ | with_reducible refine w_bk ?_ | with_reducible refine w_ct ?_ | with_reducible refine w_if ?_ | with_reducible refine w_ret ?_ | with_reducible refine w_retO ?_ | with_reducible refine w_set ?_ | with_reducible refine w_setO ?_
    | with_reducible refine w_asg ?_ | with_reducible refine w_drop ?_ | with_reducible refine w_par ?_
    | with_reducible refine we_q ?_ | with_reducible refine wt_q ?_ | with_reducible refine wl_own ?_ | with_reducible refine we_op2 ?_ | with_reducible refine wl_nil ?_ | with_reducible refine wl_cons ?_ | with_reducible refine we_tup ?_ | with_reducible refine wl_lst ?_ | with_reducible refine we_call ?_
    | with_reducible refine wt_v ?_ | with_reducible refine wt_not ?_ | with_reducible refine wt_and ?_ | with_reducible refine wt_or ?_ | with_reducible refine we_if ?_ | with_reducible refine we_is ?_
    | with_reducible refine wq_c ?_ | with_reducible refine wq_op1 ?_ | with_reducible refine wq_op2 ?_ | with_reducible refine wq_nil ?_ | with_reducible refine wq_cons ?_ | with_reducible refine wq_tup ?_ | with_reducible refine wq_lst ?_ | with_reducible refine wq_if ?_ | with_reducible refine wq_tv ?_ | with_reducible refine wq_notT ?_ | with_reducible refine wq_andT ?_ | with_reducible refine wq_orT ?_ | with_reducible refine wq_call ?_ | with_reducible refine wq_seq ?_
    | ((with_reducible refine' wq_var ?wpv ?_); (case wpv => rfl)) | ((with_reducible refine' wq_varO ?wpv ?_); (case wpv => rfl)) | ((with_reducible refine' wq_varI ?wpv ?_); (case wpv => rfl))
    | with_reducible refine wq_andV ?_ | with_reducible refine wq_orV ?_ | with_reducible refine wq_notV ?_ | with_reducible refine wq_chain ?_
    | with_reducible refine sq_nx ?_ | with_reducible refine sq_rt ?_ | with_reducible refine sq_bk ?_ | with_reducible refine sq_ct ?_ | with_reducible refine lp_nx ?_ | with_reducible refine lp_rt ?_ | with_reducible refine lp_bk ?_ | with_reducible refine lp_ct ?_
    | (with_reducible refine hv_some ?_) | (with_reducible refine hv_add ?_) | (with_reducible refine hv_sub ?_) | (with_reducible refine hv_eq ?_) | (with_reducible refine hv_ne ?_) | (with_reducible refine hv_lt ?_) | (with_reducible refine hv_le ?_) | (with_reducible refine hv_gt ?_) | (with_reducible refine hv_ge ?_) | (with_reducible refine ex_bool ?_))
  refine hv_of rfl ?_
  repeat' (first
    | with_reducible refine w_seq ?_ | with_reducible refine w_nx ?_ | with_reducible refine w_bk ?_ | with_reducible refine w_ct ?_ | with_reducible refine w_if ?_ | with_reducible refine w_ret ?_ | with_reducible refine w_retO ?_ | with_reducible refine w_set ?_ | with_reducible refine w_setO ?_
    | with_reducible refine w_asg ?_ | with_reducible refine w_drop ?_ | with_reducible refine w_par ?_
    | with_reducible refine we_q ?_ | with_reducible refine wt_q ?_ | with_reducible refine wl_own ?_ | with_reducible refine we_op2 ?_ | with_reducible refine wl_nil ?_ | with_reducible refine wl_cons ?_ | with_reducible refine we_tup ?_ | with_reducible refine wl_lst ?_ | with_reducible refine we_call ?_
    | with_reducible refine wt_v ?_ | with_reducible refine wt_not ?_ | with_reducible refine wt_and ?_ | with_reducible refine wt_or ?_ | with_reducible refine we_if ?_ | with_reducible refine we_is ?_
    | with_reducible refine wq_c ?_ | with_reducible refine wq_op1 ?_ | with_reducible refine wq_op2 ?_ | with_reducible refine wq_nil ?_ | with_reducible refine wq_cons ?_ | with_reducible refine wq_tup ?_ | with_reducible refine wq_lst ?_ | with_reducible refine wq_if ?_ | with_reducible refine wq_tv ?_ | with_reducible refine wq_notT ?_ | with_reducible refine wq_andT ?_ | with_reducible refine wq_orT ?_ | with_reducible refine wq_call ?_ | with_reducible refine wq_seq ?_
    | ((with_reducible refine' wq_var ?wpv ?_); (case wpv => rfl)) | ((with_reducible refine' wq_varO ?wpv ?_); (case wpv => rfl)) | ((with_reducible refine' wq_varI ?wpv ?_); (case wpv => rfl))
    | with_reducible refine wq_andV ?_ | with_reducible refine wq_orV ?_ | with_reducible refine wq_notV ?_ | with_reducible refine wq_chain ?_
    | with_reducible refine sq_nx ?_ | with_reducible refine sq_rt ?_ | with_reducible refine sq_bk ?_ | with_reducible refine sq_ct ?_ | with_reducible refine lp_nx ?_ | with_reducible refine lp_rt ?_ | with_reducible refine lp_bk ?_ | with_reducible refine lp_ct ?_
    | (with_reducible refine hv_some ?_) | (with_reducible refine hv_add ?_) | (with_reducible refine hv_sub ?_) | (with_reducible refine hv_eq ?_) | (with_reducible refine hv_ne ?_) | (with_reducible refine hv_lt ?_) | (with_reducible refine hv_le ?_) | (with_reducible refine hv_gt ?_) | (with_reducible refine hv_ge ?_) | (with_reducible refine ex_bool ?_))
  refine hv_of k3 ?_
  repeat' (first
    | with_reducible refine w_seq ?_ | with_reducible refine w_nx ?_ | with_reducible refine w_bk ?_ | with_reducible refine w_ct ?_ | with_reducible refine w_if ?_ | with_reducible refine w_ret ?_ | with_reducible refine w_retO ?_ | with_reducible refine w_set ?_ | with_reducible refine w_setO ?_
    | with_reducible refine w_asg ?_ | with_reducible refine w_drop ?_ | with_reducible refine w_par ?_
    | with_reducible refine we_q ?_ | with_reducible refine wt_q ?_ | with_reducible refine wl_own ?_ | with_reducible refine we_op2 ?_ | with_reducible refine wl_nil ?_ | with_reducible refine wl_cons ?_ | with_reducible refine we_tup ?_ | with_reducible refine wl_lst ?_ | with_reducible refine we_call ?_
    | with_reducible refine wt_v ?_ | with_reducible refine wt_not ?_ | with_reducible refine wt_and ?_ | with_reducible refine wt_or ?_ | with_reducible refine we_if ?_ | with_reducible refine we_is ?_
    | with_reducible refine wq_c ?_ | with_reducible refine wq_op1 ?_ | with_reducible refine wq_op2 ?_ | with_reducible refine wq_nil ?_ | with_reducible refine wq_cons ?_ | with_reducible refine wq_tup ?_ | with_reducible refine wq_lst ?_ | with_reducible refine wq_if ?_ | with_reducible refine wq_tv ?_ | with_reducible refine wq_notT ?_ | with_reducible refine wq_andT ?_ | with_reducible refine wq_orT ?_ | with_reducible refine wq_call ?_ | with_reducible refine wq_seq ?_
    | ((with_reducible refine' wq_var ?wpv ?_); (case wpv => rfl)) | ((with_reducible refine' wq_varO ?wpv ?_); (case wpv => rfl)) | ((with_reducible refine' wq_varI ?wpv ?_); (case wpv => rfl))
    | with_reducible refine wq_andV ?_ | with_reducible refine wq_orV ?_ | with_reducible refine wq_notV ?_ | with_reducible refine wq_chain ?_
    | with_reducible refine sq_nx ?_ | with_reducible refine sq_rt ?_ | with_reducible refine sq_bk ?_ | with_reducible refine sq_ct ?_ | with_reducible refine lp_nx ?_ | with_reducible refine lp_rt ?_ | with_reducible refine lp_bk ?_ | with_reducible refine lp_ct ?_
    | (with_reducible refine hv_some ?_) | (with_reducible refine hv_add ?_) | (with_reducible refine hv_sub ?_) | (with_reducible refine hv_eq ?_) | (with_reducible refine hv_ne ?_) | (with_reducible refine hv_lt ?_) | (with_reducible refine hv_le ?_) | (with_reducible refine hv_gt ?_) | (with_reducible refine hv_ge ?_) | (with_reducible refine ex_bool ?_))
  refine ⟨fun c => ?_, fun _ => ?_⟩
  · simp at c
  repeat' (first
    | with_reducible refine w_seq ?_ | with_reducible refine w_nx ?_ | with_reducible refine w_bk ?_ | with_reducible refine w_ct ?_ | with_reducible refine w_if ?_ | with_reducible refine w_ret ?_ | with_reducible refine w_retO ?_ | with_reducible refine w_set ?_ | with_reducible refine w_setO ?_
    | with_reducible refine w_asg ?_ | with_reducible refine w_drop ?_ | with_reducible refine w_par ?_
    | with_reducible refine we_q ?_ | with_reducible refine wt_q ?_ | with_reducible refine wl_own ?_ | with_reducible refine we_op2 ?_ | with_reducible refine wl_nil ?_ | with_reducible refine wl_cons ?_ | with_reducible refine we_tup ?_ | with_reducible refine wl_lst ?_ | with_reducible refine we_call ?_
    | with_reducible refine wt_v ?_ | with_reducible refine wt_not ?_ | with_reducible refine wt_and ?_ | with_reducible refine wt_or ?_ | with_reducible refine we_if ?_ | with_reducible refine we_is ?_
    | with_reducible refine wq_c ?_ | with_reducible refine wq_op1 ?_ | with_reducible refine wq_op2 ?_ | with_reducible refine wq_nil ?_ | with_reducible refine wq_cons ?_ | with_reducible refine wq_tup ?_ | with_reducible refine wq_lst ?_ | with_reducible refine wq_if ?_ | with_reducible refine wq_tv ?_ | with_reducible refine wq_notT ?_ | with_reducible refine wq_andT ?_ | with_reducible refine wq_orT ?_ | with_reducible refine wq_call ?_ | with_reducible refine wq_seq ?_
    | ((with_reducible refine' wq_var ?wpv ?_); (case wpv => rfl)) | ((with_reducible refine' wq_varO ?wpv ?_); (case wpv => rfl)) | ((with_reducible refine' wq_varI ?wpv ?_); (case wpv => rfl))
    | with_reducible refine wq_andV ?_ | with_reducible refine wq_orV ?_ | with_reducible refine wq_notV ?_ | with_reducible refine wq_chain ?_
    | with_reducible refine sq_nx ?_ | with_reducible refine sq_rt ?_ | with_reducible refine sq_bk ?_ | with_reducible refine sq_ct ?_ | with_reducible refine lp_nx ?_ | with_reducible refine lp_rt ?_ | with_reducible refine lp_bk ?_ | with_reducible refine lp_ct ?_
    | (with_reducible refine hv_some ?_) | (with_reducible refine hv_add ?_) | (with_reducible refine hv_sub ?_) | (with_reducible refine hv_eq ?_) | (with_reducible refine hv_ne ?_) | (with_reducible refine hv_lt ?_) | (with_reducible refine hv_le ?_) | (with_reducible refine hv_gt ?_) | (with_reducible refine hv_ge ?_) | (with_reducible refine ex_bool ?_))
  refine ⟨_, eF1_8 b2 v, sq_nx ?_⟩
  refine w_seq (w_asg (we_tup (wl_cons (we_draw rfl ok2 (by decide) (by decide) fun m b3 m0 m1 ok3 => ?_))))
  repeat' (first
    | with_reducible refine w_seq ?_ | with_reducible refine w_nx ?_ | with_reducible refine w_bk ?_ | with_reducible refine w_ct ?_ | with_reducible refine w_if ?_ | with_reducible refine w_ret ?_ | with_reducible refine w_retO ?_ | with_reducible refine w_set ?_ | with_reducible refine w_setO ?_
    | with_reducible refine w_asg ?_ | with_reducible refine w_drop ?_ | with_reducible refine w_par ?_
    | with_reducible refine we_q ?_ | with_reducible refine wt_q ?_ | with_reducible refine wl_own ?_ | with_reducible refine we_op2 ?_ | with_reducible refine wl_nil ?_ | with_reducible refine wl_cons ?_ | with_reducible refine we_tup ?_ | with_reducible refine wl_lst ?_ | with_reducible refine we_call ?_
    | with_reducible refine wt_v ?_ | with_reducible refine wt_not ?_ | with_reducible refine wt_and ?_ | with_reducible refine wt_or ?_ | with_reducible refine we_if ?_ | with_reducible refine we_is ?_
    | with_reducible refine wq_c ?_ | with_reducible refine wq_op1 ?_ | with_reducible refine wq_op2 ?_ | with_reducible refine wq_nil ?_ | with_reducible refine wq_cons ?_ | with_reducible refine wq_tup ?_ | with_reducible refine wq_lst ?_ | with_reducible refine wq_if ?_ | with_reducible refine wq_tv ?_ | with_reducible refine wq_notT ?_ | with_reducible refine wq_andT ?_ | with_reducible refine wq_orT ?_ | with_reducible refine wq_call ?_ | with_reducible refine wq_seq ?_
    | ((with_reducible refine' wq_var ?wpv ?_); (case wpv => rfl)) | ((with_reducible refine' wq_varO ?wpv ?_); (case wpv => rfl)) | ((with_reducible refine' wq_varI ?wpv ?_); (case wpv => rfl))
    | with_reducible refine wq_andV ?_ | with_reducible refine wq_orV ?_ | with_reducible refine wq_notV ?_ | with_reducible refine wq_chain ?_
    | with_reducible refine sq_nx ?_ | with_reducible refine sq_rt ?_ | with_reducible refine sq_bk ?_ | with_reducible refine sq_ct ?_ | with_reducible refine lp_nx ?_ | with_reducible refine lp_rt ?_ | with_reducible refine lp_bk ?_ | with_reducible refine lp_ct ?_
    | (with_reducible refine hv_some ?_) | (with_reducible refine hv_add ?_) | (with_reducible refine hv_sub ?_) | (with_reducible refine hv_eq ?_) | (with_reducible refine hv_ne ?_) | (with_reducible refine hv_lt ?_) | (with_reducible refine hv_le ?_) | (with_reducible refine hv_gt ?_) | (with_reducible refine hv_ge ?_) | (with_reducible refine ex_bool ?_))
  refine len10 (by simp) ?_
  repeat' (first
    | with_reducible refine w_seq ?_ | with_reducible refine w_nx ?_ | with_reducible refine w_bk ?_ | with_reducible refine w_ct ?_ | with_reducible refine w_if ?_ | with_reducible refine w_ret ?_ | with_reducible refine w_retO ?_ | with_reducible refine w_set ?_ | with_reducible refine w_setO ?_
    | with_reducible refine w_asg ?_ | with_reducible refine w_drop ?_ | with_reducible refine w_par ?_
    | with_reducible refine we_q ?_ | with_reducible refine wt_q ?_ | with_reducible refine wl_own ?_ | with_reducible refine we_op2 ?_ | with_reducible refine wl_nil ?_ | with_reducible refine wl_cons ?_ | with_reducible refine we_tup ?_ | with_reducible refine wl_lst ?_ | with_reducible refine we_call ?_
    | with_reducible refine wt_v ?_ | with_reducible refine wt_not ?_ | with_reducible refine wt_and ?_ | with_reducible refine wt_or ?_ | with_reducible refine we_if ?_ | with_reducible refine we_is ?_
    | with_reducible refine wq_c ?_ | with_reducible refine wq_op1 ?_ | with_reducible refine wq_op2 ?_ | with_reducible refine wq_nil ?_ | with_reducible refine wq_cons ?_ | with_reducible refine wq_tup ?_ | with_reducible refine wq_lst ?_ | with_reducible refine wq_if ?_ | with_reducible refine wq_tv ?_ | with_reducible refine wq_notT ?_ | with_reducible refine wq_andT ?_ | with_reducible refine wq_orT ?_ | with_reducible refine wq_call ?_ | with_reducible refine wq_seq ?_
    | ((with_reducible refine' wq_var ?wpv ?_); (case wpv => rfl)) | ((with_reducible refine' wq_varO ?wpv ?_); (case wpv => rfl)) | ((with_reducible refine' wq_varI ?wpv ?_); (case wpv => rfl))
    | with_reducible refine wq_andV ?_ | with_reducible refine wq_orV ?_ | with_reducible refine wq_notV ?_ | with_reducible refine wq_chain ?_
    | with_reducible refine sq_nx ?_ | with_reducible refine sq_rt ?_ | with_reducible refine sq_bk ?_ | with_reducible refine sq_ct ?_ | with_reducible refine lp_nx ?_ | with_reducible refine lp_rt ?_ | with_reducible refine lp_bk ?_ | with_reducible refine lp_ct ?_
    | (with_reducible refine hv_some ?_) | (with_reducible refine hv_add ?_) | (with_reducible refine hv_sub ?_) | (with_reducible refine hv_eq ?_) | (with_reducible refine hv_ne ?_) | (with_reducible refine hv_lt ?_) | (with_reducible refine hv_le ?_) | (with_reducible refine hv_gt ?_) | (with_reducible refine hv_ge ?_) | (with_reducible refine ex_bool ?_))
  refine len10 (by simp) ?_
  repeat' (first
    | with_reducible refine w_seq ?_ | with_reducible refine w_nx ?_ | with_reducible refine w_bk ?_ | with_reducible refine w_ct ?_ | with_reducible refine w_if ?_ | with_reducible refine w_ret ?_ | with_reducible refine w_retO ?_ | with_reducible refine w_set ?_ | with_reducible refine w_setO ?_
    | with_reducible refine w_asg ?_ | with_reducible refine w_drop ?_ | with_reducible refine w_par ?_
    | with_reducible refine we_q ?_ | with_reducible refine wt_q ?_ | with_reducible refine wl_own ?_ | with_reducible refine we_op2 ?_ | with_reducible refine wl_nil ?_ | with_reducible refine wl_cons ?_ | with_reducible refine we_tup ?_ | with_reducible refine wl_lst ?_ | with_reducible refine we_call ?_
    | with_reducible refine wt_v ?_ | with_reducible refine wt_not ?_ | with_reducible refine wt_and ?_ | with_reducible refine wt_or ?_ | with_reducible refine we_if ?_ | with_reducible refine we_is ?_
    | with_reducible refine wq_c ?_ | with_reducible refine wq_op1 ?_ | with_reducible refine wq_op2 ?_ | with_reducible refine wq_nil ?_ | with_reducible refine wq_cons ?_ | with_reducible refine wq_tup ?_ | with_reducible refine wq_lst ?_ | with_reducible refine wq_if ?_ | with_reducible refine wq_tv ?_ | with_reducible refine wq_notT ?_ | with_reducible refine wq_andT ?_ | with_reducible refine wq_orT ?_ | with_reducible refine wq_call ?_ | with_reducible refine wq_seq ?_
    | ((with_reducible refine' wq_var ?wpv ?_); (case wpv => rfl)) | ((with_reducible refine' wq_varO ?wpv ?_); (case wpv => rfl)) | ((with_reducible refine' wq_varI ?wpv ?_); (case wpv => rfl))
    | with_reducible refine wq_andV ?_ | with_reducible refine wq_orV ?_ | with_reducible refine wq_notV ?_ | with_reducible refine wq_chain ?_
    | with_reducible refine sq_nx ?_ | with_reducible refine sq_rt ?_ | with_reducible refine sq_bk ?_ | with_reducible refine sq_ct ?_ | with_reducible refine lp_nx ?_ | with_reducible refine lp_rt ?_ | with_reducible refine lp_bk ?_ | with_reducible refine lp_ct ?_
    | (with_reducible refine hv_some ?_) | (with_reducible refine hv_add ?_) | (with_reducible refine hv_sub ?_) | (with_reducible refine hv_eq ?_) | (with_reducible refine hv_ne ?_) | (with_reducible refine hv_lt ?_) | (with_reducible refine hv_le ?_) | (with_reducible refine hv_gt ?_) | (with_reducible refine hv_ge ?_) | (with_reducible refine ex_bool ?_))
  refine len10 (by simp) (hv_of rfl ?_)
  repeat' (first
    | with_reducible refine w_seq ?_ | with_reducible refine w_nx ?_ | with_reducible refine w_bk ?_ | with_reducible refine w_ct ?_ | with_reducible refine w_if ?_ | with_reducible refine w_ret ?_ | with_reducible refine w_retO ?_ | with_reducible refine w_set ?_ | with_reducible refine w_setO ?_
    | with_reducible refine w_asg ?_ | with_reducible refine w_drop ?_ | with_reducible refine w_par ?_
    | with_reducible refine we_q ?_ | with_reducible refine wt_q ?_ | with_reducible refine wl_own ?_ | with_reducible refine we_op2 ?_ | with_reducible refine wl_nil ?_ | with_reducible refine wl_cons ?_ | with_reducible refine we_tup ?_ | with_reducible refine wl_lst ?_ | with_reducible refine we_call ?_
    | with_reducible refine wt_v ?_ | with_reducible refine wt_not ?_ | with_reducible refine wt_and ?_ | with_reducible refine wt_or ?_ | with_reducible refine we_if ?_ | with_reducible refine we_is ?_
    | with_reducible refine wq_c ?_ | with_reducible refine wq_op1 ?_ | with_reducible refine wq_op2 ?_ | with_reducible refine wq_nil ?_ | with_reducible refine wq_cons ?_ | with_reducible refine wq_tup ?_ | with_reducible refine wq_lst ?_ | with_reducible refine wq_if ?_ | with_reducible refine wq_tv ?_ | with_reducible refine wq_notT ?_ | with_reducible refine wq_andT ?_ | with_reducible refine wq_orT ?_ | with_reducible refine wq_call ?_ | with_reducible refine wq_seq ?_
    | ((with_reducible refine' wq_var ?wpv ?_); (case wpv => rfl)) | ((with_reducible refine' wq_varO ?wpv ?_); (case wpv => rfl)) | ((with_reducible refine' wq_varI ?wpv ?_); (case wpv => rfl))
    | with_reducible refine wq_andV ?_ | with_reducible refine wq_orV ?_ | with_reducible refine wq_notV ?_ | with_reducible refine wq_chain ?_
    | with_reducible refine sq_nx ?_ | with_reducible refine sq_rt ?_ | with_reducible refine sq_bk ?_ | with_reducible refine sq_ct ?_ | with_reducible refine lp_nx ?_ | with_reducible refine lp_rt ?_ | with_reducible refine lp_bk ?_ | with_reducible refine lp_ct ?_
    | (with_reducible refine hv_some ?_) | (with_reducible refine hv_add ?_) | (with_reducible refine hv_sub ?_) | (with_reducible refine hv_eq ?_) | (with_reducible refine hv_ne ?_) | (with_reducible refine hv_lt ?_) | (with_reducible refine hv_le ?_) | (with_reducible refine hv_gt ?_) | (with_reducible refine hv_ge ?_) | (with_reducible refine ex_bool ?_))
  obtain ⟨m, rfl⟩ := Int.eq_ofNat_of_zero_le m0
  have mm : m = 0 ∨ m = 1 ∨ m = 2 ∨ m = 3 ∨ m = 4 ∨ m = 5 := by omega
  rcases mm with rfl | rfl | rfl | rfl | rfl | rfl
  · exact few2_0 b3 ok3 _ _ _ _ _ _ _ _ _ _ _
  · exact few2_1 b3 ok3 _ _ _ _ _ _ _ _ _ _ _
  · exact few2_2 b3 ok3 _ _ _ _ _ _ _ _ _ _ _
  · exact few2_3 b3 ok3 _ _ _ _ _ _ _ _ _ _ _
  · exact few2_4 b3 ok3 _ _ _ _ _ _ _ _ _ _ _
  · exact few2_5 b3 ok3 _ _ _ _ _ _ _ _ _ _ _
theorem eF2_2 (b : Bag) : setO 7 (ownM (lstM argN)) (sF2_1 b) = some (.nx (sF2_2 b)) := by kernel_rfl
theorem few1_2 (b : Bag) (ok : OkB b) : Wp few1 (sF2_0 b) (fun f => ∃ s b', f = .rt (.bool true) s ∧ s[0]? = some (.bag b') ∧ OkB b') := by
  unfold few1
  refine w_seq ⟨_, eF2_1 b, sq_nx ?_⟩
  refine w_seq ⟨_, eF2_2 b, sq_nx ?_⟩
  refine w_seq ⟨_, eF2_3 b, sq_nx ?_⟩
  refine w_seq ⟨_, eF2_4 b, sq_nx ?_⟩
  refine w_seq ⟨_, eF2_5 b, sq_nx ?_⟩
  refine w_seq (w_set (we_callB (b0 := b) rfl ?_))
  repeat' (first
    | with_reducible refine w_seq ?_ | with_reducible refine w_nx ?_ | with_reducible refine w_bk ?_ | with_reducible refine w_ct ?_ | with_reducible refine w_if ?_ | with_reducible refine w_ret ?_ | with_reducible refine w_retO ?_ | with_reducible refine w_set ?_ | with_reducible refine w_setO ?_
    | with_reducible refine w_asg ?_ | with_reducible refine w_drop ?_ | with_reducible refine w_par ?_
    | with_reducible refine we_q ?_ | with_reducible refine wt_q ?_ | with_reducible refine wl_own ?_ | with_reducible refine we_op2 ?_ | with_reducible refine wl_nil ?_ | with_reducible refine wl_cons ?_ | with_reducible refine we_tup ?_ | with_reducible refine wl_lst ?_ | with_reducible refine we_call ?_
    | with_reducible refine wt_v ?_ | with_reducible refine wt_not ?_ | with_reducible refine wt_and ?_ | with_reducible refine wt_or ?_ | with_reducible refine we_if ?_ | with_reducible refine we_is ?_
    | with_reducible refine wq_c ?_ | with_reducible refine wq_op1 ?_ | with_reducible refine wq_op2 ?_ | with_reducible refine wq_nil ?_ | with_reducible refine wq_cons ?_ | with_reducible refine wq_tup ?_ | with_reducible refine wq_lst ?_ | with_reducible refine wq_if ?_ | with_reducible refine wq_tv ?_ | with_reducible refine wq_notT ?_ | with_reducible refine wq_andT ?_ | with_reducible refine wq_orT ?_ | with_reducible refine wq_call ?_ | with_reducible refine wq_seq ?_
    | ((with_reducible refine' wq_var ?wpv ?_); (case wpv => rfl)) | ((with_reducible refine' wq_varO ?wpv ?_); (case wpv => rfl)) | ((with_reducible refine' wq_varI ?wpv ?_); (case wpv => rfl))
    | with_reducible refine wq_andV ?_ | with_reducible refine wq_orV ?_ | with_reducible refine wq_notV ?_ | with_reducible refine wq_chain ?_
    | with_reducible refine sq_nx ?_ | with_reducible refine sq_rt ?_ | with_reducible refine sq_bk ?_ | with_reducible refine sq_ct ?_ | with_reducible refine lp_nx ?_ | with_reducible refine lp_rt ?_ | with_reducible refine lp_bk ?_ | with_reducible refine lp_ct ?_
    | (with_reducible refine hv_some ?_) | (with_reducible refine hv_add ?_) | (with_reducible refine hv_sub ?_) | (with_reducible refine hv_eq ?_) | (with_reducible refine hv_ne ?_) | (with_reducible refine hv_lt ?_) | (with_reducible refine hv_le ?_) | (with_reducible refine hv_gt ?_) | (with_reducible refine hv_ge ?_) | (with_reducible refine ex_bool ?_))
  refine hv_of rfl ?_
  repeat' (first
    | with_reducible refine w_seq ?_ | with_reducible refine w_nx ?_ | with_reducible refine w_bk ?_ | with_reducible refine w_ct ?_ | with_reducible refine w_if ?_ | with_reducible refine w_ret ?_ | with_reducible refine w_retO ?_ | with_reducible refine w_set ?_ | with_reducible refine w_setO ?_
    | with_reducible refine w_asg ?_ | with_reducible refine w_drop ?_ | with_reducible refine w_par ?_
    | with_reducible refine we_q ?_ | with_reducible refine wt_q ?_ | with_reducible refine wl_own ?_ | with_reducible refine we_op2 ?_ | with_reducible refine wl_nil ?_ | with_reducible refine wl_cons ?_ | with_reducible refine we_tup ?_ | with_reducible refine wl_lst ?_ | with_reducible refine we_call ?_
    | with_reducible refine wt_v ?_ | with_reducible refine wt_not ?_ | with_reducible refine wt_and ?_ | with_reducible refine wt_or ?_ | with_reducible refine we_if ?_ | with_reducible refine we_is ?_
    | with_reducible refine wq_c ?_ | with_reducible refine wq_op1 ?_ | with_reducible refine wq_op2 ?_ | with_reducible refine wq_nil ?_ | with_reducible refine wq_cons ?_ | with_reducible refine wq_tup ?_ | with_reducible refine wq_lst ?_ | with_reducible refine wq_if ?_ | with_reducible refine wq_tv ?_ | with_reducible refine wq_notT ?_ | with_reducible refine wq_andT ?_ | with_reducible refine wq_orT ?_ | with_reducible refine wq_call ?_ | with_reducible refine wq_seq ?_
    | ((with_reducible refine' wq_var ?wpv ?_); (case wpv => rfl)) | ((with_reducible refine' wq_varO ?wpv ?_); (case wpv => rfl)) | ((with_reducible refine' wq_varI ?wpv ?_); (case wpv => rfl))
    | with_reducible refine wq_andV ?_ | with_reducible refine wq_orV ?_ | with_reducible refine wq_notV ?_ | with_reducible refine wq_chain ?_
    | with_reducible refine sq_nx ?_ | with_reducible refine sq_rt ?_ | with_reducible refine sq_bk ?_ | with_reducible refine sq_ct ?_ | with_reducible refine lp_nx ?_ | with_reducible refine lp_rt ?_ | with_reducible refine lp_bk ?_ | with_reducible refine lp_ct ?_
    | (with_reducible refine hv_some ?_) | (with_reducible refine hv_add ?_) | (with_reducible refine hv_sub ?_) | (with_reducible refine hv_eq ?_) | (with_reducible refine hv_ne ?_) | (with_reducible refine hv_lt ?_) | (with_reducible refine hv_le ?_) | (with_reducible refine hv_gt ?_) | (with_reducible refine hv_ge ?_) | (with_reducible refine ex_bool ?_))
  refine ⟨b, rfl, draw_hv ok (by decide) (by decide) fun v b2 v0 v1 ok2 => ⟨by simp [sF2_5], ?_⟩⟩
  show seqQ _ _ (.nx (sF2_6 b2 v))
  refine sq_nx ?_
  obtain ⟨v, rfl⟩ := Int.eq_ofNat_of_zero_le v0
  have vl : v < rowsF2.length := by omega
  obtain ⟨row, l, k1, k2, k3⟩ := kp_some (aF2 v vl)
  refine w_seq ?_
  repeat' (first
    | with_reducible refine w_seq ?_ | with_reducible refine w_nx ?_ | with_reducible refine w_bk ?_ | with_reducible refine w_ct ?_ | with_reducible refine w_if ?_ | with_reducible refine w_ret ?_ | with_reducible refine w_retO ?_ | with_reducible refine w_set ?_ | with_reducible refine w_setO ?_
    | with_reducible refine w_asg ?_ | with_reducible refine w_drop ?_ | with_reducible refine w_par ?_
    | with_reducible refine we_q ?_ | with_reducible refine wt_q ?_ | with_reducible refine wl_own ?_ | with_reducible refine we_op2 ?_ | with_reducible refine wl_nil ?_ | with_reducible refine wl_cons ?_ | with_reducible refine we_tup ?_ | with_reducible refine wl_lst ?_ | with_reducible refine we_call ?_
    | with_reducible refine wt_v ?_ | with_reducible refine wt_not ?_ | with_reducible refine wt_and ?_ | with_reducible refine wt_or ?_ | with_reducible refine we_if ?_ | with_reducible refine we_is ?_
    | with_reducible refine wq_c ?_ | with_reducible refine wq_op1 ?_ | with_reducible refine wq_op2 ?_ | with_reducible refine wq_nil ?_ | with_reducible refine wq_cons ?_ | with_reducible refine wq_tup ?_ | with_reducible refine wq_lst ?_ | with_reducible refine wq_if ?_ | with_reducible refine wq_tv ?_ | with_reducible refine wq_notT ?_ | with_reducible refine wq_andT ?_ | with_reducible refine wq_orT ?_ | with_reducible refine wq_call ?_ | with_reducible refine wq_seq ?_
    | ((with_reducible refine' wq_var ?wpv ?_); (case wpv => rfl)) | ((with_reducible refine' wq_varO ?wpv ?_); (case wpv => rfl)) | ((with_reducible refine' wq_varI ?wpv ?_); (case wpv => rfl))
    | with_reducible refine wq_andV ?_ | with_reducible refine wq_orV ?_ | with_reducible refine wq_notV ?_ | with_reducible refine wq_chain ?_
    | with_reducible refine sq_nx ?_ | with_reducible refine sq_rt ?_ | with_reducible refine sq_bk ?_ | with_reducible refine sq_ct ?_ | with_reducible refine lp_nx ?_ | with_reducible refine lp_rt ?_ | with_reducible refine lp_bk ?_ | with_reducible refine lp_ct ?_
    | (with_reducible refine hv_some ?_) | (with_reducible refine hv_add ?_) | (with_reducible refine hv_sub ?_) | (with_reducible refine hv_eq ?_) | (with_reducible refine hv_ne ?_) | (with_reducible refine hv_lt ?_) | (with_reducible refine hv_le ?_) | (with_reducible refine hv_gt ?_) | (with_reducible refine hv_ge ?_) | (with_reducible refine ex_bool ?_))
  refine hv_of k1 ?_
  repeat' (first
    | with_reducible refine w_seq ?_ | with_reducible refine w_nx ?_ | with_reducible refine w_bk ?_ | with_reducible refine w_ct ?_ | with_reducible refine w_if ?_ | with_reducible refine w_ret ?_ | with_reducible refine w_retO ?_ | with_reducible refine w_set ?_ | with_reducible refine w_setO ?_
    | with_reducible refine w_asg ?_ | with_reducible refine w_drop ?_ | with_reducible refine w_par ?_
    | with_reducible refine we_q ?_ | with_reducible refine wt_q ?_ | with_reducible refine wl_own ?_ | with_reducible refine we_op2 ?_ | with_reducible refine wl_nil ?_ | with_reducible refine wl_cons ?_ | with_reducible refine we_tup ?_ | with_reducible refine wl_lst ?_ | with_reducible refine we_call ?_
    | with_reducible refine wt_v ?_ | with_reducible refine wt_not ?_ | with_reducible refine wt_and ?_ | with_reducible refine wt_or ?_ | with_reducible refine we_if ?_ | with_reducible refine we_is ?_
    | with_reducible refine wq_c ?_ | with_reducible refine wq_op1 ?_ | with_reducible refine wq_op2 ?_ | with_reducible refine wq_nil ?_ | with_reducible refine wq_cons ?_ | with_reducible refine wq_tup ?_ | with_reducible refine wq_lst ?_ | with_reducible refine wq_if ?_ | with_reducible refine wq_tv ?_ | with_reducible refine wq_notT ?_ | with_reducible refine wq_andT ?_ | with_reducible refine wq_orT ?_ | with_reducible refine wq_call ?_ | with_reducible refine wq_seq ?_
    | ((with_reducible refine' wq_var ?wpv ?_); (case wpv => rfl)) | ((with_reducible refine' wq_varO ?wpv ?_); (case wpv => rfl)) | ((with_reducible refine' wq_varI ?wpv ?_); (case wpv => rfl))
    | with_reducible refine wq_andV ?_ | with_reducible refine wq_orV ?_ | with_reducible refine wq_notV ?_ | with_reducible refine wq_chain ?_
    | with_reducible refine sq_nx ?_ | with_reducible refine sq_rt ?_ | with_reducible refine sq_bk ?_ | with_reducible refine sq_ct ?_ | with_reducible refine lp_nx ?_ | with_reducible refine lp_rt ?_ | with_reducible refine lp_bk ?_ | with_reducible refine lp_ct ?_
    | (with_reducible refine hv_some ?_) | (with_reducible refine hv_add ?_) | (with_reducible refine hv_sub ?_) | (with_reducible refine hv_eq ?_) | (with_reducible refine hv_ne ?_) | (with_reducible refine hv_lt ?_) | (with_reducible refine hv_le ?_) | (with_reducible refine hv_gt ?_) | (with_reducible refine hv_ge ?_) | (with_reducible refine ex_bool ?_))
  refine hv_of k2 ?_
  repeat' (first
    | with_reducible refine w_seq ?_ | with_reducible refine w_nx ?_ | with_reducible refine w_bk ?_ | with_reducible refine w_ct ?_ | with_reducible refine w_if ?_ | with_reducible refine w_ret ?_ | with_reducible refine w_retO ?_ | with_reducible refine w_set ?_ | with_reducible refine w_setO ?_
    | with_reducible refine w_asg ?_ | with_reducible refine w_drop ?_ | with_reducible refine w_par ?_
    | with_reducible refine we_q ?_ | with_reducible refine wt_q ?_ | with_reducible refine wl_own ?_ | with_reducible refine we_op2 ?_ | with_reducible refine wl_nil ?_ | with_reducible refine wl_cons ?_ | with_reducible refine we_tup ?_ | with_reducible refine wl_lst ?_ | with_reducible refine we_call ?_
    | with_reducible refine wt_v ?_ | with_reducible refine wt_not ?_ | with_reducible refine wt_and ?_ | with_reducible refine wt_or ?_ | with_reducible refine we_if ?_ | with_reducible refine we_is ?_
    | with_reducible refine wq_c ?_ | with_reducible refine wq_op1 ?_ | with_reducible refine wq_op2 ?_ | with_reducible refine wq_nil ?_ | with_reducible refine wq_cons ?_ | with_reducible refine wq_tup ?_ | with_reducible refine wq_lst ?_ | with_reducible refine wq_if ?_ | with_reducible refine wq_tv ?_ | with_reducible refine wq_notT ?_ | with_reducible refine wq_andT ?_ | with_reducible refine wq_orT ?_ | with_reducible refine wq_call ?_ | with_reducible refine wq_seq ?_
    | ((with_reducible refine' wq_var ?wpv ?_); (case wpv => rfl)) | ((with_reducible refine' wq_varO ?wpv ?_); (case wpv => rfl)) | ((with_reducible refine' wq_varI ?wpv ?_); (case wpv => rfl))
    | with_reducible refine wq_andV ?_ | with_reducible refine wq_orV ?_ | with_reducible refine wq_notV ?_ | with_reducible refine wq_chain ?_
    | with_reducible refine sq_nx ?_ | with_reducible refine sq_rt ?_ | with_reducible refine sq_bk ?_ | with_reducible refine sq_ct ?_ | with_reducible refine lp_nx ?_ | with_reducible refine lp_rt ?_ | with_reducible refine lp_bk ?_ | with_reducible refine lp_ct ?_
    | (with_reducible refine hv_some ?_) | (with_reducible refine hv_add ?_) | (with_reducible refine hv_sub ?_) | (with_reducible refine hv_eq ?_) | (with_reducible refine hv_ne ?_) | (with_reducible refine hv_lt ?_) | (with_reducible refine hv_le ?_) | (with_reducible refine hv_gt ?_) | (with_reducible refine hv_ge ?_) | (with_reducible refine ex_bool ?_))
  refine hv_of rfl ?_
  repeat' (first
    | with_reducible refine w_seq ?_ | with_reducible refine w_nx ?_ | with_reducible refine w_bk ?_ | with_reducible refine w_ct ?_ | with_reducible refine w_if ?_ | with_reducible refine w_ret ?_ | with_reducible refine w_retO ?_ | with_reducible refine w_set ?_ | with_reducible refine w_setO ?_
    | with_reducible refine w_asg ?_ | with_reducible refine w_drop ?_ | with_reducible refine w_par ?_
    | with_reducible refine we_q ?_ | with_reducible refine wt_q ?_ | with_reducible refine wl_own ?_ | with_reducible refine we_op2 ?_ | with_reducible refine wl_nil ?_ | with_reducible refine wl_cons ?_ | with_reducible refine we_tup ?_ | with_reducible refine wl_lst ?_ | with_reducible refine we_call ?_
    | with_reducible refine wt_v ?_ | with_reducible refine wt_not ?_ | with_reducible refine wt_and ?_ | with_reducible refine wt_or ?_ | with_reducible refine we_if ?_ | with_reducible refine we_is ?_
    | with_reducible refine wq_c ?_ | with_reducible refine wq_op1 ?_ | with_reducible refine wq_op2 ?_ | with_reducible refine wq_nil ?_ | with_reducible refine wq_cons ?_ | with_reducible refine wq_tup ?_ | with_reducible refine wq_lst ?_ | with_reducible refine wq_if ?_ | with_reducible refine wq_tv ?_ | with_reducible refine wq_notT ?_ | with_reducible refine wq_andT ?_ | with_reducible refine wq_orT ?_ | with_reducible refine wq_call ?_ | with_reducible refine wq_seq ?_
    | ((with_reducible refine' wq_var ?wpv ?_); (case wpv => rfl)) | ((with_reducible refine' wq_varO ?wpv ?_); (case wpv => rfl)) | ((with_reducible refine' wq_varI ?wpv ?_); (case wpv => rfl))
    | with_reducible refine wq_andV ?_ | with_reducible refine wq_orV ?_ | with_reducible refine wq_notV ?_ | with_reducible refine wq_chain ?_
    | with_reducible refine sq_nx ?_ | with_reducible refine sq_rt ?_ | with_reducible refine sq_bk ?_ | with_reducible refine sq_ct ?_ | with_reducible refine lp_nx ?_ | with_reducible refine lp_rt ?_ | with_reducible refine lp_bk ?_ | with_reducible refine lp_ct ?_
    | (with_reducible refine hv_some ?_) | (with_reducible refine hv_add ?_) | (with_reducible refine hv_sub ?_) | (with_reducible refine hv_eq ?_) | (with_reducible refine hv_ne ?_) | (with_reducible refine hv_lt ?_) | (with_reducible refine hv_le ?_) | (with_reducible refine hv_gt ?_) | (with_reducible refine hv_ge ?_) | (with_reducible refine ex_bool ?_))
  refine hv_of k3 ?_
  repeat' (first
    | with_reducible refine w_seq ?_ | with_reducible refine w_nx ?_ | with_reducible refine w_bk ?_ | with_reducible refine w_ct ?_ | with_reducible refine w_if ?_ | with_reducible refine w_ret ?_ | with_reducible refine w_retO ?_ | with_reducible refine w_set ?_ | with_reducible refine w_setO ?_
    | with_reducible refine w_asg ?_ | with_reducible refine w_drop ?_ | with_reducible refine w_par ?_
    | with_reducible refine we_q ?_ | with_reducible refine wt_q ?_ | with_reducible refine wl_own ?_ | with_reducible refine we_op2 ?_ | with_reducible refine wl_nil ?_ | with_reducible refine wl_cons ?_ | with_reducible refine we_tup ?_ | with_reducible refine wl_lst ?_ | with_reducible refine we_call ?_
    | with_reducible refine wt_v ?_ | with_reducible refine wt_not ?_ | with_reducible refine wt_and ?_ | with_reducible refine wt_or ?_ | with_reducible refine we_if ?_ | with_reducible refine we_is ?_
    | with_reducible refine wq_c ?_ | with_reducible refine wq_op1 ?_ | with_reducible refine wq_op2 ?_ | with_reducible refine wq_nil ?_ | with_reducible refine wq_cons ?_ | with_reducible refine wq_tup ?_ | with_reducible refine wq_lst ?_ | with_reducible refine wq_if ?_ | with_reducible refine wq_tv ?_ | with_reducible refine wq_notT ?_ | with_reducible refine wq_andT ?_ | with_reducible refine wq_orT ?_ | with_reducible refine wq_call ?_ | with_reducible refine wq_seq ?_
    | ((with_reducible refine' wq_var ?wpv ?_); (case wpv => rfl)) | ((with_reducible refine' wq_varO ?wpv ?_); (case wpv => rfl)) | ((with_reducible refine' wq_varI ?wpv ?_); (case wpv => rfl))
    | with_reducible refine wq_andV ?_ | with_reducible refine wq_orV ?_ | with_reducible refine wq_notV ?_ | with_reducible refine wq_chain ?_
    | with_reducible refine sq_nx ?_ | with_reducible refine sq_rt ?_ | with_reducible refine sq_bk ?_ | with_reducible refine sq_ct ?_ | with_reducible refine lp_nx ?_ | with_reducible refine lp_rt ?_ | with_reducible refine lp_bk ?_ | with_reducible refine lp_ct ?_
    | (with_reducible refine hv_some ?_) | (with_reducible refine hv_add ?_) | (with_reducible refine hv_sub ?_) | (with_reducible refine hv_eq ?_) | (with_reducible refine hv_ne ?_) | (with_reducible refine hv_lt ?_) | (with_reducible refine hv_le ?_) | (with_reducible refine hv_gt ?_) | (with_reducible refine hv_ge ?_) | (with_reducible refine ex_bool ?_))
  refine ⟨fun c => ?_, fun _ => ?_⟩
  · simp at c
  repeat' (first
    | with_reducible refine w_seq ?_ | with_reducible refine w_nx ?_ | with_reducible refine w_bk ?_ | with_reducible refine w_ct ?_ | with_reducible refine w_if ?_ | with_reducible refine w_ret ?_ | with_reducible refine w_retO ?_ | with_reducible refine w_set ?_ | with_reducible refine w_setO ?_
    | with_reducible refine w_asg ?_ | with_reducible refine w_drop ?_ | with_reducible refine w_par ?_
    | with_reducible refine we_q ?_ | with_reducible refine wt_q ?_ | with_reducible refine wl_own ?_ | with_reducible refine we_op2 ?_ | with_reducible refine wl_nil ?_ | with_reducible refine wl_cons ?_ | with_reducible refine we_tup ?_ | with_reducible refine wl_lst ?_ | with_reducible refine we_call ?_
    | with_reducible refine wt_v ?_ | with_reducible refine wt_not ?_ | with_reducible refine wt_and ?_ | with_reducible refine wt_or ?_ | with_reducible refine we_if ?_ | with_reducible refine we_is ?_
    | with_reducible refine wq_c ?_ | with_reducible refine wq_op1 ?_ | with_reducible refine wq_op2 ?_ | with_reducible refine wq_nil ?_ | with_reducible refine wq_cons ?_ | with_reducible refine wq_tup ?_ | with_reducible refine wq_lst ?_ | with_reducible refine wq_if ?_ | with_reducible refine wq_tv ?_ | with_reducible refine wq_notT ?_ | with_reducible refine wq_andT ?_ | with_reducible refine wq_orT ?_ | with_reducible refine wq_call ?_ | with_reducible refine wq_seq ?_
    | ((with_reducible refine' wq_var ?wpv ?_); (case wpv => rfl)) | ((with_reducible refine' wq_varO ?wpv ?_); (case wpv => rfl)) | ((with_reducible refine' wq_varI ?wpv ?_); (case wpv => rfl))
    | with_reducible refine wq_andV ?_ | with_reducible refine wq_orV ?_ | with_reducible refine wq_notV ?_ | with_reducible refine wq_chain ?_
    | with_reducible refine sq_nx ?_ | with_reducible refine sq_rt ?_ | with_reducible refine sq_bk ?_ | with_reducible refine sq_ct ?_ | with_reducible refine lp_nx ?_ | with_reducible refine lp_rt ?_ | with_reducible refine lp_bk ?_ | with_reducible refine lp_ct ?_
    | (with_reducible refine hv_some ?_) | (with_reducible refine hv_add ?_) | (with_reducible refine hv_sub ?_) | (with_reducible refine hv_eq ?_) | (with_reducible refine hv_ne ?_) | (with_reducible refine hv_lt ?_) | (with_reducible refine hv_le ?_) | (with_reducible refine hv_gt ?_) | (with_reducible refine hv_ge ?_) | (with_reducible refine ex_bool ?_))
  refine ⟨_, eF2_8 b2 v, sq_nx ?_⟩
  refine w_seq (w_asg (we_tup (wl_cons (we_draw rfl ok2 (by decide) (by decide) fun m b3 m0 m1 ok3 => ?_))))
  repeat' (first
    | with_reducible refine w_seq ?_ | with_reducible refine w_nx ?_ | with_reducible refine w_bk ?_ | with_reducible refine w_ct ?_ | with_reducible refine w_if ?_ | with_reducible refine w_ret ?_ | with_reducible refine w_retO ?_ | with_reducible refine w_set ?_ | with_reducible refine w_setO ?_
    | with_reducible refine w_asg ?_ | with_reducible refine w_drop ?_ | with_reducible refine w_par ?_
    | with_reducible refine we_q ?_ | with_reducible refine wt_q ?_ | with_reducible refine wl_own ?_ | with_reducible refine we_op2 ?_ | with_reducible refine wl_nil ?_ | with_reducible refine wl_cons ?_ | with_reducible refine we_tup ?_ | with_reducible refine wl_lst ?_ | with_reducible refine we_call ?_
    | with_reducible refine wt_v ?_ | with_reducible refine wt_not ?_ | with_reducible refine wt_and ?_ | with_reducible refine wt_or ?_ | with_reducible refine we_if ?_ | with_reducible refine we_is ?_
    | with_reducible refine wq_c ?_ | with_reducible refine wq_op1 ?_ | with_reducible refine wq_op2 ?_ | with_reducible refine wq_nil ?_ | with_reducible refine wq_cons ?_ | with_reducible refine wq_tup ?_ | with_reducible refine wq_lst ?_ | with_reducible refine wq_if ?_ | with_reducible refine wq_tv ?_ | with_reducible refine wq_notT ?_ | with_reducible refine wq_andT ?_ | with_reducible refine wq_orT ?_ | with_reducible refine wq_call ?_ | with_reducible refine wq_seq ?_
    | ((with_reducible refine' wq_var ?wpv ?_); (case wpv => rfl)) | ((with_reducible refine' wq_varO ?wpv ?_); (case wpv => rfl)) | ((with_reducible refine' wq_varI ?wpv ?_); (case wpv => rfl))
    | with_reducible refine wq_andV ?_ | with_reducible refine wq_orV ?_ | with_reducible refine wq_notV ?_ | with_reducible refine wq_chain ?_
    | with_reducible refine sq_nx ?_ | with_reducible refine sq_rt ?_ | with_reducible refine sq_bk ?_ | with_reducible refine sq_ct ?_ | with_reducible refine lp_nx ?_ | with_reducible refine lp_rt ?_ | with_reducible refine lp_bk ?_ | with_reducible refine lp_ct ?_
    | (with_reducible refine hv_some ?_) | (with_reducible refine hv_add ?_) | (with_reducible refine hv_sub ?_) | (with_reducible refine hv_eq ?_) | (with_reducible refine hv_ne ?_) | (with_reducible refine hv_lt ?_) | (with_reducible refine hv_le ?_) | (with_reducible refine hv_gt ?_) | (with_reducible refine hv_ge ?_) | (with_reducible refine ex_bool ?_))
  refine len10 (by simp) ?_
  repeat' (first
    | with_reducible refine w_seq ?_ | with_reducible refine w_nx ?_ | with_reducible refine w_bk ?_ | with_reducible refine w_ct ?_ | with_reducible refine w_if ?_ | with_reducible refine w_ret ?_ | with_reducible refine w_retO ?_ | with_reducible refine w_set ?_ | with_reducible refine w_setO ?_
    | with_reducible refine w_asg ?_ | with_reducible refine w_drop ?_ | with_reducible refine w_par ?_
    | with_reducible refine we_q ?_ | with_reducible refine wt_q ?_ | with_reducible refine wl_own ?_ | with_reducible refine we_op2 ?_ | with_reducible refine wl_nil ?_ | with_reducible refine wl_cons ?_ | with_reducible refine we_tup ?_ | with_reducible refine wl_lst ?_ | with_reducible refine we_call ?_
    | with_reducible refine wt_v ?_ | with_reducible refine wt_not ?_ | with_reducible refine wt_and ?_ | with_reducible refine wt_or ?_ | with_reducible refine we_if ?_ | with_reducible refine we_is ?_
    | with_reducible refine wq_c ?_ | with_reducible refine wq_op1 ?_ | with_reducible refine wq_op2 ?_ | with_reducible refine wq_nil ?_ | with_reducible refine wq_cons ?_ | with_reducible refine wq_tup ?_ | with_reducible refine wq_lst ?_ | with_reducible refine wq_if ?_ | with_reducible refine wq_tv ?_ | with_reducible refine wq_notT ?_ | with_reducible refine wq_andT ?_ | with_reducible refine wq_orT ?_ | with_reducible refine wq_call ?_ | with_reducible refine wq_seq ?_
    | ((with_reducible refine' wq_var ?wpv ?_); (case wpv => rfl)) | ((with_reducible refine' wq_varO ?wpv ?_); (case wpv => rfl)) | ((with_reducible refine' wq_varI ?wpv ?_); (case wpv => rfl))
    | with_reducible refine wq_andV ?_ | with_reducible refine wq_orV ?_ | with_reducible refine wq_notV ?_ | with_reducible refine wq_chain ?_
    | with_reducible refine sq_nx ?_ | with_reducible refine sq_rt ?_ | with_reducible refine sq_bk ?_ | with_reducible refine sq_ct ?_ | with_reducible refine lp_nx ?_ | with_reducible refine lp_rt ?_ | with_reducible refine lp_bk ?_ | with_reducible refine lp_ct ?_
    | (with_reducible refine hv_some ?_) | (with_reducible refine hv_add ?_) | (with_reducible refine hv_sub ?_) | (with_reducible refine hv_eq ?_) | (with_reducible refine hv_ne ?_) | (with_reducible refine hv_lt ?_) | (with_reducible refine hv_le ?_) | (with_reducible refine hv_gt ?_) | (with_reducible refine hv_ge ?_) | (with_reducible refine ex_bool ?_))
  refine len10 (by simp) ?_
  repeat' (first
    | with_reducible refine w_seq ?_ | with_reducible refine w_nx ?_ | with_reducible refine w_bk ?_ | with_reducible refine w_ct ?_ | with_reducible refine w_if ?_ | with_reducible refine w_ret ?_ | with_reducible refine w_retO ?_ | with_reducible refine w_set ?_ | with_reducible refine w_setO ?_
    | with_reducible refine w_asg ?_ | with_reducible refine w_drop ?_ | with_reducible refine w_par ?_
    | with_reducible refine we_q ?_ | with_reducible refine wt_q ?_ | with_reducible refine wl_own ?_ | with_reducible refine we_op2 ?_ | with_reducible refine wl_nil ?_ | with_reducible refine wl_cons ?_ | with_reducible refine we_tup ?_ | with_reducible refine wl_lst ?_ | with_reducible refine we_call ?_
    | with_reducible refine wt_v ?_ | with_reducible refine wt_not ?_ | with_reducible refine wt_and ?_ | with_reducible refine wt_or ?_ | with_reducible refine we_if ?_ | with_reducible refine we_is ?_
    | with_reducible refine wq_c ?_ | with_reducible refine wq_op1 ?_ | with_reducible refine wq_op2 ?_ | with_reducible refine wq_nil ?_ | with_reducible refine wq_cons ?_ | with_reducible refine wq_tup ?_ | with_reducible refine wq_lst ?_ | with_reducible refine wq_if ?_ | with_reducible refine wq_tv ?_ | with_reducible refine wq_notT ?_ | with_reducible refine wq_andT ?_ | with_reducible refine wq_orT ?_ | with_reducible refine wq_call ?_ | with_reducible refine wq_seq ?_
    | ((with_reducible refine' wq_var ?wpv ?_); (case wpv => rfl)) | ((with_reducible refine' wq_varO ?wpv ?_); (case wpv => rfl)) | ((with_reducible refine' wq_varI ?wpv ?_); (case wpv => rfl))
    | with_reducible refine wq_andV ?_ | with_reducible refine wq_orV ?_ | with_reducible refine wq_notV ?_ | with_reducible refine wq_chain ?_
    | with_reducible refine sq_nx ?_ | with_reducible refine sq_rt ?_ | with_reducible refine sq_bk ?_ | with_reducible refine sq_ct ?_ | with_reducible refine lp_nx ?_ | with_reducible refine lp_rt ?_ | with_reducible refine lp_bk ?_ | with_reducible refine lp_ct ?_
    | (with_reducible refine hv_some ?_) | (with_reducible refine hv_add ?_) | (with_reducible refine hv_sub ?_) | (with_reducible refine hv_eq ?_) | (with_reducible refine hv_ne ?_) | (with_reducible refine hv_lt ?_) | (with_reducible refine hv_le ?_) | (with_reducible refine hv_gt ?_) | (with_reducible refine hv_ge ?_) | (with_reducible refine ex_bool ?_))
  refine len10 (by simp) (hv_of rfl ?_)
  repeat' (first
    | with_reducible refine w_seq ?_ | with_reducible refine w_nx ?_ | with_reducible refine w_bk ?_ | with_reducible refine w_ct ?_ | with_reducible refine w_if ?_ | with_reducible refine w_ret ?_ | with_reducible refine w_retO ?_ | with_reducible refine w_set ?_ | with_reducible refine w_setO ?_
    | with_reducible refine w_asg ?_ | with_reducible refine w_drop ?_ | with_reducible refine w_par ?_
    | with_reducible refine we_q ?_ | with_reducible refine wt_q ?_ | with_reducible refine wl_own ?_ | with_reducible refine we_op2 ?_ | with_reducible refine wl_nil ?_ | with_reducible refine wl_cons ?_ | with_reducible refine we_tup ?_ | with_reducible refine wl_lst ?_ | with_reducible refine we_call ?_
    | with_reducible refine wt_v ?_ | with_reducible refine wt_not ?_ | with_reducible refine wt_and ?_ | with_reducible refine wt_or ?_ | with_reducible refine we_if ?_ | with_reducible refine we_is ?_
    | with_reducible refine wq_c ?_ | with_reducible refine wq_op1 ?_ | with_reducible refine wq_op2 ?_ | with_reducible refine wq_nil ?_ | with_reducible refine wq_cons ?_ | with_reducible refine wq_tup ?_ | with_reducible refine wq_lst ?_ | with_reducible refine wq_if ?_ | with_reducible refine wq_tv ?_ | with_reducible refine wq_notT ?_ | with_reducible refine wq_andT ?_ | with_reducible refine wq_orT ?_ | with_reducible refine wq_call ?_ | with_reducible refine wq_seq ?_
    | ((with_reducible refine' wq_var ?wpv ?_); (case wpv => rfl)) | ((with_reducible refine' wq_varO ?wpv ?_); (case wpv => rfl)) | ((with_reducible refine' wq_varI ?wpv ?_); (case wpv => rfl))
    | with_reducible refine wq_andV ?_ | with_reducible refine wq_orV ?_ | with_reducible refine wq_notV ?_ | with_reducible refine wq_chain ?_
    | with_reducible refine sq_nx ?_ | with_reducible refine sq_rt ?_ | with_reducible refine sq_bk ?_ | with_reducible refine sq_ct ?_ | with_reducible refine lp_nx ?_ | with_reducible refine lp_rt ?_ | with_reducible refine lp_bk ?_ | with_reducible refine lp_ct ?_
    | (with_reducible refine hv_some ?_) | (with_reducible refine hv_add ?_) | (with_reducible refine hv_sub ?_) | (with_reducible refine hv_eq ?_) | (with_reducible refine hv_ne ?_) | (with_reducible refine hv_lt ?_) | (with_reducible refine hv_le ?_) | (with_reducible refine hv_gt ?_) | (with_reducible refine hv_ge ?_) | (with_reducible refine ex_bool ?_))
  obtain ⟨m, rfl⟩ := Int.eq_ofNat_of_zero_le m0
  have mm : m = 0 ∨ m = 1 ∨ m = 2 ∨ m = 3 ∨ m = 4 ∨ m = 5 := by omega
  rcases mm with rfl | rfl | rfl | rfl | rfl | rfl
  · exact few2_0 b3 ok3 _ _ _ _ _ _ _ _ _ _ _
  · exact few2_1 b3 ok3 _ _ _ _ _ _ _ _ _ _ _
  · exact few2_2 b3 ok3 _ _ _ _ _ _ _ _ _ _ _
  · exact few2_3 b3 ok3 _ _ _ _ _ _ _ _ _ _ _
  · exact few2_4 b3 ok3 _ _ _ _ _ _ _ _ _ _ _
  · exact few2_5 b3 ok3 _ _ _ _ _ _ _ _ _ _ _
theorem eF3_2 (b : Bag) : setO 7 (ownM (lstM argN)) (sF3_1 b) = some (.nx (sF3_2 b)) := by kernel_rfl
theorem few1_3 (b : Bag) (ok : OkB b) : Wp few1 (sF3_0 b) (fun f => ∃ s b', f = .rt (.bool true) s ∧ s[0]? = some (.bag b') ∧ OkB b') := by
  unfold few1
  refine w_seq ⟨_, eF3_1 b, sq_nx ?_⟩
  refine w_seq ⟨_, eF3_2 b, sq_nx ?_⟩
  refine w_seq ⟨_, eF3_3 b, sq_nx ?_⟩
  refine w_seq ⟨_, eF3_4 b, sq_nx ?_⟩
  refine w_seq ⟨_, eF3_5 b, sq_nx ?_⟩
  refine w_seq (w_set (we_callB (b0 := b) rfl ?_))
  repeat' (first
    | with_reducible refine w_seq ?_ | with_reducible refine w_nx ?_ | with_reducible refine w_bk ?_ | with_reducible refine w_ct ?_ | with_reducible refine w_if ?_ | with_reducible refine w_ret ?_ | with_reducible refine w_retO ?_ | with_reducible refine w_set ?_ | with_reducible refine w_setO ?_
    | with_reducible refine w_asg ?_ | with_reducible refine w_drop ?_ | with_reducible refine w_par ?_
    | with_reducible refine we_q ?_ | with_reducible refine wt_q ?_ | with_reducible refine wl_own ?_ | with_reducible refine we_op2 ?_ | with_reducible refine wl_nil ?_ | with_reducible refine wl_cons ?_ | with_reducible refine we_tup ?_ | with_reducible refine wl_lst ?_ | with_reducible refine we_call ?_
    | with_reducible refine wt_v ?_ | with_reducible refine wt_not ?_ | with_reducible refine wt_and ?_ | with_reducible refine wt_or ?_ | with_reducible refine we_if ?_ | with_reducible refine we_is ?_
    | with_reducible refine wq_c ?_ | with_reducible refine wq_op1 ?_ | with_reducible refine wq_op2 ?_ | with_reducible refine wq_nil ?_ | with_reducible refine wq_cons ?_ | with_reducible refine wq_tup ?_ | with_reducible refine wq_lst ?_ | with_reducible refine wq_if ?_ | with_reducible refine wq_tv ?_ | with_reducible refine wq_notT ?_ | with_reducible refine wq_andT ?_ | with_reducible refine wq_orT ?_ | with_reducible refine wq_call ?_ | with_reducible refine wq_seq ?_
    | ((with_reducible refine' wq_var ?wpv ?_); (case wpv => rfl)) | ((with_reducible refine' wq_varO ?wpv ?_); (case wpv => rfl)) | ((with_reducible refine' wq_varI ?wpv ?_); (case wpv => rfl))
    | with_reducible refine wq_andV ?_ | with_reducible refine wq_orV ?_ | with_reducible refine wq_notV ?_ | with_reducible refine wq_chain ?_
    | with_reducible refine sq_nx ?_ | with_reducible refine sq_rt ?_ | with_reducible refine sq_bk ?_ | with_reducible refine sq_ct ?_ | with_reducible refine lp_nx ?_ | with_reducible refine lp_rt ?_ | with_reducible refine lp_bk ?_ | with_reducible refine lp_ct ?_
    | (with_reducible refine hv_some ?_) | (with_reducible refine hv_add ?_) | (with_reducible refine hv_sub ?_) | (with_reducible refine hv_eq ?_) | (with_reducible refine hv_ne ?_) | (with_reducible refine hv_lt ?_) | (with_reducible refine hv_le ?_) | (with_reducible refine hv_gt ?_) | (with_reducible refine hv_ge ?_) | (with_reducible refine ex_bool ?_))
  refine hv_of rfl ?_
  repeat' (first
    | with_reducible refine w_seq ?_ | with_reducible refine w_nx ?_ | with_reducible refine w_bk ?_ | with_reducible refine w_ct ?_ | with_reducible refine w_if ?_ | with_reducible refine w_ret ?_ | with_reducible refine w_retO ?_ | with_reducible refine w_set ?_ | with_reducible refine w_setO ?_
    | with_reducible refine w_asg ?_ | with_reducible refine w_drop ?_ | with_reducible refine w_par ?_
    | with_reducible refine we_q ?_ | with_reducible refine wt_q ?_ | with_reducible refine wl_own ?_ | with_reducible refine we_op2 ?_ | with_reducible refine wl_nil ?_ | with_reducible refine wl_cons ?_ | with_reducible refine we_tup ?_ | with_reducible refine wl_lst ?_ | with_reducible refine we_call ?_
    | with_reducible refine wt_v ?_ | with_reducible refine wt_not ?_ | with_reducible refine wt_and ?_ | with_reducible refine wt_or ?_ | with_reducible refine we_if ?_ | with_reducible refine we_is ?_
    | with_reducible refine wq_c ?_ | with_reducible refine wq_op1 ?_ | with_reducible refine wq_op2 ?_ | with_reducible refine wq_nil ?_ | with_reducible refine wq_cons ?_ | with_reducible refine wq_tup ?_ | with_reducible refine wq_lst ?_ | with_reducible refine wq_if ?_ | with_reducible refine wq_tv ?_ | with_reducible refine wq_notT ?_ | with_reducible refine wq_andT ?_ | with_reducible refine wq_orT ?_ | with_reducible refine wq_call ?_ | with_reducible refine wq_seq ?_
    | ((with_reducible refine' wq_var ?wpv ?_); (case wpv => rfl)) | ((with_reducible refine' wq_varO ?wpv ?_); (case wpv => rfl)) | ((with_reducible refine' wq_varI ?wpv ?_); (case wpv => rfl))
    | with_reducible refine wq_andV ?_ | with_reducible refine wq_orV ?_ | with_reducible refine wq_notV ?_ | with_reducible refine wq_chain ?_
    | with_reducible refine sq_nx ?_ | with_reducible refine sq_rt ?_ | with_reducible refine sq_bk ?_ | with_reducible refine sq_ct ?_ | with_reducible refine lp_nx ?_ | with_reducible refine lp_rt ?_ | with_reducible refine lp_bk ?_ | with_reducible refine lp_ct ?_
    | (with_reducible refine hv_some ?_) | (with_reducible refine hv_add ?_) | (with_reducible refine hv_sub ?_) | (with_reducible refine hv_eq ?_) | (with_reducible refine hv_ne ?_) | (with_reducible refine hv_lt ?_) | (with_reducible refine hv_le ?_) | (with_reducible refine hv_gt ?_) | (with_reducible refine hv_ge ?_) | (with_reducible refine ex_bool ?_))
  refine ⟨b, rfl, draw_hv ok (by decide) (by decide) fun v b2 v0 v1 ok2 => ⟨by simp [sF3_5], ?_⟩⟩
  show seqQ _ _ (.nx (sF3_6 b2 v))
  refine sq_nx ?_
  obtain ⟨v, rfl⟩ := Int.eq_ofNat_of_zero_le v0
  have vl : v < rowsF3.length := by omega
  obtain ⟨row, l, k1, k2, k3⟩ := kp_some (aF3 v vl)
  refine w_seq ?_
  repeat' (first
    | with_reducible refine w_seq ?_ | with_reducible refine w_nx ?_ | with_reducible refine w_bk ?_ | with_reducible refine w_ct ?_ | with_reducible refine w_if ?_ | with_reducible refine w_ret ?_ | with_reducible refine w_retO ?_ | with_reducible refine w_set ?_ | with_reducible refine w_setO ?_
    | with_reducible refine w_asg ?_ | with_reducible refine w_drop ?_ | with_reducible refine w_par ?_
    | with_reducible refine we_q ?_ | with_reducible refine wt_q ?_ | with_reducible refine wl_own ?_ | with_reducible refine we_op2 ?_ | with_reducible refine wl_nil ?_ | with_reducible refine wl_cons ?_ | with_reducible refine we_tup ?_ | with_reducible refine wl_lst ?_ | with_reducible refine we_call ?_
    | with_reducible refine wt_v ?_ | with_reducible refine wt_not ?_ | with_reducible refine wt_and ?_ | with_reducible refine wt_or ?_ | with_reducible refine we_if ?_ | with_reducible refine we_is ?_
    | with_reducible refine wq_c ?_ | with_reducible refine wq_op1 ?_ | with_reducible refine wq_op2 ?_ | with_reducible refine wq_nil ?_ | with_reducible refine wq_cons ?_ | with_reducible refine wq_tup ?_ | with_reducible refine wq_lst ?_ | with_reducible refine wq_if ?_ | with_reducible refine wq_tv ?_ | with_reducible refine wq_notT ?_ | with_reducible refine wq_andT ?_ | with_reducible refine wq_orT ?_ | with_reducible refine wq_call ?_ | with_reducible refine wq_seq ?_
    | ((with_reducible refine' wq_var ?wpv ?_); (case wpv => rfl)) | ((with_reducible refine' wq_varO ?wpv ?_); (case wpv => rfl)) | ((with_reducible refine' wq_varI ?wpv ?_); (case wpv => rfl))
    | with_reducible refine wq_andV ?_ | with_reducible refine wq_orV ?_ | with_reducible refine wq_notV ?_ | with_reducible refine wq_chain ?_
    | with_reducible refine sq_nx ?_ | with_reducible refine sq_rt ?_ | with_reducible refine sq_bk ?_ | with_reducible refine sq_ct ?_ | with_reducible refine lp_nx ?_ | with_reducible refine lp_rt ?_ | with_reducible refine lp_bk ?_ | with_reducible refine lp_ct ?_
    | (with_reducible refine hv_some ?_) | (with_reducible refine hv_add ?_) | (with_reducible refine hv_sub ?_) | (with_reducible refine hv_eq ?_) | (with_reducible refine hv_ne ?_) | (with_reducible refine hv_lt ?_) | (with_reducible refine hv_le ?_) | (with_reducible refine hv_gt ?_) | (with_reducible refine hv_ge ?_) | (with_reducible refine ex_bool ?_))
  refine hv_of k1 ?_
  repeat' (first
    | with_reducible refine w_seq ?_ | with_reducible refine w_nx ?_ | with_reducible refine w_bk ?_ | with_reducible refine w_ct ?_ | with_reducible refine w_if ?_ | with_reducible refine w_ret ?_ | with_reducible refine w_retO ?_ | with_reducible refine w_set ?_ | with_reducible refine w_setO ?_
    | with_reducible refine w_asg ?_ | with_reducible refine w_drop ?_ | with_reducible refine w_par ?_
    | with_reducible refine we_q ?_ | with_reducible refine wt_q ?_ | with_reducible refine wl_own ?_ | with_reducible refine we_op2 ?_ | with_reducible refine wl_nil ?_ | with_reducible refine wl_cons ?_ | with_reducible refine we_tup ?_ | with_reducible refine wl_lst ?_ | with_reducible refine we_call ?_
    | with_reducible refine wt_v ?_ | with_reducible refine wt_not ?_ | with_reducible refine wt_and ?_ | with_reducible refine wt_or ?_ | with_reducible refine we_if ?_ | with_reducible refine we_is ?_
    | with_reducible refine wq_c ?_ | with_reducible refine wq_op1 ?_ | with_reducible refine wq_op2 ?_ | with_reducible refine wq_nil ?_ | with_reducible refine wq_cons ?_ | with_reducible refine wq_tup ?_ | with_reducible refine wq_lst ?_ | with_reducible refine wq_if ?_ | with_reducible refine wq_tv ?_ | with_reducible refine wq_notT ?_ | with_reducible refine wq_andT ?_ | with_reducible refine wq_orT ?_ | with_reducible refine wq_call ?_ | with_reducible refine wq_seq ?_
    | ((with_reducible refine' wq_var ?wpv ?_); (case wpv => rfl)) | ((with_reducible refine' wq_varO ?wpv ?_); (case wpv => rfl)) | ((with_reducible refine' wq_varI ?wpv ?_); (case wpv => rfl))
    | with_reducible refine wq_andV ?_ | with_reducible refine wq_orV ?_ | with_reducible refine wq_notV ?_ | with_reducible refine wq_chain ?_
    | with_reducible refine sq_nx ?_ | with_reducible refine sq_rt ?_ | with_reducible refine sq_bk ?_ | with_reducible refine sq_ct ?_ | with_reducible refine lp_nx ?_ | with_reducible refine lp_rt ?_ | with_reducible refine lp_bk ?_ | with_reducible refine lp_ct ?_
    | (with_reducible refine hv_some ?_) | (with_reducible refine hv_add ?_) | (with_reducible refine hv_sub ?_) | (with_reducible refine hv_eq ?_) | (with_reducible refine hv_ne ?_) | (with_reducible refine hv_lt ?_) | (with_reducible refine hv_le ?_) | (with_reducible refine hv_gt ?_) | (with_reducible refine hv_ge ?_) | (with_reducible refine ex_bool ?_))
  refine hv_of k2 ?_
  repeat' (first
    | with_reducible refine w_seq ?_ | with_reducible refine w_nx ?_ | with_reducible refine w_bk ?_ | with_reducible refine w_ct ?_ | with_reducible refine w_if ?_ | with_reducible refine w_ret ?_ | with_reducible refine w_retO ?_ | with_reducible refine w_set ?_ | with_reducible refine w_setO ?_
    | with_reducible refine w_asg ?_ | with_reducible refine w_drop ?_ | with_reducible refine w_par ?_
    | with_reducible refine we_q ?_ | with_reducible refine wt_q ?_ | with_reducible refine wl_own ?_ | with_reducible refine we_op2 ?_ | with_reducible refine wl_nil ?_ | with_reducible refine wl_cons ?_ | with_reducible refine we_tup ?_ | with_reducible refine wl_lst ?_ | with_reducible refine we_call ?_
    | with_reducible refine wt_v ?_ | with_reducible refine wt_not ?_ | with_reducible refine wt_and ?_ | with_reducible refine wt_or ?_ | with_reducible refine we_if ?_ | with_reducible refine we_is ?_
    | with_reducible refine wq_c ?_ | with_reducible refine wq_op1 ?_ | with_reducible refine wq_op2 ?_ | with_reducible refine wq_nil ?_ | with_reducible refine wq_cons ?_ | with_reducible refine wq_tup ?_ | with_reducible refine wq_lst ?_ | with_reducible refine wq_if ?_ | with_reducible refine wq_tv ?_ | with_reducible refine wq_notT ?_ | with_reducible refine wq_andT ?_ | with_reducible refine wq_orT ?_ | with_reducible refine wq_call ?_ | with_reducible refine wq_seq ?_
    | ((with_reducible refine' wq_var ?wpv ?_); (case wpv => rfl)) | ((with_reducible refine' wq_varO ?wpv ?_); (case wpv => rfl)) | ((with_reducible refine' wq_varI ?wpv ?_); (case wpv => rfl))
    | with_reducible refine wq_andV ?_ | with_reducible refine wq_orV ?_ | with_reducible refine wq_notV ?_ | with_reducible refine wq_chain ?_
    | with_reducible refine sq_nx ?_ | with_reducible refine sq_rt ?_ | with_reducible refine sq_bk ?_ | with_reducible refine sq_ct ?_ | with_reducible refine lp_nx ?_ | with_reducible refine lp_rt ?_ | with_reducible refine lp_bk ?_ | with_reducible refine lp_ct ?_
    | (with_reducible refine hv_some ?_) | (with_reducible refine hv_add ?_) | (with_reducible refine hv_sub ?_) | (with_reducible refine hv_eq ?_) | (with_reducible refine hv_ne ?_) | (with_reducible refine hv_lt ?_) | (with_reducible refine hv_le ?_) | (with_reducible refine hv_gt ?_) | (with_reducible refine hv_ge ?_) | (with_reducible refine ex_bool ?_))
  refine hv_of rfl ?_
  repeat' (first
    | with_reducible refine w_seq ?_ | with_reducible refine w_nx ?_ | with_reducible refine w_bk ?_ | with_reducible refine w_ct ?_ | with_reducible refine w_if ?_ | with_reducible refine w_ret ?_ | with_reducible refine w_retO ?_ | with_reducible refine w_set ?_ | with_reducible refine w_setO ?_
    | with_reducible refine w_asg ?_ | with_reducible refine w_drop ?_ | with_reducible refine w_par ?_
    | with_reducible refine we_q ?_ | with_reducible refine wt_q ?_ | with_reducible refine wl_own ?_ | with_reducible refine we_op2 ?_ | with_reducible refine wl_nil ?_ | with_reducible refine wl_cons ?_ | with_reducible refine we_tup ?_ | with_reducible refine wl_lst ?_ | with_reducible refine we_call ?_
    | with_reducible refine wt_v ?_ | with_reducible refine wt_not ?_ | with_reducible refine wt_and ?_ | with_reducible refine wt_or ?_ | with_reducible refine we_if ?_ | with_reducible refine we_is ?_
    | with_reducible refine wq_c ?_ | with_reducible refine wq_op1 ?_ | with_reducible refine wq_op2 ?_ | with_reducible refine wq_nil ?_ | with_reducible refine wq_cons ?_ | with_reducible refine wq_tup ?_ | with_reducible refine wq_lst ?_ | with_reducible refine wq_if ?_ | with_reducible refine wq_tv ?_ | with_reducible refine wq_notT ?_ | with_reducible refine wq_andT ?_ | with_reducible refine wq_orT ?_ | with_reducible refine wq_call ?_ | with_reducible refine wq_seq ?_
    | ((with_reducible refine' wq_var ?wpv ?_); (case wpv => rfl)) | ((with_reducible refine' wq_varO ?wpv ?_); (case wpv => rfl)) | ((with_reducible refine' wq_varI ?wpv ?_); (case wpv => rfl))
    | with_reducible refine wq_andV ?_ | with_reducible refine wq_orV ?_ | with_reducible refine wq_notV ?_ | with_reducible refine wq_chain ?_
    | with_reducible refine sq_nx ?_ | with_reducible refine sq_rt ?_ | with_reducible refine sq_bk ?_ | with_reducible refine sq_ct ?_ | with_reducible refine lp_nx ?_ | with_reducible refine lp_rt ?_ | with_reducible refine lp_bk ?_ | with_reducible refine lp_ct ?_
    | (with_reducible refine hv_some ?_) | (with_reducible refine hv_add ?_) | (with_reducible refine hv_sub ?_) | (with_reducible refine hv_eq ?_) | (with_reducible refine hv_ne ?_) | (with_reducible refine hv_lt ?_) | (with_reducible refine hv_le ?_) | (with_reducible refine hv_gt ?_) | (with_reducible refine hv_ge ?_) | (with_reducible refine ex_bool ?_))
  refine hv_of k3 ?_
  repeat' (first
    | with_reducible refine w_seq ?_ | with_reducible refine w_nx ?_ | with_reducible refine w_bk ?_ | with_reducible refine w_ct ?_ | with_reducible refine w_if ?_ | with_reducible refine w_ret ?_ | with_reducible refine w_retO ?_ | with_reducible refine w_set ?_ | with_reducible refine w_setO ?_
    | with_reducible refine w_asg ?_ | with_reducible refine w_drop ?_ | with_reducible refine w_par ?_
    | with_reducible refine we_q ?_ | with_reducible refine wt_q ?_ | with_reducible refine wl_own ?_ | with_reducible refine we_op2 ?_ | with_reducible refine wl_nil ?_ | with_reducible refine wl_cons ?_ | with_reducible refine we_tup ?_ | with_reducible refine wl_lst ?_ | with_reducible refine we_call ?_
    | with_reducible refine wt_v ?_ | with_reducible refine wt_not ?_ | with_reducible refine wt_and ?_ | with_reducible refine wt_or ?_ | with_reducible refine we_if ?_ | with_reducible refine we_is ?_
    | with_reducible refine wq_c ?_ | with_reducible refine wq_op1 ?_ | with_reducible refine wq_op2 ?_ | with_reducible refine wq_nil ?_ | with_reducible refine wq_cons ?_ | with_reducible refine wq_tup ?_ | with_reducible refine wq_lst ?_ | with_reducible refine wq_if ?_ | with_reducible refine wq_tv ?_ | with_reducible refine wq_notT ?_ | with_reducible refine wq_andT ?_ | with_reducible refine wq_orT ?_ | with_reducible refine wq_call ?_ | with_reducible refine wq_seq ?_
    | ((with_reducible refine' wq_var ?wpv ?_); (case wpv => rfl)) | ((with_reducible refine' wq_varO ?wpv ?_); (case wpv => rfl)) | ((with_reducible refine' wq_varI ?wpv ?_); (case wpv => rfl))
    | with_reducible refine wq_andV ?_ | with_reducible refine wq_orV ?_ | with_reducible refine wq_notV ?_ | with_reducible refine wq_chain ?_
    | with_reducible refine sq_nx ?_ | with_reducible refine sq_rt ?_ | with_reducible refine sq_bk ?_ | with_reducible refine sq_ct ?_ | with_reducible refine lp_nx ?_ | with_reducible refine lp_rt ?_ | with_reducible refine lp_bk ?_ | with_reducible refine lp_ct ?_
    | (with_reducible refine hv_some ?_) | (with_reducible refine hv_add ?_) | (with_reducible refine hv_sub ?_) | (with_reducible refine hv_eq ?_) | (with_reducible refine hv_ne ?_) | (with_reducible refine hv_lt ?_) | (with_reducible refine hv_le ?_) | (with_reducible refine hv_gt ?_) | (with_reducible refine hv_ge ?_) | (with_reducible refine ex_bool ?_))
  refine ⟨fun c => ?_, fun _ => ?_⟩
  · simp at c
  repeat' (first
    | with_reducible refine w_seq ?_ | with_reducible refine w_nx ?_ | with_reducible refine w_bk ?_ | with_reducible refine w_ct ?_ | with_reducible refine w_if ?_ | with_reducible refine w_ret ?_ | with_reducible refine w_retO ?_ | with_reducible refine w_set ?_ | with_reducible refine w_setO ?_
    | with_reducible refine w_asg ?_ | with_reducible refine w_drop ?_ | with_reducible refine w_par ?_
    | with_reducible refine we_q ?_ | with_reducible refine wt_q ?_ | with_reducible refine wl_own ?_ | with_reducible refine we_op2 ?_ | with_reducible refine wl_nil ?_ | with_reducible refine wl_cons ?_ | with_reducible refine we_tup ?_ | with_reducible refine wl_lst ?_ | with_reducible refine we_call ?_
    | with_reducible refine wt_v ?_ | with_reducible refine wt_not ?_ | with_reducible refine wt_and ?_ | with_reducible refine wt_or ?_ | with_reducible refine we_if ?_ | with_reducible refine we_is ?_
    | with_reducible refine wq_c ?_ | with_reducible refine wq_op1 ?_ | with_reducible refine wq_op2 ?_ | with_reducible refine wq_nil ?_ | with_reducible refine wq_cons ?_ | with_reducible refine wq_tup ?_ | with_reducible refine wq_lst ?_ | with_reducible refine wq_if ?_ | with_reducible refine wq_tv ?_ | with_reducible refine wq_notT ?_ | with_reducible refine wq_andT ?_ | with_reducible refine wq_orT ?_ | with_reducible refine wq_call ?_ | with_reducible refine wq_seq ?_
    | ((with_reducible refine' wq_var ?wpv ?_); (case wpv => rfl)) | ((with_reducible refine' wq_varO ?wpv ?_); (case wpv => rfl)) | ((with_reducible refine' wq_varI ?wpv ?_); (case wpv => rfl))
    | with_reducible refine wq_andV ?_ | with_reducible refine wq_orV ?_ | with_reducible refine wq_notV ?_ | with_reducible refine wq_chain ?_
    | with_reducible refine sq_nx ?_ | with_reducible refine sq_rt ?_ | with_reducible refine sq_bk ?_ | with_reducible refine sq_ct ?_ | with_reducible refine lp_nx ?_ | with_reducible refine lp_rt ?_ | with_reducible refine lp_bk ?_ | with_reducible refine lp_ct ?_
    | (with_reducible refine hv_some ?_) | (with_reducible refine hv_add ?_) | (with_reducible refine hv_sub ?_) | (with_reducible refine hv_eq ?_) | (with_reducible refine hv_ne ?_) | (with_reducible refine hv_lt ?_) | (with_reducible refine hv_le ?_) | (with_reducible refine hv_gt ?_) | (with_reducible refine hv_ge ?_) | (with_reducible refine ex_bool ?_))
  refine ⟨_, eF3_8 b2 v, sq_nx ?_⟩
  refine w_seq (w_asg (we_tup (wl_cons (we_draw rfl ok2 (by decide) (by decide) fun m b3 m0 m1 ok3 => ?_))))
  repeat' (first
    | with_reducible refine w_seq ?_ | with_reducible refine w_nx ?_ | with_reducible refine w_bk ?_ | with_reducible refine w_ct ?_ | with_reducible refine w_if ?_ | with_reducible refine w_ret ?_ | with_reducible refine w_retO ?_ | with_reducible refine w_set ?_ | with_reducible refine w_setO ?_
    | with_reducible refine w_asg ?_ | with_reducible refine w_drop ?_ | with_reducible refine w_par ?_
    | with_reducible refine we_q ?_ | with_reducible refine wt_q ?_ | with_reducible refine wl_own ?_ | with_reducible refine we_op2 ?_ | with_reducible refine wl_nil ?_ | with_reducible refine wl_cons ?_ | with_reducible refine we_tup ?_ | with_reducible refine wl_lst ?_ | with_reducible refine we_call ?_
    | with_reducible refine wt_v ?_ | with_reducible refine wt_not ?_ | with_reducible refine wt_and ?_ | with_reducible refine wt_or ?_ | with_reducible refine we_if ?_ | with_reducible refine we_is ?_
    | with_reducible refine wq_c ?_ | with_reducible refine wq_op1 ?_ | with_reducible refine wq_op2 ?_ | with_reducible refine wq_nil ?_ | with_reducible refine wq_cons ?_ | with_reducible refine wq_tup ?_ | with_reducible refine wq_lst ?_ | with_reducible refine wq_if ?_ | with_reducible refine wq_tv ?_ | with_reducible refine wq_notT ?_ | with_reducible refine wq_andT ?_ | with_reducible refine wq_orT ?_ | with_reducible refine wq_call ?_ | with_reducible refine wq_seq ?_
    | ((with_reducible refine' wq_var ?wpv ?_); (case wpv => rfl)) | ((with_reducible refine' wq_varO ?wpv ?_); (case wpv => rfl)) | ((with_reducible refine' wq_varI ?wpv ?_); (case wpv => rfl))
    | with_reducible refine wq_andV ?_ | with_reducible refine wq_orV ?_ | with_reducible refine wq_notV ?_ | with_reducible refine wq_chain ?_
    | with_reducible refine sq_nx ?_ | with_reducible refine sq_rt ?_ | with_reducible refine sq_bk ?_ | with_reducible refine sq_ct ?_ | with_reducible refine lp_nx ?_ | with_reducible refine lp_rt ?_ | with_reducible refine lp_bk ?_ | with_reducible refine lp_ct ?_
    | (with_reducible refine hv_some ?_) | (with_reducible refine hv_add ?_) | (with_reducible refine hv_sub ?_) | (with_reducible refine hv_eq ?_) | (with_reducible refine hv_ne ?_) | (with_reducible refine hv_lt ?_) | (with_reducible refine hv_le ?_) | (with_reducible refine hv_gt ?_) | (with_reducible refine hv_ge ?_) | (with_reducible refine ex_bool ?_))
  refine len10 (by simp) ?_
  repeat' (first
    | with_reducible refine w_seq ?_ | with_reducible refine w_nx ?_ | with_reducible refine w_bk ?_ | with_reducible refine w_ct ?_ | with_reducible refine w_if ?_ | with_reducible refine w_ret ?_ | with_reducible refine w_retO ?_ | with_reducible refine w_set ?_ | with_reducible refine w_setO ?_
    | with_reducible refine w_asg ?_ | with_reducible refine w_drop ?_ | with_reducible refine w_par ?_
    | with_reducible refine we_q ?_ | with_reducible refine wt_q ?_ | with_reducible refine wl_own ?_ | with_reducible refine we_op2 ?_ | with_reducible refine wl_nil ?_ | with_reducible refine wl_cons ?_ | with_reducible refine we_tup ?_ | with_reducible refine wl_lst ?_ | with_reducible refine we_call ?_
    | with_reducible refine wt_v ?_ | with_reducible refine wt_not ?_ | with_reducible refine wt_and ?_ | with_reducible refine wt_or ?_ | with_reducible refine we_if ?_ | with_reducible refine we_is ?_
    | with_reducible refine wq_c ?_ | with_reducible refine wq_op1 ?_ | with_reducible refine wq_op2 ?_ | with_reducible refine wq_nil ?_ | with_reducible refine wq_cons ?_ | with_reducible refine wq_tup ?_ | with_reducible refine wq_lst ?_ | with_reducible refine wq_if ?_ | with_reducible refine wq_tv ?_ | with_reducible refine wq_notT ?_ | with_reducible refine wq_andT ?_ | with_reducible refine wq_orT ?_ | with_reducible refine wq_call ?_ | with_reducible refine wq_seq ?_
    | ((with_reducible refine' wq_var ?wpv ?_); (case wpv => rfl)) | ((with_reducible refine' wq_varO ?wpv ?_); (case wpv => rfl)) | ((with_reducible refine' wq_varI ?wpv ?_); (case wpv => rfl))
    | with_reducible refine wq_andV ?_ | with_reducible refine wq_orV ?_ | with_reducible refine wq_notV ?_ | with_reducible refine wq_chain ?_
    | with_reducible refine sq_nx ?_ | with_reducible refine sq_rt ?_ | with_reducible refine sq_bk ?_ | with_reducible refine sq_ct ?_ | with_reducible refine lp_nx ?_ | with_reducible refine lp_rt ?_ | with_reducible refine lp_bk ?_ | with_reducible refine lp_ct ?_
    | (with_reducible refine hv_some ?_) | (with_reducible refine hv_add ?_) | (with_reducible refine hv_sub ?_) | (with_reducible refine hv_eq ?_) | (with_reducible refine hv_ne ?_) | (with_reducible refine hv_lt ?_) | (with_reducible refine hv_le ?_) | (with_reducible refine hv_gt ?_) | (with_reducible refine hv_ge ?_) | (with_reducible refine ex_bool ?_))
  refine len10 (by simp) ?_
  repeat' (first
    | with_reducible refine w_seq ?_ | with_reducible refine w_nx ?_ | with_reducible refine w_bk ?_ | with_reducible refine w_ct ?_ | with_reducible refine w_if ?_ | with_reducible refine w_ret ?_ | with_reducible refine w_retO ?_ | with_reducible refine w_set ?_ | with_reducible refine w_setO ?_
    | with_reducible refine w_asg ?_ | with_reducible refine w_drop ?_ | with_reducible refine w_par ?_
    | with_reducible refine we_q ?_ | with_reducible refine wt_q ?_ | with_reducible refine wl_own ?_ | with_reducible refine we_op2 ?_ | with_reducible refine wl_nil ?_ | with_reducible refine wl_cons ?_ | with_reducible refine we_tup ?_ | with_reducible refine wl_lst ?_ | with_reducible refine we_call ?_
    | with_reducible refine wt_v ?_ | with_reducible refine wt_not ?_ | with_reducible refine wt_and ?_ | with_reducible refine wt_or ?_ | with_reducible refine we_if ?_ | with_reducible refine we_is ?_
    | with_reducible refine wq_c ?_ | with_reducible refine wq_op1 ?_ | with_reducible refine wq_op2 ?_ | with_reducible refine wq_nil ?_ | with_reducible refine wq_cons ?_ | with_reducible refine wq_tup ?_ | with_reducible refine wq_lst ?_ | with_reducible refine wq_if ?_ | with_reducible refine wq_tv ?_ | with_reducible refine wq_notT ?_ | with_reducible refine wq_andT ?_ | with_reducible refine wq_orT ?_ | with_reducible refine wq_call ?_ | with_reducible refine wq_seq ?_
    | ((with_reducible refine' wq_var ?wpv ?_); (case wpv => rfl)) | ((with_reducible refine' wq_varO ?wpv ?_); (case wpv => rfl)) | ((with_reducible refine' wq_varI ?wpv ?_); (case wpv => rfl))
    | with_reducible refine wq_andV ?_ | with_reducible refine wq_orV ?_ | with_reducible refine wq_notV ?_ | with_reducible refine wq_chain ?_
    | with_reducible refine sq_nx ?_ | with_reducible refine sq_rt ?_ | with_reducible refine sq_bk ?_ | with_reducible refine sq_ct ?_ | with_reducible refine lp_nx ?_ | with_reducible refine lp_rt ?_ | with_reducible refine lp_bk ?_ | with_reducible refine lp_ct ?_
    | (with_reducible refine hv_some ?_) | (with_reducible refine hv_add ?_) | (with_reducible refine hv_sub ?_) | (with_reducible refine hv_eq ?_) | (with_reducible refine hv_ne ?_) | (with_reducible refine hv_lt ?_) | (with_reducible refine hv_le ?_) | (with_reducible refine hv_gt ?_) | (with_reducible refine hv_ge ?_) | (with_reducible refine ex_bool ?_))
  refine len10 (by simp) (hv_of rfl ?_)
  repeat' (first
    | with_reducible refine w_seq ?_ | with_reducible refine w_nx ?_ | with_reducible refine w_bk ?_ | with_reducible refine w_ct ?_ | with_reducible refine w_if ?_ | with_reducible refine w_ret ?_ | with_reducible refine w_retO ?_ | with_reducible refine w_set ?_ | with_reducible refine w_setO ?_
    | with_reducible refine w_asg ?_ | with_reducible refine w_drop ?_ | with_reducible refine w_par ?_
    | with_reducible refine we_q ?_ | with_reducible refine wt_q ?_ | with_reducible refine wl_own ?_ | with_reducible refine we_op2 ?_ | with_reducible refine wl_nil ?_ | with_reducible refine wl_cons ?_ | with_reducible refine we_tup ?_ | with_reducible refine wl_lst ?_ | with_reducible refine we_call ?_
    | with_reducible refine wt_v ?_ | with_reducible refine wt_not ?_ | with_reducible refine wt_and ?_ | with_reducible refine wt_or ?_ | with_reducible refine we_if ?_ | with_reducible refine we_is ?_
    | with_reducible refine wq_c ?_ | with_reducible refine wq_op1 ?_ | with_reducible refine wq_op2 ?_ | with_reducible refine wq_nil ?_ | with_reducible refine wq_cons ?_ | with_reducible refine wq_tup ?_ | with_reducible refine wq_lst ?_ | with_reducible refine wq_if ?_ | with_reducible refine wq_tv ?_ | with_reducible refine wq_notT ?_ | with_reducible refine wq_andT ?_ | with_reducible refine wq_orT ?_ | with_reducible refine wq_call ?_ | with_reducible refine wq_seq ?_
    | ((with_reducible refine' wq_var ?wpv ?_); (case wpv => rfl)) | ((with_reducible refine' wq_varO ?wpv ?_); (case wpv => rfl)) | ((with_reducible refine' wq_varI ?wpv ?_); (case wpv => rfl))
    | with_reducible refine wq_andV ?_ | with_reducible refine wq_orV ?_ | with_reducible refine wq_notV ?_ | with_reducible refine wq_chain ?_
    | with_reducible refine sq_nx ?_ | with_reducible refine sq_rt ?_ | with_reducible refine sq_bk ?_ | with_reducible refine sq_ct ?_ | with_reducible refine lp_nx ?_ | with_reducible refine lp_rt ?_ | with_reducible refine lp_bk ?_ | with_reducible refine lp_ct ?_
    | (with_reducible refine hv_some ?_) | (with_reducible refine hv_add ?_) | (with_reducible refine hv_sub ?_) | (with_reducible refine hv_eq ?_) | (with_reducible refine hv_ne ?_) | (with_reducible refine hv_lt ?_) | (with_reducible refine hv_le ?_) | (with_reducible refine hv_gt ?_) | (with_reducible refine hv_ge ?_) | (with_reducible refine ex_bool ?_))
  obtain ⟨m, rfl⟩ := Int.eq_ofNat_of_zero_le m0
  have mm : m = 0 ∨ m = 1 ∨ m = 2 ∨ m = 3 ∨ m = 4 ∨ m = 5 := by omega
  rcases mm with rfl | rfl | rfl | rfl | rfl | rfl
  · exact few2_0 b3 ok3 _ _ _ _ _ _ _ _ _ _ _
  · exact few2_1 b3 ok3 _ _ _ _ _ _ _ _ _ _ _
  · exact few2_2 b3 ok3 _ _ _ _ _ _ _ _ _ _ _
  · exact few2_3 b3 ok3 _ _ _ _ _ _ _ _ _ _ _
  · exact few2_4 b3 ok3 _ _ _ _ _ _ _ _ _ _ _
  · exact few2_5 b3 ok3 _ _ _ _ _ _ _ _ _ _ _
theorem are_few_ok (b : Bag) (ok : OkB b) : ∃ b', OkB b' ∧ F_law_are_few b [] = some (.bool true, b') := by
  suffices h : Wp m_law_are_few [.bag b, .un, .un, .un, .un, .un, .un, .un, .un, .un, .un, .un, .un, .un] (fun f => ∃ s b', f = .rt (.bool true) s ∧ s[0]? = some (.bag b') ∧ OkB b') by
    obtain ⟨f, h1, s, b', rfl, h2, h3⟩ := h
    refine ⟨b', h3, ?_⟩
    show (match m_law_are_few [.bag b, .un, .un, .un, .un, .un, .un, .un, .un, .un, .un, .un, .un, .un] with
      | some (.rt d s) => (bagOf s 0).map fun b' => (d, b')
      | _ => none) = _
    rw [h1]
    show (bagOf s 0).map _ = _
    unfold bagOf
    rw [h2]
    rfl
  rw [few_eq]
  refine w_seq (w_asg (we_tup (wl_cons (we_draw rfl ok (by decide) (by decide) fun n b1 n0 n1 ok1 => ?_))))
  repeat' (first
    | with_reducible refine w_seq ?_ | with_reducible refine w_nx ?_ | with_reducible refine w_bk ?_ | with_reducible refine w_ct ?_ | with_reducible refine w_if ?_ | with_reducible refine w_ret ?_ | with_reducible refine w_retO ?_ | with_reducible refine w_set ?_ | with_reducible refine w_setO ?_
    | with_reducible refine w_asg ?_ | with_reducible refine w_drop ?_ | with_reducible refine w_par ?_
    | with_reducible refine we_q ?_ | with_reducible refine wt_q ?_ | with_reducible refine wl_own ?_ | with_reducible refine we_op2 ?_ | with_reducible refine wl_nil ?_ | with_reducible refine wl_cons ?_ | with_reducible refine we_tup ?_ | with_reducible refine wl_lst ?_ | with_reducible refine we_call ?_
    | with_reducible refine wt_v ?_ | with_reducible refine wt_not ?_ | with_reducible refine wt_and ?_ | with_reducible refine wt_or ?_ | with_reducible refine we_if ?_ | with_reducible refine we_is ?_
    | with_reducible refine wq_c ?_ | with_reducible refine wq_op1 ?_ | with_reducible refine wq_op2 ?_ | with_reducible refine wq_nil ?_ | with_reducible refine wq_cons ?_ | with_reducible refine wq_tup ?_ | with_reducible refine wq_lst ?_ | with_reducible refine wq_if ?_ | with_reducible refine wq_tv ?_ | with_reducible refine wq_notT ?_ | with_reducible refine wq_andT ?_ | with_reducible refine wq_orT ?_ | with_reducible refine wq_call ?_ | with_reducible refine wq_seq ?_
    | ((with_reducible refine' wq_var ?wpv ?_); (case wpv => rfl)) | ((with_reducible refine' wq_varO ?wpv ?_); (case wpv => rfl)) | ((with_reducible refine' wq_varI ?wpv ?_); (case wpv => rfl))
    | with_reducible refine wq_andV ?_ | with_reducible refine wq_orV ?_ | with_reducible refine wq_notV ?_ | with_reducible refine wq_chain ?_
    | with_reducible refine sq_nx ?_ | with_reducible refine sq_rt ?_ | with_reducible refine sq_bk ?_ | with_reducible refine sq_ct ?_ | with_reducible refine lp_nx ?_ | with_reducible refine lp_rt ?_ | with_reducible refine lp_bk ?_ | with_reducible refine lp_ct ?_
    | (with_reducible refine hv_some ?_) | (with_reducible refine hv_add ?_) | (with_reducible refine hv_sub ?_) | (with_reducible refine hv_eq ?_) | (with_reducible refine hv_ne ?_) | (with_reducible refine hv_lt ?_) | (with_reducible refine hv_le ?_) | (with_reducible refine hv_gt ?_) | (with_reducible refine hv_ge ?_) | (with_reducible refine ex_bool ?_))
  refine len10 (by simp) ?_
  repeat' (first
    | with_reducible refine w_seq ?_ | with_reducible refine w_nx ?_ | with_reducible refine w_bk ?_ | with_reducible refine w_ct ?_ | with_reducible refine w_if ?_ | with_reducible refine w_ret ?_ | with_reducible refine w_retO ?_ | with_reducible refine w_set ?_ | with_reducible refine w_setO ?_
    | with_reducible refine w_asg ?_ | with_reducible refine w_drop ?_ | with_reducible refine w_par ?_
    | with_reducible refine we_q ?_ | with_reducible refine wt_q ?_ | with_reducible refine wl_own ?_ | with_reducible refine we_op2 ?_ | with_reducible refine wl_nil ?_ | with_reducible refine wl_cons ?_ | with_reducible refine we_tup ?_ | with_reducible refine wl_lst ?_ | with_reducible refine we_call ?_
    | with_reducible refine wt_v ?_ | with_reducible refine wt_not ?_ | with_reducible refine wt_and ?_ | with_reducible refine wt_or ?_ | with_reducible refine we_if ?_ | with_reducible refine we_is ?_
    | with_reducible refine wq_c ?_ | with_reducible refine wq_op1 ?_ | with_reducible refine wq_op2 ?_ | with_reducible refine wq_nil ?_ | with_reducible refine wq_cons ?_ | with_reducible refine wq_tup ?_ | with_reducible refine wq_lst ?_ | with_reducible refine wq_if ?_ | with_reducible refine wq_tv ?_ | with_reducible refine wq_notT ?_ | with_reducible refine wq_andT ?_ | with_reducible refine wq_orT ?_ | with_reducible refine wq_call ?_ | with_reducible refine wq_seq ?_
    | ((with_reducible refine' wq_var ?wpv ?_); (case wpv => rfl)) | ((with_reducible refine' wq_varO ?wpv ?_); (case wpv => rfl)) | ((with_reducible refine' wq_varI ?wpv ?_); (case wpv => rfl))
    | with_reducible refine wq_andV ?_ | with_reducible refine wq_orV ?_ | with_reducible refine wq_notV ?_ | with_reducible refine wq_chain ?_
    | with_reducible refine sq_nx ?_ | with_reducible refine sq_rt ?_ | with_reducible refine sq_bk ?_ | with_reducible refine sq_ct ?_ | with_reducible refine lp_nx ?_ | with_reducible refine lp_rt ?_ | with_reducible refine lp_bk ?_ | with_reducible refine lp_ct ?_
    | (with_reducible refine hv_some ?_) | (with_reducible refine hv_add ?_) | (with_reducible refine hv_sub ?_) | (with_reducible refine hv_eq ?_) | (with_reducible refine hv_ne ?_) | (with_reducible refine hv_lt ?_) | (with_reducible refine hv_le ?_) | (with_reducible refine hv_gt ?_) | (with_reducible refine hv_ge ?_) | (with_reducible refine ex_bool ?_))
  refine len10 (by simp) ?_
  repeat' (first
    | with_reducible refine w_seq ?_ | with_reducible refine w_nx ?_ | with_reducible refine w_bk ?_ | with_reducible refine w_ct ?_ | with_reducible refine w_if ?_ | with_reducible refine w_ret ?_ | with_reducible refine w_retO ?_ | with_reducible refine w_set ?_ | with_reducible refine w_setO ?_
    | with_reducible refine w_asg ?_ | with_reducible refine w_drop ?_ | with_reducible refine w_par ?_
    | with_reducible refine we_q ?_ | with_reducible refine wt_q ?_ | with_reducible refine wl_own ?_ | with_reducible refine we_op2 ?_ | with_reducible refine wl_nil ?_ | with_reducible refine wl_cons ?_ | with_reducible refine we_tup ?_ | with_reducible refine wl_lst ?_ | with_reducible refine we_call ?_
    | with_reducible refine wt_v ?_ | with_reducible refine wt_not ?_ | with_reducible refine wt_and ?_ | with_reducible refine wt_or ?_ | with_reducible refine we_if ?_ | with_reducible refine we_is ?_
    | with_reducible refine wq_c ?_ | with_reducible refine wq_op1 ?_ | with_reducible refine wq_op2 ?_ | with_reducible refine wq_nil ?_ | with_reducible refine wq_cons ?_ | with_reducible refine wq_tup ?_ | with_reducible refine wq_lst ?_ | with_reducible refine wq_if ?_ | with_reducible refine wq_tv ?_ | with_reducible refine wq_notT ?_ | with_reducible refine wq_andT ?_ | with_reducible refine wq_orT ?_ | with_reducible refine wq_call ?_ | with_reducible refine wq_seq ?_
    | ((with_reducible refine' wq_var ?wpv ?_); (case wpv => rfl)) | ((with_reducible refine' wq_varO ?wpv ?_); (case wpv => rfl)) | ((with_reducible refine' wq_varI ?wpv ?_); (case wpv => rfl))
    | with_reducible refine wq_andV ?_ | with_reducible refine wq_orV ?_ | with_reducible refine wq_notV ?_ | with_reducible refine wq_chain ?_
    | with_reducible refine sq_nx ?_ | with_reducible refine sq_rt ?_ | with_reducible refine sq_bk ?_ | with_reducible refine sq_ct ?_ | with_reducible refine lp_nx ?_ | with_reducible refine lp_rt ?_ | with_reducible refine lp_bk ?_ | with_reducible refine lp_ct ?_
    | (with_reducible refine hv_some ?_) | (with_reducible refine hv_add ?_) | (with_reducible refine hv_sub ?_) | (with_reducible refine hv_eq ?_) | (with_reducible refine hv_ne ?_) | (with_reducible refine hv_lt ?_) | (with_reducible refine hv_le ?_) | (with_reducible refine hv_gt ?_) | (with_reducible refine hv_ge ?_) | (with_reducible refine ex_bool ?_))
  refine len10 (by simp) (hv_of rfl ?_)
  repeat' (first
    | with_reducible refine w_seq ?_ | with_reducible refine w_nx ?_ | with_reducible refine w_bk ?_ | with_reducible refine w_ct ?_ | with_reducible refine w_if ?_ | with_reducible refine w_ret ?_ | with_reducible refine w_retO ?_ | with_reducible refine w_set ?_ | with_reducible refine w_setO ?_
    | with_reducible refine w_asg ?_ | with_reducible refine w_drop ?_ | with_reducible refine w_par ?_
    | with_reducible refine we_q ?_ | with_reducible refine wt_q ?_ | with_reducible refine wl_own ?_ | with_reducible refine we_op2 ?_ | with_reducible refine wl_nil ?_ | with_reducible refine wl_cons ?_ | with_reducible refine we_tup ?_ | with_reducible refine wl_lst ?_ | with_reducible refine we_call ?_
    | with_reducible refine wt_v ?_ | with_reducible refine wt_not ?_ | with_reducible refine wt_and ?_ | with_reducible refine wt_or ?_ | with_reducible refine we_if ?_ | with_reducible refine we_is ?_
    | with_reducible refine wq_c ?_ | with_reducible refine wq_op1 ?_ | with_reducible refine wq_op2 ?_ | with_reducible refine wq_nil ?_ | with_reducible refine wq_cons ?_ | with_reducible refine wq_tup ?_ | with_reducible refine wq_lst ?_ | with_reducible refine wq_if ?_ | with_reducible refine wq_tv ?_ | with_reducible refine wq_notT ?_ | with_reducible refine wq_andT ?_ | with_reducible refine wq_orT ?_ | with_reducible refine wq_call ?_ | with_reducible refine wq_seq ?_
    | ((with_reducible refine' wq_var ?wpv ?_); (case wpv => rfl)) | ((with_reducible refine' wq_varO ?wpv ?_); (case wpv => rfl)) | ((with_reducible refine' wq_varI ?wpv ?_); (case wpv => rfl))
    | with_reducible refine wq_andV ?_ | with_reducible refine wq_orV ?_ | with_reducible refine wq_notV ?_ | with_reducible refine wq_chain ?_
    | with_reducible refine sq_nx ?_ | with_reducible refine sq_rt ?_ | with_reducible refine sq_bk ?_ | with_reducible refine sq_ct ?_ | with_reducible refine lp_nx ?_ | with_reducible refine lp_rt ?_ | with_reducible refine lp_bk ?_ | with_reducible refine lp_ct ?_
    | (with_reducible refine hv_some ?_) | (with_reducible refine hv_add ?_) | (with_reducible refine hv_sub ?_) | (with_reducible refine hv_eq ?_) | (with_reducible refine hv_ne ?_) | (with_reducible refine hv_lt ?_) | (with_reducible refine hv_le ?_) | (with_reducible refine hv_gt ?_) | (with_reducible refine hv_ge ?_) | (with_reducible refine ex_bool ?_))
  obtain ⟨n, rfl⟩ := Int.eq_ofNat_of_zero_le n0
  have nn : n = 0 ∨ n = 1 ∨ n = 2 ∨ n = 3 := by omega
  rcases nn with rfl | rfl | rfl | rfl
  · exact few1_0 b1 ok1
  · exact few1_1 b1 ok1
  · exact few1_2 b1 ok1
  · exact few1_3 b1 ok1
end Y

namespace Y
open PySem PySem.Spec PyProof.Rows L2
theorem law_ok (b : Bag) (ok : OkB b) : ∃ s', m_law (.un :: .bag b :: List.replicate 1 .un) = some (.rt (.bool true) s') := by
  suffices h : Wp m_law [.un, .bag b, .un] (fun f => ∃ s, f = .rt (.bool true) s) by
    obtain ⟨f, h1, s, rfl⟩ := h
    exact ⟨s, h1⟩
  unfold m_law
  refine w_seq (w_for (wl_rng1 ?_))
  repeat' (first
    | with_reducible refine w_seq ?_ | with_reducible refine w_nx ?_ | with_reducible refine w_bk ?_ | with_reducible refine w_ct ?_ | with_reducible refine w_if ?_ | with_reducible refine w_ret ?_ | with_reducible refine w_retO ?_ | with_reducible refine w_set ?_ | with_reducible refine w_setO ?_
    | with_reducible refine w_asg ?_ | with_reducible refine w_drop ?_ | with_reducible refine w_par ?_
    | with_reducible refine we_q ?_ | with_reducible refine wt_q ?_ | with_reducible refine wl_own ?_ | with_reducible refine we_op2 ?_ | with_reducible refine wl_nil ?_ | with_reducible refine wl_cons ?_ | with_reducible refine we_tup ?_ | with_reducible refine wl_lst ?_ | with_reducible refine we_call ?_
    | with_reducible refine wt_v ?_ | with_reducible refine wt_not ?_ | with_reducible refine wt_and ?_ | with_reducible refine wt_or ?_ | with_reducible refine we_if ?_ | with_reducible refine we_is ?_
    | with_reducible refine wq_c ?_ | with_reducible refine wq_op1 ?_ | with_reducible refine wq_op2 ?_ | with_reducible refine wq_nil ?_ | with_reducible refine wq_cons ?_ | with_reducible refine wq_tup ?_ | with_reducible refine wq_lst ?_ | with_reducible refine wq_if ?_ | with_reducible refine wq_tv ?_ | with_reducible refine wq_notT ?_ | with_reducible refine wq_andT ?_ | with_reducible refine wq_orT ?_ | with_reducible refine wq_call ?_ | with_reducible refine wq_seq ?_
    | ((with_reducible refine' wq_var ?wpv ?_); (case wpv => rfl)) | ((with_reducible refine' wq_varO ?wpv ?_); (case wpv => rfl)) | ((with_reducible refine' wq_varI ?wpv ?_); (case wpv => rfl))
    | with_reducible refine wq_andV ?_ | with_reducible refine wq_orV ?_ | with_reducible refine wq_notV ?_ | with_reducible refine wq_chain ?_
    | with_reducible refine sq_nx ?_ | with_reducible refine sq_rt ?_ | with_reducible refine sq_bk ?_ | with_reducible refine sq_ct ?_ | with_reducible refine lp_nx ?_ | with_reducible refine lp_rt ?_ | with_reducible refine lp_bk ?_ | with_reducible refine lp_ct ?_
    | (with_reducible refine hv_some ?_) | (with_reducible refine hv_add ?_) | (with_reducible refine hv_sub ?_) | (with_reducible refine hv_eq ?_) | (with_reducible refine hv_ne ?_) | (with_reducible refine hv_lt ?_) | (with_reducible refine hv_le ?_) | (with_reducible refine hv_gt ?_) | (with_reducible refine hv_ge ?_) | (with_reducible refine ex_bool ?_))
  refine ex_rng1 (by decide) ⟨fun i s => ∃ b' x, OkB b' ∧ s = [.un, .bag b', x], ⟨b, .un, ok, rfl⟩, ?_, ?_⟩
  · rintro i d s hi ⟨b', x, ok', rfl⟩
    refine hv_of rfl ?_
    simp only [List.set_cons_zero, List.set_cons_succ, seqQ, loopQ]
    repeat' (first
      | with_reducible refine w_seq ?_ | with_reducible refine w_nx ?_ | with_reducible refine w_bk ?_ | with_reducible refine w_ct ?_ | with_reducible refine w_if ?_ | with_reducible refine w_ret ?_ | with_reducible refine w_retO ?_ | with_reducible refine w_set ?_ | with_reducible refine w_setO ?_
      | with_reducible refine w_asg ?_ | with_reducible refine w_drop ?_ | with_reducible refine w_par ?_
      | with_reducible refine we_q ?_ | with_reducible refine wt_q ?_ | with_reducible refine wl_own ?_ | with_reducible refine we_op2 ?_ | with_reducible refine wl_nil ?_ | with_reducible refine wl_cons ?_ | with_reducible refine we_tup ?_ | with_reducible refine wl_lst ?_ | with_reducible refine we_call ?_
      | with_reducible refine wt_v ?_ | with_reducible refine wt_not ?_ | with_reducible refine wt_and ?_ | with_reducible refine wt_or ?_ | with_reducible refine we_if ?_ | with_reducible refine we_is ?_
      | with_reducible refine wq_c ?_ | with_reducible refine wq_op1 ?_ | with_reducible refine wq_op2 ?_ | with_reducible refine wq_nil ?_ | with_reducible refine wq_cons ?_ | with_reducible refine wq_tup ?_ | with_reducible refine wq_lst ?_ | with_reducible refine wq_if ?_ | with_reducible refine wq_tv ?_ | with_reducible refine wq_notT ?_ | with_reducible refine wq_andT ?_ | with_reducible refine wq_orT ?_ | with_reducible refine wq_call ?_ | with_reducible refine wq_seq ?_
      | ((with_reducible refine' wq_var ?wpv ?_); (case wpv => rfl)) | ((with_reducible refine' wq_varO ?wpv ?_); (case wpv => rfl)) | ((with_reducible refine' wq_varI ?wpv ?_); (case wpv => rfl))
      | with_reducible refine wq_andV ?_ | with_reducible refine wq_orV ?_ | with_reducible refine wq_notV ?_ | with_reducible refine wq_chain ?_
      | with_reducible refine sq_nx ?_ | with_reducible refine sq_rt ?_ | with_reducible refine sq_bk ?_ | with_reducible refine sq_ct ?_ | with_reducible refine lp_nx ?_ | with_reducible refine lp_rt ?_ | with_reducible refine lp_bk ?_ | with_reducible refine lp_ct ?_
      | (with_reducible refine hv_some ?_) | (with_reducible refine hv_add ?_) | (with_reducible refine hv_sub ?_) | (with_reducible refine hv_eq ?_) | (with_reducible refine hv_ne ?_) | (with_reducible refine hv_lt ?_) | (with_reducible refine hv_le ?_) | (with_reducible refine hv_gt ?_) | (with_reducible refine hv_ge ?_) | (with_reducible refine ex_bool ?_))
    obtain ⟨b2, ok2, e2⟩ := are_numbers_ok b' ok'
    obtain ⟨b3, ok3, e3⟩ := are_few_ok b2 ok2
    refine we_callB (b0 := b') rfl ?_
    repeat' (first
      | with_reducible refine w_seq ?_ | with_reducible refine w_nx ?_ | with_reducible refine w_bk ?_ | with_reducible refine w_ct ?_ | with_reducible refine w_if ?_ | with_reducible refine w_ret ?_ | with_reducible refine w_retO ?_ | with_reducible refine w_set ?_ | with_reducible refine w_setO ?_
      | with_reducible refine w_asg ?_ | with_reducible refine w_drop ?_ | with_reducible refine w_par ?_
      | with_reducible refine we_q ?_ | with_reducible refine wt_q ?_ | with_reducible refine wl_own ?_ | with_reducible refine we_op2 ?_ | with_reducible refine wl_nil ?_ | with_reducible refine wl_cons ?_ | with_reducible refine we_tup ?_ | with_reducible refine wl_lst ?_ | with_reducible refine we_call ?_
      | with_reducible refine wt_v ?_ | with_reducible refine wt_not ?_ | with_reducible refine wt_and ?_ | with_reducible refine wt_or ?_ | with_reducible refine we_if ?_ | with_reducible refine we_is ?_
      | with_reducible refine wq_c ?_ | with_reducible refine wq_op1 ?_ | with_reducible refine wq_op2 ?_ | with_reducible refine wq_nil ?_ | with_reducible refine wq_cons ?_ | with_reducible refine wq_tup ?_ | with_reducible refine wq_lst ?_ | with_reducible refine wq_if ?_ | with_reducible refine wq_tv ?_ | with_reducible refine wq_notT ?_ | with_reducible refine wq_andT ?_ | with_reducible refine wq_orT ?_ | with_reducible refine wq_call ?_ | with_reducible refine wq_seq ?_
      | ((with_reducible refine' wq_var ?wpv ?_); (case wpv => rfl)) | ((with_reducible refine' wq_varO ?wpv ?_); (case wpv => rfl)) | ((with_reducible refine' wq_varI ?wpv ?_); (case wpv => rfl))
      | with_reducible refine wq_andV ?_ | with_reducible refine wq_orV ?_ | with_reducible refine wq_notV ?_ | with_reducible refine wq_chain ?_
      | with_reducible refine sq_nx ?_ | with_reducible refine sq_rt ?_ | with_reducible refine sq_bk ?_ | with_reducible refine sq_ct ?_ | with_reducible refine lp_nx ?_ | with_reducible refine lp_rt ?_ | with_reducible refine lp_bk ?_ | with_reducible refine lp_ct ?_
      | (with_reducible refine hv_some ?_) | (with_reducible refine hv_add ?_) | (with_reducible refine hv_sub ?_) | (with_reducible refine hv_eq ?_) | (with_reducible refine hv_ne ?_) | (with_reducible refine hv_lt ?_) | (with_reducible refine hv_le ?_) | (with_reducible refine hv_gt ?_) | (with_reducible refine hv_ge ?_) | (with_reducible refine ex_bool ?_))
    refine ⟨b', rfl, hv_of e2 ?_⟩
    simp only [List.set_cons_zero, List.set_cons_succ, seqQ, loopQ]
    repeat' (first
      | with_reducible refine w_seq ?_ | with_reducible refine w_nx ?_ | with_reducible refine w_bk ?_ | with_reducible refine w_ct ?_ | with_reducible refine w_if ?_ | with_reducible refine w_ret ?_ | with_reducible refine w_retO ?_ | with_reducible refine w_set ?_ | with_reducible refine w_setO ?_
      | with_reducible refine w_asg ?_ | with_reducible refine w_drop ?_ | with_reducible refine w_par ?_
      | with_reducible refine we_q ?_ | with_reducible refine wt_q ?_ | with_reducible refine wl_own ?_ | with_reducible refine we_op2 ?_ | with_reducible refine wl_nil ?_ | with_reducible refine wl_cons ?_ | with_reducible refine we_tup ?_ | with_reducible refine wl_lst ?_ | with_reducible refine we_call ?_
      | with_reducible refine wt_v ?_ | with_reducible refine wt_not ?_ | with_reducible refine wt_and ?_ | with_reducible refine wt_or ?_ | with_reducible refine we_if ?_ | with_reducible refine we_is ?_
      | with_reducible refine wq_c ?_ | with_reducible refine wq_op1 ?_ | with_reducible refine wq_op2 ?_ | with_reducible refine wq_nil ?_ | with_reducible refine wq_cons ?_ | with_reducible refine wq_tup ?_ | with_reducible refine wq_lst ?_ | with_reducible refine wq_if ?_ | with_reducible refine wq_tv ?_ | with_reducible refine wq_notT ?_ | with_reducible refine wq_andT ?_ | with_reducible refine wq_orT ?_ | with_reducible refine wq_call ?_ | with_reducible refine wq_seq ?_
      | ((with_reducible refine' wq_var ?wpv ?_); (case wpv => rfl)) | ((with_reducible refine' wq_varO ?wpv ?_); (case wpv => rfl)) | ((with_reducible refine' wq_varI ?wpv ?_); (case wpv => rfl))
      | with_reducible refine wq_andV ?_ | with_reducible refine wq_orV ?_ | with_reducible refine wq_notV ?_ | with_reducible refine wq_chain ?_
      | with_reducible refine sq_nx ?_ | with_reducible refine sq_rt ?_ | with_reducible refine sq_bk ?_ | with_reducible refine sq_ct ?_ | with_reducible refine lp_nx ?_ | with_reducible refine lp_rt ?_ | with_reducible refine lp_bk ?_ | with_reducible refine lp_ct ?_
      | (with_reducible refine hv_some ?_) | (with_reducible refine hv_add ?_) | (with_reducible refine hv_sub ?_) | (with_reducible refine hv_eq ?_) | (with_reducible refine hv_ne ?_) | (with_reducible refine hv_lt ?_) | (with_reducible refine hv_le ?_) | (with_reducible refine hv_gt ?_) | (with_reducible refine hv_ge ?_) | (with_reducible refine ex_bool ?_))
    refine ⟨(fun c => absurd c (by decide)), fun _ => ?_⟩
    repeat' (first
      | with_reducible refine w_seq ?_ | with_reducible refine w_nx ?_ | with_reducible refine w_bk ?_ | with_reducible refine w_ct ?_ | with_reducible refine w_if ?_ | with_reducible refine w_ret ?_ | with_reducible refine w_retO ?_ | with_reducible refine w_set ?_ | with_reducible refine w_setO ?_
      | with_reducible refine w_asg ?_ | with_reducible refine w_drop ?_ | with_reducible refine w_par ?_
      | with_reducible refine we_q ?_ | with_reducible refine wt_q ?_ | with_reducible refine wl_own ?_ | with_reducible refine we_op2 ?_ | with_reducible refine wl_nil ?_ | with_reducible refine wl_cons ?_ | with_reducible refine we_tup ?_ | with_reducible refine wl_lst ?_ | with_reducible refine we_call ?_
      | with_reducible refine wt_v ?_ | with_reducible refine wt_not ?_ | with_reducible refine wt_and ?_ | with_reducible refine wt_or ?_ | with_reducible refine we_if ?_ | with_reducible refine we_is ?_
      | with_reducible refine wq_c ?_ | with_reducible refine wq_op1 ?_ | with_reducible refine wq_op2 ?_ | with_reducible refine wq_nil ?_ | with_reducible refine wq_cons ?_ | with_reducible refine wq_tup ?_ | with_reducible refine wq_lst ?_ | with_reducible refine wq_if ?_ | with_reducible refine wq_tv ?_ | with_reducible refine wq_notT ?_ | with_reducible refine wq_andT ?_ | with_reducible refine wq_orT ?_ | with_reducible refine wq_call ?_ | with_reducible refine wq_seq ?_
      | ((with_reducible refine' wq_var ?wpv ?_); (case wpv => rfl)) | ((with_reducible refine' wq_varO ?wpv ?_); (case wpv => rfl)) | ((with_reducible refine' wq_varI ?wpv ?_); (case wpv => rfl))
      | with_reducible refine wq_andV ?_ | with_reducible refine wq_orV ?_ | with_reducible refine wq_notV ?_ | with_reducible refine wq_chain ?_
      | with_reducible refine sq_nx ?_ | with_reducible refine sq_rt ?_ | with_reducible refine sq_bk ?_ | with_reducible refine sq_ct ?_ | with_reducible refine lp_nx ?_ | with_reducible refine lp_rt ?_ | with_reducible refine lp_bk ?_ | with_reducible refine lp_ct ?_
      | (with_reducible refine hv_some ?_) | (with_reducible refine hv_add ?_) | (with_reducible refine hv_sub ?_) | (with_reducible refine hv_eq ?_) | (with_reducible refine hv_ne ?_) | (with_reducible refine hv_lt ?_) | (with_reducible refine hv_le ?_) | (with_reducible refine hv_gt ?_) | (with_reducible refine hv_ge ?_) | (with_reducible refine ex_bool ?_))
    refine we_callB (b0 := b2) rfl ?_
    repeat' (first
      | with_reducible refine w_seq ?_ | with_reducible refine w_nx ?_ | with_reducible refine w_bk ?_ | with_reducible refine w_ct ?_ | with_reducible refine w_if ?_ | with_reducible refine w_ret ?_ | with_reducible refine w_retO ?_ | with_reducible refine w_set ?_ | with_reducible refine w_setO ?_
      | with_reducible refine w_asg ?_ | with_reducible refine w_drop ?_ | with_reducible refine w_par ?_
      | with_reducible refine we_q ?_ | with_reducible refine wt_q ?_ | with_reducible refine wl_own ?_ | with_reducible refine we_op2 ?_ | with_reducible refine wl_nil ?_ | with_reducible refine wl_cons ?_ | with_reducible refine we_tup ?_ | with_reducible refine wl_lst ?_ | with_reducible refine we_call ?_
      | with_reducible refine wt_v ?_ | with_reducible refine wt_not ?_ | with_reducible refine wt_and ?_ | with_reducible refine wt_or ?_ | with_reducible refine we_if ?_ | with_reducible refine we_is ?_
      | with_reducible refine wq_c ?_ | with_reducible refine wq_op1 ?_ | with_reducible refine wq_op2 ?_ | with_reducible refine wq_nil ?_ | with_reducible refine wq_cons ?_ | with_reducible refine wq_tup ?_ | with_reducible refine wq_lst ?_ | with_reducible refine wq_if ?_ | with_reducible refine wq_tv ?_ | with_reducible refine wq_notT ?_ | with_reducible refine wq_andT ?_ | with_reducible refine wq_orT ?_ | with_reducible refine wq_call ?_ | with_reducible refine wq_seq ?_
      | ((with_reducible refine' wq_var ?wpv ?_); (case wpv => rfl)) | ((with_reducible refine' wq_varO ?wpv ?_); (case wpv => rfl)) | ((with_reducible refine' wq_varI ?wpv ?_); (case wpv => rfl))
      | with_reducible refine wq_andV ?_ | with_reducible refine wq_orV ?_ | with_reducible refine wq_notV ?_ | with_reducible refine wq_chain ?_
      | with_reducible refine sq_nx ?_ | with_reducible refine sq_rt ?_ | with_reducible refine sq_bk ?_ | with_reducible refine sq_ct ?_ | with_reducible refine lp_nx ?_ | with_reducible refine lp_rt ?_ | with_reducible refine lp_bk ?_ | with_reducible refine lp_ct ?_
      | (with_reducible refine hv_some ?_) | (with_reducible refine hv_add ?_) | (with_reducible refine hv_sub ?_) | (with_reducible refine hv_eq ?_) | (with_reducible refine hv_ne ?_) | (with_reducible refine hv_lt ?_) | (with_reducible refine hv_le ?_) | (with_reducible refine hv_gt ?_) | (with_reducible refine hv_ge ?_) | (with_reducible refine ex_bool ?_))
    refine ⟨b2, rfl, hv_of e3 ?_⟩
    simp only [List.set_cons_zero, List.set_cons_succ, seqQ, loopQ]
    repeat' (first
      | with_reducible refine w_seq ?_ | with_reducible refine w_nx ?_ | with_reducible refine w_bk ?_ | with_reducible refine w_ct ?_ | with_reducible refine w_if ?_ | with_reducible refine w_ret ?_ | with_reducible refine w_retO ?_ | with_reducible refine w_set ?_ | with_reducible refine w_setO ?_
      | with_reducible refine w_asg ?_ | with_reducible refine w_drop ?_ | with_reducible refine w_par ?_
      | with_reducible refine we_q ?_ | with_reducible refine wt_q ?_ | with_reducible refine wl_own ?_ | with_reducible refine we_op2 ?_ | with_reducible refine wl_nil ?_ | with_reducible refine wl_cons ?_ | with_reducible refine we_tup ?_ | with_reducible refine wl_lst ?_ | with_reducible refine we_call ?_
      | with_reducible refine wt_v ?_ | with_reducible refine wt_not ?_ | with_reducible refine wt_and ?_ | with_reducible refine wt_or ?_ | with_reducible refine we_if ?_ | with_reducible refine we_is ?_
      | with_reducible refine wq_c ?_ | with_reducible refine wq_op1 ?_ | with_reducible refine wq_op2 ?_ | with_reducible refine wq_nil ?_ | with_reducible refine wq_cons ?_ | with_reducible refine wq_tup ?_ | with_reducible refine wq_lst ?_ | with_reducible refine wq_if ?_ | with_reducible refine wq_tv ?_ | with_reducible refine wq_notT ?_ | with_reducible refine wq_andT ?_ | with_reducible refine wq_orT ?_ | with_reducible refine wq_call ?_ | with_reducible refine wq_seq ?_
      | ((with_reducible refine' wq_var ?wpv ?_); (case wpv => rfl)) | ((with_reducible refine' wq_varO ?wpv ?_); (case wpv => rfl)) | ((with_reducible refine' wq_varI ?wpv ?_); (case wpv => rfl))
      | with_reducible refine wq_andV ?_ | with_reducible refine wq_orV ?_ | with_reducible refine wq_notV ?_ | with_reducible refine wq_chain ?_
      | with_reducible refine sq_nx ?_ | with_reducible refine sq_rt ?_ | with_reducible refine sq_bk ?_ | with_reducible refine sq_ct ?_ | with_reducible refine lp_nx ?_ | with_reducible refine lp_rt ?_ | with_reducible refine lp_bk ?_ | with_reducible refine lp_ct ?_
      | (with_reducible refine hv_some ?_) | (with_reducible refine hv_add ?_) | (with_reducible refine hv_sub ?_) | (with_reducible refine hv_eq ?_) | (with_reducible refine hv_ne ?_) | (with_reducible refine hv_lt ?_) | (with_reducible refine hv_le ?_) | (with_reducible refine hv_gt ?_) | (with_reducible refine hv_ge ?_) | (with_reducible refine ex_bool ?_))
    refine ⟨(fun c => absurd c (by decide)), fun _ => ?_⟩
    repeat' (first
      | with_reducible refine w_seq ?_ | with_reducible refine w_nx ?_ | with_reducible refine w_bk ?_ | with_reducible refine w_ct ?_ | with_reducible refine w_if ?_ | with_reducible refine w_ret ?_ | with_reducible refine w_retO ?_ | with_reducible refine w_set ?_ | with_reducible refine w_setO ?_
      | with_reducible refine w_asg ?_ | with_reducible refine w_drop ?_ | with_reducible refine w_par ?_
      | with_reducible refine we_q ?_ | with_reducible refine wt_q ?_ | with_reducible refine wl_own ?_ | with_reducible refine we_op2 ?_ | with_reducible refine wl_nil ?_ | with_reducible refine wl_cons ?_ | with_reducible refine we_tup ?_ | with_reducible refine wl_lst ?_ | with_reducible refine we_call ?_
      | with_reducible refine wt_v ?_ | with_reducible refine wt_not ?_ | with_reducible refine wt_and ?_ | with_reducible refine wt_or ?_ | with_reducible refine we_if ?_ | with_reducible refine we_is ?_
      | with_reducible refine wq_c ?_ | with_reducible refine wq_op1 ?_ | with_reducible refine wq_op2 ?_ | with_reducible refine wq_nil ?_ | with_reducible refine wq_cons ?_ | with_reducible refine wq_tup ?_ | with_reducible refine wq_lst ?_ | with_reducible refine wq_if ?_ | with_reducible refine wq_tv ?_ | with_reducible refine wq_notT ?_ | with_reducible refine wq_andT ?_ | with_reducible refine wq_orT ?_ | with_reducible refine wq_call ?_ | with_reducible refine wq_seq ?_
      | ((with_reducible refine' wq_var ?wpv ?_); (case wpv => rfl)) | ((with_reducible refine' wq_varO ?wpv ?_); (case wpv => rfl)) | ((with_reducible refine' wq_varI ?wpv ?_); (case wpv => rfl))
      | with_reducible refine wq_andV ?_ | with_reducible refine wq_orV ?_ | with_reducible refine wq_notV ?_ | with_reducible refine wq_chain ?_
      | with_reducible refine sq_nx ?_ | with_reducible refine sq_rt ?_ | with_reducible refine sq_bk ?_ | with_reducible refine sq_ct ?_ | with_reducible refine lp_nx ?_ | with_reducible refine lp_rt ?_ | with_reducible refine lp_bk ?_ | with_reducible refine lp_ct ?_
      | (with_reducible refine hv_some ?_) | (with_reducible refine hv_add ?_) | (with_reducible refine hv_sub ?_) | (with_reducible refine hv_eq ?_) | (with_reducible refine hv_ne ?_) | (with_reducible refine hv_lt ?_) | (with_reducible refine hv_le ?_) | (with_reducible refine hv_gt ?_) | (with_reducible refine hv_ge ?_) | (with_reducible refine ex_bool ?_))
    exact ⟨b3, _, ok3, rfl⟩
  · rintro s ⟨b', x, ok', rfl⟩
    repeat' (first
      | with_reducible refine w_seq ?_ | with_reducible refine w_nx ?_ | with_reducible refine w_bk ?_ | with_reducible refine w_ct ?_ | with_reducible refine w_if ?_ | with_reducible refine w_ret ?_ | with_reducible refine w_retO ?_ | with_reducible refine w_set ?_ | with_reducible refine w_setO ?_
      | with_reducible refine w_asg ?_ | with_reducible refine w_drop ?_ | with_reducible refine w_par ?_
      | with_reducible refine we_q ?_ | with_reducible refine wt_q ?_ | with_reducible refine wl_own ?_ | with_reducible refine we_op2 ?_ | with_reducible refine wl_nil ?_ | with_reducible refine wl_cons ?_ | with_reducible refine we_tup ?_ | with_reducible refine wl_lst ?_ | with_reducible refine we_call ?_
      | with_reducible refine wt_v ?_ | with_reducible refine wt_not ?_ | with_reducible refine wt_and ?_ | with_reducible refine wt_or ?_ | with_reducible refine we_if ?_ | with_reducible refine we_is ?_
      | with_reducible refine wq_c ?_ | with_reducible refine wq_op1 ?_ | with_reducible refine wq_op2 ?_ | with_reducible refine wq_nil ?_ | with_reducible refine wq_cons ?_ | with_reducible refine wq_tup ?_ | with_reducible refine wq_lst ?_ | with_reducible refine wq_if ?_ | with_reducible refine wq_tv ?_ | with_reducible refine wq_notT ?_ | with_reducible refine wq_andT ?_ | with_reducible refine wq_orT ?_ | with_reducible refine wq_call ?_ | with_reducible refine wq_seq ?_
      | ((with_reducible refine' wq_var ?wpv ?_); (case wpv => rfl)) | ((with_reducible refine' wq_varO ?wpv ?_); (case wpv => rfl)) | ((with_reducible refine' wq_varI ?wpv ?_); (case wpv => rfl))
      | with_reducible refine wq_andV ?_ | with_reducible refine wq_orV ?_ | with_reducible refine wq_notV ?_ | with_reducible refine wq_chain ?_
      | with_reducible refine sq_nx ?_ | with_reducible refine sq_rt ?_ | with_reducible refine sq_bk ?_ | with_reducible refine sq_ct ?_ | with_reducible refine lp_nx ?_ | with_reducible refine lp_rt ?_ | with_reducible refine lp_bk ?_ | with_reducible refine lp_ct ?_
      | (with_reducible refine hv_some ?_) | (with_reducible refine hv_add ?_) | (with_reducible refine hv_sub ?_) | (with_reducible refine hv_eq ?_) | (with_reducible refine hv_ne ?_) | (with_reducible refine hv_lt ?_) | (with_reducible refine hv_le ?_) | (with_reducible refine hv_gt ?_) | (with_reducible refine hv_ge ?_) | (with_reducible refine ex_bool ?_))
    exact ⟨_, rfl⟩
end Y

namespace Y
open PySem PySem.Spec PyProof.Rows L2
theorem law_all {l : PySem.W.OpenLaw} {w : World} {K : Fg} {h : Heap} {mg : Str → Option Value} {fa : Addr} {P0 P1 : Addr} (X : K.In h) (G : h.Ns mainGlobals mg) (ts : List Addr) (hts : ∀ P ∈ ts, h.get? P = some { cls := .none, data := .fields #[] }) (out : ∀ P ∈ ts, K.lookup P = none) (hfa : mg "law" = some (.ref fa))
    (d_law_draw : FnAt K mg "_law_draw" st_law_draw)
    (d_law_same : FnAt K mg "_law_same" st_law_same)
    (d_law_told : FnAt K mg "_law_told" st_law_told)
    (d_law_is : FnAt K mg "_law_is" st_law_is)
    (d_law_signed : FnAt K mg "_law_signed" st_law_signed)
    (d_kept_places : FnAt K mg "kept_places" st_kept_places)
    (d_loose_rows : FnAt K mg "loose_rows" st_loose_rows)
    (d_factorial : FnAt K mg "factorial" st_factorial)
    (d_one_row_count : FnAt K mg "one_row_count" st_one_row_count)
    (d_product_to : FnAt K mg "product_to" st_product_to)
    (d_choose : FnAt K mg "choose" st_choose)
    (d_doubled : FnAt K mg "doubled" st_doubled)
    (d_sign : FnAt K mg "sign" st_sign)
    (d_rows_without : FnAt K mg "rows_without" st_rows_without)
    (d_rows_keeping : FnAt K mg "rows_keeping" st_rows_keeping)
    (d_law_are_few : FnLm K mg "_law_are_few" st_law_are_few P0) (m0 : P0 ∈ ts)
    (d_law_choose : FnAt K mg "_law_choose" st_law_choose)
    (d_law_loose : FnAt K mg "_law_loose" st_law_loose)
    (d_law_without : FnAt K mg "_law_without" st_law_without)
    (d_reduced : FnAt K mg "reduced" st_reduced)
    (d_kept_mean : FnAt K mg "kept_mean" st_kept_mean)
    (d_loose_by_sums : FnAt K mg "loose_by_sums" st_loose_by_sums)
    (d_law_are_numbers : FnLm K mg "_law_are_numbers" st_law_are_numbers P1) (m1 : P1 ∈ ts)
    (d_law_own_bag : FnAt K mg "_law_own_bag" st_law_own_bag)
    (d_law : FnAt K mg "law" st_law)
    (ne : ([P0, P1] : List Addr).Nodup)
    (z_abs : PySem.W.nsIn K mainGlobals "abs" = some none)
    (z_int : PySem.W.nsIn K mainGlobals "int" = some none)
    (z_len : PySem.W.nsIn K mainGlobals "len" = some none)
    (z_list : PySem.W.nsIn K mainGlobals "list" = some none)
    (z_range : PySem.W.nsIn K mainGlobals "range" = some none)
    (z_repr : PySem.W.nsIn K mainGlobals "repr" = some none)
    (z_reversed : PySem.W.nsIn K mainGlobals "reversed" = some none)
    (z_sum : PySem.W.nsIn K mainGlobals "sum" = some none)
    (z_tuple : PySem.W.nsIn K mainGlobals "tuple" = some none)
    : LawG l w K 9 "script" mg fa h := by
  have g_abs := PySem.W.mg_none_of X G z_abs
  have g_int := PySem.W.mg_none_of X G z_int
  have g_len := PySem.W.mg_none_of X G z_len
  have g_list := PySem.W.mg_none_of X G z_list
  have g_range := PySem.W.mg_none_of X G z_range
  have g_repr := PySem.W.mg_none_of X G z_repr
  have g_reversed := PySem.W.mg_none_of X G z_reversed
  have g_sum := PySem.W.mg_none_of X G z_sum
  have g_tuple := PySem.W.mg_none_of X G z_tuple
  obtain ⟨f_law_draw, fd_law_draw, a_law_draw, F_xlaw_draw⟩ := d_law_draw
  obtain ⟨f_law_same, fd_law_same, a_law_same, F_xlaw_same⟩ := d_law_same
  obtain ⟨f_law_told, fd_law_told, a_law_told, F_xlaw_told⟩ := d_law_told
  obtain ⟨f_law_is, fd_law_is, a_law_is, F_xlaw_is⟩ := d_law_is
  obtain ⟨f_law_signed, fd_law_signed, a_law_signed, F_xlaw_signed⟩ := d_law_signed
  obtain ⟨f_kept_places, fd_kept_places, a_kept_places, F_xkept_places⟩ := d_kept_places
  obtain ⟨f_loose_rows, fd_loose_rows, a_loose_rows, F_xloose_rows⟩ := d_loose_rows
  obtain ⟨f_factorial, fd_factorial, a_factorial, F_xfactorial⟩ := d_factorial
  obtain ⟨f_one_row_count, fd_one_row_count, a_one_row_count, F_xone_row_count⟩ := d_one_row_count
  obtain ⟨f_product_to, fd_product_to, a_product_to, F_xproduct_to⟩ := d_product_to
  obtain ⟨f_choose, fd_choose, a_choose, F_xchoose⟩ := d_choose
  obtain ⟨f_doubled, fd_doubled, a_doubled, F_xdoubled⟩ := d_doubled
  obtain ⟨f_sign, fd_sign, a_sign, F_xsign⟩ := d_sign
  obtain ⟨f_rows_without, fd_rows_without, a_rows_without, F_xrows_without⟩ := d_rows_without
  obtain ⟨f_rows_keeping, fd_rows_keeping, a_rows_keeping, F_xrows_keeping⟩ := d_rows_keeping
  obtain ⟨f_law_are_few, fd_law_are_few, c0, a_law_are_few, F_xlaw_are_few, k0⟩ := d_law_are_few
  obtain ⟨f_law_choose, fd_law_choose, a_law_choose, F_xlaw_choose⟩ := d_law_choose
  obtain ⟨f_law_loose, fd_law_loose, a_law_loose, F_xlaw_loose⟩ := d_law_loose
  obtain ⟨f_law_without, fd_law_without, a_law_without, F_xlaw_without⟩ := d_law_without
  obtain ⟨f_reduced, fd_reduced, a_reduced, F_xreduced⟩ := d_reduced
  obtain ⟨f_kept_mean, fd_kept_mean, a_kept_mean, F_xkept_mean⟩ := d_kept_mean
  obtain ⟨f_loose_by_sums, fd_loose_by_sums, a_loose_by_sums, F_xloose_by_sums⟩ := d_loose_by_sums
  obtain ⟨f_law_are_numbers, fd_law_are_numbers, c1, a_law_are_numbers, F_xlaw_are_numbers, k1⟩ := d_law_are_numbers
  obtain ⟨f_law_own_bag, fd_law_own_bag, a_law_own_bag, F_xlaw_own_bag⟩ := d_law_own_bag
  obtain ⟨f_law, fd_law, a_law, F_xlaw⟩ := d_law
  have e := hfa.symm.trans a_law
  cases e
  obtain ⟨cdl, Fcl⟩ := Fun.c F_xlaw
  obtain ⟨oc, od, kV, doc, pm, an, ct, osl, efd, lk, hcd⟩ := Fcl.ex
  refine ⟨fd_law, [(c0, P0), (c1, P1)], [(P0, ((("_law_are_few" : Str) ++ ".<locals>.") ++ "<lambda>")), (P1, ((("_law_are_numbers" : Str) ++ ".<locals>.") ++ "<lambda>"))], fun p hp => ?_, fun p hp => ?_, fun p hp => ?_, fun s u => by rw [efd]; exact .of_eq rfl, fun p hp => ?_, fun base KB NB TB => ?_⟩
  · simp only [List.mem_cons, List.not_mem_nil, or_false] at hp
    rcases hp with rfl | rfl
    · exact hts _ m0
    · exact hts _ m1
  · simp only [List.mem_cons, List.not_mem_nil, or_false] at hp
    rcases hp with rfl | rfl
    · exact out _ m0
    · exact out _ m1
  · simp only [List.mem_cons, List.not_mem_nil, or_false] at hp
    rcases hp with rfl | rfl
    · exact PySem.W.codeHd_of_K X k0
    · exact PySem.W.codeHd_of_K X k1
  · simp only [List.mem_cons, List.not_mem_nil, or_false] at hp
    rcases hp with rfl | rfl <;> simp
  obtain ⟨cd_law_draw, Fc_law_draw⟩ := Fun.c F_xlaw_draw
  have C_law_draw := c_law_draw (P := l.prog) (w := w) (base := base) (T := [(P0, ((("_law_are_few" : Str) ++ ".<locals>.") ++ "<lambda>")), (P1, ((("_law_are_numbers" : Str) ++ ".<locals>.") ++ "<lambda>"))]) a_law_draw Fc_law_draw g_int g_range
  have Cs := c_law_same (P := l.prog) (w := w) (base := base) (T := []) (cd := .none) a_law_same F_xlaw_same g_repr
  have Ct : ToldC l.prog w K mg base := c_law_told (T := []) (cd := .none) a_law_told F_xlaw_told
  have C_is : IsC l.prog w K mg base := c_law_is (T := []) (cd := .none) a_law_is F_xlaw_is Ct Cs
  have C_law_signed := c_law_signed (P := l.prog) (w := w) (base := base) (T := []) (cd := .none) a_law_signed F_xlaw_signed g_range
  have C_kept_places := c_kept_places (P := l.prog) (w := w) (base := base) (T := []) (cd := .none) a_kept_places F_xkept_places g_len g_range g_tuple
  have C_loose_rows := c_loose_rows (P := l.prog) (w := w) (base := base) (T := []) (cd := .none) a_loose_rows F_xloose_rows g_range
  have C_factorial := c_factorial (P := l.prog) (w := w) (base := base) (T := []) (cd := .none) a_factorial F_xfactorial g_range
  have C_one_row_count := c_one_row_count (P := l.prog) (w := w) (base := base) (T := []) (cd := .none) a_one_row_count F_xone_row_count C_factorial
  have C_product_to := c_product_to (P := l.prog) (w := w) (base := base) (T := []) (cd := .none) a_product_to F_xproduct_to g_range
  have C_choose := c_choose (P := l.prog) (w := w) (base := base) (T := []) (cd := .none) a_choose F_xchoose C_product_to
  have C_doubled := c_doubled (P := l.prog) (w := w) (base := base) (T := []) (cd := .none) a_doubled F_xdoubled g_range
  have C_sign := c_sign (P := l.prog) (w := w) (base := base) (T := []) (cd := .none) a_sign F_xsign 
  have C_rows_without := c_rows_without (P := l.prog) (w := w) (base := base) (T := []) (cd := .none) a_rows_without F_xrows_without g_range C_choose C_doubled C_product_to C_sign
  have C_rows_keeping := c_rows_keeping (P := l.prog) (w := w) (base := base) (T := []) (cd := .none) a_rows_keeping F_xrows_keeping C_choose C_rows_without
  have C_law_are_few := c_law_are_few (P := l.prog) (w := w) (base := base) (T := [(P0, ((("_law_are_few" : Str) ++ ".<locals>.") ++ "<lambda>")), (P1, ((("_law_are_numbers" : Str) ++ ".<locals>.") ++ "<lambda>"))]) a_law_are_few F_xlaw_are_few g_abs g_len g_range C_law_draw C_law_signed C_kept_places C_loose_rows C_one_row_count C_rows_keeping C_is (tabOk_of (c := c0) (P := P0) (cs := [(c0, P0), (c1, P1)]) TB List.mem_cons_self List.mem_cons_self ne)
  have C_law_choose := c_law_choose (P := l.prog) (w := w) (base := base) (T := []) (cd := .none) a_law_choose F_xlaw_choose g_range
  have C_law_loose := c_law_loose (P := l.prog) (w := w) (base := base) (T := []) (cd := .none) a_law_loose F_xlaw_loose g_range
  have C_law_without := c_law_without (P := l.prog) (w := w) (base := base) (T := []) (cd := .none) a_law_without F_xlaw_without g_range C_law_choose C_law_signed
  have C_reduced := c_reduced (P := l.prog) (w := w) (base := base) (T := []) (cd := .none) a_reduced F_xreduced g_abs
  have C_kept_mean := c_kept_mean (P := l.prog) (w := w) (base := base) (T := []) (cd := .none) a_kept_mean F_xkept_mean C_reduced
  have C_loose_by_sums := c_loose_by_sums (P := l.prog) (w := w) (base := base) (T := []) (cd := .none) a_loose_by_sums F_xloose_by_sums g_range g_sum C_choose C_doubled C_product_to C_sign
  have C_law_are_numbers := c_law_are_numbers (P := l.prog) (w := w) (base := base) (T := [(P0, ((("_law_are_few" : Str) ++ ".<locals>.") ++ "<lambda>")), (P1, ((("_law_are_numbers" : Str) ++ ".<locals>.") ++ "<lambda>"))]) a_law_are_numbers F_xlaw_are_numbers g_range C_law_choose C_law_draw C_law_loose C_law_signed C_law_without C_kept_mean C_loose_by_sums C_loose_rows C_rows_keeping C_rows_without C_is (tabOk_of (c := c1) (P := P1) (cs := [(c0, P0), (c1, P1)]) TB (List.mem_cons_of_mem _ List.mem_cons_self) (List.mem_cons_of_mem _ List.mem_cons_self) ne)
  have CO := c_law_own_bag (P := l.prog) (w := w) (base := base) (T := []) (cd := .none) a_law_own_bag F_xlaw_own_bag g_abs g_int g_len g_list g_reversed
  exact f_law (T := [(P0, ((("_law_are_few" : Str) ++ ".<locals>.") ++ "<lambda>")), (P1, ((("_law_are_numbers" : Str) ++ ".<locals>.") ++ "<lambda>"))]) Fcl CO g_range C_law_are_few C_law_are_numbers law_ok
end Y

open PySem PySem.W PyProof.Rows
open PySem PySem.W PyProof.Rows in
set_option maxRecDepth 100000 in
set_option maxHeartbeats 0 in
theorem PySem.Challenge.cw_ringsandroads_k12_whole_rows_counted_holds : PySem.Challenge.rw_ringsandroads_k12_whole_rows_counted.Holds := by
  w_on; o_law; k_head; (case hw => w_witness2)
  k_fill
  refine Y.walkG (l := PySem.Challenge.rw_ringsandroads_k12_whole_rows_counted) (n := 63) (k := 9) (x := "script") rfl (by decide) rfl ⟨rfl, by decide, by decide⟩ rfl (fun w h Yh => PySem.W.km_in_of Yh) ?F
  case F =>
    intro w mg fa h Yh KX G hmg
    refine' Y.law_all (P0 := 226) (P1 := 219) KX G _ (PySem.W.km_tabs_of Yh) (Y.km_out Yh (by decide)) hmg ?d_law_draw ?d_law_same ?d_law_told ?d_law_is ?d_law_signed ?d_kept_places ?d_loose_rows ?d_factorial ?d_one_row_count ?d_product_to ?d_choose ?d_doubled ?d_sign ?d_rows_without ?d_rows_keeping ?d_law_are_few ?m0 ?d_law_choose ?d_law_loose ?d_law_without ?d_reduced ?d_kept_mean ?d_loose_by_sums ?d_law_are_numbers ?m1 ?d_law_own_bag ?d_law ?ne ?z_abs ?z_int ?z_len ?z_list ?z_range ?z_repr ?z_reversed ?z_sum ?z_tuple
    (case ne => decide)
    (case d_law_draw => (refine' Y.fnAt_mk KX G ?a ?l ?c ?k; (case a => k_is); (case l => k_is); (case c => k_is); (case k => k_is)))
    (case d_law_same => (refine' Y.fnAt_mk KX G ?a ?l ?c ?k; (case a => k_is); (case l => k_is); (case c => k_is); (case k => k_is)))
    (case d_law_told => (refine' Y.fnAt_mk KX G ?a ?l ?c ?k; (case a => k_is); (case l => k_is); (case c => k_is); (case k => k_is)))
    (case d_law_is => (refine' Y.fnAt_mk KX G ?a ?l ?c ?k; (case a => k_is); (case l => k_is); (case c => k_is); (case k => k_is)))
    (case d_law_signed => (refine' Y.fnAt_mk KX G ?a ?l ?c ?k; (case a => k_is); (case l => k_is); (case c => k_is); (case k => k_is)))
    (case d_kept_places => (refine' Y.fnAt_mk KX G ?a ?l ?c ?k; (case a => k_is); (case l => k_is); (case c => k_is); (case k => k_is)))
    (case d_loose_rows => (refine' Y.fnAt_mk KX G ?a ?l ?c ?k; (case a => k_is); (case l => k_is); (case c => k_is); (case k => k_is)))
    (case d_factorial => (refine' Y.fnAt_mk KX G ?a ?l ?c ?k; (case a => k_is); (case l => k_is); (case c => k_is); (case k => k_is)))
    (case d_one_row_count => (refine' Y.fnAt_mk KX G ?a ?l ?c ?k; (case a => k_is); (case l => k_is); (case c => k_is); (case k => k_is)))
    (case d_product_to => (refine' Y.fnAt_mk KX G ?a ?l ?c ?k; (case a => k_is); (case l => k_is); (case c => k_is); (case k => k_is)))
    (case d_choose => (refine' Y.fnAt_mk KX G ?a ?l ?c ?k; (case a => k_is); (case l => k_is); (case c => k_is); (case k => k_is)))
    (case d_doubled => (refine' Y.fnAt_mk KX G ?a ?l ?c ?k; (case a => k_is); (case l => k_is); (case c => k_is); (case k => k_is)))
    (case d_sign => (refine' Y.fnAt_mk KX G ?a ?l ?c ?k; (case a => k_is); (case l => k_is); (case c => k_is); (case k => k_is)))
    (case d_rows_without => (refine' Y.fnAt_mk KX G ?a ?l ?c ?k; (case a => k_is); (case l => k_is); (case c => k_is); (case k => k_is)))
    (case d_rows_keeping => (refine' Y.fnAt_mk KX G ?a ?l ?c ?k; (case a => k_is); (case l => k_is); (case c => k_is); (case k => k_is)))
    (case d_law_are_few => (refine' Y.fnLm_mk KX G ?a ?l ?c ?k ?lc ?hP; (case a => k_is); (case l => k_is); (case c => k_is); (case k => k_is); (case lc => k_is); (case hP => rfl)))
    (case m0 => simp)
    (case d_law_choose => (refine' Y.fnAt_mk KX G ?a ?l ?c ?k; (case a => k_is); (case l => k_is); (case c => k_is); (case k => k_is)))
    (case d_law_loose => (refine' Y.fnAt_mk KX G ?a ?l ?c ?k; (case a => k_is); (case l => k_is); (case c => k_is); (case k => k_is)))
    (case d_law_without => (refine' Y.fnAt_mk KX G ?a ?l ?c ?k; (case a => k_is); (case l => k_is); (case c => k_is); (case k => k_is)))
    (case d_reduced => (refine' Y.fnAt_mk KX G ?a ?l ?c ?k; (case a => k_is); (case l => k_is); (case c => k_is); (case k => k_is)))
    (case d_kept_mean => (refine' Y.fnAt_mk KX G ?a ?l ?c ?k; (case a => k_is); (case l => k_is); (case c => k_is); (case k => k_is)))
    (case d_loose_by_sums => (refine' Y.fnAt_mk KX G ?a ?l ?c ?k; (case a => k_is); (case l => k_is); (case c => k_is); (case k => k_is)))
    (case d_law_are_numbers => (refine' Y.fnLm_mk KX G ?a ?l ?c ?k ?lc ?hP; (case a => k_is); (case l => k_is); (case c => k_is); (case k => k_is); (case lc => k_is); (case hP => rfl)))
    (case m1 => simp)
    (case d_law_own_bag => (refine' Y.fnAt_mk KX G ?a ?l ?c ?k; (case a => k_is); (case l => k_is); (case c => k_is); (case k => k_is)))
    (case d_law => (refine' Y.fnAt_mk KX G ?a ?l ?c ?k; (case a => k_is); (case l => k_is); (case c => k_is); (case k => k_is)))
    (case z_abs => k_is)
    (case z_int => k_is)
    (case z_len => k_is)
    (case z_list => k_is)
    (case z_range => k_is)
    (case z_repr => k_is)
    (case z_reversed => k_is)
    (case z_sum => k_is)
    (case z_tuple => k_is)
#print axioms PySem.Challenge.cw_ringsandroads_k12_whole_rows_counted_holds
