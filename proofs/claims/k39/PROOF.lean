import PyProof.Rows.All
import Wide.All
import OpenK.AllK
import Wide.FinOn
import HandS.ForMost
import HandS.Wide
import HandS.TupAny
import HandS.Deep
import HandS.Lambda
import HandS.Rev
import HandS.RevRange
import HandS.Zip
import HandS.Conv
import HandS.Defaults
import HandS.MakeKwOnly
import PyProof.ReprRoads
import PyProof.ReprLen
import PyProof.Rows.RegStrFacts
import HandS.RevTup
import PyProof.ListNew
import HandS.SetFor
import HandS.EndTab
import KE.GoesMore
import PyProof.Draws
import HandS.SortInts
import HandS.IsInst
import HandS.Strs
import HandS.DictComp
import HandS.Small
import HandS.Style
import PyProof.Rows.SortShellAny
import PySem.Challenge.RW_ringsandroads_k39_whole_moves_from_the_f
set_option Elab.async false
set_option linter.all false
set_option maxRecDepth 100000
namespace Y
/-- tuples of the run as known objects (methods of tuples); else as plain ones (dicts keyed by tuples) -/
def zmode : Bool := true
end Y

namespace Y
open PySem PySem.Spec PyProof.Rows L2

/-! ## data, slots -/
abbrev D := PyData
structure Bag where
  cells : List Int
  cur : Int
  mix : Int
inductive M where
  | un
  | imm (d : D)
  | ol (ds : List D)
  | bag (b : Bag)
  | scr (ns : List Int)
  | od (kvs : List (D × D))
abbrev S := List M
abbrev Fg := PySem.W.Frag

/-- a tuple of the run: its object is known and has no attributes of its own (zmode), or just a tuple -/
def TupO (o : HO) (xs : List V) : Prop := (zmode = true ∧ ∃ ob : Obj, o = .frz ob (.tup xs) ∧ ob.dict = none) ∨ (zmode = false ∧ o = .tup xs)
def SqZ (H : Hp) (a : Addr) (xs : List V) : Prop := ∃ o, H a = some o ∧ TupO o xs
theorem TupO.still {o : HO} {xs : List V} (h : TupO o xs) : ¬ Mut (some o) ∧ ∀ ps, o ≠ .tbl ps := by
  rcases h with ⟨_, ob, rfl, _⟩ | ⟨_, rfl⟩
  · exact ⟨fun z => z, fun ps z => by cases z⟩
  · exact ⟨fun z => z, fun ps z => by cases z⟩
theorem SqZ.t {K : Fg} {H : Hp} {a : Addr} {xs : List V} (h : SqZ H a xs) : SqT K H a xs := by
  obtain ⟨o, h, ⟨_, ob, rfl, _⟩ | ⟨_, rfl⟩⟩ := h
  · exact .inl (.inr ⟨ob, h⟩)
  · exact .inl (.inl h)
/-- a dict: its keys as data, its values; one keyed by tuples has a mark ahead -/
def kD : Key → D
  | .inl i => .int i
  | .inr x => .str x
def kDs (k : List Key) : D := .tuple (k.map kD)
def DictO : HO → List D → List V → Prop
  | .dK k, ks, vs => k.map (fun p => kD p.1) = ks ∧ k.map (·.2) = vs
  | .dT k, ks, vs => ks = .none :: k.map (fun p => kDs p.1) ∧ vs = .non :: k.map (·.2)
  | _, _, _ => False
theorem DictO.mut {o : HO} {ks : List D} {vs : List V} (h : DictO o ks vs) : Mut (some o) ∧ ∀ ps, o ≠ .tbl ps := by
  cases o <;> first | exact h.elim | exact ⟨trivial, fun ps z => by cases z⟩
mutual
/-- the value v stands for the data d; its lists are none of the owned ones -/
inductive Rp (K : Fg) (O : List Addr) (H : Hp) : V → D → Prop
  | non : Rp K O H .non .none
  | bl (b : Bool) : Rp K O H (.bl b) (.bool b)
  | int (i : Int) : Rp K O H (.int i) (.int i)
  | str (x : Str) : Rp K O H (.str x) (.str x)
  | lst {a : Addr} {xs : List V} {ds : List D} : H a = some (.lst xs) → a ∉ O → Rps K O H xs ds → Rp K O H (.ref a) (.list ds)
  | tup {a : Addr} {xs : List V} {ds : List D} : SqZ H a xs → Rps K O H xs ds → Rp K O H (.ref a) (.tuple ds)
  | dct {a : Addr} {o : HO} {vs : List V} {kvs : List (D × D)} : H a = some o → DictO o (kvs.map (·.1)) vs → a ∉ O → Rps K O H vs (kvs.map (·.2)) → Rp K O H (.ref a) (.dict kvs)
inductive Rps (K : Fg) (O : List Addr) (H : Hp) : List V → List D → Prop
  | nil : Rps K O H [] []
  | cons {v : V} {vs : List V} {d : D} {ds : List D} : Rp K O H v d → Rps K O H vs ds → Rps K O H (v :: vs) (d :: ds)
end

def Ex (H H' : Hp) : Prop := ∀ a o, H a = some o → H' a = some o
theorem Ex.refl (H : Hp) : Ex H H := fun _ _ h => h
theorem Ex.trans {H H1 H2 : Hp} (a : Ex H H1) (b : Ex H1 H2) : Ex H H2 := fun x o h => b x o (a x o h)
theorem Ex.new {H : Hp} {p : Addr} {o : HO} (h : H p = none) : Ex H (upd H p o) := fun a u e => by
  rw [upd_ne (ne_of_none e h)]; exact e
theorem Ex.back {H H' : Hp} (e : Ex H H') {p : Addr} (h : H' p = none) : H p = none := by
  cases q : H p with
  | none => rfl
  | some o => rw [e p o q] at h; cases h

/-- what is kept: all but the owned mutable objects (and, where tb, the tables of code objects) -/
def Kp (tb : Bool) (O : List Addr) (H H' : Hp) : Prop := ∀ a o, H a = some o → (a ∈ O → ¬ Mut (some o)) → (tb = true → ∀ ps, o ≠ .tbl ps) → H' a = some o
structure Stp (tb : Bool) (O : List Addr) (H : Hp) (O' : List Addr) (H' : Hp) : Prop where
  keep : Kp tb O H H'
  new : ∀ a, a ∈ O' → a ∈ O ∨ H a = none
  there : ∀ a, H' a = none → H a = none
theorem Kp.refl {tb : Bool} {O : List Addr} {H : Hp} : Kp tb O H H := fun _ _ e _ _ => e
theorem Stp.refl {tb : Bool} {O : List Addr} {H : Hp} : Stp tb O H O H := ⟨Kp.refl, fun _ h => .inl h, fun _ h => h⟩
theorem Stp.of_ex {tb : Bool} {O : List Addr} {H H' : Hp} (e : Ex H H') : Stp tb O H O H' := ⟨fun a o h _ _ => e a o h, fun _ h => .inl h, fun _ h => e.back h⟩
theorem Stp.trans {tb : Bool} {O O1 O2 : List Addr} {H H1 H2 : Hp} (a : Stp tb O H O1 H1) (b : Stp tb O1 H1 O2 H2) : Stp tb O H O2 H2 := by
  refine ⟨fun x o h h1 h2 => b.keep x o (a.keep x o h h1 h2) (fun m => ?_) h2, fun x h => ?_, fun x h => a.there x (b.there x h)⟩
  · rcases a.new x m with q | q
    · exact h1 q
    · rw [h] at q; cases q
  · rcases b.new x h with q | q
    · exact a.new x q
    · exact .inr (a.there x q)

theorem sqT_kept {K : Fg} {H H' : Hp} {a : Addr} {xs : List V} (k : ∀ a o, H a = some o → ¬ Mut (some o) → (∀ ps, o ≠ .tbl ps) → H' a = some o) (h : SqT K H a xs) : SqT K H' a xs := by
  rcases h with (h | ⟨o, h⟩) | h
  · exact .inl (.inl (k _ _ h (fun z => z) fun ps z => by cases z))
  · exact .inl (.inr ⟨o, k _ _ h (fun z => z) fun ps z => by cases z⟩)
  · exact .inr h
theorem sqZ_kept {H H' : Hp} {a : Addr} {xs : List V} (k : ∀ a o, H a = some o → ¬ Mut (some o) → (∀ ps, o ≠ .tbl ps) → H' a = some o) (h : SqZ H a xs) : SqZ H' a xs :=
  let ⟨o, h, t⟩ := h
  ⟨o, k _ _ h t.still.1 t.still.2, t⟩
mutual
theorem Rp.step {K : Fg} {tb : Bool} {O O' : List Addr} {H H' : Hp} (s : Stp tb O H O' H') : ∀ {v : V} {d : D}, Rp K O H v d → Rp K O' H' v d
  | _, _, .non => .non
  | _, _, .bl b => .bl b
  | _, _, .int i => .int i
  | _, _, .str x => .str x
  | _, _, .lst (a := a) h n r => .lst (s.keep _ _ h (fun m => absurd m n) fun _ ps z => by cases z) (fun m => (s.new a m).elim n fun q => by rw [h] at q; cases q) (Rps.step s r)
  | _, _, .tup h r => .tup (sqZ_kept (fun a o e m t => s.keep a o e (fun _ => m) fun _ => t) h) (Rps.step s r)
  | _, _, .dct (a := a) h d n r => .dct (s.keep _ _ h (fun m => absurd m n) fun _ => d.mut.2) d (fun m => (s.new a m).elim n fun q => by rw [h] at q; cases q) (Rps.step s r)
theorem Rps.step {K : Fg} {tb : Bool} {O O' : List Addr} {H H' : Hp} (s : Stp tb O H O' H') : ∀ {vs : List V} {ds : List D}, Rps K O H vs ds → Rps K O' H' vs ds
  | _, _, .nil => .nil
  | _, _, .cons h r => .cons (Rp.step s h) (Rps.step s r)
end
theorem Rp.ext {K : Fg} {O : List Addr} {H H' : Hp} (e : Ex H H') {v : V} {d : D} (h : Rp K O H v d) : Rp K O H' v d := h.step (tb := false) (Stp.of_ex e)
theorem Rps.ext {K : Fg} {O : List Addr} {H H' : Hp} (e : Ex H H') {v : List V} {d : List D} (h : Rps K O H v d) : Rps K O H' v d := h.step (tb := false) (Stp.of_ex e)
mutual
theorem Rp.mono {K : Fg} {O O' : List Addr} {H : Hp} (s : ∀ a, a ∈ O' → a ∈ O) : ∀ {v : V} {d : D}, Rp K O H v d → Rp K O' H v d
  | _, _, .non => .non
  | _, _, .bl b => .bl b
  | _, _, .int i => .int i
  | _, _, .str x => .str x
  | _, _, .lst h n r => .lst h (fun m => n (s _ m)) (Rps.mono s r)
  | _, _, .tup h r => .tup h (Rps.mono s r)
  | _, _, .dct h d n r => .dct h d (fun m => n (s _ m)) (Rps.mono s r)
theorem Rps.mono {K : Fg} {O O' : List Addr} {H : Hp} (s : ∀ a, a ∈ O' → a ∈ O) : ∀ {vs : List V} {ds : List D}, Rps K O H vs ds → Rps K O' H vs ds
  | _, _, .nil => .nil
  | _, _, .cons h r => .cons (Rp.mono s h) (Rps.mono s r)
end
mutual
theorem Rp.dp {K : Fg} {O : List Addr} {H : Hp} : ∀ {v : V} {d : D}, Rp K O H v d → d.canLay0 = true → Dp K H v d
  | _, _, .non, _ => .non
  | _, _, .bl b, _ => .bl b
  | _, _, .int i, _ => .int i
  | _, _, .str x, _ => .str x
  | _, _, .lst h _ r, c => .lst (SqL.of h) (Rps.dp r (by simpa only [PyData.canLay0] using c))
  | _, _, .tup h r, c => .tup h.t (Rps.dp r (by simpa only [PyData.canLay0] using c))
  | _, _, .dct _ _ _ _, c => by simp only [PyData.canLay0] at c; cases c
theorem Rps.dp {K : Fg} {O : List Addr} {H : Hp} : ∀ {vs : List V} {ds : List D}, Rps K O H vs ds → PyData.canLayAll0 ds = true → DpAll K H vs ds
  | _, _, .nil, _ => .nil
  | _, _, .cons h r, c => by
    simp only [PyData.canLayAll0, Bool.and_eq_true] at c
    exact .cons (Rp.dp h c.1) (Rps.dp r c.2)
end
theorem Rps.length {K : Fg} {O : List Addr} {H : Hp} : ∀ {vs : List V} {ds : List D}, Rps K O H vs ds → vs.length = ds.length
  | _, _, .nil => rfl
  | _, _, .cons _ r => by rw [List.length_cons, List.length_cons, Rps.length r]
theorem Rps.get {K : Fg} {O : List Addr} {H : Hp} : ∀ {vs : List V} {ds : List D} {i : Nat} {d : D}, Rps K O H vs ds → ds[i]? = some d → ∃ v, vs[i]? = some v ∧ Rp K O H v d
  | _, _, _, _, .nil, e => by simp at e
  | _, _, 0, _, .cons h _, e => by simp at e; subst e; exact ⟨_, rfl, h⟩
  | _, _, i + 1, d, .cons _ r, e => by
    obtain ⟨v, h1, h2⟩ := Rps.get (i := i) (d := d) r (by simpa using e)
    exact ⟨v, by simpa using h1, h2⟩
theorem Rps.get' {K : Fg} {O : List Addr} {H : Hp} : ∀ {vs : List V} {ds : List D} {i : Nat} {v : V}, Rps K O H vs ds → vs[i]? = some v → ∃ d, ds[i]? = some d ∧ Rp K O H v d
  | _, _, _, _, .nil, e => by simp at e
  | _, _, 0, _, .cons h _, e => by simp at e; subst e; exact ⟨_, rfl, h⟩
  | _, _, i + 1, v, .cons _ r, e => by
    obtain ⟨d, h1, h2⟩ := Rps.get' (i := i) (v := v) r (by simpa using e)
    exact ⟨d, by simpa using h1, h2⟩
theorem Rps.append {K : Fg} {O : List Addr} {H : Hp} : ∀ {vs : List V} {ds : List D} {ws : List V} {es : List D}, Rps K O H vs ds → Rps K O H ws es → Rps K O H (vs ++ ws) (ds ++ es)
  | _, _, _, _, .nil, s => s
  | _, _, _, _, .cons h r, s => .cons h (Rps.append r s)
theorem Rps.one {K : Fg} {O : List Addr} {H : Hp} {v : V} {d : D} (h : Rp K O H v d) : Rps K O H [v] [d] := .cons h .nil
theorem Rps.reverse {K : Fg} {O : List Addr} {H : Hp} : ∀ {vs : List V} {ds : List D}, Rps K O H vs ds → Rps K O H vs.reverse ds.reverse
  | _, _, .nil => .nil
  | _, _, .cons h r => by rw [List.reverse_cons, List.reverse_cons]; exact (Rps.reverse r).append (.one h)
theorem Rps.take {K : Fg} {O : List Addr} {H : Hp} : ∀ {vs : List V} {ds : List D} (n : Nat), Rps K O H vs ds → Rps K O H (vs.take n) (ds.take n)
  | _, _, 0, _ => .nil
  | _, _, _ + 1, .nil => .nil
  | _, _, n + 1, .cons h r => .cons h (Rps.take n r)
theorem Rps.drop {K : Fg} {O : List Addr} {H : Hp} : ∀ {vs : List V} {ds : List D} (n : Nat), Rps K O H vs ds → Rps K O H (vs.drop n) (ds.drop n)
  | _, _, 0, r => r
  | _, _, _ + 1, .nil => .nil
  | _, _, n + 1, .cons _ r => Rps.drop n r
theorem Rps.set {K : Fg} {O : List Addr} {H : Hp} {v : V} {d : D} (h : Rp K O H v d) : ∀ {vs : List V} {ds : List D} (i : Nat), Rps K O H vs ds → Rps K O H (vs.set i v) (ds.set i d)
  | _, _, _, .nil => .nil
  | _, _, 0, .cons _ r => .cons h r
  | _, _, i + 1, .cons g r => .cons g (Rps.set h i r)
theorem Rps.eraseIdx {K : Fg} {O : List Addr} {H : Hp} : ∀ {vs : List V} {ds : List D} (i : Nat), Rps K O H vs ds → Rps K O H (vs.eraseIdx i) (ds.eraseIdx i)
  | _, _, _, .nil => .nil
  | _, _, 0, .cons _ r => r
  | _, _, i + 1, .cons g r => .cons g (Rps.eraseIdx i r)
theorem Rps.dropLast {K : Fg} {O : List Addr} {H : Hp} {vs : List V} {ds : List D} (r : Rps K O H vs ds) : Rps K O H vs.dropLast ds.dropLast := by
  rw [List.dropLast_eq_take, List.dropLast_eq_take, r.length]; exact r.take _
theorem rps_ints {K : Fg} {O : List Addr} {H : Hp} : ∀ {vs : List V} {ns : List Int}, Rps K O H vs (ns.map PyData.int) → vs = ns.map V.int
  | _, [], .nil => rfl
  | _, n :: ns, .cons h r => by cases h; rw [rps_ints r]; rfl
theorem rps_of_ints {K : Fg} {O : List Addr} {H : Hp} : ∀ (ns : List Int), Rps K O H (ns.map V.int) (ns.map PyData.int)
  | [] => .nil
  | n :: ns => .cons (.int n) (rps_of_ints ns)
theorem rps_bls {K : Fg} {O : List Addr} {H : Hp} : ∀ {vs : List V} {ns : List Bool}, Rps K O H vs (ns.map PyData.bool) → vs = ns.map V.bl
  | _, [], .nil => rfl
  | _, n :: ns, .cons h r => by cases h; rw [rps_bls r]; rfl
theorem Rp.ref_tuple {K : Fg} {O : List Addr} {H : Hp} {v : V} {ds : List D} (h : Rp K O H v (.tuple ds)) : ∃ a xs, v = .ref a ∧ SqT K H a xs ∧ Rps K O H xs ds := by
  cases h with
  | tup h r => exact ⟨_, _, rfl, h.t, r⟩
theorem Rp.ref_tupleZ {K : Fg} {O : List Addr} {H : Hp} {v : V} {ds : List D} (h : Rp K O H v (.tuple ds)) : ∃ a xs, v = .ref a ∧ SqZ H a xs ∧ Rps K O H xs ds := by
  cases h with
  | tup h r => exact ⟨_, _, rfl, h, r⟩
theorem Rp.ref_list {K : Fg} {O : List Addr} {H : Hp} {v : V} {ds : List D} (h : Rp K O H v (.list ds)) : ∃ a xs, v = .ref a ∧ H a = some (.lst xs) ∧ a ∉ O ∧ Rps K O H xs ds := by
  cases h with
  | lst h n r => exact ⟨_, _, rfl, h, n, r⟩
/-- data without a list -/
def noL : D → Bool
  | .none => true
  | .bool _ => true
  | .int _ => true
  | .str _ => true
  | .list _ => false
  | .tuple xs => noLs xs
  | .dict _ => false
where noLs : List D → Bool
  | [] => true
  | x :: xs => noL x && noLs xs
mutual
theorem Rp.free {K : Fg} {O O' : List Addr} {H : Hp} : ∀ {v : V} {d : D}, Rp K O H v d → noL d = true → Rp K O' H v d
  | _, _, .non, _ => .non
  | _, _, .bl b, _ => .bl b
  | _, _, .int i, _ => .int i
  | _, _, .str x, _ => .str x
  | _, _, .lst _ _ _, h => by simp [noL] at h
  | _, _, .tup h r, n => .tup h (Rps.free r (by simpa [noL] using n))
  | _, _, .dct _ _ _ _, n => by simp [noL] at n
theorem Rps.free {K : Fg} {O O' : List Addr} {H : Hp} : ∀ {vs : List V} {ds : List D}, Rps K O H vs ds → noL.noLs ds = true → Rps K O' H vs ds
  | _, _, .nil, _ => .nil
  | _, _, .cons h r, n => by
    simp only [noL.noLs, Bool.and_eq_true] at n
    exact .cons (Rp.free h n.1) (Rps.free r n.2)
end

/-! ## the relation of slots -/
structure Zx where
  K : Fg
  T : List (Addr × Str)
  tb : Bool
structure Ent where
  P : List Addr
  H0 : Hp
  O0 : List Addr
  h0 : ∀ a, a ∈ O0 → H0 a ≠ none
  /-- what is owned but in no slot: it stays as it is -/
  Hi : Addr → Option HO
def noHi : Addr → Option HO := fun _ => none
def sl (σ : L2.St) (i : Nat) : Option V := match σ[i]? with
  | some (some v) => some v
  | _ => none
/-- a list that nobody writes -/
def FrL (K : Fg) (H : Hp) (a : Addr) (xs : List V) : Prop := (∃ o, H a = some (.frz o (.lst xs))) ∨ SqL K (fun _ => none) a xs
theorem FrL.kept {K : Fg} {H H' : Hp} {a : Addr} {xs : List V} (k : ∀ a o, H a = some o → ¬ Mut (some o) → (∀ ps, o ≠ .tbl ps) → H' a = some o) (h : FrL K H a xs) : FrL K H' a xs := by
  rcases h with ⟨o, q⟩ | q
  · exact .inl ⟨o, k _ _ q (fun z => z) fun ps z => by cases z⟩
  · exact .inr q
theorem FrL.sq {K : Fg} {H : Hp} {a : Addr} {xs : List V} (h : FrL K H a xs) : SqL K H a xs := by
  rcases h with q | (q | ⟨o, q⟩) | q
  · exact .inl (.inr q)
  · cases q
  · cases q
  · exact .inr q
def SlotR (K : Fg) (E : Ent) (O : List Addr) (H : Hp) : M → Option V → List Addr → Prop
  | .un, _, F => F = []
  | .imm d, ov, F => F = [] ∧ ∃ v, ov = some v ∧ Rp K O H v d
  | .ol ds, ov, F => ∃ a vs, F = [a] ∧ ov = some (.ref a) ∧ H a = some (.lst vs) ∧ E.H0 a = none ∧ Rps K O H vs ds
  | .bag b, ov, F => ∃ a c, F = [a, c] ∧ a ≠ c ∧ E.P = [a, c] ∧ True ∧ ov = some (.ref a) ∧ H a = some (.lst [.ref c, .int b.cur, .int b.mix]) ∧ H c = some (.lst (b.cells.map V.int))
  | .scr ns, ov, F => F = [] ∧ ∃ a, ov = some (.ref a) ∧ FrL K H a (ns.map V.int)
  | .od kvs, ov, F => ∃ a o vs, F = [a] ∧ ov = some (.ref a) ∧ H a = some o ∧ E.H0 a = none ∧ DictO o (kvs.map (·.1)) vs ∧ Rps K O H vs (kvs.map (·.2))
/-- what a slot owns -/
def slF (E : Ent) : M → Option V → List Addr
  | .ol _, some (.ref a) => [a]
  | .od _, some (.ref a) => [a]
  | .bag _, _ => E.P
  | _, _ => []
theorem SlotR.slF {K : Fg} {E : Ent} {O : List Addr} {H : Hp} {m : M} {ov : Option V} {F : List Addr} (h : SlotR K E O H m ov F) : F = slF E m ov := by
  cases m with
  | un => exact h
  | imm d => exact h.1
  | ol ds => obtain ⟨a, vs, h1, h2, _⟩ := h; rw [h1, h2]; rfl
  | bag b => obtain ⟨a, c, h1, _, h2, _⟩ := h; rw [h1, ← h2]; rfl
  | scr ns => exact h.1
  | od kvs => obtain ⟨a, o, vs, h1, h2, _⟩ := h; rw [h1, h2]; rfl
theorem SlotR.uniq {K : Fg} {E : Ent} {O O' : List Addr} {H H' : Hp} {m : M} {ov : Option V} {F F' : List Addr} (h : SlotR K E O H m ov F) (h' : SlotR K E O' H' m ov F') : F = F' := h.slF.trans h'.slF.symm
def Idle (E : Ent) (O : List Addr) (σ : L2.St) (H : Hp) (s : S) : Prop := ∀ a o, E.Hi a = some o → (a ∈ O ∧ H a = some o ∧ ∀ ps, o ≠ .tbl ps) ∧ ∀ i m, s[i]? = some m → a ∉ slF E m (sl σ i)
structure Sim (Z : Zx) (E : Ent) (O : List Addr) (σ : L2.St) (H : Hp) (s : S) : Prop where
  len : σ.length = s.length
  own : ∃ F : Nat → List Addr, (∀ i m, s[i]? = some m → SlotR Z.K E O H m (sl σ i) (F i)) ∧ (∀ i, s.length ≤ i → F i = []) ∧ (∀ i a, a ∈ F i → a ∈ O) ∧ ∀ i j a, a ∈ F i → a ∈ F j → i = j
  dom : ∀ a, a ∈ O → H a ≠ none
  sub : ∀ a, a ∈ E.O0 → a ∈ O
  fr : Kp Z.tb E.P E.H0 H
  there : ∀ a, H a = none → E.H0 a = none
  tabs : LamX.Tabs Z.T H
  idle : Idle E O σ H s
theorem SlotR.ext {K : Fg} {E : Ent} {O : List Addr} {H H' : Hp} (e : Ex H H') {m : M} {ov : Option V} {F : List Addr} (h : SlotR K E O H m ov F) : SlotR K E O H' m ov F := by
  cases m with
  | un => exact h
  | imm d => obtain ⟨h1, v, h2, h3⟩ := h; exact ⟨h1, v, h2, h3.ext e⟩
  | ol ds => obtain ⟨a, vs, h1, h2, h3, h4, h5⟩ := h; exact ⟨a, vs, h1, h2, e _ _ h3, h4, h5.ext e⟩
  | bag b => obtain ⟨a, c, h1, h2, h3, h4, h5, h6, h7⟩ := h; exact ⟨a, c, h1, h2, h3, h4, h5, e _ _ h6, e _ _ h7⟩
  | scr ns => obtain ⟨h1, a, h2, h3⟩ := h; exact ⟨h1, a, h2, h3.kept fun a o q _ _ => e a o q⟩
  | od kvs => obtain ⟨a, o, vs, h1, h2, h3, h4, h5, h6⟩ := h; exact ⟨a, o, vs, h1, h2, e _ _ h3, h4, h5, h6.ext e⟩
theorem Sim.ext {Z : Zx} {E : Ent} {O : List Addr} {σ : L2.St} {H H' : Hp} {s : S} (h : Sim Z E O σ H s) (e : Ex H H') : Sim Z E O σ H' s := by
  obtain ⟨l, ⟨F, h1, h2, h3, h4⟩, d, sb, f, t, tb, idl⟩ := h
  exact ⟨l, ⟨F, fun i m q => (h1 i m q).ext e, h2, h3, h4⟩, fun a m q => d a m (e.back q), sb, fun a o q n u => e _ _ (f a o q n u), fun a q => t a (e.back q), tb.ext e, fun a o q => ⟨⟨(idl a o q).1.1, e _ _ (idl a o q).1.2.1, (idl a o q).1.2.2⟩, (idl a o q).2⟩⟩
theorem sl_some {σ : L2.St} {i : Nat} {v : V} (h : sl σ i = some v) : σ[i]? = some (some v) := by
  unfold sl at h
  split at h
  · next w q => cases h; exact q
  · cases h
theorem sl_of {σ : L2.St} {i : Nat} {v : V} (h : σ[i]? = some (some v)) : sl σ i = some v := by
  unfold sl; rw [h]

theorem Rp.new {K : Fg} {O : List Addr} {H0 H : Hp} {a : Addr} {v : V} {d : D} (h : Rp K O H0 v d) (n : H0 a = none) (e : Ex H0 H) : Rp K (a :: O) H v d :=
  h.step (tb := false) ⟨fun b o h1 _ _ => e b o h1, fun b m => (List.mem_cons.mp m).elim (fun q => .inr (q ▸ n)) .inl, fun b q => e.back q⟩
theorem Rps.new {K : Fg} {O : List Addr} {H0 H : Hp} {a : Addr} {v : List V} {d : List D} (h : Rps K O H0 v d) (n : H0 a = none) (e : Ex H0 H) : Rps K (a :: O) H v d :=
  h.step (tb := false) ⟨fun b o h1 _ _ => e b o h1, fun b m => (List.mem_cons.mp m).elim (fun q => .inr (q ▸ n)) .inl, fun b q => e.back q⟩
/-! ## kinds of answers -/
inductive Kd where
  | r | i | o | p
  deriving DecidableEq
def Rr (K : Fg) (O : List Addr) (H : Hp) (v : V) (d : D) : Prop := Rp K O H v d ∨ (∃ a vs ds, v = .ref a ∧ d = .list ds ∧ H a = some (.lst vs) ∧ Rps K O H vs ds) ∨
  ∃ a o vs kvs, v = .ref a ∧ d = .dict kvs ∧ H a = some o ∧ DictO o (kvs.map (·.1)) vs ∧ Rps K O H vs (kvs.map (·.2))
def Res (K : Fg) (O : List Addr) (H H' : Hp) (v : V) (d : D) : Kd → Prop
  | .r => Rr K O H' v d
  | .i => Rp K O H' v d
  | .o => ∃ a vs ds, v = .ref a ∧ d = .list ds ∧ H a = none ∧ a ∉ O ∧ H' a = some (.lst vs) ∧ Rps K (a :: O) H' vs ds
  | .p => ∃ a o vs kvs, v = .ref a ∧ d = .dict kvs ∧ H a = none ∧ a ∉ O ∧ H' a = some o ∧ DictO o (kvs.map (·.1)) vs ∧ Rps K (a :: O) H' vs (kvs.map (·.2))
theorem Res.toR {K : Fg} {O : List Addr} {H H' : Hp} {v : V} {d : D} {k : Kd} (h : Res K O H H' v d k) : Rr K O H' v d := by
  cases k with
  | r => exact h
  | i => exact .inl h
  | o => obtain ⟨a, vs, ds, h1, h2, h3, _, h4, h5⟩ := h; exact .inr (.inl ⟨a, vs, ds, h1, h2, h4, h5.mono fun _ m => List.mem_cons_of_mem _ m⟩)
  | p => obtain ⟨a, o, vs, kvs, h1, h2, h3, _, h4, h5, h6⟩ := h; exact .inr (.inr ⟨a, o, vs, kvs, h1, h2, h4, h5, h6.mono fun _ m => List.mem_cons_of_mem _ m⟩)
theorem Res.toI {K : Fg} {O : List Addr} {H H' : Hp} {v : V} {d : D} (h : Res K O H H' v d .o) : Rp K O H' v d := by
  obtain ⟨a, vs, ds, rfl, rfl, h3, h6, h4, h5⟩ := h
  exact .lst h4 h6 (h5.mono fun _ m => List.mem_cons_of_mem _ m)
theorem Res.toP {K : Fg} {O : List Addr} {H H' : Hp} {v : V} {d : D} (h : Res K O H H' v d .p) : Rp K O H' v d := by
  obtain ⟨a, o, vs, kvs, rfl, rfl, h3, h6, h4, h5, h7⟩ := h
  exact .dct h4 h5 h6 (h7.mono fun _ m => List.mem_cons_of_mem _ m)
theorem Rr.ext {K : Fg} {O : List Addr} {H H' : Hp} (e : Ex H H') {v : V} {d : D} (h : Rr K O H v d) : Rr K O H' v d := by
  rcases h with h | ⟨a, vs, ds, h1, h2, h3, h4⟩ | ⟨a, o, vs, kvs, h1, h2, h3, h4, h5⟩
  · exact .inl (h.ext e)
  · exact .inr (.inl ⟨a, vs, ds, h1, h2, e _ _ h3, h4.ext e⟩)
  · exact .inr (.inr ⟨a, o, vs, kvs, h1, h2, e _ _ h3, h4, h5.ext e⟩)
theorem Rr.dp {K : Fg} {O : List Addr} {H : Hp} {v : V} {d : D} (h : Rr K O H v d) (c : d.canLay0 = true) : Dp K H v d := by
  rcases h with h | ⟨a, vs, ds, rfl, rfl, h3, h4⟩ | ⟨a, o, vs, kvs, rfl, rfl, _⟩
  · exact h.dp c
  · exact .lst (SqL.of h3) (h4.dp (by simpa only [PyData.canLay0] using c))
  · simp only [PyData.canLay0] at c; cases c
theorem Rr.list {K : Fg} {O : List Addr} {H : Hp} {v : V} {ds : List D} (h : Rr K O H v (.list ds)) : ∃ a vs, v = .ref a ∧ H a = some (.lst vs) ∧ Rps K O H vs ds := by
  rcases h with h | ⟨a, vs, ds', rfl, e, h3, h4⟩ | ⟨a, o, vs, kvs, rfl, e, _⟩
  · obtain ⟨a, vs, h1, h2, _, h3⟩ := h.ref_list
    exact ⟨a, vs, h1, h2, h3⟩
  · cases e; exact ⟨a, vs, rfl, h3, h4⟩
  · cases e
theorem Rr.dict {K : Fg} {O : List Addr} {H : Hp} {v : V} {kvs : List (D × D)} (h : Rr K O H v (.dict kvs)) : ∃ a o vs, v = .ref a ∧ H a = some o ∧ DictO o (kvs.map (·.1)) vs ∧ Rps K O H vs (kvs.map (·.2)) := by
  rcases h with h | ⟨a, vs, ds', rfl, e, h3, h4⟩ | ⟨a, o, vs, kvs, rfl, e, h3, h4, h5⟩
  · cases h with
    | dct h d _ r => exact ⟨_, _, _, rfl, h, d, r⟩
  · cases e
  · cases e; exact ⟨a, o, vs, rfl, h3, h4, h5⟩
theorem Rr.tuple {K : Fg} {O : List Addr} {H : Hp} {v : V} {ds : List D} (h : Rr K O H v (.tuple ds)) : ∃ a vs, v = .ref a ∧ SqT K H a vs ∧ Rps K O H vs ds := by
  rcases h with h | ⟨a, vs, ds', rfl, e, h3, h4⟩ | ⟨a, o, vs, kvs, rfl, e, _⟩
  · exact h.ref_tuple
  · cases e
  · cases e
theorem Rr.tupleZ {K : Fg} {O : List Addr} {H : Hp} {v : V} {ds : List D} (h : Rr K O H v (.tuple ds)) : ∃ a vs, v = .ref a ∧ SqZ H a vs ∧ Rps K O H vs ds := by
  rcases h with h | ⟨a, vs, ds', rfl, e, h3, h4⟩ | ⟨a, o, vs, kvs, rfl, e, _⟩
  · exact h.ref_tupleZ
  · cases e
  · cases e
theorem Rr.int {K : Fg} {O : List Addr} {H : Hp} {v : V} {i : Int} (h : Rr K O H v (.int i)) : v = .int i := by
  rcases h with h | ⟨_, _, _, _, e, _⟩ | ⟨_, _, _, _, _, e, _⟩
  · cases h; rfl
  · cases e
  · cases e
theorem Rr.bool {K : Fg} {O : List Addr} {H : Hp} {v : V} {i : Bool} (h : Rr K O H v (.bool i)) : v = .bl i := by
  rcases h with h | ⟨_, _, _, _, e, _⟩ | ⟨_, _, _, _, _, e, _⟩
  · cases h; rfl
  · cases e
  · cases e
theorem Rr.str {K : Fg} {O : List Addr} {H : Hp} {v : V} {i : Str} (h : Rr K O H v (.str i)) : v = .str i := by
  rcases h with h | ⟨_, _, _, _, e, _⟩ | ⟨_, _, _, _, _, e, _⟩
  · cases h; rfl
  · cases e
  · cases e
theorem Rr.none {K : Fg} {O : List Addr} {H : Hp} {v : V} (h : Rr K O H v .none) : v = .non := by
  rcases h with h | ⟨_, _, _, _, e, _⟩ | ⟨_, _, _, _, _, e, _⟩
  · cases h; rfl
  · cases e
  · cases e
/-! ## new tuples -/
section
variable {X : Cx}
/-- a new tuple of the values xs: what the caller wants of it -/
def NewT (H : Hp) (xs : List V) (Q : VK) : Prop := ∀ p o, H p = none → TupO o xs → Q (.ref p) (upd H p o)
theorem laidZ {pins : List (Addr × Obj)} {σ : L2.St} {H : Hp} {s : Shared} {xs : List V} {its : Array Value} {Q : VK} (I : Inv X pins σ H s) (r : Vals xs its.toList) (z : xs.length ≤ sizeLine) (q : NewT H xs Q) :
    EP X pins σ Q (.ref s.heap.objs.size) { s with heap := s.heap.push { cls := .type "tuple", data := .seq its } } := by
  have nw : ∀ o, TupO o xs → ObjOk X.prog X.w (upd H s.heap.objs.size o) (s.heap.push { cls := .type "tuple", data := .seq its }) s.heap.objs.size o → EP X pins σ Q (.ref s.heap.objs.size) { s with heap := s.heap.push { cls := .type "tuple", data := .seq its } } := fun o t k =>
    ⟨.ref s.heap.objs.size, _, I.laid (t' := s.toks) (o := o) (fun b u e => Heap.get?_push_of_some _ e) (Nat.le_refl _) k, rfl, q _ o (I.hok.fresh (Nat.le_refl _)) t⟩
  cases zm : zmode with
  | true => exact nw (.frz { cls := .type "tuple", data := .seq its } (.tup xs)) (.inl ⟨zm, _, rfl, rfl⟩) ⟨Heap.get?_push_size _ rfl, z, its.toList, r, by rw [Array.toArray_toList]; exact IsTup.new _ _⟩
  | false => exact nw (.tup xs) (.inr ⟨zm, rfl⟩) ⟨z, its.toList, r, by rw [Array.toArray_toList]; exact IsTup.new _ _⟩
def tTupZ (t : TA) : TE := fun σ H Q => t σ H fun xs H1 => xs.length ≤ sizeLine ∧ NewT H1 xs Q
theorem pe_tupZ {es : List Expr} {t : TA} {pos} {x1} (h : PA X es t) : PE X (.Tuple es x1 pos) (tTupZ t) := ⟨fun pins s σ H Q I hq =>
  wpAny_Tuple_spliced (thn (h.run pos pins s σ H _ I hq) fun us s1 ⟨xs, H1, I1, r, z, q⟩ => ⟨by rw [← r.length]; exact z, laidZ (its := us.toArray) I1 (by rw [List.toList_toArray]; exact r) z q⟩)⟩
def rCatZ (K : Fg) : R2 := fun x y H Q => ∃ a b xs ys, x = .ref a ∧ y = .ref b ∧ SqT K H a xs ∧ SqT K H b ys ∧ xs.length + ys.length ≤ sizeLine ∧
  (xs = [] → Q (.ref b) H) ∧ (xs ≠ [] → ys = [] → Q (.ref a) H) ∧ (xs ≠ [] → ys ≠ [] → NewT H (xs ++ ys) Q)
theorem op_catZ : OpR X (binaryOp .Add) (rCatZ X.K) := fun pins s σ H x y v u Q I rx ry h => by
  obtain ⟨a, b, xs, ys, e1, e2, ha, hb, hz, q0, q1, q2⟩ := h
  subst e1; subst e2
  obtain rfl : v = Value.ref a := rx
  obtain rfl : u = Value.ref b := ry
  have ⟨its, r1, p1, _⟩ := I.tuple ha
  have ⟨its2, r2, p2, _⟩ := I.tuple hb
  by_cases hx : xs = []
  · subst hx
    cases r1
    exact cat_tup0 p1 p2 ⟨.ref b, H, I, rfl, q0 rfl⟩
  · have nx : its ≠ [] := fun z => hx (r1.nil_iff.mp z)
    refine HT.cat_tup p1 p2 nx (fun z => ⟨.ref a, H, I, rfl, q1 hx (r2.nil_iff.mp z)⟩) (fun z => ?_) (by rw [← r1.length, ← r2.length]; exact hz)
    exact laidZ I (by rw [List.toList_toArray]; exact r1.append r2) (by rw [List.length_append]; exact hz) (q2 hx fun w => z (r2.nil_iff.mpr w))
def rSlZ (K : Fg) : V → Option Int → Option Int → Hp → VK → Prop := fun x lo hi H Q => ∃ a xs, x = .ref a ∧ SqT K H a xs ∧
  (HT.sIx xs.length 0 lo = 0 ∧ HT.sIx xs.length xs.length hi = xs.length → Q (.ref a) H) ∧ (¬ (HT.sIx xs.length 0 lo = 0 ∧ HT.sIx xs.length xs.length hi = xs.length) → NewT H (cutV xs lo hi) Q)
theorem sl_tupZ : SlR X (rSlZ X.K) := fun pins s σ H x v vl vu lo hi sl Q I rx hs pl pu h => by
  obtain ⟨a, xs, e1, hx, q1, q2⟩ := h
  subst e1
  obtain rfl : v = Value.ref a := rx
  have ⟨its, r, ht, hz⟩ := I.tuple hx
  have hn : its.toArray.size = xs.length := by rw [List.size_toArray]; exact r.length.symm
  refine ⟨"tuple", _, PyProof.Rows.slot_tuple_getitem.lookup, ht.typeIs, ?_⟩
  by_cases hw : HT.sIx xs.length 0 lo = 0 ∧ HT.sIx xs.length xs.length hi = xs.length
  · exact getItem_tuple_whole ht hs pl pu (by rw [hn]; exact hw) ⟨.ref a, H, I, rfl, q1 hw⟩
  · refine HT.getItem_tuple_cut ht hs pl pu (by rw [hn]; exact hw) ?_ (by rw [hn]; exact hz)
    rw [hn]
    exact laidZ I (by rw [List.toList_toArray]; exact (r.drop _).take _) (Nat.le_trans (cutV_length xs lo hi) hz) (q2 hw)
theorem call_tupleZ : CallR X (.type "tuple") (fun xs H Q => ∃ p ys, xs = [.ref p] ∧ ((SqL X.K H p ys ∧ NewT H ys Q) ∨ (SqT X.K H p ys ∧ Q (.ref p) H))) := fun pins s σ H xs us Q I r h => by
  obtain ⟨p, ys, e, h⟩ := h
  subst e
  obtain ⟨u, eu, rx⟩ := vals1 r
  subst eu
  obtain rfl : u = Value.ref p := rx
  rcases h with ⟨hq, q⟩ | ⟨hq, q⟩
  · have ⟨its, rv, pl, hz⟩ := I.list hq
    refine call_tuple_list pl.isList (fun h' kp => ?_) (by rw [List.size_toArray, ← rv.length]; exact hz)
    exact laidZ (s := { s with heap := h' }) (I.kept (t' := s.toks) kp) (by rw [List.toList_toArray]; exact rv) hz q
  · have ⟨its, _, pl, _⟩ := I.tuple hq
    exact call_tuple_same pl ⟨.ref p, H, I, rfl, q⟩
end
end Y

namespace Y
open PySem PySem.Spec PyProof.Rows L2

/-! ## quiet expressions: the canonical reading of a function on slots -/
section
variable {X : Cx} {T : List (Addr × Str)} {tb : Bool}
theorem imp_e {e : Expr} {t t' : TE} (h : PE X e t) (hi : ∀ σ H Q, t' σ H Q → t σ H Q) : PE X e t' := ⟨fun pins s σ H Q I hw => h.run pins s σ H Q I (hi σ H Q hw)⟩
theorem imp_t {e : Expr} {t t' : TT} (h : PT X e t) (hi : ∀ σ H Q, t' σ H Q → t σ H Q) : PT X e t' := ⟨fun pins s σ H Q I hw => h.run pins s σ H Q I (hi σ H Q hw)⟩
theorem imp_w {e : Expr} {t t' : TT} (h : PW X e t) (hi : ∀ σ H Q, t' σ H Q → t σ H Q) : PW X e t' := ⟨fun w pins s σ H Q I hw => h.run w pins s σ H Q I (hi σ H Q hw)⟩
theorem imp_a {e : List Expr} {t t' : TA} (h : PA X e t) (hi : ∀ σ H Q, t' σ H Q → t σ H Q) : PA X e t' := ⟨fun p pins s σ H Q I hw => h.run p pins s σ H Q I (hi σ H Q hw)⟩
theorem imp_o {e : Option Expr} {t t' : TO} (h : PO X e t) (hi : ∀ σ H Q, t' σ H Q → t σ H Q) : PO X e t' := ⟨fun pins s σ H Q I hw => h.run pins s σ H Q I (hi σ H Q hw)⟩
theorem imp_s {e : Stmt} {t t' : TS} (h : PS X e t) (hi : ∀ D σ H, t' D σ H → t D σ H) : PS X e t' := ⟨fun pins s σ H Q I hw => h.run pins s σ H Q I (hi Q σ H hw)⟩
theorem imp_ss {e : List Stmt} {t t' : TS} (h : PSs X e t) (hi : ∀ D σ H, t' D σ H → t D σ H) : PSs X e t' := ⟨fun pins s σ H Q I hw => h.run pins s σ H Q I (hi Q σ H hw)⟩
end

theorem Res.from {K : Fg} {O : List Addr} {H H1 H' : Hp} {v : V} {d : D} {k : Kd} (e : Ex H H1) (h : Res K O H1 H' v d k) : Res K O H H' v d k := by
  cases k with
  | r => exact h
  | i => exact h
  | o => obtain ⟨a, vs, ds, h1, h2, h3, h4, h5⟩ := h; exact ⟨a, vs, ds, h1, h2, e.back h3, h4, h5⟩
  | p => obtain ⟨a, o, vs, ds, h1, h2, h3, h4⟩ := h; exact ⟨a, o, vs, ds, h1, h2, e.back h3, h4⟩
theorem Res.toI' {K : Fg} {O : List Addr} {H H' : Hp} {v : V} {d : D} {k : Kd} (n : k ≠ .r) (h : Res K O H H' v d k) : Rp K O H' v d := by
  cases k with
  | r => exact absurd rfl n
  | i => exact h
  | o => exact h.toI
  | p => exact h.toP
inductive Rrs (K : Fg) (O : List Addr) (H : Hp) : List V → List D → Prop
  | nil : Rrs K O H [] []
  | cons {v : V} {vs : List V} {d : D} {ds : List D} : Rr K O H v d → Rrs K O H vs ds → Rrs K O H (v :: vs) (d :: ds)
theorem Rrs.ext {K : Fg} {O : List Addr} {H H' : Hp} (e : Ex H H') : ∀ {vs : List V} {ds : List D}, Rrs K O H vs ds → Rrs K O H' vs ds
  | _, _, .nil => .nil
  | _, _, .cons h r => .cons (h.ext e) (r.ext e)
theorem Rrs.of {K : Fg} {O : List Addr} {H : Hp} : ∀ {vs : List V} {ds : List D}, Rps K O H vs ds → Rrs K O H vs ds
  | _, _, .nil => .nil
  | _, _, .cons h r => .cons (.inl h) (.of r)
def ResL (K : Fg) (O : List Addr) (H : Hp) (vs : List V) (ds : List D) : Bool → Prop
  | true => Rps K O H vs ds
  | false => Rrs K O H vs ds
theorem ResL.toR {K : Fg} {O : List Addr} {H : Hp} {vs : List V} {ds : List D} {b : Bool} (h : ResL K O H vs ds b) : Rrs K O H vs ds := by
  cases b with
  | true => exact .of h
  | false => exact h

def tQ (Z : Zx) (k : Kd) (m : S → Option D) : TE := fun σ H Q => ∃ E O s d, Sim Z E O σ H s ∧ m s = some d ∧ ∀ v H', Ex H H' → Res Z.K O H H' v d k → Q v H'
def tTQ (Z : Zx) (m : S → Option Bool) : TT := fun σ H Q => ∃ E O s b, Sim Z E O σ H s ∧ m s = some b ∧ ∀ H', Ex H H' → Q b H'
def tAQ (Z : Zx) (k : Bool) (m : S → Option (List D)) : TA := fun σ H Q => ∃ E O s ds, Sim Z E O σ H s ∧ m s = some ds ∧ ∀ vs H', Ex H H' → ResL Z.K O H' vs ds k → Q vs H'
def tOQ (Z : Zx) (m : S → Option (Option Int)) : TO := fun σ H Q => ∃ E O s o, Sim Z E O σ H s ∧ m s = some o ∧ ∀ H', Ex H H' → Q o H'
abbrev QE (X : Cx) (T : List (Addr × Str)) (tb : Bool) (k : Kd) (e : Expr) (m : S → Option D) : Prop := PE X e (tQ ⟨X.K, T, tb⟩ k m)
abbrev QT (X : Cx) (T : List (Addr × Str)) (tb : Bool) (e : Expr) (m : S → Option Bool) : Prop := PT X e (tTQ ⟨X.K, T, tb⟩ m)
abbrev QA (X : Cx) (T : List (Addr × Str)) (tb : Bool) (k : Bool) (es : List Expr) (m : S → Option (List D)) : Prop := PA X es (tAQ ⟨X.K, T, tb⟩ k m)
abbrev QO (X : Cx) (T : List (Addr × Str)) (tb : Bool) (e : Option Expr) (m : S → Option (Option Int)) : Prop := PO X e (tOQ ⟨X.K, T, tb⟩ m)

/-! ## the functions -/
def varM (i : Nat) : S → Option D := fun s => match s[i]? with
  | some (.imm d) => some d
  | _ => none
def varR (i : Nat) : S → Option D := fun s => match s[i]? with
  | some (.imm d) => some d
  | some (.ol ds) => some (.list ds)
  | some (.od kvs) => some (.dict kvs)
  | _ => none
def cM (d : D) : S → Option D := fun _ => some d
def op1 (g : D → Option D) (a : S → Option D) : S → Option D := fun s => (a s).bind g
def op2 (g : D → D → Option D) (a b : S → Option D) : S → Option D := fun s => (a s).bind fun x => (b s).bind fun y => g x y
def argN : S → Option (List D) := fun _ => some []
def argC (a : S → Option D) (r : S → Option (List D)) : S → Option (List D) := fun s => (a s).bind fun x => (r s).bind fun xs => some (x :: xs)
def tupM (r : S → Option (List D)) : S → Option D := fun s => (r s).bind fun xs => if xs.length ≤ 10000 then some (.tuple xs) else none
def lstM (r : S → Option (List D)) : S → Option D := fun s => (r s).bind fun xs => if xs.length ≤ 10000 then some (.list xs) else none
def ifM (t : S → Option Bool) (a b : S → Option D) : S → Option D := fun s => (t s).bind fun c => if c = true then a s else b s
def boolD : D → Option Bool
  | .bool b => some b
  | _ => none
theorem boolD_some {d : D} {b : Bool} (h : boolD d = some b) : d = .bool b := by
  cases d <;> simp [boolD] at h
  rw [h]
def tvM (a : S → Option D) : S → Option Bool := fun s => (a s).bind boolD
def notT (a : S → Option Bool) : S → Option Bool := fun s => (a s).map (!·)
def andT (a b : S → Option Bool) : S → Option Bool := fun s => (a s).bind fun c => if c = true then b s else some false
def orT (a b : S → Option Bool) : S → Option Bool := fun s => (a s).bind fun c => if c = true then some true else b s
def andV (a b : S → Option D) : S → Option D := fun s => (a s).bind fun x => (boolD x).bind fun c => if c = true then b s else some (.bool false)
def orV (a b : S → Option D) : S → Option D := fun s => (a s).bind fun x => (boolD x).bind fun c => if c = true then some (.bool true) else b s
def notV (a : S → Option D) : S → Option D := fun s => (a s).bind fun x => (boolD x).bind fun c => some (.bool (!c))
def chainM (g h : D → D → Option D) (a b c : S → Option D) : S → Option D := fun s => (a s).bind fun x => (b s).bind fun y => (g x y).bind fun z => (boolD z).bind fun k => if k = true then (c s).bind fun w => h y w else some (.bool false)
def pnM : S → Option (Option Int) := fun _ => some none
def intD : D → Option Int
  | .int i => some i
  | _ => none
def psM (a : S → Option D) : S → Option (Option Int) := fun s => (a s).bind fun x => (intD x).map some
def slM (g : D → Option Int → Option Int → Option D) (a : S → Option D) (lo hi : S → Option (Option Int)) : S → Option D := fun s => (a s).bind fun x => (lo s).bind fun l => (hi s).bind fun h => g x l h
def callM (g : List D → Option D) (r : S → Option (List D)) : S → Option D := fun s => (r s).bind g

section
variable {X : Cx} {T : List (Addr × Str)} {tb : Bool}
abbrev Zo (X : Cx) (T : List (Addr × Str)) (tb : Bool) : Zx := ⟨X.K, T, tb⟩

theorem q_var (i : Nat) {x : Str} {pos : Pos} (hN : X.N[i]? = some x := by rfl) (hv : Vis X.env.scope x := by first | exact Or.inl rfl | exact Or.inr (Or.inl rfl) | exact Or.inr (Or.inr rfl)) (hd : (x == ("__debug__" : Str)) = false := by decide)
    (hcd : (x == ("__classdict__" : Str)) = false := by decide) : QE X T tb .i (.Name x pos) (varM i) := by
  refine imp_e (pe_var hN hv hd hcd) fun σ H Q h => ?_
  obtain ⟨E, O, s, d, sm, hm, k⟩ := h
  unfold varM at hm
  split at hm
  · next d' q =>
    cases hm
    obtain ⟨F, f1, _⟩ := sm.own
    obtain ⟨_, v, h2, h3⟩ := f1 i _ q
    exact ⟨v, sl_some h2, k v H (Ex.refl H) h3⟩
  · cases hm
theorem q_varR (i : Nat) {x : Str} {pos : Pos} (hN : X.N[i]? = some x := by rfl) (hv : Vis X.env.scope x := by first | exact Or.inl rfl | exact Or.inr (Or.inl rfl) | exact Or.inr (Or.inr rfl)) (hd : (x == ("__debug__" : Str)) = false := by decide)
    (hcd : (x == ("__classdict__" : Str)) = false := by decide) : QE X T tb .r (.Name x pos) (varR i) := by
  refine imp_e (pe_var hN hv hd hcd) fun σ H Q h => ?_
  obtain ⟨E, O, s, d, sm, hm, k⟩ := h
  obtain ⟨F, f1, _⟩ := sm.own
  unfold varR at hm
  split at hm
  · next d' q =>
    cases hm
    obtain ⟨_, v, h2, h3⟩ := f1 i _ q
    exact ⟨v, sl_some h2, k v H (Ex.refl H) (.inl h3)⟩
  · next d' q =>
    cases hm
    obtain ⟨a, vs, _, h2, h3, _, h5⟩ := f1 i _ q
    exact ⟨_, sl_some h2, k _ H (Ex.refl H) (.inr (.inl ⟨a, vs, _, rfl, rfl, h3, h5⟩))⟩
  · next d' q =>
    cases hm
    obtain ⟨a, o, vs, _, h2, h3, _, h5, h6⟩ := f1 i _ q
    exact ⟨_, sl_some h2, k _ H (Ex.refl H) (.inr (.inr ⟨a, o, vs, _, rfl, rfl, h3, h5, h6⟩))⟩
  · cases hm
theorem q_c {e : Expr} {v : V} {d : D} (h : PE X e (tC v)) (r : ∀ K O H, Rp K O H v d) : QE X T tb .i e (cM d) := by
  refine imp_e h fun σ H Q h => ?_
  obtain ⟨E, O, s, d', sm, hm, k⟩ := h
  cases hm
  exact k v H (Ex.refl H) (r _ _ _)
theorem q_int {i : Int} {j pos} : QE X T tb .i (.Constant (.int i) j pos) (cM (.int i)) := q_c pe_int fun _ _ _ => .int i
theorem q_bl {b : Bool} {j pos} : QE X T tb .i (.Constant (.bool b) j pos) (cM (.bool b)) := q_c pe_bl fun _ _ _ => .bl b
theorem q_non {j pos} : QE X T tb .i (.Constant .none j pos) (cM .none) := q_c pe_non fun _ _ _ => .non
theorem q_str {x : Str} {j pos} : QE X T tb .i (.Constant (.str x) j pos) (cM (.str x)) := q_c pe_str fun _ _ _ => .str x
theorem q_ir {k : Kd} {e : Expr} {m : S → Option D} (h : QE X T tb k e m) : QE X T tb .r e m := imp_e h fun σ H Q ⟨E, O, s, d, sm, hm, q⟩ => ⟨E, O, s, d, sm, hm, fun v H' e r => q v H' e r.toR⟩
theorem q_i {k : Kd} {e : Expr} {m : S → Option D} (h : QE X T tb k e m) (n : k ≠ .r := by decide) : QE X T tb .i e m := imp_e h fun σ H Q ⟨E, O, s, d, sm, hm, q⟩ => ⟨E, O, s, d, sm, hm, fun v H' e r => q v H' e (r.toI' n)⟩

/-- what an operation on two values gives of data -/
def OpS (X : Cx) (f : Value → Value → Sem Value) (k : Kd) (g : D → D → Option D) : Prop :=
  ∃ r : R2, OpR X f r ∧ ∀ (O : List Addr) (H : Hp) (x y : V) (dx dy d : D) (Q : VK), (∀ a, a ∈ O → H a ≠ none) → Rr X.K O H x dx → Rr X.K O H y dy → g dx dy = some d → (∀ v H', Ex H H' → Res X.K O H H' v d k → Q v H') → r x y H Q
theorem op_two {r : R2} {k : Kd} {g : D → D → Option D} {ka kb : Kd} {ma mb : S → Option D}
    (hs : ∀ (O : List Addr) (H : Hp) (x y : V) (dx dy d : D) (Q : VK), (∀ a, a ∈ O → H a ≠ none) → Rr X.K O H x dx → Rr X.K O H y dy → g dx dy = some d → (∀ v H', Ex H H' → Res X.K O H H' v d k → Q v H') → r x y H Q)
    {σ : L2.St} {H : Hp} {Q : VK} (h : tQ (Zo X T tb) k (op2 g ma mb) σ H Q) : tOp r (tQ (Zo X T tb) ka ma) (tQ (Zo X T tb) kb mb) σ H Q := by
  obtain ⟨E, O, s, d, sm, hm, k⟩ := h
  unfold op2 at hm
  obtain ⟨x, hx, hm⟩ := Option.bind_eq_some_iff.mp hm
  obtain ⟨y, hy, hm⟩ := Option.bind_eq_some_iff.mp hm
  refine ⟨E, O, s, x, sm, hx, fun v H1 e1 r1 => ⟨E, O, s, y, sm.ext e1, hy, fun u H2 e2 r2 => ?_⟩⟩
  exact hs O H2 v u x y d Q (fun a m => (sm.ext (e1.trans e2)).dom a m) (r1.toR.ext e2) r2.toR hm fun w H3 e3 r3 => k w H3 (e1.trans (e2.trans e3)) (Res.from (e1.trans e2) r3)
theorem q_op {op : Operator} {k : Kd} {g : D → D → Option D} (h : OpS X (binaryOp op) k g) {a b : Expr} {pos : Pos} {ka kb : Kd} {ma mb : S → Option D} (ha : QE X T tb ka a ma) (hb : QE X T tb kb b mb) : QE X T tb k (.BinOp a op b pos) (op2 g ma mb) := by
  obtain ⟨r, ho, hs⟩ := h
  exact imp_e (pe_op ho ha hb) fun σ H Q h => op_two hs h
theorem q_cmp {op : CmpOp} {k : Kd} {g : D → D → Option D} (h : OpS X (compareOp op) k g) {a b : Expr} {pos : Pos} {ka kb : Kd} {ma mb : S → Option D} (ha : QE X T tb ka a ma) (hb : QE X T tb kb b mb) (hm : behindInMarks op b = false) : QE X T tb k (.Compare a [op] [b] pos) (op2 g ma mb) := by
  obtain ⟨r, ho, hs⟩ := h
  exact imp_e (pe_cmpR ho ha hb hm) fun σ H Q h => op_two hs h
theorem tv_two {r : R2} {g : D → D → Option D} {ma mb : S → Option D} {σ : L2.St} {H : Hp} {Q : Bool → Hp → Prop} (h : tTQ (Zo X T tb) (tvM (op2 g ma mb)) σ H Q) :
    tQ (Zo X T tb) .i (op2 g ma mb) σ H fun x H' => ∃ k, x = .bl k ∧ Q k H' := by
  obtain ⟨E, O, s, b, sm, hm, k⟩ := h
  unfold tvM at hm
  obtain ⟨x, hx, hm⟩ := Option.bind_eq_some_iff.mp hm
  refine ⟨E, O, s, x, sm, hx, fun v H1 e1 r1 => ?_⟩
  cases x <;> simp [boolD] at hm
  subst hm
  have r1 : Rp X.K O H1 v (.bool _) := r1
  cases r1
  exact ⟨_, rfl, k H1 e1⟩
theorem qt_cmp {op : CmpOp} {g : D → D → Option D} (h : OpS X (compareOp op) .i g) {a b : Expr} {pos : Pos} {ka kb : Kd} {ma mb : S → Option D} (ha : QE X T tb ka a ma) (hb : QE X T tb kb b mb) (hm : behindInMarks op b = false) : QT X T tb (.Compare a [op] [b] pos) (tvM (op2 g ma mb)) := by
  obtain ⟨r, ho, hs⟩ := h
  exact imp_t (pt_cmpR ho ha hb hm) fun σ H Q h => op_two hs (tv_two (r := r) h)
theorem tv_one {m : S → Option D} {k : Kd} {σ : L2.St} {H : Hp} {Q : Bool → Hp → Prop} (h : tTQ (Zo X T tb) (tvM m) σ H Q) :
    tQ (Zo X T tb) k m σ H fun x H' => ∃ k, x = .bl k ∧ Q k H' := by
  obtain ⟨E, O, s, b, sm, hm, q⟩ := h
  unfold tvM at hm
  obtain ⟨x, hx, hm⟩ := Option.bind_eq_some_iff.mp hm
  refine ⟨E, O, s, x, sm, hx, fun v H1 e1 r1 => ?_⟩
  cases x <;> simp [boolD] at hm
  subst hm
  exact ⟨_, r1.toR.bool, q H1 e1⟩
theorem qt_val {e : Expr} {m : S → Option D} {k : Kd} (h : QE X T tb k e m) (he : ∀ whole, isTrue e X.env whole = (do let v ← whole; standAt e.pos; holding [v] (truthy v)) := by intro _; rfl) : QT X T tb e (tvM m) :=
  imp_t (pt_val h he) fun σ H Q h => tv_one h
theorem qt_not {a : Expr} {pos : Pos} {m : S → Option Bool} (h : QT X T tb a m) : QT X T tb (.UnaryOp .Not a pos) (notT m) := imp_t (pt_not h) fun σ H Q h => by
  obtain ⟨E, O, s, b, sm, hm, q⟩ := h
  unfold notT at hm
  obtain ⟨c, hc, hm⟩ := Option.map_eq_some_iff.mp hm
  subst hm
  exact ⟨E, O, s, c, sm, hc, fun H' e => q H' e⟩
abbrev QW (X : Cx) (T : List (Addr × Str)) (tb : Bool) (e : Expr) (m : S → Option Bool) : Prop := PW X e (tTQ (Zo X T tb) m)
theorem qw_t {e : Expr} {m : S → Option Bool} (h : QW X T tb e m) : QT X T tb e m := h.pt
theorem qw_and1 {a : Expr} {pos : Pos} {m : S → Option Bool} (h : QT X T tb a m) : QW X T tb (.BoolOp .And [a] pos) m := pw_and1 h
theorem qw_or1 {a : Expr} {pos : Pos} {m : S → Option Bool} (h : QT X T tb a m) : QW X T tb (.BoolOp .Or [a] pos) m := pw_or1 h
theorem qw_and {a b : Expr} {rest : List Expr} {pos : Pos} {m n : S → Option Bool} (ha : QT X T tb a m) (hb : QW X T tb (.BoolOp .And (b :: rest) pos) n) : QW X T tb (.BoolOp .And (a :: b :: rest) pos) (andT m n) := imp_w (pw_and ha hb) fun σ H Q h => by
  obtain ⟨E, O, s, b, sm, hm, q⟩ := h
  unfold andT at hm
  obtain ⟨c, hc, hm⟩ := Option.bind_eq_some_iff.mp hm
  refine ⟨E, O, s, c, sm, hc, fun H' e => ?_⟩
  cases c with
  | true => exact iteT ⟨E, O, s, b, sm.ext e, hm, fun H2 e2 => q H2 (e.trans e2)⟩
  | false => cases hm; exact iteF (q H' e)
theorem qw_or {a b : Expr} {rest : List Expr} {pos : Pos} {m n : S → Option Bool} (ha : QT X T tb a m) (hb : QW X T tb (.BoolOp .Or (b :: rest) pos) n) : QW X T tb (.BoolOp .Or (a :: b :: rest) pos) (orT m n) := imp_w (pw_or ha hb) fun σ H Q h => by
  obtain ⟨E, O, s, b, sm, hm, q⟩ := h
  unfold orT at hm
  obtain ⟨c, hc, hm⟩ := Option.bind_eq_some_iff.mp hm
  refine ⟨E, O, s, c, sm, hc, fun H' e => ?_⟩
  cases c with
  | true => cases hm; exact iteT (q H' e)
  | false => exact iteF ⟨E, O, s, b, sm.ext e, hm, fun H2 e2 => q H2 (e.trans e2)⟩
theorem q_one {op : BoolOp} {a : Expr} {pos : Pos} {k : Kd} {m : S → Option D} (h : QE X T tb k a m) : QE X T tb k (.BoolOp op [a] pos) m := pe_one h
theorem q_and {a b : Expr} {rest : List Expr} {pos : Pos} {k : Kd} {m n : S → Option D} (ha : QE X T tb k a m) (hb : QE X T tb .i (.BoolOp .And (b :: rest) pos) n) : QE X T tb .i (.BoolOp .And (a :: b :: rest) pos) (andV m n) := imp_e (pe_and ha hb) fun σ H Q h => by
  obtain ⟨E, O, s, d, sm, hm, q⟩ := h
  unfold andV at hm
  obtain ⟨x, hx, hm⟩ := Option.bind_eq_some_iff.mp hm
  obtain ⟨c, hc, hm⟩ := Option.bind_eq_some_iff.mp hm
  refine ⟨E, O, s, x, sm, hx, fun v H' e r => ?_⟩
  obtain rfl := boolD_some hc
  rw [r.toR.bool]
  refine ⟨_, rfl, ?_⟩
  cases c with
  | true => exact iteT ⟨E, O, s, d, sm.ext e, hm, fun w H2 e2 r2 => q w H2 (e.trans e2) r2⟩
  | false => cases hm; exact iteF (q _ H' e (.bl false))
theorem q_or {a b : Expr} {rest : List Expr} {pos : Pos} {k : Kd} {m n : S → Option D} (ha : QE X T tb k a m) (hb : QE X T tb .i (.BoolOp .Or (b :: rest) pos) n) : QE X T tb .i (.BoolOp .Or (a :: b :: rest) pos) (orV m n) := imp_e (pe_or ha hb) fun σ H Q h => by
  obtain ⟨E, O, s, d, sm, hm, q⟩ := h
  unfold orV at hm
  obtain ⟨x, hx, hm⟩ := Option.bind_eq_some_iff.mp hm
  obtain ⟨c, hc, hm⟩ := Option.bind_eq_some_iff.mp hm
  refine ⟨E, O, s, x, sm, hx, fun v H' e r => ?_⟩
  obtain rfl := boolD_some hc
  rw [r.toR.bool]
  refine ⟨_, rfl, ?_⟩
  cases c with
  | true => cases hm; exact iteT (q _ H' e (.bl true))
  | false => exact iteF ⟨E, O, s, d, sm.ext e, hm, fun w H2 e2 r2 => q w H2 (e.trans e2) r2⟩
theorem q_not {a : Expr} {pos : Pos} {k : Kd} {m : S → Option D} (ha : QE X T tb k a m) : QE X T tb .i (.UnaryOp .Not a pos) (notV m) := imp_e (pe_not ha) fun σ H Q h => by
  obtain ⟨E, O, s, d, sm, hm, q⟩ := h
  unfold notV at hm
  obtain ⟨x, hx, hm⟩ := Option.bind_eq_some_iff.mp hm
  obtain ⟨c, hc, hm⟩ := Option.bind_eq_some_iff.mp hm
  refine ⟨E, O, s, x, sm, hx, fun v H' e r => ?_⟩
  obtain rfl := boolD_some hc
  cases hm
  rw [r.toR.bool]
  exact ⟨_, rfl, q _ H' e (.bl _)⟩
theorem q_if {c a b : Expr} {pos : Pos} {k : Kd} {t : S → Option Bool} {m n : S → Option D} (hc : QT X T tb c t) (ha : QE X T tb k a m) (hb : QE X T tb k b n) : QE X T tb k (.IfExp c a b pos) (ifM t m n) := imp_e (pe_ifExp hc ha hb) fun σ H Q h => by
  obtain ⟨E, O, s, d, sm, hm, q⟩ := h
  unfold ifM at hm
  obtain ⟨c, hc, hm⟩ := Option.bind_eq_some_iff.mp hm
  refine ⟨E, O, s, c, sm, hc, fun H' e => ?_⟩
  cases c with
  | true => exact iteT ⟨E, O, s, d, sm.ext e, hm, fun w H2 e2 r2 => q w H2 (e.trans e2) (r2.from e)⟩
  | false => exact iteF ⟨E, O, s, d, sm.ext e, hm, fun w H2 e2 r2 => q w H2 (e.trans e2) (r2.from e)⟩
theorem op_chain {r r' : R2} {g h : D → D → Option D} {ka kb kc : Kd} {ma mb mc : S → Option D}
    (hs : ∀ (O : List Addr) (H : Hp) (x y : V) (dx dy d : D) (Q : VK), (∀ a, a ∈ O → H a ≠ none) → Rr X.K O H x dx → Rr X.K O H y dy → g dx dy = some d → (∀ v H', Ex H H' → Res X.K O H H' v d .i → Q v H') → r x y H Q)
    (hs' : ∀ (O : List Addr) (H : Hp) (x y : V) (dx dy d : D) (Q : VK), (∀ a, a ∈ O → H a ≠ none) → Rr X.K O H x dx → Rr X.K O H y dy → h dx dy = some d → (∀ v H', Ex H H' → Res X.K O H H' v d .i → Q v H') → r' x y H Q)
    {σ : L2.St} {H : Hp} {Q : VK} (hq : tQ (Zo X T tb) .i (chainM g h ma mb mc) σ H Q) : tChain r r' (tQ (Zo X T tb) ka ma) (tQ (Zo X T tb) kb mb) (tQ (Zo X T tb) kc mc) σ H Q := by
  obtain ⟨E, O, s, d, sm, hm, q⟩ := hq
  unfold chainM at hm
  obtain ⟨x, hx, hm⟩ := Option.bind_eq_some_iff.mp hm
  obtain ⟨y, hy, hm⟩ := Option.bind_eq_some_iff.mp hm
  obtain ⟨z, hz, hm⟩ := Option.bind_eq_some_iff.mp hm
  obtain ⟨c, hc, hm5⟩ := Option.bind_eq_some_iff.mp hm
  refine ⟨E, O, s, x, sm, hx, fun v H1 e1 r1 => ⟨E, O, s, y, sm.ext e1, hy, fun u H2 e2 r2 => ?_⟩⟩
  have s2 := sm.ext (e1.trans e2)
  refine hs O H2 v u x y z _ s2.dom (r1.toR.ext e2) r2.toR hz fun w H3 e3 r3 => ?_
  obtain rfl := boolD_some hc
  have r3 : Rp X.K O H3 w (.bool _) := r3
  cases r3
  refine ⟨_, rfl, ?_⟩
  cases c with
  | true =>
    rw [if_pos rfl] at hm5
    obtain ⟨p, hp, hm6⟩ := Option.bind_eq_some_iff.mp hm5
    refine iteT ⟨E, O, s, p, s2.ext e3, hp, fun w H4 e4 r4 => ?_⟩
    exact hs' O H4 u w y p d Q (s2.ext (e3.trans e4)).dom (r2.toR.ext (e3.trans e4)) r4.toR hm6 fun w' H5 e5 r5 => q w' H5 (e1.trans (e2.trans (e3.trans (e4.trans e5)))) r5
  | false => cases hm5; exact iteF (q _ H3 (e1.trans (e2.trans e3)) (.bl false))
theorem q_chain {op op' : CmpOp} {g h : D → D → Option D} (ho : OpS X (compareOp op) .i g) (ho' : OpS X (compareOp op') .i h) {a b c : Expr} {pos : Pos} {ka kb kc : Kd} {ma mb mc : S → Option D} (ha : QE X T tb ka a ma) (hb : QE X T tb kb b mb) (hc : QE X T tb kc c mc)
    (hl : lastMarks [op, op'] [b, c] = false := by rfl) : QE X T tb .i (.Compare a [op, op'] [b, c] pos) (chainM g h ma mb mc) := by
  obtain ⟨r, ho, hs⟩ := ho
  obtain ⟨r', ho', hs'⟩ := ho'
  exact imp_e (pe_chain ho ho' ha hb hc hl) fun σ H Q h => op_chain hs hs' h
theorem q_un {op : UnaryOp} {k : Kd} {g : D → Option D} {r : V → Hp → VK → Prop} (ho : UnR X (unaryOp op) r)
    (hs : ∀ (O : List Addr) (H : Hp) (x : V) (dx d : D) (Q : VK), Rr X.K O H x dx → g dx = some d → (∀ v H', Ex H H' → Res X.K O H H' v d k → Q v H') → r x H Q)
    {a : Expr} {pos : Pos} {ka : Kd} {ma : S → Option D} (ha : QE X T tb ka a ma) : QE X T tb k (.UnaryOp op a pos) (op1 g ma) := imp_e (pe_un ho ha) fun σ H Q h => by
  obtain ⟨E, O, s, d, sm, hm, q⟩ := h
  unfold op1 at hm
  obtain ⟨x, hx, hm⟩ := Option.bind_eq_some_iff.mp hm
  exact ⟨E, O, s, x, sm, hx, fun v H1 e1 r1 => hs O H1 v x d Q r1.toR hm fun w H2 e2 r2 => q w H2 (e1.trans e2) (r2.from e1)⟩

/-! ## argument lists, displays -/
theorem a_nil {b : Bool} : QA X T tb b [] argN := imp_a pa_nil fun σ H Q h => by
  obtain ⟨E, O, s, d, sm, hm, q⟩ := h
  cases hm
  refine q [] H (Ex.refl H) ?_
  cases b with
  | true => exact Rps.nil
  | false => exact Rrs.nil
theorem a_consR {e : Expr} {es : List Expr} {k : Kd} {m : S → Option D} {n : S → Option (List D)} (ha : QE X T tb k e m) (hr : QA X T tb false es n) (hs : starEach (e :: es) X.env = (false, eval e X.env) :: starEach es X.env := by rfl) : QA X T tb false (e :: es) (argC m n) := imp_a (pa_cons ha hr hs) fun σ H Q h => by
  obtain ⟨E, O, s, d, sm, hm, q⟩ := h
  unfold argC at hm
  obtain ⟨x, hx, hm⟩ := Option.bind_eq_some_iff.mp hm
  obtain ⟨xs, hxs, hm⟩ := Option.bind_eq_some_iff.mp hm
  cases hm
  exact ⟨E, O, s, x, sm, hx, fun v H1 e1 r1 => ⟨E, O, s, xs, sm.ext e1, hxs, fun vs H2 e2 r2 => q (v :: vs) H2 (e1.trans e2) (Rrs.cons (r1.toR.ext e2) r2)⟩⟩
theorem a_consI {e : Expr} {es : List Expr} {k : Kd} {m : S → Option D} {n : S → Option (List D)} (ha : QE X T tb k e m) (hr : QA X T tb true es n) (nk : k ≠ .r := by decide) (hs : starEach (e :: es) X.env = (false, eval e X.env) :: starEach es X.env := by rfl) : QA X T tb true (e :: es) (argC m n) := imp_a (pa_cons ha hr hs) fun σ H Q h => by
  obtain ⟨E, O, s, d, sm, hm, q⟩ := h
  unfold argC at hm
  obtain ⟨x, hx, hm⟩ := Option.bind_eq_some_iff.mp hm
  obtain ⟨xs, hxs, hm⟩ := Option.bind_eq_some_iff.mp hm
  cases hm
  exact ⟨E, O, s, x, sm, hx, fun v H1 e1 r1 => ⟨E, O, s, xs, sm.ext e1, hxs, fun vs H2 e2 r2 => q (v :: vs) H2 (e1.trans e2) (Rps.cons ((r1.toI' nk).ext e2) r2)⟩⟩
theorem len_line {n : Nat} (h : n ≤ 10000) : n ≤ sizeLine := Nat.le_trans h (by decide)
theorem q_tup {es : List Expr} {x1 pos} {n : S → Option (List D)} (h : QA X T tb true es n) : QE X T tb .i (.Tuple es x1 pos) (tupM n) := imp_e (pe_tupZ h) fun σ H Q h => by
  obtain ⟨E, O, s, d, sm, hm, q⟩ := h
  unfold tupM at hm
  obtain ⟨xs, hxs, hm⟩ := Option.bind_eq_some_iff.mp hm
  split at hm
  · next hl =>
    cases hm
    refine ⟨E, O, s, xs, sm, hxs, fun vs H1 e1 r1 => ?_⟩
    have r1 : Rps X.K O H1 vs xs := r1
    refine ⟨by rw [r1.length]; exact len_line hl, fun p ob hp hd => ?_⟩
    have e2 : Ex H1 (upd H1 p ob) := Ex.new hp
    exact q _ _ (e1.trans e2) (.tup ⟨ob, upd_same, hd⟩ (r1.ext e2))
  · cases hm
theorem q_lst {es : List Expr} {pos} {n : S → Option (List D)} (h : QA X T tb true es n) : QE X T tb .o (.List es pos) (lstM n) := imp_e (pe_lst h) fun σ H Q h => by
  obtain ⟨E, O, s, d, sm, hm, q⟩ := h
  unfold lstM at hm
  obtain ⟨xs, hxs, hm⟩ := Option.bind_eq_some_iff.mp hm
  split at hm
  · next hl =>
    cases hm
    refine ⟨E, O, s, xs, sm, hxs, fun vs H1 e1 r1 => ?_⟩
    have r1 : Rps X.K O H1 vs xs := r1
    refine ⟨by rw [r1.length]; exact len_line hl, fun p hp => ?_⟩
    have e2 : Ex H1 (upd H1 p (.lst vs)) := Ex.new hp
    exact q _ _ (e1.trans e2) ⟨p, vs, xs, rfl, rfl, e1.back hp, fun m => sm.dom p m (e1.back hp), upd_same, r1.new hp e2⟩
  · cases hm

/-! ## slices, subscripts, calls of built-ins -/
theorem o_none : QO X T tb none pnM := imp_o po_none fun σ H Q h => by
  obtain ⟨E, O, s, d, sm, hm, q⟩ := h
  cases hm
  exact q H (Ex.refl H)
theorem o_some {e : Expr} {k : Kd} {m : S → Option D} (h : QE X T tb k e m) : QO X T tb (some e) (psM m) := imp_o (po_some h) fun σ H Q h => by
  obtain ⟨E, O, s, d, sm, hm, q⟩ := h
  unfold psM at hm
  obtain ⟨x, hx, hm⟩ := Option.bind_eq_some_iff.mp hm
  obtain ⟨i, hi, hm⟩ := Option.map_eq_some_iff.mp hm
  subst hm
  cases x <;> simp [intD] at hi
  subst hi
  exact ⟨E, O, s, _, sm, hx, fun v H1 e1 r1 => ⟨_, r1.toR.int, q H1 e1⟩⟩
def SlS (X : Cx) (k : Kd) (g : D → Option Int → Option Int → Option D) : Prop :=
  ∃ r : V → Option Int → Option Int → Hp → VK → Prop, SlR X r ∧ ∀ (O : List Addr) (H : Hp) (x : V) (dx d : D) (lo hi : Option Int) (Q : VK), (∀ a, a ∈ O → H a ≠ none) → Rr X.K O H x dx → g dx lo hi = some d → (∀ v H', Ex H H' → Res X.K O H H' v d k → Q v H') → r x lo hi H Q
theorem q_slice {k : Kd} {g : D → Option Int → Option Int → Option D} (h : SlS X k g) {e : Expr} {lo hi : Option Expr} {ke : Kd} {m : S → Option D} {l u : S → Option (Option Int)} {p2 pos : Pos} (he : QE X T tb ke e m) (hl : QO X T tb lo l) (hu : QO X T tb hi u) :
    QE X T tb k (.Subscript e (.Slice lo hi none p2) pos) (slM g m l u) := by
  obtain ⟨r, hr, hs⟩ := h
  refine imp_e (pe_slice hr he hl hu) fun σ H Q h => ?_
  obtain ⟨E, O, s, d, sm, hm, q⟩ := h
  unfold slM at hm
  obtain ⟨x, hx, hm⟩ := Option.bind_eq_some_iff.mp hm
  obtain ⟨l, hl, hm⟩ := Option.bind_eq_some_iff.mp hm
  obtain ⟨u, hu, hm⟩ := Option.bind_eq_some_iff.mp hm
  refine ⟨E, O, s, x, sm, hx, fun v H1 e1 r1 => ⟨E, O, s, l, sm.ext e1, hl, fun H2 e2 => ⟨E, O, s, u, sm.ext (e1.trans e2), hu, fun H3 e3 => ?_⟩⟩⟩
  exact hs O H3 v x d l u Q (sm.ext (e1.trans (e2.trans e3))).dom (r1.toR.ext (e2.trans e3)) hm fun w H4 e4 r4 => q w H4 (e1.trans (e2.trans (e3.trans e4))) (r4.from (e1.trans (e2.trans e3)))
def IxS (X : Cx) (k : Kd) (g : D → D → Option D) : Prop :=
  ∃ r : R2, IxR X r ∧ ∀ (O : List Addr) (H : Hp) (x y : V) (dx dy d : D) (Q : VK), (∀ a, a ∈ O → H a ≠ none) → Rr X.K O H x dx → Rr X.K O H y dy → g dx dy = some d → (∀ v H', Ex H H' → Res X.K O H H' v d k → Q v H') → r x y H Q
theorem q_ix {k : Kd} {g : D → D → Option D} (h : IxS X k g) {a b : Expr} {pos : Pos} {ka kb : Kd} {ma mb : S → Option D} (ha : QE X T tb ka a ma) (hb : QE X T tb kb b mb) (hs : PlainIx b := by exact fun _ _ => rfl) : QE X T tb k (.Subscript a b pos) (op2 g ma mb) := by
  obtain ⟨r, ho, hg⟩ := h
  exact imp_e (pe_ix ho ha hb hs) fun σ H Q h => op_two hg h
def CallS (X : Cx) (f : Value) (k : Kd) (g : List D → Option D) : Prop :=
  ∃ r : List V → Hp → VK → Prop, CallR X f r ∧ ∀ (O : List Addr) (H : Hp) (xs : List V) (ds : List D) (d : D) (Q : VK), (∀ a, a ∈ O → H a ≠ none) → Rrs X.K O H xs ds → g ds = some d → (∀ v H', Ex H H' → Res X.K O H H' v d k → Q v H') → r xs H Q
theorem call_two {r : List V → Hp → VK → Prop} {k : Kd} {g : List D → Option D} {b : Bool} {n : S → Option (List D)}
    (hs : ∀ (O : List Addr) (H : Hp) (xs : List V) (ds : List D) (d : D) (Q : VK), (∀ a, a ∈ O → H a ≠ none) → Rrs X.K O H xs ds → g ds = some d → (∀ v H', Ex H H' → Res X.K O H H' v d k → Q v H') → r xs H Q)
    {σ : L2.St} {H : Hp} {Q : VK} (h : tQ (Zo X T tb) k (callM g n) σ H Q) : tCB r (tAQ (Zo X T tb) b n) σ H Q := by
  obtain ⟨E, O, s, d, sm, hm, q⟩ := h
  unfold callM at hm
  obtain ⟨xs, hxs, hm⟩ := Option.bind_eq_some_iff.mp hm
  exact ⟨E, O, s, xs, sm, hxs, fun vs H1 e1 r1 => hs O H1 vs xs d Q (sm.ext e1).dom r1.toR hm fun w H2 e2 r2 => q w H2 (e1.trans e2) (r2.from e1)⟩
theorem q_callB {id : String} {k : Kd} {g : List D → Option D} (h : CallS X (.builtin id) k g) {x : Str} {p pos : Pos} {e : Expr} {es : List Expr} {b : Bool} {n : S → Option (List D)} (hg : Gl X x) (hm : X.mg x = none) (hv : bootBuiltins x = some (.builtin id)) (ha : QA X T tb b (e :: es) n) (hn : x ≠ "__name__" := by decide) (hdb : (x == ("__debug__" : Str)) = false := by decide)
    (he : starEach (e :: es) X.env = (false, eval e X.env) :: starEach es X.env := by rfl) (hpl : (backTo pos (starEach es X.env)).any (·.1) = false := by rfl) : QE X T tb k (.Call (.Name x p) (e :: es) [] pos) (callM g n) := by
  obtain ⟨r, hr, hs⟩ := h
  exact imp_e (pe_callB hr hg hm hv ha hn hdb he hpl) fun σ H Q h => call_two hs h
theorem q_callTy {t : String} {k : Kd} {g : List D → Option D} (h : CallS X (.type t) k g) {x : Str} {p pos : Pos} {e : Expr} {es : List Expr} {b : Bool} {n : S → Option (List D)} (hg : Gl X x) (hm : X.mg x = none) (hv : bootBuiltins x = some (.type t)) (ha : QA X T tb b (e :: es) n) (hn : x ≠ "__name__" := by decide) (hdb : (x == ("__debug__" : Str)) = false := by decide)
    (he : starEach (e :: es) X.env = (false, eval e X.env) :: starEach es X.env := by rfl) (hpl : (backTo pos (starEach es X.env)).any (·.1) = false := by rfl) : QE X T tb k (.Call (.Name x p) (e :: es) [] pos) (callM g n) := by
  obtain ⟨r, hr, hs⟩ := h
  exact imp_e (pe_callTy hr hg hm hv ha hn hdb he hpl) fun σ H Q h => call_two hs h
/-- a quiet method of a built-in type -/
def MtS (X : Cx) (tn : String) (id : String) (k : Kd) (g : D → List D → Option D) : Prop :=
  ∃ r : V → List V → Hp → VK → Prop, MtR X id r ∧ ∀ (O : List Addr) (H : Hp) (x : V) (xs : List V) (dx : D) (ds : List D) (d : D) (Q : VK), (∀ a, a ∈ O → H a ≠ none) → Rr X.K O H x dx → Rrs X.K O H xs ds → g dx ds = some d → (∀ v H', Ex H H' → Res X.K O H H' v d k → Q v H') → r x xs H Q
def methM (ok : D → Bool) (g : D → List D → Option D) (a : S → Option D) (r : S → Option (List D)) : S → Option D := fun s => (a s).bind fun x => if ok x = true then (r s).bind fun xs => g x xs else none
theorem q_meth {tn : String} {id : String} {k : Kd} {g : D → List D → Option D} {ok : D → Bool} (h : MtS X tn id k g) (hty : ∀ (O : List Addr) (H : Hp) (x : V) (d : D), ok d = true → Rr X.K O H x d → tyV X.K tn x H) {name : Str} {o e : Expr} {es : List Expr} {apos pos : Pos} {ko : Kd} {b : Bool} {m : S → Option D} {n : S → Option (List D)}
    (pa : PlainAttrs tn) (slot : Slot tn name id) (hd : typeOf (.builtin id) = pure (.type "method_descriptor")) (ho : QE X T tb ko o m) (ha : QA X T tb b (e :: es) n)
    (hp : ∀ {r : V → List V → Hp → VK → Prop}, MtR X id r → PE X (.Call (.Attribute o name apos) (e :: es) [] pos) (tBM X.K tn r (tQ (Zo X T tb) ko m) (tAQ (Zo X T tb) b n))) : QE X T tb k (.Call (.Attribute o name apos) (e :: es) [] pos) (methM ok g m n) := by
  obtain ⟨r, hr, hs⟩ := h
  refine imp_e (hp hr) fun σ H Q h => ?_
  obtain ⟨E, O, s, d, sm, hm, q⟩ := h
  unfold methM at hm
  obtain ⟨x, hx, hm⟩ := Option.bind_eq_some_iff.mp hm
  split at hm
  · next hok =>
    obtain ⟨xs, hxs, hm⟩ := Option.bind_eq_some_iff.mp hm
    refine ⟨E, O, s, x, sm, hx, fun v H1 e1 r1 => ⟨hty O H1 v x hok r1.toR, E, O, s, xs, sm.ext e1, hxs, fun vs H2 e2 r2 => ?_⟩⟩
    exact hs O H2 v vs x xs d Q (sm.ext (e1.trans e2)).dom (r1.toR.ext e2) r2.toR hm fun w H3 e3 r3 => q w H3 (e1.trans (e2.trans e3)) (r3.from (e1.trans e2))
  · cases hm
end
end Y

namespace Y
open PySem PySem.Spec PyProof.Rows L2

/-! ## operations on data -/
def tooLong (a b : List D) : Bool := Nat.ble (a.length + b.length) 1000000
def addD : D → D → Option D
  | .int i, .int j => some (.int (i + j))
  | .tuple a, .tuple b => if tooLong a b = true then some (.tuple (a ++ b)) else none
  | .list a, .list b => if tooLong a b = true then some (.list (a ++ b)) else none
  | _, _ => none
def addL : D → D → Option D
  | .list a, .list b => if tooLong a b = true then some (.list (a ++ b)) else none
  | _, _ => none
def subD : D → D → Option D
  | .int i, .int j => some (.int (i - j))
  | _, _ => none
def big (n : Nat) : Bool := Nat.blt n (2 ^ 6000)
theorem big_log {n : Nat} (h : big n = true) : n.log2 < 6001 := by
  have h1 : n < 2 ^ 6000 := by simpa [big] using h
  by_cases h0 : n = 0
  · subst h0; decide
  · have := (Nat.log2_lt h0).mpr h1
    omega
def mulD : D → D → Option D
  | .int i, .int j => if (big i.natAbs && big j.natAbs) = true then some (.int (i * j)) else none
  | _, _ => none
def divD : D → D → Option D
  | .int i, .int j => if (decide (0 < j) && big j.natAbs) = true then some (.int (i / j)) else none
  | _, _ => none
def modD : D → D → Option D
  | .int i, .int j => if decide (0 < j) = true then some (.int (i % j)) else none
  | _, _ => none
def powD : D → D → Option D
  | .int i, .int j => if (decide (0 ≤ j) && Nat.ble j.natAbs 1000 && Nat.ble i.natAbs 1000) = true then some (.int (i ^ j.toNat)) else none
  | _, _ => none
def shlD : D → D → Option D
  | .int i, .int j => if (decide (0 ≤ j) && Nat.ble j.natAbs 1000 && Nat.ble i.natAbs 1000) = true then some (.int (i * 2 ^ j.toNat)) else none
  | _, _ => none
def cmpD (f : Int → Int → Bool) : D → D → Option D
  | .int i, .int j => some (.bool (f i j))
  | _, _ => none
def ltD := cmpD fun i j => decide (i < j)
def leD := cmpD fun i j => decide (i ≤ j)
def gtD := cmpD fun i j => decide (j < i)
def geD := cmpD fun i j => decide (j ≤ i)
def eqD : D → D → Option D
  | .int i, .int j => some (.bool (i == j))
  | .bool i, .bool j => some (.bool (i == j))
  | .str i, .str j => some (.bool (i == j))
  | d, e => if (SeqAt.shaped d && SeqAt.shaped e) = true then some (.bool (PyData.eqv d e)) else none
def neD : D → D → Option D
  | .int i, .int j => some (.bool (!(i == j)))
  | .bool i, .bool j => some (.bool (!(i == j)))
  | .str i, .str j => some (.bool (!(i == j)))
  | d, e => if (SeqAt.shaped d && SeqAt.shaped e) = true then some (.bool (!PyData.eqv d e)) else none
def negD : D → Option D
  | .int i => some (.int (-i))
  | _ => none
def isN : D → D → Option D
  | .none, .none => some (.bool true)
  | _, .none => some (.bool false)
  | _, _ => none
def notN : D → D → Option D
  | .none, .none => some (.bool false)
  | _, .none => some (.bool true)
  | _, _ => none
/-- flat items -/
def flatD : D → Bool
  | .none => true
  | .bool _ => true
  | .int _ => true
  | .str _ => true
  | _ => false
def seqD : D → Option (List D)
  | .list ds => some ds
  | .tuple ds => some ds
  | _ => none
def allInt (ds : List D) : Bool := ds.all fun d => match d with
  | .int _ => true
  | _ => false
/-- x in xs: ints among ints; else a list of any data -/
def inD (neg : Bool) : D → D → Option D := fun x y =>
  match x, y with
  | .int i, .tuple ds => if allInt ds = true then some (.bool (neg ^^ ds.any fun d => PyData.eqv d (.int i))) else none
  | x, .list ds => if (SeqAt.shaped x && SeqAt.shaped (.list ds)) = true then some (.bool (neg ^^ ds.any fun d => PyData.eqv d x)) else none
  | _, _ => none
def ixD : D → D → Option D
  | .list ds, .int i => atI ds i
  | .tuple ds, .int i => atI ds i
  | _, _ => none
def cutD (ds : List D) (lo hi : Option Int) : List D := (ds.drop (HT.sIx ds.length 0 lo)).take (HT.sIx ds.length ds.length hi - HT.sIx ds.length 0 lo)
def slD : D → Option Int → Option Int → Option D
  | .tuple ds, lo, hi => some (.tuple (cutD ds lo hi))
  | .list ds, lo, hi => some (.list (cutD ds lo hi))
  | _, _, _ => none
def slL : D → Option Int → Option Int → Option D
  | .list ds, lo, hi => some (.list (cutD ds lo hi))
  | _, _, _ => none

section
variable {X : Cx}
theorem line_ok {n : Nat} (h : n ≤ 1000000) : n ≤ sizeLine := Nat.le_trans h (by decide)
theorem opS_or {f : Value → Value → Sem Value} {r r' : R2} {k : Kd} {g : D → D → Option D} (h : OpR X f r) (h' : OpR X f r')
    (hs : ∀ (O : List Addr) (H : Hp) (x y : V) (dx dy d : D) (Q : VK), (∀ a, a ∈ O → H a ≠ none) → Rr X.K O H x dx → Rr X.K O H y dy → g dx dy = some d → (∀ v H', Ex H H' → Res X.K O H H' v d k → Q v H') → r x y H Q ∨ r' x y H Q) : OpS X f k g :=
  ⟨_, h.or h', hs⟩
theorem opS_int {f : Value → Value → Sem Value} {C : Int → Int → Prop} {g : Int → Int → Int} {gd : D → D → Option D} (h : OpR X f (rI C fun i j => .int (g i j)))
    (hg : ∀ x y d, gd x y = some d → ∃ i j, x = .int i ∧ y = .int j ∧ C i j ∧ d = .int (g i j)) : OpS X f .i gd :=
  ⟨_, h, fun O H x y dx dy d Q dom rx ry e k => by
    obtain ⟨i, j, rfl, rfl, hc, rfl⟩ := hg _ _ _ e
    exact ⟨i, j, rx.int, ry.int, hc, k _ H (Ex.refl H) (.int _)⟩⟩
theorem op_of0 {f : Value → Value → Sem Value} {g : Int → Int → V} (h : OpR X f (rI0 g)) : OpR X f (rI (fun _ _ => True) g) := fun pins s σ H x y v u Q I rx ry ⟨i, j, e1, e2, _, q⟩ => h pins s σ H x y v u Q I rx ry ⟨i, j, e1, e2, q⟩
theorem opS_cmp {f : Value → Value → Sem Value} {g : Int → Int → Bool} (h : OpR X f (rI0 fun i j => .bl (g i j))) : OpS X f .i (cmpD g) :=
  ⟨_, h, fun O H x y dx dy d Q dom rx ry e k => by
    unfold cmpD at e
    split at e
    · next i j => cases e; exact ⟨i, j, rx.int, ry.int, k _ H (Ex.refl H) (.bl _)⟩
    · cases e⟩
theorem opS_lt : OpS X (compareOp .Lt) .i ltD := opS_cmp op_lt
theorem opS_le : OpS X (compareOp .LtE) .i leD := opS_cmp op_le
theorem opS_gt : OpS X (compareOp .Gt) .i gtD := opS_cmp op_gt
theorem opS_ge : OpS X (compareOp .GtE) .i geD := opS_cmp op_ge
theorem opS_sub : OpS X (binaryOp .Sub) .i subD := opS_int (op_of0 op_sub) fun x y d e => by
  unfold subD at e
  split at e
  · next i j => cases e; exact ⟨i, j, rfl, rfl, trivial, rfl⟩
  · cases e
theorem opS_mul : OpS X (binaryOp .Mult) .i mulD := opS_int op_mulW fun x y d e => by
  unfold mulD at e
  split at e
  · next i j =>
    split at e
    · next c =>
      cases e
      rw [Bool.and_eq_true] at c
      have h1 := big_log c.1
      have h2 := big_log c.2
      exact ⟨i, j, rfl, rfl, (by unfold CMulW; omega), rfl⟩
    · cases e
  · cases e
theorem opS_div : OpS X (binaryOp .FloorDiv) .i divD := opS_int op_fdivW fun x y d e => by
  unfold divD at e
  split at e
  · next i j =>
    split at e
    · next c =>
      cases e
      rw [Bool.and_eq_true, decide_eq_true_eq] at c
      have h2 := big_log c.2
      exact ⟨i, j, rfl, rfl, ⟨c.1, by omega⟩, rfl⟩
    · cases e
  · cases e
theorem opS_mod : OpS X (binaryOp .Mod) .i modD := opS_int op_mod fun x y d e => by
  unfold modD at e
  split at e
  · next i j =>
    split at e
    · next c => cases e; exact ⟨i, j, rfl, rfl, of_decide_eq_true c, rfl⟩
    · cases e
  · cases e
theorem small_pow {i j : Int} (h : (decide (0 ≤ j) && Nat.ble j.natAbs 1000 && Nat.ble i.natAbs 1000) = true) : CPow i j := by
  simp only [Bool.and_eq_true, decide_eq_true_eq, Nat.ble_eq] at h
  exact ⟨h.1.1, by omega, Nat.lt_of_le_of_lt h.2 (by decide)⟩
theorem opS_pow : OpS X (binaryOp .Pow) .i powD := opS_int op_pow fun x y d e => by
  unfold powD at e
  split at e
  · next i j =>
    split at e
    · next c => cases e; exact ⟨i, j, rfl, rfl, small_pow c, rfl⟩
    · cases e
  · cases e
theorem opS_shl : OpS X (binaryOp .LShift) .i shlD := opS_int op_shl fun x y d e => by
  unfold shlD at e
  split at e
  · next i j =>
    split at e
    · next c => cases e; exact ⟨i, j, rfl, rfl, small_pow c, rfl⟩
    · cases e
  · cases e
theorem q_neg {T : List (Addr × Str)} {tb : Bool} {a : Expr} {pos : Pos} {ka : Kd} {ma : S → Option D} (ha : QE X T tb ka a ma) : QE X T tb .i (.UnaryOp .USub a pos) (op1 negD ma) := q_un un_neg (fun O H x dx d Q rx e k => by
  unfold negD at e
  split at e
  · next i => cases e; exact ⟨i, rx.int, k _ H (Ex.refl H) (.int _)⟩
  · cases e) ha
theorem opS_add : OpS X (binaryOp .Add) .i addD := opS_or op_add (op_catZ.or op_cat) fun O H x y dx dy d Q dom rx ry e k => by
  unfold addD at e
  split at e
  · next i j => cases e; exact .inl ⟨i, j, rx.int, ry.int, k _ H (Ex.refl H) (.int _)⟩
  · next a b =>
    split at e
    · next c =>
      cases e
      have c : a.length + b.length ≤ 1000000 := by simpa [tooLong, Nat.ble_eq] using c
      obtain ⟨p, xs, rfl, hx, ra⟩ := rx.tupleZ
      obtain ⟨q, ys, rfl, hy, rb⟩ := ry.tupleZ
      refine .inr (.inl ⟨p, q, xs, ys, rfl, rfl, hx.t, hy.t, by rw [ra.length, rb.length]; exact line_ok c, fun e0 => ?_, fun _ e1 => ?_, fun _ _ w ob hw hd => ?_⟩)
      · subst e0
        cases ra
        exact k _ H (Ex.refl H) (.tup hy rb)
      · subst e1
        cases rb
        rw [List.append_nil] at k
        exact k _ H (Ex.refl H) (.tup hx ra)
      · have e2 : Ex H (upd H w ob) := Ex.new hw
        exact k _ _ e2 (.tup ⟨ob, upd_same, hd⟩ ((ra.ext e2).append (rb.ext e2)))
    · cases e
  · next a b =>
    split at e
    · next c =>
      cases e
      have c : a.length + b.length ≤ 1000000 := by simpa [tooLong, Nat.ble_eq] using c
      obtain ⟨p, xs, rfl, hx, ra⟩ := rx.list
      obtain ⟨q, ys, rfl, hy, rb⟩ := ry.list
      refine .inr (.inr ⟨p, q, xs, ys, rfl, rfl, hx, hy, by rw [ra.length, rb.length]; exact line_ok c, fun w hw => ?_⟩)
      have e2 : Ex H (upd H w (.lst (xs ++ ys))) := Ex.new hw
      exact k _ _ e2 (.lst upd_same (fun m => dom w m hw) ((ra.ext e2).append (rb.ext e2)))
    · cases e
  · cases e
theorem opS_addL : OpS X (binaryOp .Add) .o addL := ⟨_, op_cat, fun O H x y dx dy d Q dom rx ry e k => by
  unfold addL at e
  split at e
  · next a b =>
    split at e
    · next c =>
      cases e
      have c : a.length + b.length ≤ 1000000 := by simpa [tooLong, Nat.ble_eq] using c
      obtain ⟨p, xs, rfl, hx, ra⟩ := rx.list
      obtain ⟨q, ys, rfl, hy, rb⟩ := ry.list
      refine ⟨p, q, xs, ys, rfl, rfl, hx, hy, by rw [ra.length, rb.length]; exact line_ok c, fun w hw => ?_⟩
      have e2 : Ex H (upd H w (.lst (xs ++ ys))) := Ex.new hw
      exact k _ _ e2 ⟨w, _, _, rfl, rfl, hw, fun m => dom w m hw, upd_same, (ra.new hw e2).append (rb.new hw e2)⟩
    · cases e
  · cases e⟩
theorem opS_eq (hu : X.A.units + 64 < cLine) : OpS X (compareOp .Eq) .i eqD := opS_or op_eq (op_eqD hu) fun O H x y dx dy d Q dom rx ry e k => by
  unfold eqD at e
  split at e
  · next i j =>
    cases e
    rw [rx.int, ry.int]
    refine .inl ⟨rfl, ?_⟩
    rw [dec_int]
    exact k _ H (Ex.refl H) (.bl _)
  · next i j =>
    cases e
    rw [rx.bool, ry.bool]
    refine .inl ⟨rfl, ?_⟩
    rw [dec_bl]
    exact k _ H (Ex.refl H) (.bl _)
  · next i j =>
    cases e
    rw [rx.str, ry.str]
    refine .inl ⟨rfl, ?_⟩
    rw [dec_str]
    exact k _ H (Ex.refl H) (.bl _)
  · split at e
    · next c =>
      cases e
      rw [Bool.and_eq_true] at c
      exact .inr ⟨_, _, rx.dp (SeqAt.canLay_of_shaped c.1), ry.dp (SeqAt.canLay_of_shaped c.2), c.1, c.2, k _ H (Ex.refl H) (.bl _)⟩
    · cases e
theorem opS_ne (hu : X.A.units + 64 < cLine) : OpS X (compareOp .NotEq) .i neD := opS_or op_ne (op_neD hu) fun O H x y dx dy d Q dom rx ry e k => by
  unfold neD at e
  split at e
  · next i j =>
    cases e
    rw [rx.int, ry.int]
    refine .inl ⟨rfl, ?_⟩
    rw [dec_int]
    exact k _ H (Ex.refl H) (.bl _)
  · next i j =>
    cases e
    rw [rx.bool, ry.bool]
    refine .inl ⟨rfl, ?_⟩
    rw [dec_bl]
    exact k _ H (Ex.refl H) (.bl _)
  · next i j =>
    cases e
    rw [rx.str, ry.str]
    refine .inl ⟨rfl, ?_⟩
    rw [dec_str]
    exact k _ H (Ex.refl H) (.bl _)
  · split at e
    · next c =>
      cases e
      rw [Bool.and_eq_true] at c
      exact .inr ⟨_, _, rx.dp (SeqAt.canLay_of_shaped c.1), ry.dp (SeqAt.canLay_of_shaped c.2), c.1, c.2, k _ H (Ex.refl H) (.bl _)⟩
    · cases e
theorem non_iff {K : Fg} {O : List Addr} {H : Hp} {x : V} {d : D} (r : Rr K O H x d) (h : d ≠ .none) : decide (x = .non) = false := by
  apply decide_eq_false
  rintro rfl
  rcases r with r | ⟨_, _, _, e, _⟩ | ⟨_, _, _, _, e, _⟩
  · cases r; exact h rfl
  · cases e
  · cases e
theorem opS_isN : OpS X (compareOp .Is) .i isN := ⟨_, op_isN, fun O H x y dx dy d Q dom rx ry e k => by
  unfold isN at e
  split at e
  · cases e
    rw [rx.none, ry.none]
    exact ⟨rfl, k _ H (Ex.refl H) (.bl _)⟩
  · next h =>
    cases e
    rw [ry.none]
    refine ⟨rfl, ?_⟩
    rw [non_iff rx (by intro z; subst z; simp at h)]
    exact k _ H (Ex.refl H) (.bl _)
  · cases e⟩
theorem opS_notN : OpS X (compareOp .IsNot) .i notN := ⟨_, op_notN, fun O H x y dx dy d Q dom rx ry e k => by
  unfold notN at e
  split at e
  · cases e
    rw [rx.none, ry.none]
    exact ⟨rfl, k _ H (Ex.refl H) (.bl _)⟩
  · next h =>
    cases e
    rw [ry.none]
    refine ⟨rfl, ?_⟩
    rw [non_iff rx (by intro z; subst z; simp at h)]
    exact k _ H (Ex.refl H) (.bl _)
  · cases e⟩
theorem inV_ints {K : Fg} {O : List Addr} {H : Hp} (i : Int) : ∀ {vs : List V} {ds : List D}, Rps K O H vs ds → allInt ds = true → vs.all flatV = true ∧ inV (.int i) vs = ds.any fun d => PyData.eqv d (.int i)
  | _, _, .nil, _ => ⟨rfl, rfl⟩
  | _, _, .cons (d := d) h r, n => by
    unfold allInt at n
    rw [List.all_cons, Bool.and_eq_true] at n
    cases d <;> simp at n
    cases h
    obtain ⟨h1, h2⟩ := inV_ints i r (by unfold allInt; rw [List.all_eq_true]; exact fun d hd => by simpa using n d hd)
    refine ⟨by rw [List.all_cons, h1]; rfl, ?_⟩
    unfold inV at h2 ⊢
    rw [List.any_cons, List.any_cons, h2]
    congr 1
theorem opS_in (hu : X.A.units + 65 < cLine) : OpS X (compareOp .In) .i (inD false) := opS_or op_in_seq (op_inD hu) fun O H x y dx dy d Q dom rx ry e k => by
  unfold inD at e
  split at e
  · next i ds =>
    split at e
    · next c =>
      cases e
      obtain ⟨p, xs, rfl, hx, ra⟩ := ry.tuple
      obtain ⟨h1, h2⟩ := inV_ints i ra c
      rw [rx.int]
      refine .inl ⟨p, xs, rfl, .inr hx, rfl, h1, ?_⟩
      rw [h2]
      simp only [Bool.false_xor] at k
      exact k _ H (Ex.refl H) (.bl _)
    · cases e
  · split at e
    · next c =>
      cases e
      rw [Bool.and_eq_true] at c
      simp only [Bool.false_xor] at k
      exact .inr ⟨_, _, rx.dp (SeqAt.canLay_of_shaped c.1), ry.dp (SeqAt.canLay_of_shaped c.2), c.1, c.2, k _ H (Ex.refl H) (.bl _)⟩
    · cases e
  · cases e
theorem opS_notIn (hu : X.A.units + 65 < cLine) : OpS X (compareOp .NotIn) .i (inD true) := opS_or op_notIn_seq (op_notInD hu) fun O H x y dx dy d Q dom rx ry e k => by
  unfold inD at e
  split at e
  · next i ds =>
    split at e
    · next c =>
      cases e
      obtain ⟨p, xs, rfl, hx, ra⟩ := ry.tuple
      obtain ⟨h1, h2⟩ := inV_ints i ra c
      rw [rx.int]
      refine .inl ⟨p, xs, rfl, .inr hx, rfl, h1, ?_⟩
      rw [h2]
      simp only [Bool.true_xor] at k
      exact k _ H (Ex.refl H) (.bl _)
    · cases e
  · split at e
    · next c =>
      cases e
      rw [Bool.and_eq_true] at c
      simp only [Bool.true_xor] at k
      exact .inr ⟨_, _, rx.dp (SeqAt.canLay_of_shaped c.1), ry.dp (SeqAt.canLay_of_shaped c.2), c.1, c.2, k _ H (Ex.refl H) (.bl _)⟩
    · cases e
  · cases e
theorem atI_rps {K : Fg} {O : List Addr} {H : Hp} {vs : List V} {ds : List D} {i : Int} {d : D} (r : Rps K O H vs ds) (h : atI ds i = some d) : ∃ v, atI vs i = some v ∧ Rp K O H v d := by
  unfold atI at h ⊢
  obtain ⟨j, hj, h⟩ := Option.bind_eq_some_iff.mp h
  obtain ⟨v, h1, h2⟩ := r.get h
  refine ⟨v, ?_, h2⟩
  rw [r.length, hj]
  exact h1
theorem ixS : IxS X .i ixD := ⟨_, ix_list.or ix_tup, fun O H x y dx dy d Q dom rx ry e k => by
  unfold ixD at e
  split at e
  · next ds i =>
    obtain ⟨p, xs, rfl, hx, ra⟩ := rx.list
    obtain ⟨v, h1, h2⟩ := atI_rps ra e
    rw [ry.int]
    exact .inl ⟨p, xs, i, v, rfl, rfl, SqL.of hx, h1, k v H (Ex.refl H) h2⟩
  · next ds i =>
    obtain ⟨p, xs, rfl, hx, ra⟩ := rx.tuple
    obtain ⟨v, h1, h2⟩ := atI_rps ra e
    rw [ry.int]
    exact .inr ⟨p, xs, i, v, rfl, rfl, hx, h1, k v H (Ex.refl H) h2⟩
  · cases e⟩
theorem cut_rps {K : Fg} {O : List Addr} {H : Hp} {vs : List V} {ds : List D} (lo hi : Option Int) (r : Rps K O H vs ds) : Rps K O H (cutV vs lo hi) (cutD ds lo hi) := by
  unfold cutV cutD
  rw [r.length]
  exact (r.drop _).take _
theorem cut_whole {ds : List D} {lo hi : Option Int} (h : HT.sIx ds.length 0 lo = 0 ∧ HT.sIx ds.length ds.length hi = ds.length) : cutD ds lo hi = ds := by
  unfold cutD
  rw [h.1, h.2]
  simp
theorem slS : SlS X .i slD := ⟨_, sl_tupZ.or sl_list, fun O H x dx d lo hi Q dom rx e k => by
  cases dx with
  | tuple ds =>
    cases e
    obtain ⟨p, xs, rfl, hx, ra⟩ := rx.tupleZ
    refine .inl ⟨p, xs, rfl, hx.t, fun h => ?_, fun _ w ob hw hd => ?_⟩
    · rw [ra.length] at h
      rw [cut_whole h] at k
      exact k _ H (Ex.refl H) (.tup hx ra)
    · have e2 : Ex H (upd H w ob) := Ex.new hw
      exact k _ _ e2 (.tup ⟨ob, upd_same, hd⟩ ((cut_rps lo hi ra).ext e2))
  | list ds =>
    cases e
    obtain ⟨p, xs, rfl, hx, ra⟩ := rx.list
    refine .inr ⟨p, xs, rfl, SqL.of hx, fun w hw => ?_⟩
    have e2 : Ex H (upd H w (.lst (cutV xs lo hi))) := Ex.new hw
    exact k _ _ e2 (.lst upd_same (fun m => dom w m hw) ((cut_rps lo hi ra).ext e2))
  | _ => cases e⟩
theorem slSL : SlS X .o slL := ⟨_, sl_list, fun O H x dx d lo hi Q dom rx e k => by
  cases dx with
  | list ds =>
    cases e
    obtain ⟨p, xs, rfl, hx, ra⟩ := rx.list
    refine ⟨p, xs, rfl, SqL.of hx, fun w hw => ?_⟩
    have e2 : Ex H (upd H w (.lst (cutV xs lo hi))) := Ex.new hw
    exact k _ _ e2 ⟨w, _, _, rfl, rfl, hw, fun m => dom w m hw, upd_same, (cut_rps lo hi ra).new hw e2⟩
  | _ => cases e⟩

/-! ## built-ins -/
def lenD : List D → Option D
  | [.list ds] => some (.int (ds.length : Int))
  | [.tuple ds] => some (.int (ds.length : Int))
  | _ => none
def absD : List D → Option D
  | [.int i] => some (.int (if i < 0 then -i else i))
  | _ => none
def int1D : List D → Option D
  | [.int i] => some (.int i)
  | _ => none
def tupleD : List D → Option D
  | [.list ds] => some (.tuple ds)
  | [.tuple ds] => some (.tuple ds)
  | _ => none
def listD : List D → Option D
  | [.list ds] => some (.list ds)
  | [.tuple ds] => some (.list ds)
  | _ => none
def max2D : List D → Option D
  | [.int i, .int j] => some (.int (if j > i then j else i))
  | _ => none
def min2D : List D → Option D
  | [.int i, .int j] => some (.int (if j < i then j else i))
  | _ => none
def intsD : List D → Option (List Int)
  | [] => some []
  | .int i :: r => (intsD r).map (i :: ·)
  | _ => none
def sumD : List D → Option D
  | [.list ds] => (intsD ds).map fun ns => .int ns.sum
  | _ => none
def boolsD : List D → Option (List Bool)
  | [] => some []
  | .bool i :: r => (boolsD r).map (i :: ·)
  | _ => none
def anyD : List D → Option D
  | [.list ds] => (boolsD ds).map fun ns => .bool (ns.any id)
  | _ => none
def allD : List D → Option D
  | [.list ds] => (boolsD ds).map fun ns => .bool (ns.all id)
  | _ => none
theorem intsD_some : ∀ {ds : List D} {ns : List Int}, intsD ds = some ns → ds = ns.map PyData.int
  | [], ns, h => by cases h; rfl
  | .int i :: r, ns, h => by
    unfold intsD at h
    obtain ⟨ms, h1, rfl⟩ := Option.map_eq_some_iff.mp h
    rw [intsD_some h1]; rfl
  | .none :: _, _, h => by simp [intsD] at h
  | .bool _ :: _, _, h => by simp [intsD] at h
  | .str _ :: _, _, h => by simp [intsD] at h
  | .list _ :: _, _, h => by simp [intsD] at h
  | .tuple _ :: _, _, h => by simp [intsD] at h
  | .dict _ :: _, _, h => by simp [intsD] at h
theorem intsD_of (ns : List Int) : intsD (ns.map PyData.int) = some ns := by
  induction ns with
  | nil => rfl
  | cons n r ih => simp [intsD, ih]
theorem boolsD_some : ∀ {ds : List D} {ns : List Bool}, boolsD ds = some ns → ds = ns.map PyData.bool
  | [], ns, h => by cases h; rfl
  | .bool i :: r, ns, h => by
    unfold boolsD at h
    obtain ⟨ms, h1, rfl⟩ := Option.map_eq_some_iff.mp h
    rw [boolsD_some h1]; rfl
  | .none :: _, _, h => by simp [boolsD] at h
  | .int _ :: _, _, h => by simp [boolsD] at h
  | .str _ :: _, _, h => by simp [boolsD] at h
  | .list _ :: _, _, h => by simp [boolsD] at h
  | .tuple _ :: _, _, h => by simp [boolsD] at h
  | .dict _ :: _, _, h => by simp [boolsD] at h
theorem rrs1 {K : Fg} {O : List Addr} {H : Hp} {xs : List V} {d : D} (h : Rrs K O H xs [d]) : ∃ x, xs = [x] ∧ Rr K O H x d := by
  cases h with
  | cons h r => cases r; exact ⟨_, rfl, h⟩
theorem rrs2 {K : Fg} {O : List Addr} {H : Hp} {xs : List V} {d e : D} (h : Rrs K O H xs [d, e]) : ∃ x y, xs = [x, y] ∧ Rr K O H x d ∧ Rr K O H y e := by
  cases h with
  | cons h r => obtain ⟨y, rfl, h2⟩ := rrs1 r; exact ⟨_, _, rfl, h, h2⟩
theorem cs_len : CallS X (.builtin "len") .i lenD := ⟨_, call_len_seq, fun O H xs ds d Q dom r e k => by
  unfold lenD at e
  split at e
  · next zs =>
    cases e
    obtain ⟨x, rfl, rx⟩ := rrs1 r
    obtain ⟨p, ys, rfl, hx, ra⟩ := rx.list
    refine ⟨p, ys, rfl, .inl (SqL.of hx), ?_⟩
    rw [ra.length]
    exact k _ H (Ex.refl H) (.int _)
  · next zs =>
    cases e
    obtain ⟨x, rfl, rx⟩ := rrs1 r
    obtain ⟨p, ys, rfl, hx, ra⟩ := rx.tuple
    refine ⟨p, ys, rfl, .inr hx, ?_⟩
    rw [ra.length]
    exact k _ H (Ex.refl H) (.int _)
  · cases e⟩
theorem cs_abs : CallS X (.builtin "abs") .i absD := ⟨_, call_abs, fun O H xs ds d Q dom r e k => by
  unfold absD at e
  split at e
  · next i =>
    cases e
    obtain ⟨x, rfl, rx⟩ := rrs1 r
    rw [rx.int]
    exact ⟨i, rfl, k _ H (Ex.refl H) (.int _)⟩
  · cases e⟩
theorem cs_int : CallS X (.type "int") .i int1D := ⟨_, call_int1, fun O H xs ds d Q dom r e k => by
  unfold int1D at e
  split at e
  · next i =>
    cases e
    obtain ⟨x, rfl, rx⟩ := rrs1 r
    rw [rx.int]
    exact .inl ⟨i, rfl, k _ H (Ex.refl H) (.int _)⟩
  · cases e⟩
theorem cs_tuple : CallS X (.type "tuple") .i tupleD := ⟨_, call_tupleZ, fun O H xs ds d Q dom r e k => by
  unfold tupleD at e
  split at e
  · next zs =>
    cases e
    obtain ⟨x, rfl, rx⟩ := rrs1 r
    obtain ⟨p, ys, rfl, hx, ra⟩ := rx.list
    refine ⟨p, ys, rfl, .inl ⟨SqL.of hx, fun w ob hw hd => ?_⟩⟩
    have e2 : Ex H (upd H w ob) := Ex.new hw
    exact k _ _ e2 (.tup ⟨ob, upd_same, hd⟩ (ra.ext e2))
  · next zs =>
    cases e
    obtain ⟨x, rfl, rx⟩ := rrs1 r
    obtain ⟨p, ys, rfl, hx, ra⟩ := rx.tupleZ
    exact ⟨p, ys, rfl, .inr ⟨hx.t, k _ H (Ex.refl H) (.tup hx ra)⟩⟩
  · cases e⟩
theorem cs_list : CallS X (.type "list") .o listD := ⟨_, call_list_of, fun O H xs ds d Q dom r e k => by
  unfold listD at e
  split at e
  · next zs =>
    cases e
    obtain ⟨x, rfl, rx⟩ := rrs1 r
    obtain ⟨p, ys, rfl, hx, ra⟩ := rx.list
    refine ⟨p, ys, rfl, .inl (SqL.of hx), fun w hw => ?_⟩
    have e2 : Ex H (upd H w (.lst ys)) := Ex.new hw
    exact k _ _ e2 ⟨w, _, _, rfl, rfl, hw, fun m => dom w m hw, upd_same, ra.new hw e2⟩
  · next zs =>
    cases e
    obtain ⟨x, rfl, rx⟩ := rrs1 r
    obtain ⟨p, ys, rfl, hx, ra⟩ := rx.tuple
    refine ⟨p, ys, rfl, .inr hx, fun w hw => ?_⟩
    have e2 : Ex H (upd H w (.lst ys)) := Ex.new hw
    exact k _ _ e2 ⟨w, _, _, rfl, rfl, hw, fun m => dom w m hw, upd_same, ra.new hw e2⟩
  · cases e⟩
theorem cs_max2 (hc : X.calm = true) : CallS X (.builtin "max") .i max2D := ⟨_, call_max2 hc, fun O H xs ds d Q dom r e k => by
  unfold max2D at e
  split at e
  · next i j =>
    cases e
    obtain ⟨x, y, rfl, rx, ry⟩ := rrs2 r
    rw [rx.int, ry.int]
    exact ⟨i, j, rfl, k _ H (Ex.refl H) (.int _)⟩
  · cases e⟩
theorem cs_min2 (hc : X.calm = true) : CallS X (.builtin "min") .i min2D := ⟨_, call_min2 hc, fun O H xs ds d Q dom r e k => by
  unfold min2D at e
  split at e
  · next i j =>
    cases e
    obtain ⟨x, y, rfl, rx, ry⟩ := rrs2 r
    rw [rx.int, ry.int]
    exact ⟨i, j, rfl, k _ H (Ex.refl H) (.int _)⟩
  · cases e⟩
theorem cs_sum (hc : X.calm = true) : CallS X (.builtin "sum") .i sumD := ⟨_, cr_sum hc, fun O H xs ds d Q dom r e k => by
  unfold sumD at e
  split at e
  · next zs =>
    obtain ⟨ns, h1, rfl⟩ := Option.map_eq_some_iff.mp e
    obtain ⟨x, rfl, rx⟩ := rrs1 r
    obtain ⟨p, ys, rfl, hx, ra⟩ := rx.list
    rw [intsD_some h1] at ra
    rw [rps_ints ra] at hx
    exact ⟨p, ns, rfl, SqL.of hx, k _ H (Ex.refl H) (.int _)⟩
  · cases e⟩
theorem cs_any (hc : X.calm = true) : CallS X (.builtin "any") .i anyD := ⟨_, cr_any hc, fun O H xs ds d Q dom r e k => by
  unfold anyD at e
  split at e
  · next zs =>
    obtain ⟨ns, h1, rfl⟩ := Option.map_eq_some_iff.mp e
    obtain ⟨x, rfl, rx⟩ := rrs1 r
    obtain ⟨p, ys, rfl, hx, ra⟩ := rx.list
    rw [boolsD_some h1] at ra
    rw [rps_bls ra] at hx
    exact ⟨p, ns, rfl, SqL.of hx, k _ H (Ex.refl H) (.bl _)⟩
  · cases e⟩
theorem cs_all (hc : X.calm = true) : CallS X (.builtin "all") .i allD := ⟨_, cr_all hc, fun O H xs ds d Q dom r e k => by
  unfold allD at e
  split at e
  · next zs =>
    obtain ⟨ns, h1, rfl⟩ := Option.map_eq_some_iff.mp e
    obtain ⟨x, rfl, rx⟩ := rrs1 r
    obtain ⟨p, ys, rfl, hx, ra⟩ := rx.list
    rw [boolsD_some h1] at ra
    rw [rps_bls ra] at hx
    exact ⟨p, ns, rfl, SqL.of hx, k _ H (Ex.refl H) (.bl _)⟩
  · cases e⟩
end
end Y

namespace Y
open PySem PySem.Spec PyProof.Rows L2

/-! ## changes of slots and heaps -/
theorem sl_set_same {σ : L2.St} {i : Nat} {v : Option V} (h : i < σ.length) : sl (σ.set i v) i = v := by
  unfold sl
  rw [List.getElem?_set_self h]
  cases v <;> rfl
theorem sl_set_ne {σ : L2.St} {i j : Nat} {v : Option V} (h : i ≠ j) : sl (σ.set i v) j = sl σ j := by unfold sl; rw [List.getElem?_set_ne h]
theorem lt_of_get {s : S} {i : Nat} {m : M} (h : s[i]? = some m) : i < s.length := (List.getElem?_eq_some_iff.mp h).1
/-- one slot is written: m stands over F1, all of it owned and in no other slot -/
theorem Sim.slot {Z : Zx} {E : Ent} {O : List Addr} {σ : L2.St} {H : Hp} {s : S} {i : Nat} {ov : Option V} {m : M} {F1 : List Addr} (h : Sim Z E O σ H s) (hi : i < s.length)
    (hm : SlotR Z.K E O H m ov F1) (hF : ∀ a, a ∈ F1 → a ∈ O) (hd : ∀ a, a ∈ F1 → ∀ j m' F, j ≠ i → s[j]? = some m' → SlotR Z.K E O H m' (sl σ j) F → a ∉ F) (hI : ∀ a, a ∈ F1 → E.Hi a = none) : Sim Z E O (σ.set i ov) H (s.set i m) := by
  obtain ⟨l, ⟨F, f1, f2, f3, f4⟩, d, sb, f, t, tbs, idl⟩ := h
  have hiσ : i < σ.length := by omega
  have apart : ∀ j a, j ≠ i → a ∈ F1 → a ∉ F j := fun j a c q r => by
    cases e : s[j]? with
    | none => rw [f2 j (List.getElem?_eq_none_iff.mp e)] at r; cases r
    | some m' => exact hd a q j m' _ c e (f1 j m' e) r
  refine ⟨by rw [List.length_set, List.length_set, l], ⟨fun j => if j = i then F1 else F j, fun j m' q => ?_, fun j q => ?_, fun j a q => ?_, fun j k a q r => ?_⟩, d, sb, f, t, tbs, fun a o q => ⟨(idl a o q).1, fun j m' e z => ?_⟩⟩
  rotate_right
  · by_cases c : j = i
    · subst c
      rw [List.getElem?_set_self hi] at e
      cases e
      rw [sl_set_same hiσ, ← hm.slF] at z
      have := hI a z
      rw [q] at this; cases this
    · rw [List.getElem?_set_ne (Ne.symm c)] at e
      rw [sl_set_ne (Ne.symm c)] at z
      exact (idl a o q).2 j m' e z
  · dsimp only
    by_cases c : j = i
    · rw [c] at q ⊢
      rw [List.getElem?_set_self hi] at q
      cases q
      rw [if_pos rfl, sl_set_same hiσ]
      exact hm
    · rw [List.getElem?_set_ne (Ne.symm c)] at q
      rw [if_neg c, sl_set_ne (Ne.symm c)]
      exact f1 j m' q
  · dsimp only
    rw [List.length_set] at q
    rw [if_neg (by omega)]
    exact f2 j q
  · dsimp only at q
    split at q
    · exact hF a q
    · exact f3 j a q
  · dsimp only at q r
    split at q <;> split at r
    · next c1 c2 => rw [c1, c2]
    · next c1 c2 => exact absurd r (apart k a c2 q)
    · next c1 c2 => exact absurd q (apart j a c1 r)
    · exact f4 j k a q r
theorem Sim.setI {Z : Zx} {E : Ent} {O : List Addr} {σ : L2.St} {H : Hp} {s : S} {i : Nat} {v : V} {d : D} (h : Sim Z E O σ H s) (hi : i < s.length) (r : Rp Z.K O H v d) : Sim Z E O (σ.set i (some v)) H (s.set i (.imm d)) :=
  h.slot hi (F1 := []) ⟨rfl, v, rfl, r⟩ (fun a q => by cases q) (fun a q => by cases q) (fun a q => by cases q)
theorem Sim.setN {Z : Zx} {E : Ent} {O : List Addr} {σ : L2.St} {H : Hp} {s : S} {i : Nat} (h : Sim Z E O σ H s) (hi : i < s.length) : Sim Z E O (σ.set i none) H (s.set i .un) :=
  h.slot hi (F1 := []) rfl (fun a q => by cases q) (fun a q => by cases q) (fun a q => by cases q)
theorem Sim.notIdle {Z : Zx} {E : Ent} {O : List Addr} {σ : L2.St} {H : Hp} {s : S} {a : Addr} (h : Sim Z E O σ H s) (n : a ∉ O) : E.Hi a = none := by
  cases e : E.Hi a with
  | none => rfl
  | some o => exact absurd (h.idle a o e).1.1 n
theorem Sim.slotIdle {Z : Zx} {E : Ent} {O : List Addr} {σ : L2.St} {H : Hp} {s : S} {a : Addr} {i : Nat} {m : M} {F : List Addr} (h : Sim Z E O σ H s) (e : s[i]? = some m) (r : SlotR Z.K E O H m (sl σ i) F) (ha : a ∈ F) : E.Hi a = none := by
  cases q : E.Hi a with
  | none => rfl
  | some o => exact absurd (r.slF ▸ ha) ((h.idle a o q).2 i m e)
theorem Sim.setO {Z : Zx} {E : Ent} {O : List Addr} {σ : L2.St} {H : Hp} {s : S} {i : Nat} {a : Addr} {vs : List V} {ds : List D} (h : Sim Z E O σ H s) (h2 : Sim Z E (a :: O) σ H s) (nO : a ∉ O) (hi : i < s.length) (ha : H a = some (.lst vs)) (n0 : E.H0 a = none) (r : Rps Z.K (a :: O) H vs ds) :
    Sim Z E (a :: O) (σ.set i (some (.ref a))) H (s.set i (.ol ds)) := by
  refine h2.slot hi (F1 := [a]) ⟨a, vs, rfl, rfl, ha, n0, r⟩ (fun b q => by rw [List.mem_singleton.mp q]; exact List.mem_cons_self) (fun b q j m' F c e hr => ?_) (fun b q => h.notIdle (by rw [List.mem_singleton.mp q]; exact nO))
  rw [List.mem_singleton.mp q]
  obtain ⟨G, g1, _, g3, _⟩ := h.own
  rw [hr.uniq (g1 j m' e)]
  exact fun z => nO (g3 j a z)
/-- a new object may be called owned -/
theorem Sim.grow {Z : Zx} {E : Ent} {O : List Addr} {σ : L2.St} {H H' : Hp} {s : S} {a : Addr} (h : Sim Z E O σ H s) (n : H a = none) (e : Ex H H') (ha : H' a ≠ none) : Sim Z E (a :: O) σ H' s := by
  obtain ⟨l, ⟨F, f1, f2, f3, f4⟩, d, sb, f, t, tbs, idl⟩ := h
  refine ⟨l, ⟨F, fun j m q => ?_, f2, fun j b q => List.mem_cons_of_mem _ (f3 j b q), f4⟩, fun b q => ?_, fun b q => List.mem_cons_of_mem _ (sb b q), fun b o h1 h2 h3 => e b o (f b o h1 h2 h3), fun b q => t b (e.back q), tbs.ext e, fun a o q => ⟨⟨List.mem_cons_of_mem _ (idl a o q).1.1, e _ _ (idl a o q).1.2.1, (idl a o q).1.2.2⟩, (idl a o q).2⟩⟩
  · have g := f1 j m q
    cases m with
    | un => exact g
    | imm dd => obtain ⟨h1, v, h2, h3⟩ := g; exact ⟨h1, v, h2, h3.new n e⟩
    | ol ds => obtain ⟨b, vs, h1, h2, h3, h4, h5⟩ := g; exact ⟨b, vs, h1, h2, e _ _ h3, h4, h5.new n e⟩
    | bag b => obtain ⟨b, c', h1, h2, h3, h4, h5, h6, h7⟩ := g; exact ⟨b, c', h1, h2, h3, h4, h5, e _ _ h6, e _ _ h7⟩
    | scr ns => obtain ⟨h1, a, h2, h3⟩ := g; exact ⟨h1, a, h2, h3.kept fun a o q _ _ => e a o q⟩
    | od kvs => obtain ⟨b, o, ks, h1, h2, h3, h4, h5, h6⟩ := g; exact ⟨b, o, ks, h1, h2, e _ _ h3, h4, h5, h6.new n e⟩
  · rcases List.mem_cons.mp q with rfl | q
    · exact ha
    · exact fun z => d b q (e.back z)
theorem Kp.stp {tb : Bool} {O F1 : List Addr} {H H' : Hp} (k : Kp tb F1 H H') (hF : ∀ a, a ∈ F1 → a ∈ O) (th : ∀ a, H' a = none → H a = none) : Stp tb O H O H' :=
  ⟨fun a o e h1 h2 => k a o e (fun m => h1 (hF a m)) h2, fun _ q => .inl q, th⟩
theorem SlotR.chg {K : Fg} {E : Ent} {tb : Bool} {O F1 : List Addr} {H H' : Hp} {m : M} {ov : Option V} {F : List Addr} (g : SlotR K E O H m ov F) (k : Kp tb F1 H H') (hF : ∀ a, a ∈ F1 → a ∈ O) (th : ∀ a, H' a = none → H a = none) (nd : ∀ a, a ∈ F → a ∉ F1) : SlotR K E O H' m ov F := by
  have st := k.stp hF th
  cases m with
  | un => exact g
  | imm dd => obtain ⟨h1, v, h2, h3⟩ := g; exact ⟨h1, v, h2, h3.step st⟩
  | ol ds =>
    obtain ⟨b, vs, h1, h2, h3, h4, h5⟩ := g
    rw [h1] at nd
    exact ⟨b, vs, h1, h2, k _ _ h3 (fun z => absurd z (nd b List.mem_cons_self)) (fun _ ps z => by cases z), h4, h5.step st⟩
  | bag b =>
    obtain ⟨b, c', h1, h2, h3, h4, h5, h6, h7⟩ := g
    rw [h1] at nd
    exact ⟨b, c', h1, h2, h3, h4, h5, k _ _ h6 (fun z => absurd z (nd b List.mem_cons_self)) (fun _ ps z => by cases z), k _ _ h7 (fun z => absurd z (nd c' (List.mem_cons_of_mem _ List.mem_cons_self))) (fun _ ps z => by cases z)⟩
  | scr ns => obtain ⟨h1, a, h2, h3⟩ := g; exact ⟨h1, a, h2, h3.kept fun a o q n nt => k a o q (fun _ => n) fun _ => nt⟩
  | od kvs =>
    obtain ⟨b, o, ks, h1, h2, h3, h4, h5, h6⟩ := g
    rw [h1] at nd
    exact ⟨b, o, ks, h1, h2, k _ _ h3 (fun z => absurd z (nd b List.mem_cons_self)) (fun _ => h5.mut.2), h4, h5, h6.step st⟩
/-- what changes at F1 alone (and the tables): F1 in no slot but perhaps the i-th one, which holds m then -/
theorem Sim.chg {Z : Zx} {E : Ent} {O F1 Fi : List Addr} {σ : L2.St} {H H' : Hp} {s : S} {i : Nat} {m : M} (h : Sim Z E O σ H s) (k : Kp Z.tb F1 H H') (hF : ∀ a, a ∈ F1 → a ∈ O) (h0 : ∀ a, a ∈ F1 → a ∈ E.P ∨ E.H0 a = none) (th : ∀ a, H' a = none → H a = none) (tabs : LamX.Tabs Z.T H')
    (nd : ∀ j m' F, j ≠ i → s[j]? = some m' → SlotR Z.K E O H m' (sl σ j) F → ∀ a, a ∈ F → a ∉ F1) (hm : i < s.length → SlotR Z.K E O H' m (sl σ i) Fi) (hFi : i < s.length → ∀ a, a ∈ Fi → a ∈ F1) (hI : ∀ a, a ∈ F1 → E.Hi a = none) : Sim Z E O σ H' (s.set i m) := by
  obtain ⟨l, ⟨F, f1, f2, f3, f4⟩, d, sb, f, t, tbs, idl⟩ := h
  have apart : ∀ j a, j ≠ i → a ∈ F j → a ∉ F1 := fun j a c q => by
    cases e : s[j]? with
    | none => rw [f2 j (List.getElem?_eq_none_iff.mp e)] at q; cases q
    | some m' => exact nd j m' _ c e (f1 j m' e) a q
  refine ⟨by rw [List.length_set, l], ⟨fun j => if j = i ∧ i < s.length then Fi else F j, fun j m' q => ?_, fun j q => ?_, fun j a q => ?_, fun j j' a q r => ?_⟩, fun a q z => d a q (th a z), sb, fun b u h1 h2 h3 => ?_, fun a q => t a (th a q), tabs, fun a o q => ?_⟩
  rotate_right
  · have na : a ∉ F1 := fun z => by have := hI a z; rw [q] at this; cases this
    obtain ⟨⟨i1, i2, i3⟩, i4⟩ := idl a o q
    refine ⟨⟨i1, k a o i2 (fun z => absurd z na) (fun _ => i3), i3⟩, fun j m' e z => ?_⟩
    by_cases c : j = i
    · subst c
      have hi : j < s.length := by have := (List.getElem?_eq_some_iff.mp e).1; rwa [List.length_set] at this
      rw [List.getElem?_set_self hi] at e
      cases e
      rw [← (hm hi).slF] at z
      exact na (hFi hi a z)
    · rw [List.getElem?_set_ne (Ne.symm c)] at e
      exact i4 j m' e z
  · dsimp only
    by_cases c : j = i
    · rw [c] at q ⊢
      have hi : i < s.length := by have := (List.getElem?_eq_some_iff.mp q).1; rwa [List.length_set] at this
      rw [List.getElem?_set_self hi] at q
      cases q
      rw [if_pos ⟨rfl, hi⟩]
      exact hm hi
    · rw [List.getElem?_set_ne (Ne.symm c)] at q
      rw [if_neg fun z => c z.1]
      exact (f1 j m' q).chg k hF th fun a z => apart j a c z
  · dsimp only
    rw [List.length_set] at q
    rw [if_neg (by omega)]
    exact f2 j q
  · dsimp only at q
    split at q
    · next c => exact hF a (hFi c.2 a q)
    · exact f3 j a q
  · dsimp only at q r
    split at q <;> split at r
    · next c1 c2 => rw [c1.1, c2.1]
    · next c1 c2 =>
      have n : j' ≠ i := fun z => c2 ⟨z, c1.2⟩
      exact absurd (hFi c1.2 a q) (apart j' a n r)
    · next c1 c2 =>
      have n : j ≠ i := fun z => c1 ⟨z, c2.2⟩
      exact absurd (hFi c2.2 a r) (apart j a n q)
    · exact f4 j j' a q r
  · refine k b u (f b u h1 h2 h3) (fun m' => ?_) h3
    rcases h0 b m' with z | z
    · exact h2 z
    · rw [h1] at z; cases z
theorem Sim.chg0 {Z : Zx} {E : Ent} {O F1 : List Addr} {σ : L2.St} {H H' : Hp} {s : S} (h : Sim Z E O σ H s) (k : Kp Z.tb F1 H H') (hF : ∀ a, a ∈ F1 → a ∈ O) (h0 : ∀ a, a ∈ F1 → a ∈ E.P ∨ E.H0 a = none) (th : ∀ a, H' a = none → H a = none) (tabs : LamX.Tabs Z.T H')
    (nd : ∀ j m' F, s[j]? = some m' → SlotR Z.K E O H m' (sl σ j) F → ∀ a, a ∈ F → a ∉ F1) (hI : ∀ a, a ∈ F1 → E.Hi a = none) : Sim Z E O σ H' s := by
  have q := h.chg (i := s.length) (m := .un) (Fi := []) k hF h0 th tabs (fun j m' F _ e g => nd j m' F e g) (fun z => absurd z (Nat.lt_irrefl _)) (fun z => absurd z (Nat.lt_irrefl _)) hI
  rwa [List.set_eq_of_length_le (Nat.le_refl _)] at q
/-- an object o at a (no code object, no table) is written -/
theorem upd_kp {tb : Bool} {H : Hp} {a : Addr} {o o' : HO} (hH : H a = some o) (mu : Mut (some o)) : Kp tb [a] H (upd H a o') := fun b u e k _ => by
  rw [upd_ne]
  · exact e
  · rintro rfl
    rw [hH] at e
    cases e
    exact k List.mem_cons_self mu
theorem upd_there {H : Hp} {a : Addr} {o' : HO} : ∀ b, upd H a o' b = none → H b = none := fun b q => by
  by_cases c : b = a
  · rw [c, upd_same] at q; cases q
  · rw [upd_ne c] at q; exact q
theorem upd_tabs {T : List (Addr × Str)} {H : Hp} {a : Addr} {xs : List V} {o' : HO} (t : LamX.Tabs T H) (hH : H a = some (.lst xs)) : LamX.Tabs T (upd H a o') := fun p hp => by
  obtain ⟨ps, e1, e2, e3⟩ := t p hp
  refine ⟨ps, (upd_ne fun z => ?_).trans e1, e2, fun pos cv hc => ?_⟩
  · rw [z, hH] at e1
    cases e1
  · obtain ⟨c, g1, g2⟩ := e3 pos cv hc
    refine ⟨c, g1, (upd_ne fun z => ?_).trans g2⟩
    rw [z, hH] at g2
    cases g2
/-- the list in a slot is written -/
theorem Sim.lset {Z : Zx} {E : Ent} {O : List Addr} {σ : L2.St} {H : Hp} {s : S} {i : Nat} {ds es : List D} (h : Sim Z E O σ H s) (hi : s[i]? = some (.ol ds)) :
    ∃ a vs, σ[i]? = some (some (.ref a)) ∧ H a = some (.lst vs) ∧ Rps Z.K O H vs ds ∧ ∀ ws, Rps Z.K O H ws es → Sim Z E O σ (upd H a (.lst ws)) (s.set i (.ol es)) ∧ Stp Z.tb O H O (upd H a (.lst ws)) := by
  obtain ⟨F, f1, f2, f3, f4⟩ := h.own
  obtain ⟨a, vs, h1, h2, h3, h4, h5⟩ := f1 i _ hi
  have aO : a ∈ O := f3 i a (by rw [h1]; exact List.mem_cons_self)
  refine ⟨a, vs, sl_some h2, h3, h5, fun ws r => ?_⟩
  have k : Kp Z.tb [a] H (upd H a (.lst ws)) := upd_kp h3 trivial
  have hF : ∀ b, b ∈ [a] → b ∈ O := fun b q => by rw [List.mem_singleton.mp q]; exact aO
  have st := k.stp hF upd_there
  refine ⟨h.chg (F1 := [a]) (Fi := [a]) k hF (fun b q => by rw [List.mem_singleton.mp q]; exact .inr h4) upd_there (upd_tabs h.tabs h3) (fun j m' F' c e g b q => ?_) (fun _ => ⟨a, ws, rfl, h2, upd_same, h4, r.step st⟩) (fun _ b q => q) (fun b q => h.slotIdle hi (f1 i _ hi) (by rw [h1]; exact q)), st⟩
  rw [g.uniq (f1 j m' e)] at q
  intro z
  rw [List.mem_singleton.mp z] at q
  exact c (f4 j i a q (by rw [h1]; exact List.mem_cons_self))
end Y

namespace Y
open PySem PySem.Spec PyProof.Rows L2

/-! ## targets -/
def Agr (ts : List Nat) (σ σ' : L2.St) : Prop := σ'.length = σ.length ∧ ∀ j, j ∉ ts → σ'[j]? = σ[j]?
/-- a pair that a walk makes for its target -/
def pairD (x y : D) : D := .dict [(.none, x), (.none, y)]
theorem DictO.noNone {o : HO} {ks : List D} {vs : List V} (h : DictO o (.none :: .none :: ks) vs) : False := by
  cases o with
  | dK k =>
    obtain ⟨h, _⟩ := h
    cases k with
    | nil => cases h
    | cons p k =>
      rw [List.map_cons] at h
      injection h with h _
      cases e : p.1 <;> rw [e] at h <;> cases h
  | dT k =>
    obtain ⟨h, _⟩ := h
    injection h with _ h
    cases k with
    | nil => cases h
    | cons p k =>
      rw [List.map_cons] at h
      injection h with h _
      cases h
  | _ => exact h
def Rv (pw : Bool) (K : Fg) (O : List Addr) (H : Hp) (v : V) (d : D) : Prop := Rp K O H v d ∨ (pw = true ∧ ∃ x y a p q, d = pairD x y ∧ v = .ref a ∧ SqT K H a [p, q] ∧ Rp K O H p x ∧ Rp K O H q y)
theorem Rp.v {pw : Bool} {K : Fg} {O : List Addr} {H : Hp} {v : V} {d : D} (h : Rp K O H v d) : Rv pw K O H v d := .inl h
theorem Rv.p {K : Fg} {O : List Addr} {H : Hp} {v : V} {d : D} (h : Rv false K O H v d) : Rp K O H v d := h.elim id fun q => Bool.noConfusion q.1
def tG (Z : Zx) (pw : Bool) (ts : List Nat) (g : D → S → Option S) : TG := fun v σ H Q => ∃ E O s d s', Sim Z E O σ H s ∧ Rv pw Z.K O H v d ∧ g d s = some s' ∧ ∀ σ', Agr ts σ σ' → Sim Z E O σ' H s' → Q σ' H
def tGs (Z : Zx) (ts : List Nat) (g : List D → S → Option S) : TGs := fun vs σ H Q => ∃ E O s ds s', Sim Z E O σ H s ∧ Rps Z.K O H vs ds ∧ g ds s = some s' ∧ ∀ σ', Agr ts σ σ' → Sim Z E O σ' H s' → Q σ' H
def putM (i : Nat) : D → S → Option S := fun d s => if i < s.length then some (s.set i (.imm d)) else none
def tgNil : List D → S → Option S
  | [], s => some s
  | _, _ => none
def tgCons (g : D → S → Option S) (r : List D → S → Option S) : List D → S → Option S
  | d :: ds, s => (g d s).bind (r ds)
  | [], _ => none
def tgTup (n : Nat) (r : List D → S → Option S) : D → S → Option S
  | .tuple ds, s => if ds.length = n then r ds s else none
  | .dict [(.none, x), (.none, y)], s => if 2 = n then r [x, y] s else none
  | _, _ => none
section
variable {X : Cx} {T : List (Addr × Str)} {tb pw : Bool}
theorem imp_g {e : Expr} {t t' : TG} (h : PG X e t) (hi : ∀ v σ H Q, t' v σ H Q → t v σ H Q) : PG X e t' := ⟨fun pins s σ H v u Q I r hw => h.run pins s σ H v u Q I r (hi v σ H Q hw)⟩
theorem imp_gs {e : List Expr} {t t' : TGs} (h : PGs X e t) (hi : ∀ v σ H Q, t' v σ H Q → t v σ H Q) : PGs X e t' := ⟨fun pins s σ H v u Q I r hw => h.run pins s σ H v u Q I r (hi v σ H Q hw)⟩
theorem Agr.refl {ts : List Nat} {σ : L2.St} : Agr ts σ σ := ⟨rfl, fun _ _ => rfl⟩
theorem Agr.trans {ts us : List Nat} {σ σ1 σ2 : L2.St} (a : Agr ts σ σ1) (b : Agr us σ1 σ2) : Agr (ts ++ us) σ σ2 :=
  ⟨b.1.trans a.1, fun j n => (b.2 j fun z => n (List.mem_append_right _ z)).trans (a.2 j fun z => n (List.mem_append_left _ z))⟩
theorem g_name (i : Nat) {x : Str} {pos : Pos} (hN : X.N.Nodup) (hi : X.N[i]? = some x := by rfl) (hx : Loc X.env.scope x := by first | exact Or.inl rfl | exact Or.inr rfl) (hf : X.fn x = true ∨ X.env.scope.names.lookup x = some .local := by first | exact .inl rfl | exact .inr rfl) : PG X (.Name x pos) (tG (Zo X T tb) false [i] (putM i)) := by
  refine imp_g (pg_name hN hi hx hf) fun v σ H Q h => ?_
  obtain ⟨E, O, s, d, s', sm, r, hg, k⟩ := h
  unfold putM at hg
  split at hg
  · next hl =>
    cases hg
    exact k _ ⟨List.length_set, fun j n => List.getElem?_set_ne fun z => n (by rw [z]; exact List.mem_cons_self)⟩ (sm.setI hl r.p)
  · cases hg
theorem gs_nil : PGs X [] (tGs (Zo X T tb) [] tgNil) := imp_gs pgs_nil fun v σ H Q h => by
  obtain ⟨E, O, s, d, s', sm, r, hg, k⟩ := h
  cases d with
  | nil => cases r; cases hg; exact ⟨rfl, k σ Agr.refl sm⟩
  | cons _ _ => cases hg
theorem gs_cons {e : Expr} {es : List Expr} {ts us : List Nat} {g : D → S → Option S} {r : List D → S → Option S} (h1 : PG X e (tG (Zo X T tb) pw ts g)) (h2 : PGs X es (tGs (Zo X T tb) us r))
    (hs : (assignEach (e :: es) X.env).map (·.2) = assign e X.env :: (assignEach es X.env).map (·.2) := by rfl) : PGs X (e :: es) (tGs (Zo X T tb) (ts ++ us) (tgCons g r)) := imp_gs (pgs_cons h1 h2 hs) fun v σ H Q h => by
  obtain ⟨E, O, s, d, s', sm, hr, hg, k⟩ := h
  cases d with
  | nil => cases hg
  | cons d ds =>
    cases hr with
    | cons h3 h4 =>
      obtain ⟨s1, e1, e2⟩ := Option.bind_eq_some_iff.mp (show (g d s).bind (r ds) = some s' from hg)
      exact ⟨_, _, rfl, E, O, s, d, s1, sm, h3.v, e1, fun σ1 a1 sm1 => ⟨E, O, s1, ds, s', sm1, h4, e2, fun σ2 a2 sm2 => k σ2 (a1.trans a2) sm2⟩⟩
theorem g_tup {es : List Expr} {k n : Nat} {pos : Pos} {ts : List Nat} {r : List D → S → Option S} (hc : X.calm = true) (h : PGs X es (tGs (Zo X T tb) ts r)) (hn : (assignEach es X.env).length = n := by rfl) (hst : (assignEach es X.env).findIdx? (·.1) = none := by rfl) :
    PG X (.Tuple es k pos) (tG (Zo X T tb) pw ts (tgTup n r)) := imp_g (pg_tup hc h hn hst) fun v σ H Q h => by
  obtain ⟨E, O, s, d, s', sm, hr, hg, k⟩ := h
  rcases hr with hr | ⟨_, x, y, a, p, q, rfl, rfl, hx, r1, r2⟩
  · cases hr with
    | tup hx ra =>
      unfold tgTup at hg
      dsimp only at hg
      split at hg
      · next hl => exact ⟨_, _, rfl, hx.t, by rw [ra.length, hl], E, O, s, _, s', sm, ra, hg, k⟩
      · cases hg
    | dct _ hd _ _ =>
      unfold tgTup at hg
      split at hg
      · next q => cases q
      · next q => cases q; exact hd.noNone.elim
      · cases hg
    | _ => cases hg
  · unfold tgTup pairD at hg
    dsimp only at hg
    split at hg
    · next hl => exact ⟨a, [p, q], rfl, hx, hl, E, O, s, [x, y], s', sm, .cons r1 (.one r2), hg, k⟩
    · cases hg
end

/-! ## what is walked -/
def WalkQ (pw : Bool) (K : Fg) (J : It) (O : List Addr) (H1 : Hp) (ds : List D) : Prop :=
  ∀ (i : Nat) (O2 : List Addr) (H : Hp), Ex H1 H → (∀ a, a ∈ O2 → a ∈ O ∨ H1 a = none) → (∀ d, ds[i]? = some d → J.go i H ∧ ∀ x H', J.yld i H x H' → Ex H H' ∧ Rv pw K O2 H' x d) ∧ (ds.length ≤ i → J.stop i H)
def WalkS (pw : Bool) (K : Fg) (J : It) (O : List Addr) (H1 : Hp) (ds : List D) : Prop :=
  ∀ (i : Nat) (tb : Bool) (O2 : List Addr) (H : Hp), Stp tb O H1 O2 H → (∀ d, ds[i]? = some d → J.go i H ∧ ∀ x H', J.yld i H x H' → Ex H H' ∧ Rv pw K O2 H' x d) ∧ (ds.length ≤ i → J.stop i H)
theorem WalkS.q {pw : Bool} {K : Fg} {J : It} {O : List Addr} {H1 : Hp} {ds : List D} (w : WalkS pw K J O H1 ds) : WalkQ pw K J O H1 ds := fun i O2 H e n => w i false O2 H ⟨fun a o h _ _ => e a o h, n, fun a h => e.back h⟩
theorem sqL_inj {K : Fg} {H : Hp} {a : Addr} {xs : List V} (h : H a = some (.lst xs)) : ∃ ys, SqL K H a ys := ⟨xs, SqL.of h⟩
/-- what a list iterator yields of a tracked list -/
theorem walk_list {pw : Bool} {K : Fg} {O : List Addr} {H1 : Hp} {a : Addr} {xs : List V} {ds : List D} (h : H1 a = some (.lst xs)) (r : Rps K O H1 xs ds) : WalkQ pw K (Itl K a) O H1 ds := fun i O2 H e n => by
  have h2 := e _ _ h
  refine ⟨fun d hd => ?_, fun hl => ⟨xs, SqL.of h2, by rw [r.length]; exact hl⟩⟩
  obtain ⟨v, h3, h4⟩ := r.get hd
  refine ⟨⟨xs, v, SqL.of h2, h3⟩, fun x H' y => ?_⟩
  obtain ⟨rfl, y⟩ := y
  have y1 := y xs (SqL.of h2)
  rw [h3] at y1
  cases y1
  exact ⟨Ex.refl _, (h4.step (tb := false) ⟨fun a o h _ _ => e a o h, n, fun a h => e.back h⟩).v⟩
theorem walk_listS {pw : Bool} {K : Fg} {O : List Addr} {H1 : Hp} {a : Addr} {xs : List V} {ds : List D} (h : H1 a = some (.lst xs)) (nO : a ∉ O) (r : Rps K O H1 xs ds) : WalkS pw K (Itl K a) O H1 ds := fun i tb O2 H st => by
  have h2 : H a = some (.lst xs) := st.keep _ _ h (fun m => absurd m nO) fun _ ps z => by cases z
  refine ⟨fun d hd => ?_, fun hl => ⟨xs, SqL.of h2, by rw [r.length]; exact hl⟩⟩
  obtain ⟨v, h3, h4⟩ := r.get hd
  refine ⟨⟨xs, v, SqL.of h2, h3⟩, fun x H' y => ?_⟩
  obtain ⟨rfl, y⟩ := y
  have y1 := y xs (SqL.of h2)
  rw [h3] at y1
  cases y1
  exact ⟨Ex.refl _, (h4.step st).v⟩
theorem walk_tupS {pw : Bool} {K : Fg} {O : List Addr} {H1 : Hp} {a : Addr} {xs : List V} {ds : List D} (h : SqT K H1 a xs) (r : Rps K O H1 xs ds) : WalkS pw K (Itt K a) O H1 ds := fun i tb O2 H st => by
  have h2 : SqT K H a xs := sqT_kept (fun a o e m t => st.keep a o e (fun _ => m) fun _ => t) h
  refine ⟨fun d hd => ?_, fun hl => ⟨xs, h2, by rw [r.length]; exact hl⟩⟩
  obtain ⟨v, h3, h4⟩ := r.get hd
  refine ⟨⟨xs, v, h2, h3⟩, fun x H' y => ?_⟩
  obtain ⟨rfl, y⟩ := y
  have y1 := y xs h2
  rw [h3] at y1
  cases y1
  exact ⟨Ex.refl _, (h4.step st).v⟩
def rngL (lo : Int) (c : Int) : Nat → List D
  | 0 => []
  | n + 1 => .int lo :: rngL (lo + c) c n
theorem rngL_length (c : Int) : ∀ (n : Nat) (lo : Int), (rngL lo c n).length = n
  | 0, _ => rfl
  | n + 1, lo => by rw [rngL, List.length_cons, rngL_length c n]
theorem rngL_get (c : Int) : ∀ (n : Nat) (lo : Int) (i : Nat) (d : D), (rngL lo c n)[i]? = some d → i < n ∧ d = .int (lo + (i : Int) * c)
  | 0, lo, i, d, h => by simp [rngL] at h
  | n + 1, lo, 0, d, h => by simp [rngL] at h; rw [← h]; exact ⟨by omega, by simp⟩
  | n + 1, lo, i + 1, d, h => by
    have h : (rngL (lo + c) c n)[i]? = some d := by simpa [rngL] using h
    obtain ⟨h1, h2⟩ := rngL_get c n (lo + c) i d h
    refine ⟨by omega, ?_⟩
    rw [h2]
    congr 1
    rw [show ((i + 1 : Nat) : Int) = (i : Int) + 1 by omega, Int.add_mul]
    omega
theorem walk_rng {pw : Bool} {K : Fg} {O : List Addr} {H1 : Hp} {lo : Int} {n : Nat} : WalkS pw K (Itr lo n) O H1 (rngL lo 1 n) := fun i tb O2 H st => by
  refine ⟨fun d hd => ?_, fun hl => ?_⟩
  · obtain ⟨h1, h2⟩ := rngL_get 1 n lo i d hd
    refine ⟨h1, fun x H' y => ?_⟩
    obtain ⟨rfl, rfl⟩ := y
    rw [h2, Int.mul_one]
    exact ⟨Ex.refl _, .inl (.int _)⟩
  · rw [rngL_length] at hl
    exact hl
theorem walk_rngC {pw : Bool} {K : Fg} {O : List Addr} {H1 : Hp} {lo c : Int} {n : Nat} : WalkS pw K (Itc lo c n) O H1 (rngL lo c n) := fun i tb O2 H st => by
  refine ⟨fun d hd => ?_, fun hl => ?_⟩
  · obtain ⟨h1, h2⟩ := rngL_get c n lo i d hd
    refine ⟨h1, fun x H' y => ?_⟩
    obtain ⟨rfl, rfl⟩ := y
    rw [h2]
    exact ⟨Ex.refl _, .inl (.int _)⟩
  · rw [rngL_length] at hl
    exact hl

def tIQ (Z : Zx) (pw : Bool) (m : S → Option (List D)) : TI := fun σ H R => ∃ E O s ds, Sim Z E O σ H s ∧ m s = some ds ∧ ∀ J H', Ex H H' → WalkQ pw Z.K J O H' ds → R J H'
def tIE (Z : Zx) (pw : Bool) (m : S → Option (List D × S)) : TI := fun σ H R => ∃ E O s ds s', Sim Z E O σ H s ∧ m s = some (ds, s') ∧ ∀ J H' O', Stp Z.tb O H O' H' → Sim Z E O' σ H' s' → WalkS pw Z.K J O' H' ds → R J H'
def tEi (Z : Zx) (m : S → Option (D × S)) : TE := fun σ H Q => ∃ E O s d s', Sim Z E O σ H s ∧ m s = some (d, s') ∧ ∀ v H' O', Stp Z.tb O H O' H' → Sim Z E O' σ H' s' → Rp Z.K O' H' v d → Q v H'
def tEo (Z : Zx) (m : S → Option (List D × S)) : TE := fun σ H Q => ∃ E O s ds s', Sim Z E O σ H s ∧ m s = some (ds, s') ∧
  ∀ a vs H' O', Stp Z.tb O H (a :: O') H' → a ∉ O' → Sim Z E O' σ H' s' → Sim Z E (a :: O') σ H' s' → E.H0 a = none → H' a = some (.lst vs) → Rps Z.K (a :: O') H' vs ds → Q (.ref a) H'
def tTE (Z : Zx) (m : S → Option (Bool × S)) : TT := fun σ H Q => ∃ E O s b s', Sim Z E O σ H s ∧ m s = some (b, s') ∧ ∀ H' O', Stp Z.tb O H O' H' → Sim Z E O' σ H' s' → Q b H'
def tAE (Z : Zx) (m : S → Option (List D × S)) : TA := fun σ H Q => ∃ E O s ds s', Sim Z E O σ H s ∧ m s = some (ds, s') ∧ ∀ vs H' O', Stp Z.tb O H O' H' → Sim Z E O' σ H' s' → Rps Z.K O' H' vs ds → Q vs H'
/-- a walk of plain values (a range, the items of a fresh list) told quietly serves loops too -/
structure QI (X : Cx) (T : List (Addr × Str)) (tb pw : Bool) (tg e : Expr) (m : S → Option (List D)) : Prop where
  p : PI X tg e (tIQ (Zo X T tb) pw m)
abbrev EI (X : Cx) (T : List (Addr × Str)) (tb pw : Bool) (tg e : Expr) (m : S → Option (List D × S)) : Prop := PI X tg e (tIE (Zo X T tb) pw m)
abbrev EE (X : Cx) (T : List (Addr × Str)) (tb : Bool) (e : Expr) (m : S → Option (D × S)) : Prop := PE X e (tEi (Zo X T tb) m)
abbrev EO (X : Cx) (T : List (Addr × Str)) (tb : Bool) (e : Expr) (m : S → Option (List D × S)) : Prop := PE X e (tEo (Zo X T tb) m)
abbrev ET (X : Cx) (T : List (Addr × Str)) (tb : Bool) (e : Expr) (m : S → Option (Bool × S)) : Prop := PT X e (tTE (Zo X T tb) m)
abbrev EA (X : Cx) (T : List (Addr × Str)) (tb : Bool) (e : List Expr) (m : S → Option (List D × S)) : Prop := PA X e (tAE (Zo X T tb) m)

def seqM (a : S → Option D) : S → Option (List D) := fun s => (a s).bind seqD
def rng1M (a : S → Option (List D)) : S → Option (List D) := fun s => (a s).bind fun
  | [.int j] => if Nat.ble j.natAbs 1000000 = true then some (rngL 0 1 j.toNat) else none
  | _ => none
def rng2M (a : S → Option (List D)) : S → Option (List D) := fun s => (a s).bind fun
  | [.int i, .int j] => if (Nat.ble i.natAbs 1000000 && Nat.ble j.natAbs 1000000) = true then some (rngL i 1 (j - i).toNat) else none
  | _ => none
def noSt {α : Type} (a : S → Option α) : S → Option (α × S) := fun s => (a s).map fun x => (x, s)
def lstOf : D → Option (List D)
  | .list ds => some ds
  | _ => none
def ownM (a : S → Option D) : S → Option (List D × S) := fun s => (a s).bind fun d => (lstOf d).map fun ds => (ds, s)

section
variable {X : Cx} {T : List (Addr × Str)} {tb pw : Bool}
theorem imp_i {tg e : Expr} {t t' : TI} (h : PI X tg e t) (hi : ∀ σ H R, t' σ H R → t σ H R) : PI X tg e t' := ⟨fun pins s σ H Q I hw => h.run pins s σ H Q I (hi σ H Q hw)⟩
def iAny (K : Fg) (tl : TE) : TI := fun σ H R => tl σ H fun x H1 => ∃ a, x = .ref a ∧ ((∃ xs, SqL K H1 a xs ∧ R (Itl K a) H1) ∨ ∃ xs, SqT K H1 a xs ∧ R (Itt K a) H1)
theorem pi_any {tg l : Expr} {tl : TE} (hl : PE X l tl) : PI X tg l (iAny X.K tl) := by
  constructor
  intro pins s σ H R I h
  refine thn (hl.run pins s σ H _ I h) fun v s1 q0 => ?_
  obtain ⟨x, H1, I1, r1, a, e, q⟩ := q0
  subst e
  cases r1
  have fresh : ∀ b, b ∈ [s1.heap.objs.size] → FpOk X pins H1 b := fun b hb => by
    obtain rfl := List.mem_singleton.mp hb
    exact I1.fpOk (Nat.le_refl _) (I1.hok.fresh (Nat.le_refl _))
  rcases q with ⟨xs, hq, q⟩ | ⟨xs, hq, q⟩
  · obtain ⟨its, rv, p, hz⟩ := I1.list hq
    refine wpAny_pyIter_list p.isList ⟨_, [s1.heap.objs.size], _, _, H1, rfl, I1.kept (t' := s1.toks) fun b o e => Heap.get?_push_of_some _ e, turn_list a _, ⟨_, Heap.get?_push_size _ rfl, rfl, rfl⟩, fresh, q⟩
  · obtain ⟨its, rv, p, hz⟩ := I1.tuple hq
    refine wpAny_pyIter_tuple (show s1.heap.IsTuple a its.toArray from p) ⟨_, [s1.heap.objs.size], _, _, H1, rfl, I1.kept (t' := s1.toks) fun b o e => Heap.get?_push_of_some _ e, turn_tuple a _, ⟨_, Heap.get?_push_size _ rfl, rfl, rfl⟩, fresh, q⟩
theorem seqD_some {d : D} {ds : List D} (h : seqD d = some ds) : d = .list ds ∨ d = .tuple ds := by
  cases d <;> simp [seqD] at h
  · exact .inl (by rw [h])
  · exact .inr (by rw [h])
theorem qi_seq {tg e : Expr} {k : Kd} {m : S → Option D} (h : QE X T tb k e m) : QI X T tb pw tg e (seqM m) := ⟨imp_i (pi_any h) fun σ H R q => by
  obtain ⟨E, O, s, ds, sm, hm, k⟩ := q
  obtain ⟨d, hd, hm⟩ := Option.bind_eq_some_iff.mp (show (m s).bind seqD = some ds from hm)
  refine ⟨E, O, s, d, sm, hd, fun v H' e r => ?_⟩
  rcases seqD_some hm with rfl | rfl
  · obtain ⟨a, xs, rfl, h1, h2⟩ := r.toR.list
    exact ⟨a, rfl, .inl ⟨xs, SqL.of h1, k _ H' e (walk_list h1 h2)⟩⟩
  · obtain ⟨a, xs, rfl, h1, h2⟩ := r.toR.tuple
    exact ⟨a, rfl, .inr ⟨xs, h1, k _ H' e (walk_tupS h1 h2).q⟩⟩⟩
theorem rng_int1 {m : S → Option (List D)} {ds : List D} {s : S} (h : rng1M m s = some ds) : ∃ j : Int, m s = some [.int j] ∧ j.natAbs ≤ 1000000 ∧ ds = rngL 0 1 j.toNat := by
  obtain ⟨xs, h1, h2⟩ := Option.bind_eq_some_iff.mp h
  split at h2
  · next j =>
    split at h2
    · next c => cases h2; exact ⟨j, h1, by simpa [Nat.ble_eq] using c, rfl⟩
    · cases h2
  · cases h2
theorem rng_int2 {m : S → Option (List D)} {ds : List D} {s : S} (h : rng2M m s = some ds) : ∃ i j : Int, m s = some [.int i, .int j] ∧ i.natAbs ≤ 1000000 ∧ j.natAbs ≤ 1000000 ∧ ds = rngL i 1 (j - i).toNat := by
  obtain ⟨xs, h1, h2⟩ := Option.bind_eq_some_iff.mp h
  split at h2
  · next i j =>
    split at h2
    · next c =>
      cases h2
      rw [Bool.and_eq_true] at c
      exact ⟨i, j, h1, by simpa [Nat.ble_eq] using c.1, by simpa [Nat.ble_eq] using c.2, rfl⟩
    · cases h2
  · cases h2
theorem rrs_ints1 {K : Fg} {O : List Addr} {H : Hp} {vs : List V} {j : Int} (h : Rrs K O H vs [.int j]) : vs = [.int j] := by
  obtain ⟨x, rfl, r⟩ := rrs1 h
  rw [r.int]
theorem rrs_ints2 {K : Fg} {O : List Addr} {H : Hp} {vs : List V} {i j : Int} (h : Rrs K O H vs [.int i, .int j]) : vs = [.int i, .int j] := by
  obtain ⟨x, y, rfl, r, q⟩ := rrs2 h
  rw [r.int, q.int]
theorem qi_rng1 {tg a : Expr} {p pos : Pos} {b : Bool} {m : S → Option (List D)} (hg : Gl X "range") (hm : X.mg "range" = none) (ha : QA X T tb b [a] m) (hs : starEach [a] X.env = [(false, eval a X.env)] := by rfl) : QI X T tb pw tg (.Call (.Name "range" p) [a] [] pos) (rng1M m) := ⟨imp_i (pi_range1 hg hm ha hs) fun σ H R q => by
  obtain ⟨E, O, s, ds, sm, hm, k⟩ := q
  obtain ⟨j, h1, h2, rfl⟩ := rng_int1 hm
  refine ⟨E, O, s, _, sm, h1, fun vs H' e r => ?_⟩
  exact ⟨j, rrs_ints1 r.toR, by omega, by omega, k _ H' e walk_rng.q⟩⟩
theorem qi_rng2 {tg a a2 : Expr} {p pos : Pos} {b : Bool} {m : S → Option (List D)} (hg : Gl X "range") (hm : X.mg "range" = none) (ha : QA X T tb b [a, a2] m) (hs : starEach [a, a2] X.env = [(false, eval a X.env), (false, eval a2 X.env)] := by rfl) (hs2 : starEach [a2] X.env = [(false, eval a2 X.env)] := by rfl) :
    QI X T tb pw tg (.Call (.Name "range" p) [a, a2] [] pos) (rng2M m) := ⟨imp_i (pi_range2 hg hm ha hs hs2) fun σ H R q => by
  obtain ⟨E, O, s, ds, sm, hm, k⟩ := q
  obtain ⟨i, j, h1, h2, h3, rfl⟩ := rng_int2 hm
  refine ⟨E, O, s, _, sm, h1, fun vs H' e r => ?_⟩
  exact ⟨i, j, rrs_ints2 r.toR, by omega, k _ H' e walk_rng.q⟩⟩
/-! ### from quiet ones to effectful ones -/
theorem e_q {e : Expr} {k : Kd} {m : S → Option D} (h : QE X T tb k e m) (nk : k ≠ .r := by decide) : EE X T tb e (noSt m) := imp_e h fun σ H Q q => by
  obtain ⟨E, O, s, d, s', sm, hm, k⟩ := q
  obtain ⟨x, hx, he⟩ := Option.map_eq_some_iff.mp hm
  cases he
  exact ⟨E, O, s, d, sm, hx, fun v H' e r => k v H' O (Stp.of_ex e) (sm.ext e) (r.toI' nk)⟩
theorem eo_q {e : Expr} {m : S → Option D} (h : QE X T tb .o e m) : EO X T tb e (ownM m) := imp_e h fun σ H Q q => by
  obtain ⟨E, O, s, ds, s', sm, hm, k⟩ := q
  obtain ⟨x, hx, he⟩ := Option.bind_eq_some_iff.mp hm
  obtain ⟨y, hy, he⟩ := Option.map_eq_some_iff.mp he
  cases he
  refine ⟨E, O, s, x, sm, hx, fun v H' e r => ?_⟩
  obtain ⟨a, vs, ds', rfl, rfl, h3, h4, h5, h6⟩ := r
  cases hy
  exact k a vs H' O ⟨fun b o h _ _ => e b o h, fun b m => (List.mem_cons.mp m).elim (fun z => .inr (z ▸ h3)) .inl, fun b z => e.back z⟩ h4 (sm.ext e) (sm.grow h3 e (by rw [h5]; exact fun z => by cases z)) (sm.there a h3) h5 h6
end
end Y

namespace Y
open PySem PySem.Spec PyProof.Rows L2

/-! ## list comprehensions -/
def wipeS (s : S) : List Nat → S
  | [] => s
  | v :: vs => (wipeS s vs).set v .un
def lcGo (g : D → S → Option S) (t : S → Option Bool) (e : S → Option D) (s : S) : List D → Option (List D)
  | [] => some []
  | d :: ds => (g d s).bind fun s1 => (t s1).bind fun b => if b = true then (e s1).bind fun y => (lcGo g t e s ds).bind fun r => some (y :: r) else lcGo g t e s ds
def lcM (vs : List Nat) (src : S → Option (List D)) (g : D → S → Option S) (t : S → Option Bool) (e : S → Option D) : S → Option D := fun s =>
  (src s).bind fun ds => if Nat.ble ds.length 1000000 = true then (lcGo g t e (wipeS s vs) ds).map PyData.list else none
def yesM : S → Option Bool := fun _ => some true

theorem Sim.setN' {Z : Zx} {E : Ent} {O : List Addr} {σ : L2.St} {H : Hp} {s : S} {i : Nat} (h : Sim Z E O σ H s) : Sim Z E O (σ.set i none) H (s.set i .un) := by
  by_cases hi : i < s.length
  · exact h.setN hi
  · rw [List.set_eq_of_length_le (l := s) (by omega), List.set_eq_of_length_le (l := σ) (by rw [h.len]; omega)]
    exact h
theorem Sim.wipe {Z : Zx} {E : Ent} {O : List Addr} {σ : L2.St} {H : Hp} {s : S} (h : Sim Z E O σ H s) : ∀ vs : List Nat, Sim Z E O (L2.wipe σ vs) H (wipeS s vs)
  | [] => h
  | v :: vs => (h.wipe vs).setN'
theorem wipe_in {σ : L2.St} {j : Nat} : ∀ {vs : List Nat}, j ∈ vs → (L2.wipe σ vs)[j]? = if j < σ.length then some none else none
  | v :: vs, h => by
    unfold L2.wipe
    by_cases c : v = j
    · rw [c]
      by_cases hl : j < σ.length
      · rw [List.getElem?_set_self (by rw [wipe_length]; exact hl), if_pos hl]
      · rw [List.getElem?_eq_none (by rw [List.length_set, wipe_length]; omega), if_neg hl]
    · rw [List.getElem?_set_ne c]
      rcases List.mem_cons.mp h with q | q
      · exact absurd q.symm c
      · exact wipe_in q
theorem wipe_agr {σ σ2 : L2.St} {ts vs : List Nat} (h : Agr ts (L2.wipe σ vs) σ2) (hs : ∀ i, i ∈ ts → i ∈ vs) : L2.wipe σ2 vs = L2.wipe σ vs := by
  have hl : σ2.length = σ.length := h.1.trans (wipe_length σ vs)
  apply List.ext_getElem?
  intro j
  by_cases c : j ∈ vs
  · rw [wipe_in c, wipe_in c, hl]
  · rw [wipe_out c, h.2 j fun z => c (hs j z)]
section
variable {X : Cx} {T : List (Addr × Str)} {tb pw : Bool}
theorem pts_q {c : Expr} {t : S → Option Bool} (h : QT X T tb c t) : PTs X [c] (tTQ (Zo X T tb) t) := pts_one h
theorem pts_yes : PTs X [] (tTQ (Zo X T tb) yesM) := ⟨fun pins s σ H Q I h => by
  obtain ⟨E, O, s, b, sm, hm, k⟩ := h
  cases hm
  exact pts_nil.run pins _ σ H Q I (k H (Ex.refl H))⟩
theorem lc_read {wi : TI} {src : S → Option (List D)} {g : D → S → Option S} {t : S → Option Bool} {e : S → Option D} {k : Kd} {vs ts : List Nat} (nk : k ≠ .r) (hts : ∀ i, i ∈ ts → i ∈ vs) {σ : L2.St} {H : Hp} {Q : VK} (h : tQ (Zo X T tb) .o (lcM vs src g t e) σ H Q) :
    tLc (tIQ (Zo X T tb) pw src) (tG (Zo X T tb) pw ts g) (tTQ (Zo X T tb) t) (tQ (Zo X T tb) k e) vs σ H Q := by
  obtain ⟨E, O, s, d, sm, hm, kk⟩ := h
  unfold lcM at hm
  obtain ⟨ds, hds, hm⟩ := Option.bind_eq_some_iff.mp hm
  split at hm
  case isFalse => cases hm
  next hle =>
  obtain ⟨rs, hrs, rfl⟩ := Option.map_eq_some_iff.mp hm
  have hle : ds.length ≤ 1000000 := by simpa [Nat.ble_eq] using hle
  refine ⟨E, O, s, ds, sm, hds, fun J H1 e1 w D hD => ?_⟩
  have newc : ∀ a, a ∈ D :: O → a ∈ O ∨ H1 a = none := fun a m => (List.mem_cons.mp m).elim (fun q => .inr (q ▸ hD)) .inl
  have sm1 := sm.ext e1
  refine ⟨fun i m H => m = ds.length - i ∧ i ≤ ds.length ∧ Ex H1 H ∧ ∃ acc dn rest, H D = some (.lst acc) ∧ Rps X.K (D :: O) H acc dn ∧ lcGo g t e (wipeS s vs) (ds.drop i) = some rest ∧ rs = dn ++ rest ∧ acc.length ≤ i,
    ⟨ds.length, by simp, Nat.zero_le _, Ex.new hD, [], [], rs, upd_same, .nil, hrs, rfl, Nat.le_refl _⟩, ?_⟩
  rintro i m H2 ⟨rfl, hi, e2, acc, dn, rest, hacc, racc, hgo, hcat, hal⟩
  by_cases hlt : i < ds.length
  · refine .inr ?_
    have hd : ds[i]? = some ds[i] := List.getElem?_eq_getElem hlt
    obtain ⟨w1, w2⟩ := w i (D :: O) H2 e2 newc
    obtain ⟨go, w1⟩ := w1 _ hd
    rw [List.drop_eq_getElem_cons hlt] at hgo
    unfold lcGo at hgo
    obtain ⟨s1, hg1, hgo⟩ := Option.bind_eq_some_iff.mp hgo
    obtain ⟨b, ht1, hgo⟩ := Option.bind_eq_some_iff.mp hgo
    refine ⟨go, fun H' => Ex H1 H' ∧ ∃ acc dn rest, H' D = some (.lst acc) ∧ Rps X.K (D :: O) H' acc dn ∧ lcGo g t e (wipeS s vs) (ds.drop (i + 1)) = some rest ∧ rs = dn ++ rest ∧ acc.length ≤ i + 1, fun H' q => ⟨ds.length - (i + 1), by omega, rfl, hlt, q⟩, fun x H3 y => ?_⟩
    obtain ⟨e3, rx⟩ := w1 x H3 y
    have n3 : H3 D = some (.lst acc) := e3 _ _ hacc
    have smw : Sim (Zo X T tb) E (D :: O) (L2.wipe σ vs) H3 (wipeS s vs) := (sm1.wipe vs).grow hD (e2.trans e3) (by rw [n3]; exact fun z => by cases z)
    refine ⟨E, D :: O, wipeS s vs, ds[i], s1, smw, rx, hg1, fun σ2 ag sm2 => ⟨wipe_agr ag hts, E, D :: O, s1, b, sm2, ht1, fun H4 e4 => ?_⟩⟩
    cases b with
    | true =>
      rw [if_pos rfl] at hgo ⊢
      obtain ⟨z, hz, hgo⟩ := Option.bind_eq_some_iff.mp hgo
      obtain ⟨r', hr', hgo⟩ := Option.bind_eq_some_iff.mp hgo
      cases hgo
      refine ⟨E, D :: O, s1, z, sm2.ext e4, hz, fun v H5 e5 r5 => ⟨acc, (e4.trans e5) _ _ n3, Nat.lt_of_le_of_lt (Nat.le_trans hal hi) (Nat.lt_of_le_of_lt hle (by decide)), ?_⟩⟩
      have n5 : H5 D = some (.lst acc) := (e4.trans e5) _ _ n3
      have st : Stp false (D :: O) H5 (D :: O) (upd H5 D (.lst (acc ++ [v]))) := (upd_kp (tb := false) n5 trivial).stp (fun a q => by rw [List.mem_singleton.mp q]; exact List.mem_cons_self) upd_there
      refine ⟨fun a o q => ?_, acc ++ [v], dn ++ [z], r', upd_same, ((racc.ext (e3.trans (e4.trans e5))).step st).append (.one ((r5.toI' nk).step st)), hr', by rw [hcat]; simp, by rw [List.length_append]; simp; omega⟩
      rw [upd_ne (ne_of_none q hD)]
      exact (e2.trans (e3.trans (e4.trans e5))) a o q
    | false =>
      rw [if_neg Bool.false_ne_true] at hgo ⊢
      exact ⟨e2.trans (e3.trans e4), acc, dn, rest, e4 _ _ n3, racc.ext (e3.trans e4), hgo, hcat, by omega⟩
  · have hi : i = ds.length := by omega
    refine .inl ⟨(w i (D :: O) H2 e2 newc).2 (by omega), ?_⟩
    rw [hi, List.drop_length] at hgo
    cases hgo
    rw [List.append_nil] at hcat
    subst hcat
    exact kk _ H2 (e1.trans e2) ⟨D, acc, rs, rfl, rfl, e1.back hD, fun m => sm.dom D m (e1.back hD), hacc, racc⟩
theorem q_lc {elt tg iter : Expr} {ifs : List Expr} {scope : Scope} {own : List (Str × Nat)} {pos : Pos} {src : S → Option (List D)} {g : D → S → Option S} {t : S → Option Bool} {e : S → Option D} {k : Kd} {ts : List Nat} (hc : X.calm = true) (hN : X.N.Nodup) (hi : QI X T tb pw tg iter src) (ok : BlkOk X.N X.env.scope scope own)
    (hg : ∀ (s : Shared) (H : Hp) (C : Addr) (cl : List (Str × Addr)) (fp : List Addr), PG (X.blk s H scope (compEnvC scope cl C X.env) fp) tg (tG (Zo X T tb) pw ts g)) (ht : ∀ (s : Shared) (H : Hp) (C : Addr) (cl : List (Str × Addr)) (fp : List Addr), PTs (X.blk s H scope (compEnvC scope cl C X.env) fp) ifs (tTQ (Zo X T tb) t))
    (he : ∀ (s : Shared) (H : Hp) (C : Addr) (cl : List (Str × Addr)) (fp : List Addr), PE (X.blk s H scope (compEnvC scope cl C X.env) fp) elt (tQ (Zo X T tb) k e)) (nk : k ≠ .r := by decide) (hts : ∀ i, i ∈ ts → i ∈ own.map (·.2) := by decide) (hs : ∀ x, foldedSetIterable iter X.env x = pure x := by intro _; rfl) :
    QE X T tb .o (.ListComp elt [⟨tg, iter, ifs, 0⟩] scope pos) (lcM (own.map (·.2)) src g t e) :=
  imp_e (pe_lc hc hN hi.p ok hg ht he hs) fun σ H Q h => lc_read (wi := tIQ (Zo X T tb) pw src) nk hts h

/-! ## effectful operations -/
def op2E (g : D → D → Option D) (a b : S → Option (D × S)) : S → Option (D × S) := fun s => (a s).bind fun p => (b p.2).bind fun q => (g p.1 q.1).map fun d => (d, q.2)
def op1E (g : D → Option D) (a : S → Option (D × S)) : S → Option (D × S) := fun s => (a s).bind fun p => (g p.1).map fun d => (d, p.2)
def argNE : S → Option (List D × S) := fun s => some ([], s)
def argCE (a : S → Option (D × S)) (r : S → Option (List D × S)) : S → Option (List D × S) := fun s => (a s).bind fun p => (r p.2).bind fun q => some (p.1 :: q.1, q.2)
def tupE (r : S → Option (List D × S)) : S → Option (D × S) := fun s => (r s).bind fun p => if p.1.length ≤ 10000 then some (.tuple p.1, p.2) else none
def lstE (r : S → Option (List D × S)) : S → Option (List D × S) := fun s => (r s).bind fun p => if p.1.length ≤ 10000 then some (p.1, p.2) else none
def callE (g : List D → Option D) (r : S → Option (List D × S)) : S → Option (D × S) := fun s => (r s).bind fun p => (g p.1).map fun d => (d, p.2)
def tvE (a : S → Option (D × S)) : S → Option (Bool × S) := fun s => (a s).bind fun p => (boolD p.1).map fun b => (b, p.2)
def notE (a : S → Option (Bool × S)) : S → Option (Bool × S) := fun s => (a s).map fun p => (!p.1, p.2)
def andE (a b : S → Option (Bool × S)) : S → Option (Bool × S) := fun s => (a s).bind fun p => if p.1 = true then b p.2 else some (false, p.2)
def orE (a b : S → Option (Bool × S)) : S → Option (Bool × S) := fun s => (a s).bind fun p => if p.1 = true then some (true, p.2) else b p.2
def ifE (t : S → Option (Bool × S)) (a b : S → Option (D × S)) : S → Option (D × S) := fun s => (t s).bind fun p => if p.1 = true then a p.2 else b p.2
/-- an own list is given away to all -/
def frzM (i : Nat) : S → Option (D × S) := fun s => match s[i]? with
  | some (.imm d) => some (d, s)
  | some (.ol ds) => some (.list ds, s.set i (.imm (.list ds)))
  | _ => none
theorem op_twoE {r : R2} {g : D → D → Option D} {ma mb : S → Option (D × S)} (hs : ∀ (O : List Addr) (H : Hp) (x y : V) (dx dy d : D) (Q : VK), (∀ a, a ∈ O → H a ≠ none) → Rr X.K O H x dx → Rr X.K O H y dy → g dx dy = some d → (∀ v H', Ex H H' → Res X.K O H H' v d .i → Q v H') → r x y H Q)
    {σ : L2.St} {H : Hp} {Q : VK} (h : tEi (Zo X T tb) (op2E g ma mb) σ H Q) : tOp r (tEi (Zo X T tb) ma) (tEi (Zo X T tb) mb) σ H Q := by
  obtain ⟨E, O, s, d, s', sm, hm, k⟩ := h
  unfold op2E at hm
  obtain ⟨⟨x, s1⟩, hx, hm⟩ := Option.bind_eq_some_iff.mp hm
  obtain ⟨⟨y, s2⟩, hy, hm⟩ := Option.bind_eq_some_iff.mp hm
  obtain ⟨z, hz, hm⟩ := Option.map_eq_some_iff.mp hm
  cases hm
  refine ⟨E, O, s, x, s1, sm, hx, fun v H1 O1 st1 sm1 r1 => ⟨E, O1, s1, y, s2, sm1, hy, fun u H2 O2 st2 sm2 r2 => ?_⟩⟩
  exact hs O2 H2 v u x y d Q sm2.dom (.inl (r1.step st2)) (.inl r2) hz fun w H3 e3 r3 => k w H3 O2 ((st1.trans st2).trans (Stp.of_ex e3)) (sm2.ext e3) r3
theorem e_op {op : Operator} {g : D → D → Option D} (h : OpS X (binaryOp op) .i g) {a b : Expr} {pos : Pos} {ma mb : S → Option (D × S)} (ha : EE X T tb a ma) (hb : EE X T tb b mb) : EE X T tb (.BinOp a op b pos) (op2E g ma mb) := by
  obtain ⟨r, ho, hs⟩ := h
  exact imp_e (pe_op ho ha hb) fun σ H Q h => op_twoE hs h
theorem e_cmp {op : CmpOp} {g : D → D → Option D} (h : OpS X (compareOp op) .i g) {a b : Expr} {pos : Pos} {ma mb : S → Option (D × S)} (ha : EE X T tb a ma) (hb : EE X T tb b mb) (hm : behindInMarks op b = false) : EE X T tb (.Compare a [op] [b] pos) (op2E g ma mb) := by
  obtain ⟨r, ho, hs⟩ := h
  exact imp_e (pe_cmpR ho ha hb hm) fun σ H Q h => op_twoE hs h
theorem e_ix {g : D → D → Option D} (h : IxS X .i g) {a b : Expr} {pos : Pos} {ma mb : S → Option (D × S)} (ha : EE X T tb a ma) (hb : EE X T tb b mb) (hs : PlainIx b := by exact fun _ _ => rfl) : EE X T tb (.Subscript a b pos) (op2E g ma mb) := by
  obtain ⟨r, ho, hg⟩ := h
  exact imp_e (pe_ix ho ha hb hs) fun σ H Q h => op_twoE hg h
theorem tv_E {m : S → Option (D × S)} {σ : L2.St} {H : Hp} {Q : Bool → Hp → Prop} (h : tTE (Zo X T tb) (tvE m) σ H Q) : tEi (Zo X T tb) m σ H fun x H' => ∃ k, x = .bl k ∧ Q k H' := by
  obtain ⟨E, O, s, b, s', sm, hm, k⟩ := h
  unfold tvE at hm
  obtain ⟨⟨x, s1⟩, hx, hm⟩ := Option.bind_eq_some_iff.mp hm
  obtain ⟨c, hc, hm⟩ := Option.map_eq_some_iff.mp hm
  cases hm
  refine ⟨E, O, s, x, s1, sm, hx, fun v H1 O1 st1 sm1 r1 => ?_⟩
  have hx' := boolD_some hc
  dsimp only at hx'
  rw [hx'] at r1
  cases r1
  exact ⟨_, rfl, k H1 O1 st1 sm1⟩
theorem et_cmp {op : CmpOp} {g : D → D → Option D} (h : OpS X (compareOp op) .i g) {a b : Expr} {pos : Pos} {ma mb : S → Option (D × S)} (ha : EE X T tb a ma) (hb : EE X T tb b mb) (hm : behindInMarks op b = false) : ET X T tb (.Compare a [op] [b] pos) (tvE (op2E g ma mb)) := by
  obtain ⟨r, ho, hs⟩ := h
  exact imp_t (pt_cmpR ho ha hb hm) fun σ H Q h => op_twoE hs (tv_E h)
theorem et_val {e : Expr} {m : S → Option (D × S)} (h : EE X T tb e m) (he : ∀ whole, isTrue e X.env whole = (do let v ← whole; standAt e.pos; holding [v] (truthy v)) := by intro _; rfl) : ET X T tb e (tvE m) :=
  imp_t (pt_val h he) fun σ H Q h => tv_E h
theorem et_q {e : Expr} {m : S → Option Bool} (h : QT X T tb e m) : ET X T tb e (noSt m) := imp_t h fun σ H Q q => by
  obtain ⟨E, O, s, b, s', sm, hm, k⟩ := q
  obtain ⟨x, hx, he⟩ := Option.map_eq_some_iff.mp hm
  cases he
  exact ⟨E, O, s, b, sm, hx, fun H' e => k H' O (Stp.of_ex e) (sm.ext e)⟩
theorem et_not {a : Expr} {pos : Pos} {m : S → Option (Bool × S)} (h : ET X T tb a m) : ET X T tb (.UnaryOp .Not a pos) (notE m) := imp_t (pt_not h) fun σ H Q h => by
  obtain ⟨E, O, s, b, s', sm, hm, q⟩ := h
  obtain ⟨⟨c, s1⟩, hc, hm⟩ := Option.map_eq_some_iff.mp hm
  cases hm
  exact ⟨E, O, s, c, s1, sm, hc, fun H' O' st sm' => q H' O' st sm'⟩
abbrev EW (X : Cx) (T : List (Addr × Str)) (tb : Bool) (e : Expr) (m : S → Option (Bool × S)) : Prop := PW X e (tTE (Zo X T tb) m)
theorem ew_t {e : Expr} {m : S → Option (Bool × S)} (h : EW X T tb e m) : ET X T tb e m := h.pt
theorem ew_and1 {a : Expr} {pos : Pos} {m : S → Option (Bool × S)} (h : ET X T tb a m) : EW X T tb (.BoolOp .And [a] pos) m := pw_and1 h
theorem ew_or1 {a : Expr} {pos : Pos} {m : S → Option (Bool × S)} (h : ET X T tb a m) : EW X T tb (.BoolOp .Or [a] pos) m := pw_or1 h
theorem ew_and {a b : Expr} {rest : List Expr} {pos : Pos} {m n : S → Option (Bool × S)} (ha : ET X T tb a m) (hb : EW X T tb (.BoolOp .And (b :: rest) pos) n) : EW X T tb (.BoolOp .And (a :: b :: rest) pos) (andE m n) := imp_w (pw_and ha hb) fun σ H Q h => by
  obtain ⟨E, O, s, b, s', sm, hm, q⟩ := h
  unfold andE at hm
  obtain ⟨⟨c, s1⟩, hc, hm⟩ := Option.bind_eq_some_iff.mp hm
  refine ⟨E, O, s, c, s1, sm, hc, fun H' O' st sm' => ?_⟩
  cases c with
  | true => exact iteT ⟨E, O', s1, b, s', sm', hm, fun H2 O2 st2 sm2 => q H2 O2 (st.trans st2) sm2⟩
  | false => cases hm; exact iteF (q H' O' st sm')
theorem ew_or {a b : Expr} {rest : List Expr} {pos : Pos} {m n : S → Option (Bool × S)} (ha : ET X T tb a m) (hb : EW X T tb (.BoolOp .Or (b :: rest) pos) n) : EW X T tb (.BoolOp .Or (a :: b :: rest) pos) (orE m n) := imp_w (pw_or ha hb) fun σ H Q h => by
  obtain ⟨E, O, s, b, s', sm, hm, q⟩ := h
  unfold orE at hm
  obtain ⟨⟨c, s1⟩, hc, hm⟩ := Option.bind_eq_some_iff.mp hm
  refine ⟨E, O, s, c, s1, sm, hc, fun H' O' st sm' => ?_⟩
  cases c with
  | true => cases hm; exact iteT (q H' O' st sm')
  | false => exact iteF ⟨E, O', s1, b, s', sm', hm, fun H2 O2 st2 sm2 => q H2 O2 (st.trans st2) sm2⟩
theorem e_if {c a b : Expr} {pos : Pos} {t : S → Option (Bool × S)} {m n : S → Option (D × S)} (hc : ET X T tb c t) (ha : EE X T tb a m) (hb : EE X T tb b n) : EE X T tb (.IfExp c a b pos) (ifE t m n) := imp_e (pe_ifExp hc ha hb) fun σ H Q h => by
  obtain ⟨E, O, s, d, s', sm, hm, q⟩ := h
  unfold ifE at hm
  obtain ⟨⟨c, s1⟩, hc, hm⟩ := Option.bind_eq_some_iff.mp hm
  refine ⟨E, O, s, c, s1, sm, hc, fun H' O' st sm' => ?_⟩
  cases c with
  | true => exact iteT ⟨E, O', s1, d, s', sm', hm, fun w H2 O2 st2 sm2 r2 => q w H2 O2 (st.trans st2) sm2 r2⟩
  | false => exact iteF ⟨E, O', s1, d, s', sm', hm, fun w H2 O2 st2 sm2 r2 => q w H2 O2 (st.trans st2) sm2 r2⟩
theorem ea_nil : EA X T tb [] argNE := imp_a pa_nil fun σ H Q h => by
  obtain ⟨E, O, s, d, s', sm, hm, q⟩ := h
  cases hm
  exact q [] H O Stp.refl sm .nil
theorem ea_cons {e : Expr} {es : List Expr} {m : S → Option (D × S)} {n : S → Option (List D × S)} (ha : EE X T tb e m) (hr : EA X T tb es n) (hs : starEach (e :: es) X.env = (false, eval e X.env) :: starEach es X.env := by rfl) : EA X T tb (e :: es) (argCE m n) := imp_a (pa_cons ha hr hs) fun σ H Q h => by
  obtain ⟨E, O, s, d, s', sm, hm, q⟩ := h
  unfold argCE at hm
  obtain ⟨⟨x, s1⟩, hx, hm⟩ := Option.bind_eq_some_iff.mp hm
  obtain ⟨⟨xs, s2⟩, hxs, hm⟩ := Option.bind_eq_some_iff.mp hm
  cases hm
  exact ⟨E, O, s, x, s1, sm, hx, fun v H1 O1 st1 sm1 r1 => ⟨E, O1, s1, xs, s2, sm1, hxs, fun vs H2 O2 st2 sm2 r2 => q (v :: vs) H2 O2 (st1.trans st2) sm2 (.cons (r1.step st2) r2)⟩⟩
theorem e_tup {es : List Expr} {x1 pos} {n : S → Option (List D × S)} (h : EA X T tb es n) : EE X T tb (.Tuple es x1 pos) (tupE n) := imp_e (pe_tupZ h) fun σ H Q h => by
  obtain ⟨E, O, s, d, s', sm, hm, q⟩ := h
  unfold tupE at hm
  obtain ⟨⟨xs, s1⟩, hxs, hm⟩ := Option.bind_eq_some_iff.mp hm
  split at hm
  · next hl =>
    cases hm
    refine ⟨E, O, s, xs, s1, sm, hxs, fun vs H1 O1 st1 sm1 r1 => ⟨by rw [r1.length]; exact len_line hl, fun p ob hp hd => ?_⟩⟩
    have e2 : Ex H1 (upd H1 p ob) := Ex.new hp
    exact q _ _ O1 (st1.trans (Stp.of_ex e2)) (sm1.ext e2) (.tup ⟨ob, upd_same, hd⟩ (r1.ext e2))
  · cases hm
theorem eo_lst {es : List Expr} {pos} {n : S → Option (List D × S)} (h : EA X T tb es n) : EO X T tb (.List es pos) (lstE n) := imp_e (pe_lst h) fun σ H Q h => by
  obtain ⟨E, O, s, d, s', sm, hm, q⟩ := h
  unfold lstE at hm
  obtain ⟨⟨xs, s1⟩, hxs, hm⟩ := Option.bind_eq_some_iff.mp hm
  split at hm
  · next hl =>
    cases hm
    refine ⟨E, O, s, xs, s1, sm, hxs, fun vs H1 O1 st1 sm1 r1 => ⟨by rw [r1.length]; exact len_line hl, fun p hp => ?_⟩⟩
    have e2 : Ex H1 (upd H1 p (.lst vs)) := Ex.new hp
    exact q p vs _ O1 (st1.trans ⟨fun b o h _ _ => e2 b o h, fun b m => (List.mem_cons.mp m).elim (fun z => .inr (z ▸ hp)) .inl, fun b z => e2.back z⟩) (fun m => sm1.dom p m hp) (sm1.ext e2) (sm1.grow hp e2 (by rw [upd_same]; exact fun z => by cases z)) (sm1.there p hp) upd_same (r1.new hp e2)
  · cases hm
theorem e_callB {id : String} {g : List D → Option D} (h : CallS X (.builtin id) .i g) {x : Str} {p pos : Pos} {e : Expr} {es : List Expr} {n : S → Option (List D × S)} (hg : Gl X x) (hm : X.mg x = none) (hv : bootBuiltins x = some (.builtin id)) (ha : EA X T tb (e :: es) n) (hn : x ≠ "__name__" := by decide) (hdb : (x == ("__debug__" : Str)) = false := by decide)
    (he : starEach (e :: es) X.env = (false, eval e X.env) :: starEach es X.env := by rfl) (hpl : (backTo pos (starEach es X.env)).any (·.1) = false := by rfl) : EE X T tb (.Call (.Name x p) (e :: es) [] pos) (callE g n) := by
  obtain ⟨r, hr, hs⟩ := h
  refine imp_e (pe_callB hr hg hm hv ha hn hdb he hpl) fun σ H Q h => ?_
  obtain ⟨E, O, s, d, s', sm, hm, q⟩ := h
  unfold callE at hm
  obtain ⟨⟨xs, s1⟩, hxs, hm⟩ := Option.bind_eq_some_iff.mp hm
  obtain ⟨z, hz, hm⟩ := Option.map_eq_some_iff.mp hm
  cases hm
  exact ⟨E, O, s, xs, s1, sm, hxs, fun vs H1 O1 st1 sm1 r1 => hs O1 H1 vs xs _ Q sm1.dom (.of r1) hz fun w H2 e2 r2 => q w H2 O1 (st1.trans (Stp.of_ex e2)) (sm1.ext e2) r2⟩
theorem e_callTy {t : String} {g : List D → Option D} {k : Kd} (h : CallS X (.type t) k g) (nk : k ≠ .r) {x : Str} {p pos : Pos} {e : Expr} {es : List Expr} {n : S → Option (List D × S)} (hg : Gl X x) (hm : X.mg x = none) (hv : bootBuiltins x = some (.type t)) (ha : EA X T tb (e :: es) n) (hn : x ≠ "__name__" := by decide) (hdb : (x == ("__debug__" : Str)) = false := by decide)
    (he : starEach (e :: es) X.env = (false, eval e X.env) :: starEach es X.env := by rfl) (hpl : (backTo pos (starEach es X.env)).any (·.1) = false := by rfl) : EE X T tb (.Call (.Name x p) (e :: es) [] pos) (callE g n) := by
  obtain ⟨r, hr, hs⟩ := h
  refine imp_e (pe_callTy hr hg hm hv ha hn hdb he hpl) fun σ H Q h => ?_
  obtain ⟨E, O, s, d, s', sm, hm, q⟩ := h
  unfold callE at hm
  obtain ⟨⟨xs, s1⟩, hxs, hm⟩ := Option.bind_eq_some_iff.mp hm
  obtain ⟨z, hz, hm⟩ := Option.map_eq_some_iff.mp hm
  cases hm
  exact ⟨E, O, s, xs, s1, sm, hxs, fun vs H1 O1 st1 sm1 r1 => hs O1 H1 vs xs _ Q sm1.dom (.of r1) hz fun w H2 e2 r2 => q w H2 O1 (st1.trans (Stp.of_ex e2)) (sm1.ext e2) (r2.toI' nk)⟩
/-- what is owned is given up: the list at a -/
theorem Sim.giveUp {Z : Zx} {E : Ent} {O : List Addr} {σ : L2.St} {H : Hp} {s : S} {i : Nat} {ds : List D} (h : Sim Z E O σ H s) (hi : s[i]? = some (.ol ds)) :
    ∃ a vs O', σ[i]? = some (some (.ref a)) ∧ H a = some (.lst vs) ∧ E.H0 a = none ∧ Rps Z.K O H vs ds ∧ (∀ b, b ∈ O' → b ∈ O) ∧ a ∉ O' ∧ Sim Z E O' σ H (s.set i (.imm (.list ds))) := by
  have hid : ∀ b, b ∈ slF E (.ol ds) (sl σ i) → E.Hi b = none := fun b q => by
    obtain ⟨F, f1, _⟩ := h.own
    exact h.slotIdle hi (f1 i _ hi) ((f1 i _ hi).slF ▸ q)
  obtain ⟨l, ⟨F, f1, f2, f3, f4⟩, d, sb, f, t, tbs, idl⟩ := h
  obtain ⟨a, vs, h1, h2, h3, h4, h5⟩ := f1 i _ hi
  have hil : i < s.length := lt_of_get hi
  have mem : ∀ {b}, b ∈ O.filter (fun b => decide (b ≠ a)) ↔ b ∈ O ∧ b ≠ a := fun {b} => by rw [List.mem_filter]; simp
  have own : ∀ {j b}, j ≠ i → b ∈ F j → b ≠ a := fun {j b} c m z => c (f4 j i b m (by rw [h1, z]; exact List.mem_cons_self))
  refine ⟨a, vs, O.filter (fun b => decide (b ≠ a)), sl_some h2, h3, h4, h5, fun b m => (mem.mp m).1, fun m => (mem.mp m).2 rfl, by rw [List.length_set, l], ⟨fun j => if j = i then [] else F j, fun j m q => ?_, fun j q => ?_, fun j b q => ?_, fun j k b q r => ?_⟩, fun b m => d b (mem.mp m).1, fun b m => mem.mpr ⟨sb b m, fun z => E.h0 b m (by rw [z]; exact h4)⟩, f, t, tbs, fun b o q => ⟨⟨mem.mpr ⟨(idl b o q).1.1, fun z => by have := hid b (by rw [h2, z]; exact List.mem_cons_self); rw [q] at this; cases this⟩, (idl b o q).1.2⟩, fun j m e z => by
    by_cases c : j = i
    · subst c
      rw [List.getElem?_set_self hil] at e
      cases e
      cases z
    · rw [List.getElem?_set_ne (Ne.symm c)] at e
      exact (idl b o q).2 j m e z⟩⟩
  · dsimp only
    by_cases c : j = i
    · rw [c] at q ⊢
      rw [List.getElem?_set_self hil] at q
      cases q
      rw [if_pos rfl]
      exact ⟨rfl, _, h2, .lst h3 (fun m => (mem.mp m).2 rfl) (h5.mono fun b m => (mem.mp m).1)⟩
    · rw [List.getElem?_set_ne (Ne.symm c)] at q
      rw [if_neg c]
      have g := f1 j m q
      cases m with
      | un => exact g
      | imm dd => obtain ⟨g1, v, g2, g3⟩ := g; exact ⟨g1, v, g2, g3.mono fun b m => (mem.mp m).1⟩
      | ol es => obtain ⟨b, vs, g1, g2, g3, g4, g5⟩ := g; exact ⟨b, vs, g1, g2, g3, g4, g5.mono fun b m => (mem.mp m).1⟩
      | bag b => exact g
      | scr ns => exact g
      | od kvs => obtain ⟨b, o, ks, g1, g2, g3, g4, g5, g6⟩ := g; exact ⟨b, o, ks, g1, g2, g3, g4, g5, g6.mono fun b m => (mem.mp m).1⟩
  · dsimp only
    rw [List.length_set] at q
    split
    · rfl
    · exact f2 j q
  · dsimp only at q
    split at q
    · cases q
    · next c => exact mem.mpr ⟨f3 j b q, own c q⟩
  · dsimp only at q r
    split at q
    · cases q
    · split at r
      · cases r
      · exact f4 j k b q r
theorem e_frz (i : Nat) {x : Str} {pos : Pos} (hN : X.N[i]? = some x := by rfl) (hv : Vis X.env.scope x := by first | exact Or.inl rfl | exact Or.inr (Or.inl rfl) | exact Or.inr (Or.inr rfl)) (hd : (x == ("__debug__" : Str)) = false := by decide)
    (hcd : (x == ("__classdict__" : Str)) = false := by decide) : EE X T tb (.Name x pos) (frzM i) := by
  refine imp_e (pe_var hN hv hd hcd) fun σ H Q h => ?_
  obtain ⟨E, O, s, d, s', sm, hm, k⟩ := h
  unfold frzM at hm
  split at hm
  · next d' q =>
    cases hm
    obtain ⟨F, f1, _⟩ := sm.own
    obtain ⟨_, v, h2, h3⟩ := f1 i _ q
    exact ⟨v, sl_some h2, k v H O Stp.refl sm h3⟩
  · next ds q =>
    cases hm
    obtain ⟨a, vs, O', h1, h2, h3, h4, h5, h6, sm'⟩ := sm.giveUp q
    exact ⟨_, h1, k _ H O' ⟨Kp.refl, fun b m => .inl (h5 b m), fun b z => z⟩ sm' (.lst h2 h6 (h4.mono h5))⟩
  · cases hm
end
end Y

namespace Y
open PySem PySem.Spec PyProof.Rows L2

/-! ## statements -/
inductive Fl where
  | nx (s : S)
  | rt (d : D) (s : S)
  | bk (s : S)
  | ct (s : S)
def RetR (K : Fg) (E : Ent) (H' : Hp) (v : V) (d : D) : Bool → Prop
  | false => Rp K E.O0 H' v d
  | true => ∃ a vs ds, v = .ref a ∧ d = .list ds ∧ E.H0 a = none ∧ H' a = some (.lst vs) ∧ Rps K (a :: E.O0) H' vs ds
def EndOk (Z : Zx) (kr : Bool) (E : Ent) (O : List Addr) (H : Hp) (B : Ends) : Fl → Prop
  | .nx s' => ∀ σ' H' O', Stp Z.tb O H O' H' → Sim Z E O' σ' H' s' → B.nx σ' H'
  | .bk s' => ∀ σ' H' O', Stp Z.tb O H O' H' → Sim Z E O' σ' H' s' → B.bk σ' H'
  | .ct s' => ∀ σ' H' O', Stp Z.tb O H O' H' → Sim Z E O' σ' H' s' → B.ct σ' H'
  | .rt d s' => ∀ v σ' H' O', Sim Z E O' σ' H' s' → RetR Z.K E H' v d kr → B.rt v H'
def tS (Z : Zx) (kr : Bool) (m : S → Option Fl) : TS := fun B σ H => ∃ E O s f, Sim Z E O σ H s ∧ m s = some f ∧ EndOk Z kr E O H B f
theorem EndOk.later {Z : Zx} {kr : Bool} {E : Ent} {O O1 : List Addr} {H H1 : Hp} {B : Ends} {f : Fl} (st : Stp Z.tb O H O1 H1) (h : EndOk Z kr E O H B f) : EndOk Z kr E O1 H1 B f := by
  cases f with
  | nx s => exact fun σ' H' O' st' => h σ' H' O' (st.trans st')
  | bk s => exact fun σ' H' O' st' => h σ' H' O' (st.trans st')
  | ct s => exact fun σ' H' O' st' => h σ' H' O' (st.trans st')
  | rt d s => exact h
abbrev PY (X : Cx) (T : List (Addr × Str)) (tb : Bool) (kr : Bool) (st : Stmt) (m : S → Option Fl) : Prop := PS X st (tS ⟨X.K, T, tb⟩ kr m)
abbrev PYs (X : Cx) (T : List (Addr × Str)) (tb : Bool) (kr : Bool) (st : List Stmt) (m : S → Option Fl) : Prop := PSs X st (tS ⟨X.K, T, tb⟩ kr m)

def nxM : S → Option Fl := fun s => some (.nx s)
def bkM : S → Option Fl := fun s => some (.bk s)
def ctM : S → Option Fl := fun s => some (.ct s)
def seqS (a b : S → Option Fl) : S → Option Fl := fun s => (a s).bind fun f => match f with
  | .nx s' => b s'
  | f => some f
def ifS (t : S → Option (Bool × S)) (a b : S → Option Fl) : S → Option Fl := fun s => (t s).bind fun p => if p.1 = true then a p.2 else b p.2
def retS (a : S → Option (D × S)) : S → Option Fl := fun s => (a s).map fun p => .rt p.1 p.2
def retO (a : S → Option (List D × S)) : S → Option Fl := fun s => (a s).map fun p => .rt (.list p.1) p.2
def retV (i : Nat) : S → Option Fl := fun s => match s[i]? with
  | some (.ol ds) => some (.rt (.list ds) (s.set i (.imm (.list ds))))
  | _ => none
def setS (i : Nat) (a : S → Option (D × S)) : S → Option Fl := fun s => (a s).bind fun p => if i < p.2.length then some (.nx (p.2.set i (.imm p.1))) else none
def setO (i : Nat) (a : S → Option (List D × S)) : S → Option Fl := fun s => (a s).bind fun p => if i < p.2.length then some (.nx (p.2.set i (.ol p.1))) else none
def asgS (g : D → S → Option S) (a : S → Option (D × S)) : S → Option Fl := fun s => (a s).bind fun p => (g p.1 p.2).map .nx
def dropS (a : S → Option (D × S)) : S → Option Fl := fun s => (a s).map fun p => .nx p.2
def parS (i j : Nat) (a : S → Option (List D × S)) : S → Option Fl := fun s => (a s).bind fun p => match p.1 with
  | [x, y] => if i < p.2.length ∧ j < p.2.length then some (.nx ((p.2.set i (.imm x)).set j (.imm y))) else none
  | _ => none
def olAt (s : S) (i : Nat) : Option (List D) := match s[i]? with
  | some (.ol ds) => some ds
  | _ => none
theorem olAt_some {s : S} {i : Nat} {ds : List D} (h : olAt s i = some ds) : s[i]? = some (.ol ds) := by
  unfold olAt at h
  split at h
  · next q => cases h; exact q
  · cases h
def appS (i : Nat) (a : S → Option (D × S)) : S → Option Fl := fun s => (olAt s i).bind fun _ => (a s).bind fun p => (olAt p.2 i).bind fun ds =>
  if Nat.ble ds.length 1000000 = true then some (.nx (p.2.set i (.ol (ds ++ [p.1])))) else none
def extS (i : Nat) (a : S → Option (D × S)) : S → Option Fl := fun s => (olAt s i).bind fun _ => (a s).bind fun p => (olAt p.2 i).bind fun ds => (lstOf p.1).bind fun es =>
  if Nat.ble (ds.length + es.length) 1000000 = true then some (.nx (p.2.set i (.ol (ds ++ es)))) else none
def forGo (g : D → S → Option S) (m : S → Option Fl) : List D → S → Option Fl
  | [], s => some (.nx s)
  | d :: ds, s => (g d s).bind fun s1 => (m s1).bind fun f => match f with
    | .nx s2 => forGo g m ds s2
    | .ct s2 => forGo g m ds s2
    | .bk s2 => some (.nx s2)
    | .rt d s2 => some (.rt d s2)
def forS (src : S → Option (List D × S)) (g : D → S → Option S) (m : S → Option Fl) : S → Option Fl := fun s => (src s).bind fun p => forGo g m p.1 p.2
def whGo (t : S → Option (Bool × S)) (m : S → Option Fl) : Nat → S → Option Fl
  | 0, _ => none
  | n + 1, s => (t s).bind fun p => if p.1 = true then (m p.2).bind fun f => match f with
    | .nx s2 => whGo t m n s2
    | .ct s2 => whGo t m n s2
    | .bk s2 => some (.nx s2)
    | .rt d s2 => some (.rt d s2) else some (.nx p.2)

section
variable {X : Cx} {T : List (Addr × Str)} {tb kr pw : Bool}
theorem ss_nil : PYs X T tb kr [] nxM := imp_ss pss_nil fun B σ H h => by
  obtain ⟨E, O, s, f, sm, hm, k⟩ := h
  cases hm
  exact k σ H O Stp.refl sm
theorem ss_cons {st : Stmt} {rest : List Stmt} {a b : S → Option Fl} (h1 : PY X T tb kr st a) (h2 : PYs X T tb kr rest b) : PYs X T tb kr (st :: rest) (seqS a b) := imp_ss (pss_cons h1 h2) fun B σ H h => by
  obtain ⟨E, O, s, f, sm, hm, k⟩ := h
  obtain ⟨f1, h1, hm⟩ := Option.bind_eq_some_iff.mp hm
  refine ⟨E, O, s, f1, sm, h1, ?_⟩
  cases f1 with
  | nx s1 => exact fun σ' H' O' st sm' => ⟨E, O', s1, f, sm', hm, k.later st⟩
  | bk s1 => cases hm; exact k
  | ct s1 => cases hm; exact k
  | rt d s1 => cases hm; exact k
theorem ss_one {st : Stmt} {a : S → Option Fl} (h1 : PY X T tb kr st a) : PYs X T tb kr [st] a := pss_one h1
theorem s_pass {pos} : PY X T tb kr (.Pass pos) nxM := imp_s ps_pass fun B σ H h => by
  obtain ⟨E, O, s, f, sm, hm, k⟩ := h
  cases hm
  exact k σ H O Stp.refl sm
theorem s_break {pos} : PY X T tb kr (.Break pos) bkM := imp_s ps_break fun B σ H h => by
  obtain ⟨E, O, s, f, sm, hm, k⟩ := h
  cases hm
  exact k σ H O Stp.refl sm
theorem s_cont {pos} : PY X T tb kr (.Continue pos) ctM := imp_s ps_continue fun B σ H h => by
  obtain ⟨E, O, s, f, sm, hm, k⟩ := h
  cases hm
  exact k σ H O Stp.refl sm
theorem s_if {c : Expr} {a b : List Stmt} {pos : Pos} {t : S → Option (Bool × S)} {m n : S → Option Fl} (hc : ET X T tb c t) (ha : PYs X T tb kr a m) (hb : PYs X T tb kr b n) : PY X T tb kr (.If c a b pos) (ifS t m n) := imp_s (ps_if hc ha hb) fun B σ H h => by
  obtain ⟨E, O, s, f, sm, hm, k⟩ := h
  obtain ⟨⟨b, s1⟩, h1, hm⟩ := Option.bind_eq_some_iff.mp hm
  refine ⟨E, O, s, b, s1, sm, h1, fun H' O' st sm' => ?_⟩
  cases b with
  | true => exact iteT ⟨E, O', s1, f, sm', hm, k.later st⟩
  | false => exact iteF ⟨E, O', s1, f, sm', hm, k.later st⟩
theorem s_ret {e : Expr} {pos : Pos} {m : S → Option (D × S)} (h : EE X T tb e m) : PY X T tb false (.Return (some e) pos) (retS m) := imp_s (ps_ret h) fun B σ H h => by
  obtain ⟨E, O, s, f, sm, hm, k⟩ := h
  obtain ⟨⟨d, s1⟩, h1, hm⟩ := Option.map_eq_some_iff.mp hm
  cases hm
  exact ⟨E, O, s, d, s1, sm, h1, fun v H' O' st sm' r => k v σ H' O' sm' (r.mono sm'.sub)⟩
theorem s_retO {e : Expr} {pos : Pos} {m : S → Option (List D × S)} (h : EO X T tb e m) : PY X T tb true (.Return (some e) pos) (retO m) := imp_s (ps_ret h) fun B σ H h => by
  obtain ⟨E, O, s, f, sm, hm, k⟩ := h
  obtain ⟨⟨d, s1⟩, h1, hm⟩ := Option.map_eq_some_iff.mp hm
  cases hm
  refine ⟨E, O, s, d, s1, sm, h1, fun a vs H' O' st nO sm' sm2 n0 ha r => k _ σ H' O' sm' ⟨a, vs, d, rfl, rfl, n0, ha, r.mono fun b m => ?_⟩⟩
  rcases List.mem_cons.mp m with rfl | m
  · exact List.mem_cons_self
  · exact List.mem_cons_of_mem _ (sm'.sub b m)
theorem s_retV (i : Nat) {x : Str} {p pos : Pos} (hN : X.N[i]? = some x := by rfl) (hv : Vis X.env.scope x := by first | exact Or.inl rfl | exact Or.inr (Or.inl rfl) | exact Or.inr (Or.inr rfl)) (hd : (x == ("__debug__" : Str)) = false := by decide)
    (hcd : (x == ("__classdict__" : Str)) = false := by decide) : PY X T tb true (.Return (some (.Name x p)) pos) (retV i) := imp_s (ps_ret (pe_var hN hv hd hcd)) fun B σ H h => by
  obtain ⟨E, O, s, f, sm, hm, k⟩ := h
  unfold retV at hm
  split at hm
  · next ds q =>
    cases hm
    obtain ⟨a, vs, O', h1, h2, h3, h4, h5, h6, sm'⟩ := sm.giveUp q
    refine ⟨_, h1, k _ σ H O' sm' ⟨a, vs, ds, rfl, rfl, h3, h2, h4.mono fun b m => ?_⟩⟩
    rcases List.mem_cons.mp m with rfl | m
    · obtain ⟨F, f1, _, f3, _⟩ := sm.own
      obtain ⟨a', _, g1, g2, _⟩ := f1 i _ q
      rw [sl_of h1] at g2
      cases g2
      exact f3 i b (by rw [g1]; exact List.mem_cons_self)
    · exact sm.sub b m
  · cases hm
theorem s_set (i : Nat) {x : Str} {e : Expr} {pos' pos : Pos} {m : S → Option (D × S)} (hN : X.N.Nodup) (he : EE X T tb e m) (hi : X.N[i]? = some x := by rfl) (hx : Loc X.env.scope x := by first | exact Or.inl rfl | exact Or.inr rfl) (hs : swapsWith e (some (.Name x pos')) pos.line X.env = pure false := by rfl)
    (hf : X.fn x = true ∨ X.env.scope.names.lookup x = some .local := by first | exact .inl rfl | exact .inr rfl) : PY X T tb kr (.Assign [.Name x pos'] e pos) (setS i m) := imp_s (ps_set hN hi hx he hs hf) fun B σ H h => by
  obtain ⟨E, O, s, f, sm, hm, k⟩ := h
  obtain ⟨⟨d, s1⟩, h1, hm⟩ := Option.bind_eq_some_iff.mp hm
  dsimp only at hm
  split at hm
  · next hl =>
    cases hm
    exact ⟨E, O, s, d, s1, sm, h1, fun v H' O' st sm' r => k _ H' O' st (sm'.setI hl r)⟩
  · cases hm
theorem s_setO (i : Nat) {x : Str} {e : Expr} {pos' pos : Pos} {m : S → Option (List D × S)} (hN : X.N.Nodup) (he : EO X T tb e m) (hi : X.N[i]? = some x := by rfl) (hx : Loc X.env.scope x := by first | exact Or.inl rfl | exact Or.inr rfl) (hs : swapsWith e (some (.Name x pos')) pos.line X.env = pure false := by rfl)
    (hf : X.fn x = true ∨ X.env.scope.names.lookup x = some .local := by first | exact .inl rfl | exact .inr rfl) : PY X T tb kr (.Assign [.Name x pos'] e pos) (setO i m) := imp_s (ps_set hN hi hx he hs hf) fun B σ H h => by
  obtain ⟨E, O, s, f, sm, hm, k⟩ := h
  obtain ⟨⟨d, s1⟩, h1, hm⟩ := Option.bind_eq_some_iff.mp hm
  dsimp only at hm
  split at hm
  · next hl =>
    cases hm
    exact ⟨E, O, s, d, s1, sm, h1, fun a vs H' O' st nO sm' sm2 n0 ha r => k _ H' (a :: O') st (sm'.setO sm2 nO hl ha n0 r)⟩
  · cases hm
/-- name = [.. for ..], the name a plain local: the comprehension's own form of the store -/
theorem s_setLc (i : Nat) {y : Str} {py : Pos} {elt tg iter : Expr} {ifs : List Expr} {scope : Scope} {own : List (Str × Nat)} {pos spos : Pos} {src : S → Option (List D)} {g : D → S → Option S} {t : S → Option Bool} {e : S → Option D} {k : Kd} {ts : List Nat} (hc : X.calm = true) (hN : X.N.Nodup) (hi : QI X T tb pw tg iter src) (ok : BlkOk X.N X.env.scope scope own)
    (hg : ∀ (s : Shared) (H : Hp) (C : Addr) (cl : List (Str × Addr)) (fp : List Addr), PG (X.blk s H scope (compEnvC scope cl C X.env) fp) tg (tG (Zo X T tb) pw ts g)) (ht : ∀ (s : Shared) (H : Hp) (C : Addr) (cl : List (Str × Addr)) (fp : List Addr), PTs (X.blk s H scope (compEnvC scope cl C X.env) fp) ifs (tTQ (Zo X T tb) t))
    (he : ∀ (s : Shared) (H : Hp) (C : Addr) (cl : List (Str × Addr)) (fp : List Addr), PE (X.blk s H scope (compEnvC scope cl C X.env) fp) elt (tQ (Zo X T tb) k e)) (hy : X.N[i]? = some y := by rfl) (hyl : X.env.scope.names.lookup y = some .local := by rfl)
    (hsw : swapsWith (.ListComp elt [⟨tg, iter, ifs, 0⟩] scope pos) (some (.Name y py)) spos.line X.env = pure true := by exact sw_true rfl rfl rfl (by decide +kernel)) (nk : k ≠ .r := by decide) (hts : ∀ i, i ∈ ts → i ∈ own.map (·.2) := by decide) (hs : ∀ x, foldedSetIterable iter X.env x = pure x := by intro _; rfl) :
    PY X T tb kr (.Assign [.Name y py] (.ListComp elt [⟨tg, iter, ifs, 0⟩] scope pos) spos) (setS i (noSt (lcM (own.map (·.2)) src g t e))) := imp_s (ps_setLc hc hN hy hyl hsw hi.p ok hg ht he hs) fun B σ H h => by
  obtain ⟨E, O, s, f, sm, hm, kk⟩ := h
  obtain ⟨⟨d, s1⟩, h1, hm⟩ := Option.bind_eq_some_iff.mp hm
  obtain ⟨x, hx, hxe⟩ := Option.map_eq_some_iff.mp h1
  cases hxe
  dsimp only at hm
  split at hm
  · next hl =>
    cases hm
    exact lc_read (wi := tIQ (Zo X T tb) pw src) nk hts ⟨E, O, s, d, sm, hx, fun v H' e r => kk _ H' O (Stp.of_ex e) ((sm.ext e).setI hl r.toI)⟩
  · cases hm
theorem s_setLcO (i : Nat) {y : Str} {py : Pos} {elt tg iter : Expr} {ifs : List Expr} {scope : Scope} {own : List (Str × Nat)} {pos spos : Pos} {src : S → Option (List D)} {g : D → S → Option S} {t : S → Option Bool} {e : S → Option D} {k : Kd} {ts : List Nat} (hc : X.calm = true) (hN : X.N.Nodup) (hi : QI X T tb pw tg iter src) (ok : BlkOk X.N X.env.scope scope own)
    (hg : ∀ (s : Shared) (H : Hp) (C : Addr) (cl : List (Str × Addr)) (fp : List Addr), PG (X.blk s H scope (compEnvC scope cl C X.env) fp) tg (tG (Zo X T tb) pw ts g)) (ht : ∀ (s : Shared) (H : Hp) (C : Addr) (cl : List (Str × Addr)) (fp : List Addr), PTs (X.blk s H scope (compEnvC scope cl C X.env) fp) ifs (tTQ (Zo X T tb) t))
    (he : ∀ (s : Shared) (H : Hp) (C : Addr) (cl : List (Str × Addr)) (fp : List Addr), PE (X.blk s H scope (compEnvC scope cl C X.env) fp) elt (tQ (Zo X T tb) k e)) (hy : X.N[i]? = some y := by rfl) (hyl : X.env.scope.names.lookup y = some .local := by rfl)
    (hsw : swapsWith (.ListComp elt [⟨tg, iter, ifs, 0⟩] scope pos) (some (.Name y py)) spos.line X.env = pure true := by exact sw_true rfl rfl rfl (by decide +kernel)) (nk : k ≠ .r := by decide) (hts : ∀ i, i ∈ ts → i ∈ own.map (·.2) := by decide) (hs : ∀ x, foldedSetIterable iter X.env x = pure x := by intro _; rfl) :
    PY X T tb kr (.Assign [.Name y py] (.ListComp elt [⟨tg, iter, ifs, 0⟩] scope pos) spos) (setO i (ownM (lcM (own.map (·.2)) src g t e))) := imp_s (ps_setLc hc hN hy hyl hsw hi.p ok hg ht he hs) fun B σ H h => by
  obtain ⟨E, O, s, f, sm, hm, kk⟩ := h
  obtain ⟨⟨ds, s1⟩, h1, hm⟩ := Option.bind_eq_some_iff.mp hm
  obtain ⟨x, hx, hxe⟩ := Option.bind_eq_some_iff.mp h1
  obtain ⟨y, hy, hxe⟩ := Option.map_eq_some_iff.mp hxe
  cases hxe
  dsimp only at hm
  split at hm
  · next hl =>
    cases hm
    refine lc_read (wi := tIQ (Zo X T tb) pw src) nk hts ⟨E, O, s, x, sm, hx, fun v H' e r => ?_⟩
    obtain ⟨a, vs, ds', rfl, rfl, h3, h4, h5, h6⟩ := r
    cases hy
    exact kk _ H' (a :: O) ⟨fun b o h _ _ => e b o h, fun b m => (List.mem_cons.mp m).elim (fun z => .inr (z ▸ h3)) .inl, fun b z => e.back z⟩ ((sm.ext e).setO (sm.grow h3 e (by rw [h5]; exact fun z => by cases z)) h4 hl h5 (sm.there a h3) h6)
  · cases hm
theorem s_asg {tg e : Expr} {pos : Pos} {m : S → Option (D × S)} {ts : List Nat} {g : D → S → Option S} (he : EE X T tb e m) (hg : PG X tg (tG (Zo X T tb) false ts g)) (hs : swapsWithSole [tg] e pos.line X.env = pure false := by rfl) (hw : swappedStores [tg] e X.env = pure none := by rfl)
    (h1 : (assignEach [tg] X.env).map (·.2) = [assign tg X.env] := by rfl) : PY X T tb kr (.Assign [tg] e pos) (asgS g m) := imp_s (ps_asg he hg hs hw h1) fun B σ H h => by
  obtain ⟨E, O, s, f, sm, hm, k⟩ := h
  obtain ⟨⟨d, s1⟩, h1, hm⟩ := Option.bind_eq_some_iff.mp hm
  obtain ⟨s2, h2, hm⟩ := Option.map_eq_some_iff.mp hm
  cases hm
  exact ⟨E, O, s, d, s1, sm, h1, fun v H' O' st sm' r => ⟨E, O', s1, d, s2, sm', r.v, h2, fun σ' _ sm2 => k σ' H' O' st sm2⟩⟩
theorem s_expr {e : Expr} {pos : Pos} {m : S → Option (D × S)} (he : EE X T tb e m) (hs : swapsWith e none pos.line X.env = pure false := by rfl) : PY X T tb kr (.Expr e pos) (dropS m) := imp_s (ps_expr he hs) fun B σ H h => by
  obtain ⟨E, O, s, f, sm, hm, k⟩ := h
  obtain ⟨⟨d, s1⟩, h1, hm⟩ := Option.map_eq_some_iff.mp hm
  cases hm
  exact ⟨E, O, s, d, s1, sm, h1, fun v H' O' st sm' r => k σ H' O' st sm'⟩
theorem s_par (i j : Nat) {x y : Str} {a b : Expr} {px py pt pos : Pos} {kt k2 pt2} {m : S → Option (List D × S)} (hc : X.calm = true) (hN : X.N.Nodup) (ha : EA X T tb [a, b] m) (hi : X.N[i]? = some x := by rfl) (hj : X.N[j]? = some y := by rfl) (hij : i ≠ j := by decide)
    (hx : X.env.scope.names.lookup x = some .local := by rfl) (hy : X.env.scope.names.lookup y = some .local := by rfl)
    (hw : swappedStores [.Tuple [.Name x px, .Name y py] kt pt] (.Tuple [a, b] k2 pt2) X.env = pure (some [x, y]) := by rfl) (hs : swapsWithSole [.Tuple [.Name x px, .Name y py] kt pt] (.Tuple [a, b] k2 pt2) pos.line X.env = pure false := by rfl) :
    PY X T tb kr (.Assign [.Tuple [.Name x px, .Name y py] kt pt] (.Tuple [a, b] k2 pt2) pos) (parS i j m) := imp_s (ps_par hc hN hi hj hij hx hy ha hw hs) fun B σ H h => by
  obtain ⟨E, O, s, f, sm, hm, k⟩ := h
  obtain ⟨⟨ds, s1⟩, h1, hm⟩ := Option.bind_eq_some_iff.mp hm
  dsimp only at hm
  split at hm
  · next x y =>
    split at hm
    · next hl =>
      cases hm
      refine ⟨E, O, s, _, s1, sm, h1, fun vs H' O' st sm' r => ?_⟩
      cases r with
      | cons r1 r =>
        cases r with
        | cons r2 r =>
          cases r
          exact ⟨_, _, rfl, k _ H' O' st ((sm'.setI hl.1 r1).setI (by rw [List.length_set]; exact hl.2) r2)⟩
    · cases hm
  · cases hm
theorem tyL {K : Fg} {H : Hp} {a : Addr} {vs : List V} (h : H a = some (.lst vs)) : tyV K "list" (.ref a) H := .inl ⟨rfl, _, SqL.of h⟩
theorem s_append (i : Nat) {x : Str} {e : Expr} {p apos cpos pos : Pos} {m : S → Option (D × S)} (he : EE X T tb e m) (hN : X.N[i]? = some x := by rfl) (hv : Vis X.env.scope x := by first | exact Or.inl rfl | exact Or.inr (Or.inl rfl) | exact Or.inr (Or.inr rfl)) (hd : (x == ("__debug__" : Str)) = false := by decide)
    (hcd : (x == ("__classdict__" : Str)) = false := by decide) (hbase : attributeBase (.Name x p) "append" X.env (eval (.Name x p) X.env) = eval (.Name x p) X.env := by rfl)
    (hfew : ((backTo cpos (starEach [e] X.env)).all (fun x => !x.1) && (backToKw cpos (keywordEach [] X.env)).all (fun x => x.1.isSome)
      && decide ([e].length + ([] : List Keyword).length + (if ([] : List Keyword).isEmpty then 0 else 1) < 30)) = true := by rfl)
    (hline : (apos.endLine == cpos.line) = true := by rfl) (hs : starEach [e] X.env = (false, eval e X.env) :: starEach [] X.env := by rfl) (hplain : (backTo cpos (starEach [] X.env)).any (·.1) = false := by rfl) (hsw : swapsWith (.Call (.Attribute (.Name x p) "append" apos) [e] [] cpos) none pos.line X.env = pure false := by rfl) :
    PY X T tb kr (.Expr (.Call (.Attribute (.Name x p) "append" apos) [e] [] cpos) pos) (appS i m) :=
  imp_s (ps_expr (pe_bm PySem.F.plainAttrs_list PySem.F.slot_list_append PySem.F.type_list_append mt_append (pe_var hN hv hd hcd) (pa_cons he pa_nil hs) hbase hfew hline hs hplain) hsw) fun B σ H h => by
  obtain ⟨E, O, s, f, sm, hm, k⟩ := h
  obtain ⟨ds0, h0, hm⟩ := Option.bind_eq_some_iff.mp hm
  obtain ⟨⟨d, s1⟩, h1, hm⟩ := Option.bind_eq_some_iff.mp hm
  obtain ⟨ds, h2, hm⟩ := Option.bind_eq_some_iff.mp hm
  split at hm
  · next hl =>
    cases hm
    have hl : ds.length ≤ 1000000 := by simpa [Nat.ble_eq] using hl
    obtain ⟨a, vs0, g1, g2, _⟩ := sm.lset (es := []) (olAt_some h0)
    refine ⟨_, g1, tyL g2, E, O, s, d, s1, sm, h1, fun v H' O' st sm' r => ?_⟩
    obtain ⟨a', vs, e1, e2, e3, e4⟩ := sm'.lset (es := ds ++ [d]) (olAt_some h2)
    rw [g1] at e1
    cases e1
    obtain ⟨sm2, st2⟩ := e4 (vs ++ [v]) (e3.append (.one r))
    exact ⟨a, vs, v, rfl, rfl, e2, by rw [e3.length]; exact Nat.lt_of_le_of_lt hl (by decide), k σ _ O' (st.trans st2) sm2⟩
  · cases hm
theorem s_extend (i : Nat) {x : Str} {e : Expr} {p apos cpos pos : Pos} {m : S → Option (D × S)} (he : EE X T tb e m) (hN : X.N[i]? = some x := by rfl) (hv : Vis X.env.scope x := by first | exact Or.inl rfl | exact Or.inr (Or.inl rfl) | exact Or.inr (Or.inr rfl)) (hd : (x == ("__debug__" : Str)) = false := by decide)
    (hcd : (x == ("__classdict__" : Str)) = false := by decide) (hbase : attributeBase (.Name x p) "extend" X.env (eval (.Name x p) X.env) = eval (.Name x p) X.env := by rfl)
    (hfew : ((backTo cpos (starEach [e] X.env)).all (fun x => !x.1) && (backToKw cpos (keywordEach [] X.env)).all (fun x => x.1.isSome)
      && decide ([e].length + ([] : List Keyword).length + (if ([] : List Keyword).isEmpty then 0 else 1) < 30)) = true := by rfl)
    (hline : (apos.endLine == cpos.line) = true := by rfl) (hs : starEach [e] X.env = (false, eval e X.env) :: starEach [] X.env := by rfl) (hplain : (backTo cpos (starEach [] X.env)).any (·.1) = false := by rfl) (hsw : swapsWith (.Call (.Attribute (.Name x p) "extend" apos) [e] [] cpos) none pos.line X.env = pure false := by rfl) :
    PY X T tb kr (.Expr (.Call (.Attribute (.Name x p) "extend" apos) [e] [] cpos) pos) (extS i m) :=
  imp_s (ps_expr (pe_bm PySem.F.plainAttrs_list PySem.F.slot_list_extend PySem.F.type_list_extend mt_extend (pe_var hN hv hd hcd) (pa_cons he pa_nil hs) hbase hfew hline hs hplain) hsw) fun B σ H h => by
  obtain ⟨E, O, s, f, sm, hm, k⟩ := h
  obtain ⟨ds0, h0, hm⟩ := Option.bind_eq_some_iff.mp hm
  obtain ⟨⟨d, s1⟩, h1, hm⟩ := Option.bind_eq_some_iff.mp hm
  obtain ⟨ds, h2, hm⟩ := Option.bind_eq_some_iff.mp hm
  obtain ⟨es, h3, hm⟩ := Option.bind_eq_some_iff.mp hm
  split at hm
  · next hl =>
    cases hm
    have hl : ds.length + es.length ≤ 1000000 := by simpa [Nat.ble_eq] using hl
    obtain ⟨a, vs0, g1, g2, _⟩ := sm.lset (es := []) (olAt_some h0)
    have hd : d = .list es := by cases d <;> simp [lstOf] at h3; rw [h3]
    subst hd
    refine ⟨_, g1, tyL g2, E, O, s, _, s1, sm, h1, fun v H' O' st sm' r => ?_⟩
    obtain ⟨a', vs, e1, e2, e3, e4⟩ := sm'.lset (es := ds ++ es) (olAt_some h2)
    rw [g1] at e1
    cases e1
    obtain ⟨b, ws, rfl, f1, _, f2⟩ := r.ref_list
    obtain ⟨sm2, st2⟩ := e4 (vs ++ ws) (e3.append f2)
    exact ⟨a, b, vs, ws, rfl, rfl, e2, f1, by rw [e3.length, f2.length]; exact Nat.le_trans hl (by decide), k σ _ O' (st.trans st2) sm2⟩
  · cases hm
/-! ### loops -/
theorem s_for {tg iter : Expr} {body : List Stmt} {pos : Pos} {src : S → Option (List D × S)} {ts : List Nat} {g : D → S → Option S} {m : S → Option Fl} (hc : X.calm = true) (hi : EI X T tb pw tg iter src) (hg : PG X tg (tG (Zo X T tb) pw ts g)) (hb : PYs X T tb kr body m) (hp : PassesOwn (model X.prog X.w) X.A X.env X.xe := by exact PassesOwn.never)
    (hs : ∀ x, foldedSetIterable iter X.env x = pure x := by intro _; rfl) : PY X T tb kr (.For tg iter body [] pos) (forS src g m) := imp_s (ps_for hp hc hi hg hb hs) fun B σ H h => by
  obtain ⟨E, O, s, f, sm, hm, k⟩ := h
  obtain ⟨⟨ds, s1⟩, h1, hm⟩ := Option.bind_eq_some_iff.mp hm
  refine ⟨E, O, s, ds, s1, sm, h1, fun J H1 O1 st1 sm1 w => ?_⟩
  refine ⟨fun i n σ' H' => n = ds.length - i ∧ i ≤ ds.length ∧ ∃ O2 s2, Sim (Zo X T tb) E O2 σ' H' s2 ∧ Stp tb O1 H1 O2 H' ∧ forGo g m (ds.drop i) s2 = some f, ⟨ds.length, by simp, Nat.zero_le _, O1, s1, sm1, Stp.refl, hm⟩, ?_⟩
  rintro i n σ2 H2 ⟨rfl, hi, O2, s2, sm2, st2, hgo⟩
  obtain ⟨w1, w2⟩ := w i tb O2 H2 st2
  by_cases hlt : i < ds.length
  · refine .inr ?_
    obtain ⟨go, w1⟩ := w1 _ (List.getElem?_eq_getElem hlt)
    rw [List.drop_eq_getElem_cons hlt] at hgo
    unfold forGo at hgo
    obtain ⟨s3, hg3, hgo⟩ := Option.bind_eq_some_iff.mp hgo
    obtain ⟨f3, hf3, hgo⟩ := Option.bind_eq_some_iff.mp hgo
    refine ⟨go, fun σ' H' => ∃ O2 s2, Sim (Zo X T tb) E O2 σ' H' s2 ∧ Stp tb O1 H1 O2 H' ∧ forGo g m (ds.drop (i + 1)) s2 = some f, fun σ' H' q => ⟨ds.length - (i + 1), by omega, rfl, hlt, q⟩, fun x H3 y => ?_⟩
    obtain ⟨e3, rx⟩ := w1 x H3 y
    refine ⟨E, O2, s2, _, s3, sm2.ext e3, rx, hg3, fun σ4 _ sm4 => ⟨E, O2, s3, f3, sm4, hf3, ?_⟩⟩
    have st3 : Stp tb O1 H1 O2 H3 := st2.trans (Stp.of_ex e3)
    cases f3 with
    | nx s5 => exact fun σ' H' O' st' sm' => ⟨O', s5, sm', st3.trans st', hgo⟩
    | ct s5 => exact fun σ' H' O' st' sm' => ⟨O', s5, sm', st3.trans st', hgo⟩
    | bk s5 => cases hgo; exact fun σ' H' O' st' sm' => k σ' H' O' (st1.trans (st3.trans st')) sm'
    | rt d s5 => cases hgo; exact k
  · have hi : i = ds.length := by omega
    refine .inl ⟨w2 (by omega), ?_⟩
    rw [hi, List.drop_length] at hgo
    cases hgo
    exact k σ2 H2 O2 (st1.trans st2) sm2
theorem s_while (n : Nat) {c : Expr} {body : List Stmt} {pos : Pos} {t : S → Option (Bool × S)} {m : S → Option Fl} (hc : ET X T tb c t) (hb : PYs X T tb kr body m) (hp : PassesOwn (model X.prog X.w) X.A X.env X.xe := by exact PassesOwn.never) : PY X T tb kr (.While c body [] pos) (whGo t m n) := imp_s (ps_while hp hc hb) fun B σ H h => by
  obtain ⟨E, O, s, f, sm, hm, k⟩ := h
  refine ⟨fun n σ' H' => ∃ O2 s2, Sim (Zo X T tb) E O2 σ' H' s2 ∧ Stp tb O H O2 H' ∧ whGo t m n s2 = some f, ⟨n, O, s, sm, Stp.refl, hm⟩, ?_⟩
  rintro n σ2 H2 ⟨O2, s2, sm2, st2, hgo⟩
  cases n with
  | zero => cases hgo
  | succ n =>
    unfold whGo at hgo
    obtain ⟨⟨b, s3⟩, h3, hgo⟩ := Option.bind_eq_some_iff.mp hgo
    refine ⟨E, O2, s2, b, s3, sm2, h3, fun H3 O3 st3 sm3 => ?_⟩
    cases b with
    | true =>
      rw [if_pos rfl] at hgo ⊢
      obtain ⟨f4, hf4, hgo⟩ := Option.bind_eq_some_iff.mp hgo
      refine ⟨fun σ' H' => ∃ O2 s2, Sim (Zo X T tb) E O2 σ' H' s2 ∧ Stp tb O H O2 H' ∧ whGo t m n s2 = some f, fun σ' H' q => ⟨n, Nat.lt_succ_self n, q⟩, E, O3, s3, f4, sm3, hf4, ?_⟩
      cases f4 with
      | nx s5 => exact fun σ' H' O' st' sm' => ⟨O', s5, sm', (st2.trans st3).trans st', hgo⟩
      | ct s5 => exact fun σ' H' O' st' sm' => ⟨O', s5, sm', (st2.trans st3).trans st', hgo⟩
      | bk s5 => cases hgo; exact fun σ' H' O' st' sm' => k σ' H' O' ((st2.trans st3).trans st') sm'
      | rt d s5 => cases hgo; exact k
    | false =>
      rw [if_neg Bool.false_ne_true] at hgo ⊢
      cases hgo
      exact k σ2 H3 O3 (st2.trans st3) sm3
end
end Y

namespace Y
open PySem PySem.Spec PyProof.Rows L2

/-! ## what loops walk -/
def seqE (a : S → Option (D × S)) : S → Option (List D × S) := fun s => (a s).bind fun p => (seqD p.1).map fun ds => (ds, p.2)
def rng1E (a : S → Option (List D × S)) : S → Option (List D × S) := fun s => (a s).bind fun p => (rng1M (fun _ => some p.1) s).map fun ds => (ds, p.2)
def rng2E (a : S → Option (List D × S)) : S → Option (List D × S) := fun s => (a s).bind fun p => (rng2M (fun _ => some p.1) s).map fun ds => (ds, p.2)
section
variable {X : Cx} {T : List (Addr × Str)} {tb kr pw : Bool}
theorem ei_seq {tg e : Expr} {m : S → Option (D × S)} (h : EE X T tb e m) : EI X T tb pw tg e (seqE m) := imp_i (pi_any h) fun σ H R q => by
  obtain ⟨E, O, s, ds, s', sm, hm, k⟩ := q
  obtain ⟨⟨d, s1⟩, hd, hm⟩ := Option.bind_eq_some_iff.mp hm
  obtain ⟨xs, hx, hm⟩ := Option.map_eq_some_iff.mp hm
  cases hm
  refine ⟨E, O, s, d, s1, sm, hd, fun v H' O' st sm' r => ?_⟩
  rcases seqD_some hx with q | q <;> (dsimp only at q; subst q)
  · obtain ⟨a, xs, rfl, h1, h2, h3⟩ := r.ref_list
    exact ⟨a, rfl, .inl ⟨xs, SqL.of h1, k _ H' O' st sm' (walk_listS h1 h2 h3)⟩⟩
  · obtain ⟨a, xs, rfl, h1, h2⟩ := r.ref_tuple
    exact ⟨a, rfl, .inr ⟨xs, h1, k _ H' O' st sm' (walk_tupS h1 h2)⟩⟩
theorem ei_rng1 {tg a : Expr} {p pos : Pos} {m : S → Option (List D × S)} (hg : Gl X "range") (hm : X.mg "range" = none) (ha : EA X T tb [a] m) (hs : starEach [a] X.env = [(false, eval a X.env)] := by rfl) : EI X T tb pw tg (.Call (.Name "range" p) [a] [] pos) (rng1E m) := imp_i (pi_range1 hg hm ha hs) fun σ H R q => by
  obtain ⟨E, O, s, ds, s', sm, hm, k⟩ := q
  obtain ⟨⟨xs, s1⟩, h0, hm⟩ := Option.bind_eq_some_iff.mp hm
  obtain ⟨ys, hm2, he⟩ := Option.map_eq_some_iff.mp hm
  cases he
  obtain ⟨j, h1, h2, rfl⟩ := rng_int1 hm2
  cases h1
  refine ⟨E, O, s, _, s1, sm, h0, fun vs H' O' st sm' r => ?_⟩
  exact ⟨j, rrs_ints1 (.of r), by omega, by omega, k _ H' O' st sm' walk_rng⟩
theorem ei_rng2 {tg a a2 : Expr} {p pos : Pos} {m : S → Option (List D × S)} (hg : Gl X "range") (hm : X.mg "range" = none) (ha : EA X T tb [a, a2] m) (hs : starEach [a, a2] X.env = [(false, eval a X.env), (false, eval a2 X.env)] := by rfl) (hs2 : starEach [a2] X.env = [(false, eval a2 X.env)] := by rfl) :
    EI X T tb pw tg (.Call (.Name "range" p) [a, a2] [] pos) (rng2E m) := imp_i (pi_range2 hg hm ha hs hs2) fun σ H R q => by
  obtain ⟨E, O, s, ds, s', sm, hm, k⟩ := q
  obtain ⟨⟨xs, s1⟩, h0, hm⟩ := Option.bind_eq_some_iff.mp hm
  obtain ⟨ys, hm2, he⟩ := Option.map_eq_some_iff.mp hm
  cases he
  obtain ⟨i, j, h1, h2, h3, rfl⟩ := rng_int2 hm2
  cases h1
  refine ⟨E, O, s, _, s1, sm, h0, fun vs H' O' st sm' r => ?_⟩
  exact ⟨i, j, rrs_ints2 (.of r), by omega, k _ H' O' st sm' walk_rng⟩
end

/-! ## defs that change nothing -/
def RetK (K : Fg) (O : List Addr) (H H' : Hp) (v : V) (d : D) : Bool → Prop
  | false => Rp K O H' v d
  | true => ∃ a vs ds, v = .ref a ∧ d = .list ds ∧ H a = none ∧ H' a = some (.lst vs) ∧ Rps K (a :: O) H' vs ds
def spF (K : Fg) (kr : Bool) (n : Nat) (F : List D → Option D) : Sp := fun vs H Q _ =>
  ∃ O ds d, vs.length = n ∧ (∀ a, a ∈ O → H a ≠ none) ∧ Rps K O H vs ds ∧ F ds = some d ∧ ∀ v H', Ex H H' → RetK K O H H' v d kr → Q v H'
def slots (n : Nat) (ds : List D) : S := ds.map M.imm ++ List.replicate (n - ds.length) M.un
def outF : Option Fl → Option D
  | some (.rt d _) => some d
  | _ => none
def runF (n : Nat) (m : S → Option Fl) : List D → Option D := fun ds => outF (m (slots n ds))
theorem sim_start {Z : Zx} {E : Ent} {O : List Addr} {H : Hp} {N : List Str} {vs : List V} {ds : List D} (r : Rps Z.K O H vs ds) (dom : ∀ a, a ∈ O → H a ≠ none) (h0 : E.H0 = H) (hO : E.O0 = O) (tabs : LamX.Tabs Z.T H) (hI : E.Hi = noHi := by rfl) : Sim Z E O (L2.start N vs) H (slots N.length ds) := by
  have hl := r.length
  refine ⟨by simp [L2.start, slots, hl], ⟨fun _ => [], fun i m q => ?_, fun _ _ => rfl, fun i a q => (by cases q), fun i j a q => (by cases q)⟩, dom, fun a q => hO ▸ q, fun a o q _ _ => by rw [h0] at q; exact q, fun a q => by rw [h0]; exact q, tabs, fun a o q => by rw [hI] at q; cases q⟩
  unfold slots at q
  by_cases hi : i < ds.length
  · rw [List.getElem?_append_left (by simpa using hi), List.getElem?_map] at q
    obtain ⟨d, hd, rfl⟩ := Option.map_eq_some_iff.mp q
    obtain ⟨v, hv, hr⟩ := r.get hd
    refine ⟨rfl, v, sl_of ?_, hr⟩
    unfold L2.start
    rw [List.getElem?_append_left (by rw [List.length_map, hl]; exact hi), List.getElem?_map, hv]
    rfl
  · rw [List.getElem?_append_right (by simpa using hi), List.getElem?_replicate] at q
    split at q
    · cases q; rfl
    · cases q
theorem fnF {P : Program} {w : World} {K : Fg} {mg : Str → Option Value} {base : Heap} {x qual : Str} {st : Stmt} {f : Addr} {fd : FuncData} {N ps : List Str} {k : Nat} {kr : Bool} {m : S → Option Fl} (F : Fun K x qual st f fd) (S : FnScope N ps (defScope st))
    (hb : ∀ (cdv : Value) (A : Around) (outer : List Env) (s : Shared) (H : Hp) (E : XK), Room k (A.deeper (envOfC qual (defScope st) s.heap.objs.size f cdv)) → PYs (cxOf CX0 P w K mg base N qual (defScope st) f cdv A outer s H E).nox [] false kr (defBody st) m) :
    FnOk P w K mg base CX0 (k + 1) f fd ps (spF K kr ps.length (runF N.length m)) := by
  refine F.ok S (fun vs H Q E h => ?_) (fun cdv A outer s H vs Q E hr h => ⟨_, hb cdv A outer s H E hr, ?_⟩)
  · obtain ⟨_, _, _, h, _⟩ := h
    exact h
  · obtain ⟨O, ds, d, hl, dom, r, hF, k⟩ := h
    unfold runF outF at hF
    split at hF
    · next d' s' q =>
      cases hF
      refine ⟨⟨[], H, O, dom, noHi⟩, O, _, _, sim_start (Z := ⟨K, [], false⟩) r dom rfl rfl (fun p hp => by cases hp), q, fun v σ' H' O' sm rr => ?_⟩
      have e : Ex H H' := fun a o q => sm.fr a o q (fun z => by cases z) (fun z => by cases z)
      refine k v H' e ?_
      cases kr with
      | false => exact rr
      | true => exact rr
    · cases hF

/-- a def of the text that a body may call -/
structure CallF (P : Program) (w : World) (K : Fg) (mg : Str → Option Value) (base : Heap) (x : Str) (st : Stmt) (ps : List Str) (k : Nat) (kr : Bool) (F : List D → Option D) : Prop where
  ex : ∃ (f : Addr) (fd : FuncData), mg x = some (.ref f) ∧ Fun K x x st f fd ∧ Binds K fd ps [] ∧ FnOk P w K mg base CX0 k f fd ps (spF K kr ps.length F)
theorem CallF.imp {P : Program} {w : World} {K : Fg} {mg : Str → Option Value} {base : Heap} {x : Str} {st : Stmt} {ps : List Str} {k : Nat} {kr : Bool} {F G : List D → Option D} (C : CallF P w K mg base x st ps k kr F) (h : ∀ ds d, G ds = some d → F ds = some d) : CallF P w K mg base x st ps k kr G := by
  obtain ⟨f, fd, h1, h2, h3, h4⟩ := C.ex
  refine ⟨f, fd, h1, h2, h3, h4.imp fun vs H Q E q => ?_⟩
  obtain ⟨O, ds, d, q1, q2, q3, q4, q5⟩ := q
  exact ⟨O, ds, d, q1, q2, q3, h ds d q4, q5⟩
def kdOf : Bool → Kd
  | true => .o
  | false => .i
theorem RetK.res {K : Fg} {O : List Addr} {H H' : Hp} {v : V} {d : D} {kr : Bool} (dom : ∀ a, a ∈ O → H a ≠ none) (h : RetK K O H H' v d kr) : Res K O H H' v d (kdOf kr) := by
  cases kr with
  | false => exact h
  | true =>
    obtain ⟨a, vs, ds, h1, h2, h3, h4, h5⟩ := h
    exact ⟨a, vs, ds, h1, h2, h3, fun m => dom a m h3, h4, h5⟩
def noLD : D → Bool
  | .list ds => noL.noLs ds
  | d => noL d
/-- the same where lists of one's own are lent: nothing of them may come back -/
def lentOk : Bool → D → Bool
  | true, d => noLD d
  | false, d => noL d
def lentM (kr : Bool) (F : List D → Option D) : List D → Option D := fun ds => (F ds).bind fun d => if lentOk kr d = true then some d else none
theorem Rrs.lend {K : Fg} {O : List Addr} {H : Hp} : ∀ {vs : List V} {ds : List D}, Rrs K O H vs ds → Rps K [] H vs ds
  | _, _, .nil => .nil
  | _, _, .cons h r => .cons (by
      rcases h with h | ⟨a, vs, ds, rfl, rfl, h3, h4⟩ | ⟨a, o, vs, kvs, rfl, rfl, h3, h4, h5⟩
      · exact h.mono fun a m => by cases m
      · exact .lst h3 (fun m => by cases m) (h4.mono fun a m => by cases m)
      · exact .dct h3 h4 (fun m => by cases m) (h5.mono fun a m => by cases m)) r.lend
section
variable {X : Cx} {T : List (Addr × Str)} {tb kr pw : Bool} {x : Str} {st : Stmt} {ps : List Str} {k : Nat} {F : List D → Option D}
theorem vals_nil : Vals ([] : List V) ([] : List Value) := .nil
theorem q_call {e : Expr} {es : List Expr} {p pos : Pos} {n : S → Option (List D)} {j : Nat} (C : CallF X.prog X.w X.K X.mg X.base x st ps k kr F) (hr : Room j X.A) (hg : Gl X x) (ha : QA X T tb true (e :: es) n) (hk : k ≤ j := by decide) (hl : ∀ s ds, n s = some ds → ds.length = ps.length) (hdb : (x == ("__debug__" : Str)) = false := by decide)
    (he : starEach (e :: es) X.env = (false, eval e X.env) :: starEach es X.env := by rfl) (hpl : (backTo pos (starEach es X.env)).any (·.1) = false := by rfl) : QE X T tb (kdOf kr) (.Call (.Name x p) (e :: es) [] pos) (callM F n) := by
  obtain ⟨f, fd, hm, Fn, hb, ok⟩ := C.ex
  refine imp_e (pe_call ok (hr.mono hk) hg hm Fn.kp hb vals_nil pass0 ha hdb he hpl) fun σ H Q h => ?_
  obtain ⟨E, O, s, d, sm, hmm, q⟩ := h
  obtain ⟨xs, hxs, hF⟩ := Option.bind_eq_some_iff.mp hmm
  refine ⟨E, O, s, xs, sm, hxs, fun vs H1 e1 r1 => ?_⟩
  have r1 : Rps X.K O H1 vs xs := r1
  have dom := (sm.ext e1).dom
  refine ⟨O, xs, d, by rw [List.append_nil, r1.length]; exact hl s xs hxs, dom, by rw [List.append_nil]; exact r1, hF, fun v H' e r => q v H' (e1.trans e) ((r.res dom).from e1)⟩
theorem q_callL {e : Expr} {es : List Expr} {p pos : Pos} {n : S → Option (List D)} {j : Nat} (C : CallF X.prog X.w X.K X.mg X.base x st ps k kr F) (hr : Room j X.A) (hg : Gl X x) (ha : QA X T tb false (e :: es) n) (hk : k ≤ j := by decide) (hl : ∀ s ds, n s = some ds → ds.length = ps.length) (hdb : (x == ("__debug__" : Str)) = false := by decide)
    (he : starEach (e :: es) X.env = (false, eval e X.env) :: starEach es X.env := by rfl) (hpl : (backTo pos (starEach es X.env)).any (·.1) = false := by rfl) : QE X T tb (kdOf kr) (.Call (.Name x p) (e :: es) [] pos) (callM (lentM kr F) n) := by
  obtain ⟨f, fd, hm, Fn, hb, ok⟩ := C.ex
  refine imp_e (pe_call ok (hr.mono hk) hg hm Fn.kp hb vals_nil pass0 ha hdb he hpl) fun σ H Q h => ?_
  obtain ⟨E, O, s, d, sm, hmm, q⟩ := h
  obtain ⟨xs, hxs, hF⟩ := Option.bind_eq_some_iff.mp hmm
  obtain ⟨d', hF, hn⟩ := Option.bind_eq_some_iff.mp hF
  split at hn
  case isFalse => cases hn
  next hnl =>
  cases hn
  refine ⟨E, O, s, xs, sm, hxs, fun vs H1 e1 r1 => ?_⟩
  have r2 : Rps X.K [] H1 vs xs := ResL.toR r1 |>.lend
  have dom := (sm.ext e1).dom
  refine ⟨[], xs, d, by rw [List.append_nil, r2.length]; exact hl s xs hxs, fun a m => (by cases m), by rw [List.append_nil]; exact r2, hF, fun v H' e r => q v H' (e1.trans e) ?_⟩
  cases kr with
  | false =>
    have r : Rp X.K [] H' v d := r
    exact (show Rp X.K O H' v d from r.free hnl)
  | true =>
    obtain ⟨a, vs', ds', h1, rfl, h3, h4, h5⟩ := r
    exact ⟨a, vs', ds', h1, rfl, e1.back h3, fun m => dom a m h3, h4, Rps.free h5 hnl⟩
end
end Y

namespace Y
open PySem PySem.Spec PyProof.Rows L2

/-! ## equality of data, repr -/
mutual
def deq : D → D → Bool
  | .none, .none => true
  | .bool a, .bool b => a == b
  | .int a, .int b => a == b
  | .str a, .str b => a == b
  | .list a, .list b => deqs a b
  | .tuple a, .tuple b => deqs a b
  | _, _ => false
def deqs : List D → List D → Bool
  | [], [] => true
  | x :: xs, y :: ys => deq x y && deqs xs ys
  | _, _ => false
end
mutual
theorem deq_eq : ∀ {d e : D}, deq d e = true → d = e
  | .none, e, h => by cases e <;> simp [deq] at h; rfl
  | .bool a, e, h => by cases e <;> simp [deq] at h; rw [h]
  | .int a, e, h => by cases e <;> simp [deq] at h; rw [h]
  | .str a, e, h => by cases e <;> simp [deq] at h; rw [h]
  | .list a, e, h => by cases e <;> simp [deq] at h; rw [deqs_eq h]
  | .tuple a, e, h => by cases e <;> simp [deq] at h; rw [deqs_eq h]
  | .dict a, e, h => by cases e <;> simp [deq] at h
theorem deqs_eq : ∀ {d e : List D}, deqs d e = true → d = e
  | [], e, h => by cases e <;> simp [deqs] at h; rfl
  | x :: xs, e, h => by
    cases e with
    | nil => simp [deqs] at h
    | cons y ys =>
      simp only [deqs, Bool.and_eq_true] at h
      rw [deq_eq h.1, deqs_eq h.2]
end
mutual
def noDict : D → Bool
  | .list xs => noDicts xs
  | .tuple xs => noDicts xs
  | .dict _ => false
  | _ => true
def noDicts : List D → Bool
  | [] => true
  | x :: xs => noDict x && noDicts xs
end
mutual
theorem deq_refl : ∀ d : D, noDict d = true → deq d d = true
  | .none, _ => rfl
  | .bool a, _ => by simp [deq]
  | .int a, _ => by simp [deq]
  | .str a, _ => by simp [deq]
  | .list a, h => by simp only [deq]; exact deqs_refl a (by simpa [noDict] using h)
  | .tuple a, h => by simp only [deq]; exact deqs_refl a (by simpa [noDict] using h)
  | .dict a, h => by simp [noDict] at h
theorem deqs_refl : ∀ d : List D, noDicts d = true → deqs d d = true
  | [], _ => rfl
  | x :: xs, h => by
    simp only [noDicts, Bool.and_eq_true] at h
    simp only [deqs, deq_refl x h.1, deqs_refl xs h.2, Bool.and_self]
end
mutual
/-- more than the signs of a value's text; 1000001 where it is not served -/
def shCost : D → Nat
  | .none => 4
  | .bool _ => 5
  | .int i => if i.natAbs.log2 < 1920 then 1930 else 1000001
  | .str x => if x.cps.toList.all (fun c => decide (c < 0x110000)) = true then 10 * x.length + 2 else 1000001
  | .list xs => shCosts xs + 3
  | .tuple xs => shCosts xs + 3
  | .dict _ => 1000001
def shCosts : List D → Nat
  | [] => 0
  | x :: xs => shCost x + 2 + shCosts xs
end
def okShow (d : D) : Bool := Nat.ble (shCost d) 1000000 && Nat.ble (PyData.depth d) 50
theorem shCost_int {i : Int} (h : ¬ shCost (.int i) ≥ 1000001) : i.natAbs.log2 < 1920 := by
  unfold shCost at h
  split at h
  · next c => exact c
  · omega
theorem sumLen : ∀ (xs : List D), (∀ d, d ∈ xs → (PyData.shown d).length ≤ shCost d) → ((PyData.shownAll xs).map (·.length)).sum + 2 * (PyData.shownAll xs).length ≤ shCosts xs
  | [], _ => by simp [PyData.shownAll, shCosts]
  | x :: xs, h => by
    have h1 := sumLen xs fun d m => h d (List.mem_cons_of_mem _ m)
    have h2 := h x List.mem_cons_self
    simp only [PyData.shownAll, shCosts, List.map_cons, List.sum_cons, List.length_cons]
    omega
theorem mem_cost : ∀ {xs : List D} {d : D}, d ∈ xs → shCost d ≤ shCosts xs
  | x :: xs, d, h => by
    unfold shCosts
    rcases List.mem_cons.mp h with rfl | h
    · omega
    · have := mem_cost h; omega
mutual
theorem shown_ok : ∀ d : D, shCost d ≤ 1000000 → (PyData.shown d).length ≤ shCost d ∧ d.showable = true ∧ d.hasDict = false ∧ d.canLay0 = true
  | .none, _ => ⟨by simp only [PyData.shown, shCost]; decide, by simp [PyData.showable], by simp [PyData.hasDict], by simp [PyData.canLay0]⟩
  | .bool true, _ => ⟨by simp only [PyData.shown, shCost]; decide, by simp [PyData.showable], by simp [PyData.hasDict], by simp [PyData.canLay0]⟩
  | .bool false, _ => ⟨by simp only [PyData.shown, shCost]; decide, by simp [PyData.showable], by simp [PyData.hasDict], by simp [PyData.canLay0]⟩
  | .int i, h => by
    have c : i.natAbs.log2 < 1920 := shCost_int (by omega)
    refine ⟨?_, by simp [PyData.showable, c], by simp [PyData.hasDict], by simp [PyData.canLay0]⟩
    have := PyProof.Rows.int_text_len_1921 c
    simp only [PyData.shown, shCost, if_pos c]
    exact Nat.le_trans this (by omega)
  | .str x, h => by
    have c : x.cps.toList.all (fun c => decide (c < 0x110000)) = true := by
      unfold shCost at h
      split at h
      · next c => exact c
      · omega
    refine ⟨?_, by simp [PyData.showable], by simp [PyData.hasDict], ?_⟩
    · simp only [PyData.shown, shCost, if_pos c]
      refine StrLaws.reprText_len x fun k hk => ?_
      have := List.all_eq_true.mp c k hk
      have := of_decide_eq_true this
      omega
    · simp only [PyData.canLay0, PyData.strOk]
      rw [Array.all_eq_true]
      intro i hi
      have := List.all_eq_true.mp c (x.cps[i]) (by simp [Array.mem_toList_iff])
      exact this
  | .list xs, h => by
    have hc : shCosts xs ≤ 1000000 := by unfold shCost at h; omega
    obtain ⟨h1, h2, h3, h4⟩ := showns_ok xs hc
    have h5 := listText_len_le (PyData.shownAll xs)
    have h6 := sumLen xs h1
    exact ⟨by simp only [PyData.shown, shCost]; omega, by simp only [PyData.showable]; exact h2, by simp only [PyData.hasDict]; exact h3, by simp only [PyData.canLay0]; exact h4⟩
  | .tuple xs, h => by
    have hc : shCosts xs ≤ 1000000 := by unfold shCost at h; omega
    obtain ⟨h1, h2, h3, h4⟩ := showns_ok xs hc
    have h5 := tupleText_len_le (PyData.shownAll xs)
    have h6 := sumLen xs h1
    exact ⟨by simp only [PyData.shown, shCost]; omega, by simp only [PyData.showable]; exact h2, by simp only [PyData.hasDict]; exact h3, by simp only [PyData.canLay0]; exact h4⟩
  | .dict _, h => by unfold shCost at h; omega
theorem showns_ok : ∀ xs : List D, shCosts xs ≤ 1000000 → (∀ d, d ∈ xs → (PyData.shown d).length ≤ shCost d) ∧ PyData.showableAll xs = true ∧ PyData.hasDictAll xs = false ∧ PyData.canLayAll0 xs = true
  | [], _ => ⟨fun d m => (by cases m), by simp [PyData.showableAll], by simp [PyData.hasDictAll], by simp [PyData.canLayAll0]⟩
  | x :: xs, h => by
    unfold shCosts at h
    obtain ⟨a1, a2, a3, a4⟩ := shown_ok x (by omega)
    obtain ⟨b1, b2, b3, b4⟩ := showns_ok xs (by omega)
    refine ⟨fun d m => ?_, by simp [PyData.showableAll, a2, b2], by simp [PyData.hasDictAll, a3, b3], by simp [PyData.canLayAll0, a4, b4]⟩
    rcases List.mem_cons.mp m with rfl | m
    · exact a1
    · exact b1 d m
end
def isRef : D → Bool
  | .list _ => true
  | .tuple _ => true
  | _ => false
def reprD : List D → Option D
  | [d] => if (okShow d && isRef d) = true then some (.str (PyData.shown d)) else none
  | _ => none
section
variable {X : Cx}
theorem call_reprD (hg : X.A.guards = some []) (hu : X.A.units + 64 < cLine) : CallR X (.builtin "repr") (fun xs H Q => ∃ x d, xs = [x] ∧ Dp X.K H x d ∧ okShow d = true ∧ isRef d = true ∧ Q (.str (PyData.shown d)) H) := by
  intro pins s σ H xs us Q I r h
  obtain ⟨x, d, rfl, hd, ok, ir, q⟩ := h
  obtain ⟨u, rfl, ru⟩ := vals1 r
  obtain ⟨as, rd⟩ := Dp.reads I d x u hd ru
  unfold okShow at ok
  rw [Bool.and_eq_true, Nat.ble_eq, Nat.ble_eq] at ok
  obtain ⟨h1, h2, h3, h4⟩ := shown_ok d ok.1
  obtain ⟨a, rfl⟩ : ∃ a, u = .ref a := by
    cases d <;> simp [isRef] at ir <;> (cases rd; exact ⟨_, rfl⟩)
  refine repr_of_reads' rd h2 (fun z => by rw [h3] at z; cases z) hg (by omega) (fun _ _ e => e) (fun h' t tk hk => ?_) (Nat.le_trans h1 (Nat.le_trans ok.1 (by decide)))
  exact ⟨.str _, H, I.kept hk, ⟨t, rfl⟩, q⟩
theorem cs_repr (hg : X.A.guards = some []) (hu : X.A.units + 64 < cLine) : CallS X (.builtin "repr") .i reprD := ⟨_, call_reprD hg hu, fun O H xs ds d Q dom r e k => by
  unfold reprD at e
  split at e
  · next d' =>
    split at e
    · next c =>
      cases e
      rw [Bool.and_eq_true] at c
      obtain ⟨x, rfl, rx⟩ := rrs1 r
      exact ⟨x, d', rfl, rx.dp (shown_ok d' (by have := c.1; unfold okShow at this; rw [Bool.and_eq_true, Nat.ble_eq] at this; exact this.1)).2.2.2, c.1, c.2, k _ H (Ex.refl H) (.str _)⟩
    · cases e
  · cases e⟩
end
end Y

namespace Y
open PySem PySem.Spec PyProof.Rows L2

/-! ## defs that may show data: nothing is being shown where they are called -/
structure FnG (P : Program) (w : World) (K : Fg) (mg : Str → Option Value) (base : Heap) (k : Nat) (f : Addr) (fd : FuncData) (ps : List Str) (sp : Sp) : Prop where
  len : ∀ vs H Q E, sp vs H Q E → vs.length = ps.length
  run : ∀ (A : Around) (outer : List Env) (s : Shared) (H : Hp) (args : Args) (us : List Value) (vs : List V) (Q : VK) (E : XK), Room k A → A.guards = some [] → Env0 P w K mg base A outer s H → BindsTo s fd args (ps.zip us) → Vals vs us → sp vs H Q E →
    codeAny (model P w) A (.call (.ref f) args) (CR CX0 outer P w H s Q E) s
/-- a def of the text with its code object -/
structure FunC (K : Fg) (x : Str) (st : Stmt) (f : Addr) (fd : FuncData) (cd : Value) : Prop where
  ex : ∃ (oc : Value) (od : Option Addr) (kV doc pm : Value) (an : Option Addr) (ct : Value) (osl : Array (Option Value)),
    fd = PySem.W.fnOf x x (defArgs st) (defBody st) (defScope st) .none kV doc pm an cd ct ∧ K.lookup f = some ⟨oc, od, .func fd, osl⟩ ∧ PySem.W.codeIn K cd x = true
  kp : PySem.W.keepIn K (.ref f) = true
theorem FunC.fun {K : Fg} {x : Str} {st : Stmt} {f : Addr} {fd : FuncData} {cd : Value} (F : FunC K x st f fd cd) : Fun K x x st f fd := by
  obtain ⟨oc, od, kV, doc, pm, an, ct, osl, h1, h2, h3⟩ := F.ex
  exact ⟨⟨oc, od, kV, doc, pm, an, cd, ct, osl, h1, h2, h3⟩, F.kp⟩
theorem Fun.c {K : Fg} {x : Str} {st : Stmt} {f : Addr} {fd : FuncData} (F : Fun K x x st f fd) : ∃ cd, FunC K x st f fd cd := by
  obtain ⟨oc, od, kV, doc, pm, an, cd, ct, osl, h1, h2, h3⟩ := F.ex
  exact ⟨cd, ⟨oc, od, kV, doc, pm, an, ct, osl, h1, h2, h3⟩, F.kp⟩
section
variable {P : Program} {w : World} {K : Fg} {mg : Str → Option Value} {base : Heap}
theorem FunC.okG {x : Str} {st : Stmt} {f : Addr} {fd : FuncData} {cd : Value} {N ps : List Str} {k : Nat} {sp : Sp} (F : FunC K x st f fd cd) (S : FnScope N ps (defScope st)) (len : ∀ vs H Q E, sp vs H Q E → vs.length = ps.length)
    (hb : ∀ (A : Around) (outer : List Env) (s : Shared) (H : Hp) (vs : List V) (Q : VK) (E : XK), Room k (A.deeper (envOfC x (defScope st) s.heap.objs.size f cd)) → A.guards = some [] → sp vs H Q E →
      ∃ t, PSs (cxOf CX0 P w K mg base N x (defScope st) f cd A outer s H E).nox (defBody st) t ∧ t { nx := fun _ H' => Q .non H', rt := Q } (L2.start N vs) H) : FnG P w K mg base (k + 1) f fd ps sp := by
  obtain ⟨oc, od, kV, doc, pm, an, ct, osl, e, lk, hcd⟩ := F.ex
  subst e
  refine ⟨len, fun A outer s H args us vs Q E hr hg e0 hbn r hsp => ?_⟩
  refine LamX.run_ofS lk hcd S hr e0 hbn r (len _ _ _ _ hsp) fun hr' => ?_
  obtain ⟨t, h1, h2⟩ := hb A outer s H vs Q E hr' hg hsp
  exact ⟨t, h1.nox, h2⟩
/-- pure, but shows data -/
theorem fnFG {x : Str} {st : Stmt} {f : Addr} {fd : FuncData} {N ps : List Str} {k : Nat} {kr : Bool} {m : S → Option Fl} (F : Fun K x x st f fd) (S : FnScope N ps (defScope st))
    (hb : ∀ (cd : Value) (A : Around) (outer : List Env) (s : Shared) (H : Hp) (E : XK), Room k (A.deeper (envOfC x (defScope st) s.heap.objs.size f cd)) → A.guards = some [] → PYs (cxOf CX0 P w K mg base N x (defScope st) f cd A outer s H E).nox [] false kr (defBody st) m) :
    FnG P w K mg base (k + 1) f fd ps (spF K kr ps.length (runF N.length m)) := by
  obtain ⟨cd, Fc⟩ := Fun.c F
  refine Fc.okG S (fun vs H Q E h => ?_) (fun A outer s H vs Q E hr hg h => ⟨_, hb cd A outer s H E hr hg, ?_⟩)
  · obtain ⟨_, _, _, h, _⟩ := h
    exact h
  · obtain ⟨O, ds, d, hl, dom, r, hF, k⟩ := h
    unfold runF outF at hF
    split at hF
    · next d' s' q =>
      cases hF
      refine ⟨⟨[], H, O, dom, noHi⟩, O, _, _, sim_start (Z := ⟨K, [], false⟩) r dom rfl rfl (fun p hp => by cases hp), q, fun v σ' H' O' sm rr => ?_⟩
      have e : Ex H H' := fun a o q => sm.fr a o q (fun z => by cases z) (fun z => by cases z)
      refine k v H' e ?_
      cases kr with
      | false => exact rr
      | true => exact rr
    · cases hF
end
structure CallG (P : Program) (w : World) (K : Fg) (mg : Str → Option Value) (base : Heap) (x : Str) (ps : List Str) (k : Nat) (sp : Sp) : Prop where
  ex : ∃ (f : Addr) (fd : FuncData), mg x = some (.ref f) ∧ PySem.W.keepIn K (.ref f) = true ∧ Binds K fd ps [] ∧ FnG P w K mg base k f fd ps sp
theorem CallG.imp {P : Program} {w : World} {K : Fg} {mg : Str → Option Value} {base : Heap} {x : Str} {ps : List Str} {k : Nat} {sp sp' : Sp} (C : CallG P w K mg base x ps k sp) (h : ∀ vs H Q E, sp' vs H Q E → sp vs H Q E) : CallG P w K mg base x ps k sp' := by
  obtain ⟨f, fd, h1, h2, h3, h4⟩ := C.ex
  exact ⟨f, fd, h1, h2, h3, fun vs H Q E q => h4.len _ _ _ _ (h _ _ _ _ q), fun A outer s H args us vs Q E r g e b v q => h4.run A outer s H args us vs Q E r g e b v (h _ _ _ _ q)⟩
section
variable {X : Cx} {x : Str} {ps : List Str} {k j : Nat} {sp : Sp} {e : Expr} {es : List Expr} {p pos : Pos} {t : TA}
theorem runG {f : Addr} {fd : FuncData} {pins : List (Addr × Obj)} {σ : L2.St} {H : Hp} {s : Shared} {Q : VK} {us : List Value} {vs : List V} (F : FnG X.prog X.w X.K X.mg X.base k f fd ps sp) (hr : Room k X.A) (gd : X.A.guards = some []) (hb : Binds X.K fd ps [])
    (I : Inv X pins σ H s) (r : Vals vs us) (h : sp vs H Q E0) : wpAny (model X.prog X.w) X.A (PySem.call (.ref f) us) (EP X pins σ Q) X.xe s := by
  have hl : us.length = ps.length := r.length.symm.trans (F.len _ _ _ _ h)
  have bt := hb s us I.kIn (by rw [List.append_nil]; exact hl)
  rw [List.append_nil] at bt
  refine wpAny_call (codeAny_mono (F.run X.A X.stack s H ⟨us, []⟩ us vs Q E0 hr gd I.env0 bt r h) fun res s' q => ?_)
  match res, q with
  | .ok (.ret u), q => exact I.after q
  | .ok .next, q => exact False.elim q
  | .ok .brk, q => exact False.elim q
  | .ok .cont, q => exact False.elim q
  | .error _, q => exact False.elim q
theorem pe_callG (C : CallG X.prog X.w X.K X.mg X.base x ps k sp) (hr : Room j X.A) (gd : X.A.guards = some []) (hg : Gl X x) (ha : PA X (e :: es) t) (hk : k ≤ j := by decide) (hdb : (x == ("__debug__" : Str)) = false := by decide)
    (he : starEach (e :: es) X.env = (false, eval e X.env) :: starEach es X.env := by rfl) (hpl : (backTo pos (starEach es X.env)).any (·.1) = false := by rfl) : PE X (.Call (.Name x p) (e :: es) [] pos) (fun σ H Q => t σ H fun vs H1 => sp vs H1 Q E0) := by
  obtain ⟨f, fd, hm, kp, hb, F⟩ := C.ex
  constructor
  intro pins s σ H Q I h
  refine wpAny_Call_Name_kw (ld_glob I hg hm ?_ hdb)
  refine PySem.W.callWith_K (h₀ := X.base) I.ok.mod.kin kp (thn (ha.run pos pins s σ H _ I h) fun us s1 q => ?_) he hpl
  obtain ⟨vs, H1, I1, r, q⟩ := q
  exact ⟨I1.kIn, runG F (hr.mono hk) gd hb I1 r q⟩
theorem pe_callG0 (C : CallG X.prog X.w X.K X.mg X.base x ps k sp) (hr : Room j X.A) (gd : X.A.guards = some []) (hg : Gl X x) (hk : k ≤ j := by decide) (hdb : (x == ("__debug__" : Str)) = false := by decide) : PE X (.Call (.Name x p) [] [] pos) (fun σ H Q => sp [] H Q E0) := by
  obtain ⟨f, fd, hm, kp, hb, F⟩ := C.ex
  constructor
  intro pins s σ H Q I h
  refine wpAny_Call_Name_kw (ld_glob I hg hm ?_ hdb)
  exact PySem.W.callWith_K0 I.kIn kp (runG (us := []) F (hr.mono hk) gd hb I .nil h)
end

/-! ## defs of the law: tables of code objects may grow; a bag may be drawn from -/
def BagAt (H : Hp) (a c : Addr) (b : Bag) : Prop := a ≠ c ∧ H a = some (.lst [.ref c, .int b.cur, .int b.mix]) ∧ H c = some (.lst (b.cells.map V.int))
def spT (K : Fg) (T : List (Addr × Str)) (n : Nat) (F : List D → Option D) : Sp := fun vs H Q _ =>
  ∃ O ds d, vs.length = n ∧ (∀ a, a ∈ O → H a ≠ none) ∧ Rps K O H vs ds ∧ LamX.Tabs T H ∧ F ds = some d ∧ ∀ v H', Kp true [] H H' → (∀ x, H' x = none → H x = none) → LamX.Tabs T H' → Rp K O H' v d → Q v H'
def spB (K : Fg) (T : List (Addr × Str)) (n : Nat) (F : Bag → List D → Option (D × Bag)) : Sp := fun vs H Q _ =>
  ∃ O ds d b b' a c ws, vs = .ref a :: ws ∧ ws.length + 1 = n ∧ (∀ a, a ∈ O → H a ≠ none) ∧ a ∈ O ∧ c ∈ O ∧ BagAt H a c b ∧ Rps K O H ws ds ∧ LamX.Tabs T H ∧ F b ds = some (d, b') ∧
    ∀ v H', Kp true [a, c] H H' → (∀ x, H' x = none → H x = none) → LamX.Tabs T H' → BagAt H' a c b' → Rp K O H' v d → Q v H'
def bagOf (s : S) (i : Nat) : Option Bag := match s[i]? with
  | some (.bag b) => some b
  | _ => none
theorem bagOf_some {s : S} {i : Nat} {b : Bag} (h : bagOf s i = some b) : s[i]? = some (.bag b) := by
  unfold bagOf at h
  split at h
  · next q => cases h; exact q
  · cases h
def callT (F : List D → Option D) (n : S → Option (List D × S)) : S → Option (D × S) := fun s => (n s).bind fun p => (F p.1).map fun d => (d, p.2)
def callB (i : Nat) (F : Bag → List D → Option (D × Bag)) (n : S → Option (List D × S)) : S → Option (D × S) := fun s => (bagOf s i).bind fun _ => (n s).bind fun p => (bagOf p.2 i).bind fun b => (F b p.1).map fun q => (q.1, p.2.set i (.bag q.2))
theorem Sim.bag {Z : Zx} {E : Ent} {O : List Addr} {σ : L2.St} {H : Hp} {s : S} {i : Nat} {b : Bag} (h : Sim Z E O σ H s) (hi : s[i]? = some (.bag b)) :
    ∃ a c, σ[i]? = some (some (.ref a)) ∧ a ∈ O ∧ c ∈ O ∧ E.P = [a, c] ∧ BagAt H a c b ∧ ∀ b' H', Kp Z.tb [a, c] H H' → (∀ x, H' x = none → H x = none) → LamX.Tabs Z.T H' → BagAt H' a c b' → Sim Z E O σ H' (s.set i (.bag b')) ∧ Stp Z.tb O H O H' := by
  obtain ⟨F, f1, f2, f3, f4⟩ := h.own
  obtain ⟨a, c, h1, h2, h3, h4, h5, h6, h7⟩ := f1 i _ hi
  have aO : a ∈ O := f3 i a (by rw [h1]; exact List.mem_cons_self)
  have cO : c ∈ O := f3 i c (by rw [h1]; exact List.mem_cons_of_mem _ List.mem_cons_self)
  have two : ∀ {x}, x ∈ [a, c] → x = a ∨ x = c := fun {x} q => by simpa using q
  refine ⟨a, c, sl_some h5, aO, cO, h3, ⟨h2, h6, h7⟩, fun b' H' k th tabs bg => ?_⟩
  have hF : ∀ x, x ∈ [a, c] → x ∈ O := fun x q => by rcases two q with rfl | rfl <;> assumption
  refine ⟨h.chg (F1 := [a, c]) (Fi := [a, c]) k hF (fun x q => .inl (by rw [h3]; exact q)) th tabs (fun j m' F' cj e g x q => ?_) (fun _ => ⟨a, c, rfl, h2, h3, h4, h5, bg.2.1, bg.2.2⟩) (fun _ x q => q) (fun b q => h.slotIdle hi (f1 i _ hi) (by rw [h1]; exact q)), k.stp hF th⟩
  rw [g.uniq (f1 j m' e)] at q
  intro z
  exact cj (f4 j i x q (by rw [h1]; exact z))
section
variable {X : Cx} {T : List (Addr × Str)} {x : Str} {ps : List Str} {k j : Nat} {p pos : Pos}
theorem Sim.kept {Z : Zx} {E : Ent} {O : List Addr} {σ : L2.St} {H H' : Hp} {s : S} (h : Sim Z E O σ H s) (k : Kp Z.tb [] H H') (th : ∀ x, H' x = none → H x = none) (tabs : LamX.Tabs Z.T H') : Sim Z E O σ H' s :=
  h.chg0 k (fun a q => by cases q) (fun a q => by cases q) th tabs (fun j m' F _ _ a _ q => by cases q) fun a q => by cases q
theorem read_T {F : List D → Option D} {n : S → Option (List D × S)} {nn : Nat} (hl : ∀ s ds s', n s = some (ds, s') → ds.length = nn) {σ : L2.St} {H : Hp} {Q : VK} (h : tEi (Zo X T true) (callT F n) σ H Q) : tAE (Zo X T true) n σ H fun vs H1 => spT X.K T nn F vs H1 Q E0 := by
  obtain ⟨E, O, s, d, s', sm, hm, q⟩ := h
  obtain ⟨⟨ds, s1⟩, h1, hm⟩ := Option.bind_eq_some_iff.mp hm
  obtain ⟨d', h2, hm⟩ := Option.map_eq_some_iff.mp hm
  cases hm
  refine ⟨E, O, s, ds, s1, sm, h1, fun vs H1 O1 st1 sm1 r1 => ?_⟩
  exact ⟨O1, ds, d, by rw [r1.length]; exact hl _ _ _ h1, sm1.dom, r1, sm1.tabs, h2, fun v H' kp th tabs r => q v H' O1 (st1.trans (kp.stp (fun a z => by cases z) th)) (sm1.kept kp th tabs) r⟩
theorem e_callT {F : List D → Option D} {e : Expr} {es : List Expr} {n : S → Option (List D × S)} (C : CallG X.prog X.w X.K X.mg X.base x ps k (spT X.K T ps.length F)) (hr : Room j X.A) (gd : X.A.guards = some []) (hg : Gl X x) (ha : EA X T true (e :: es) n) (hl : ∀ s ds s', n s = some (ds, s') → ds.length = ps.length) (hk : k ≤ j := by decide) (hdb : (x == ("__debug__" : Str)) = false := by decide)
    (he : starEach (e :: es) X.env = (false, eval e X.env) :: starEach es X.env := by rfl) (hpl : (backTo pos (starEach es X.env)).any (·.1) = false := by rfl) : EE X T true (.Call (.Name x p) (e :: es) [] pos) (callT F n) :=
  imp_e (pe_callG C hr gd hg ha hk hdb he hpl) fun σ H Q h => read_T hl h
theorem e_callT0 {F : List D → Option D} (C : CallG X.prog X.w X.K X.mg X.base x ps k (spT X.K T 0 F)) (hr : Room j X.A) (gd : X.A.guards = some []) (hg : Gl X x) (hk : k ≤ j := by decide) (hdb : (x == ("__debug__" : Str)) = false := by decide) : EE X T true (.Call (.Name x p) [] [] pos) (callT F argNE) :=
  imp_e (pe_callG0 C hr gd hg hk hdb) fun σ H Q h => by
    obtain ⟨E, O, s, ds, s', sm, hm, q⟩ := read_T (nn := 0) (fun s ds s' q => by cases q; rfl) h
    cases hm
    exact q [] H O Stp.refl sm .nil
/-- a def of the law that only shows data -/
theorem q_callG {kr : Bool} {F : List D → Option D} {tb b : Bool} {e : Expr} {es : List Expr} {n : S → Option (List D)} (C : CallG X.prog X.w X.K X.mg X.base x ps k (spF X.K kr ps.length F)) (hr : Room j X.A) (gd : X.A.guards = some []) (hg : Gl X x) (ha : QA X T tb true (e :: es) n) (hl : ∀ s ds, n s = some ds → ds.length = ps.length) (hk : k ≤ j := by decide) (hdb : (x == ("__debug__" : Str)) = false := by decide)
    (he : starEach (e :: es) X.env = (false, eval e X.env) :: starEach es X.env := by rfl) (hpl : (backTo pos (starEach es X.env)).any (·.1) = false := by rfl) : QE X T tb (kdOf kr) (.Call (.Name x p) (e :: es) [] pos) (callM F n) :=
  imp_e (pe_callG C hr gd hg ha hk hdb he hpl) fun σ H Q h => by
    obtain ⟨E, O, s, d, sm, hmm, q⟩ := h
    obtain ⟨xs, hxs, hF⟩ := Option.bind_eq_some_iff.mp hmm
    refine ⟨E, O, s, xs, sm, hxs, fun vs H1 e1 r1 => ?_⟩
    have r1 : Rps X.K O H1 vs xs := r1
    have dom := (sm.ext e1).dom
    exact ⟨O, xs, d, by rw [r1.length]; exact hl s xs hxs, dom, r1, hF, fun v H' e r => q v H' (e1.trans e) ((r.res dom).from e1)⟩
theorem e_bag (i : Nat) {F : Bag → List D → Option (D × Bag)} {y : Str} {q1 : Pos} {es : List Expr} {n : S → Option (List D × S)} (C : CallG X.prog X.w X.K X.mg X.base x ps k (spB X.K T ps.length F)) (hr : Room j X.A) (gd : X.A.guards = some []) (hg : Gl X x) (ha : EA X T true es n) (hl : ∀ s ds s', n s = some (ds, s') → ds.length + 1 = ps.length) (hk : k ≤ j := by decide)
    (hN : X.N[i]? = some y := by rfl) (hv : Vis X.env.scope y := by first | exact Or.inl rfl | exact Or.inr (Or.inl rfl) | exact Or.inr (Or.inr rfl)) (hd : (y == ("__debug__" : Str)) = false := by decide) (hcd : (y == ("__classdict__" : Str)) = false := by decide) (hdb : (x == ("__debug__" : Str)) = false := by decide)
    (he : starEach (.Name y q1 :: es) X.env = (false, eval (.Name y q1) X.env) :: starEach es X.env := by rfl) (hpl : (backTo pos (starEach es X.env)).any (·.1) = false := by rfl) : EE X T true (.Call (.Name x p) (.Name y q1 :: es) [] pos) (callB i F n) :=
  imp_e (pe_callG C hr gd hg (pa_cons (pe_var hN hv hd hcd) ha he) hk hdb he hpl) fun σ H Q h => by
    obtain ⟨E, O, s, d, s', sm, hm, q⟩ := h
    obtain ⟨b0, h0, hm⟩ := Option.bind_eq_some_iff.mp hm
    obtain ⟨⟨ds, s1⟩, h1, hm⟩ := Option.bind_eq_some_iff.mp hm
    obtain ⟨b, h2, hm⟩ := Option.bind_eq_some_iff.mp hm
    obtain ⟨⟨d', b'⟩, h3, hm⟩ := Option.map_eq_some_iff.mp hm
    cases hm
    obtain ⟨a, c, g1, _⟩ := sm.bag (bagOf_some h0)
    refine ⟨_, g1, E, O, s, ds, s1, sm, h1, fun vs H1 O1 st1 sm1 r1 => ?_⟩
    obtain ⟨a', c, g1', aO, cO, _, bg, back⟩ := sm1.bag (bagOf_some h2)
    rw [g1] at g1'
    cases g1'
    refine ⟨O1, ds, _, b, _, a, c, vs, rfl, by rw [r1.length]; exact hl _ _ _ h1, sm1.dom, aO, cO, bg, r1, sm1.tabs, h3, fun v H' kp th tabs bg' r => ?_⟩
    obtain ⟨sm2, st2⟩ := back b' H' kp th tabs bg'
    exact q v H' O1 (st1.trans st2) sm2 r
end
/-! ### the law's defs by their bodies -/
def runT (n : Nat) (m : S → Option Fl) : List D → Option D := runF n m
def bagF (n : Nat) (b : Bag) (ds : List D) : S := .bag b :: slots (n - 1) ds
def runB (n : Nat) (m : S → Option Fl) : Bag → List D → Option (D × Bag) := fun b ds => match m (bagF n b ds) with
  | some (.rt d s) => (bagOf s 0).map fun b' => (d, b')
  | _ => none
section
variable {P : Program} {w : World} {K : Fg} {mg : Str → Option Value} {base : Heap} {T : List (Addr × Str)}
theorem fnT {x : Str} {st : Stmt} {f : Addr} {fd : FuncData} {cd : Value} {N ps : List Str} {k : Nat} {m : S → Option Fl} (F : FunC K x st f fd cd) (S : FnScope N ps (defScope st))
    (hb : ∀ (A : Around) (outer : List Env) (s : Shared) (H : Hp) (E : XK), Room k (A.deeper (envOfC x (defScope st) s.heap.objs.size f cd)) → A.guards = some [] → PYs (cxOf CX0 P w K mg base N x (defScope st) f cd A outer s H E).nox T true false (defBody st) m) :
    FnG P w K mg base (k + 1) f fd ps (spT K T ps.length (runT N.length m)) := by
  refine F.okG S (fun vs H Q E h => ?_) (fun A outer s H vs Q E hr hg h => ⟨_, hb A outer s H E hr hg, ?_⟩)
  · obtain ⟨_, _, _, h, _⟩ := h
    exact h
  · obtain ⟨O, ds, d, hl, dom, r, tabs, hF, k⟩ := h
    unfold runT runF outF at hF
    split at hF
    · next d' s' q =>
      cases hF
      exact ⟨⟨[], H, O, dom, noHi⟩, O, _, _, sim_start (Z := ⟨K, T, true⟩) r dom rfl rfl tabs, q, fun v σ' H' O' sm rr => k v H' sm.fr sm.there sm.tabs rr⟩
    · cases hF
theorem sim_startB {Z : Zx} {E : Ent} {O : List Addr} {H : Hp} {y : Str} {N : List Str} {a c : Addr} {b : Bag} {vs : List V} {ds : List D} (r : Rps Z.K O H vs ds) (dom : ∀ a, a ∈ O → H a ≠ none) (aO : a ∈ O) (cO : c ∈ O) (bg : BagAt H a c b) (h0 : E.H0 = H) (hP : E.P = [a, c]) (hO : E.O0 = O) (tabs : LamX.Tabs Z.T H) (hI : E.Hi = noHi := by rfl) :
    Sim Z E O (L2.start (y :: N) (.ref a :: vs)) H (bagF (N.length + 1) b ds) := by
  have hs : L2.start (y :: N) (.ref a :: vs) = some (.ref a) :: L2.start N vs := by simp [L2.start]
  have s0 : Sim Z E O (L2.start N vs) H (slots N.length ds) := by
    exact sim_start (Z := Z) (E := E) (N := N) r dom h0 hO tabs hI
  obtain ⟨l, ⟨F, f1, f2, f3, f4⟩, d, sb, f, t, tb, idl⟩ := s0
  have F0 : ∀ j, F j = [] := fun j => by
    cases e : (slots N.length ds)[j]? with
    | none => exact f2 j (List.getElem?_eq_none_iff.mp e)
    | some m =>
      have g := f1 j m e
      have hm : m = .un ∨ ∃ d, m = .imm d := by
        unfold slots at e
        have := List.mem_of_getElem? e
        rcases List.mem_append.mp this with q | q
        · obtain ⟨d, _, rfl⟩ := List.mem_map.mp q; exact .inr ⟨d, rfl⟩
        · exact .inl (List.mem_replicate.mp q).2
      rcases hm with rfl | ⟨d, rfl⟩
      · exact g
      · exact g.1
  rw [hs]
  refine ⟨by simp [bagF, l], ⟨fun j => match j with
    | 0 => [a, c]
    | _ + 1 => [], fun j m q => ?_, fun j q => ?_, fun j x q => ?_, fun j j' x q q' => ?_⟩, d, sb, f, t, tb, fun a o q => by rw [hI] at q; cases q⟩
  · cases j with
    | zero =>
      have q : M.bag b = m := by simpa [bagF] using q
      subst q
      exact ⟨a, c, rfl, bg.1, hP, trivial, rfl, bg.2.1, bg.2.2⟩
    | succ j =>
      have q : (slots N.length ds)[j]? = some m := by simpa [bagF] using q
      have g := f1 j m q
      rw [F0 j] at g
      have e : sl (some (V.ref a) :: L2.start N vs) (j + 1) = sl (L2.start N vs) j := by unfold sl; rw [List.getElem?_cons_succ]
      rw [e]
      exact g
  · cases j with
    | zero => simp [bagF] at q
    | succ j => rfl
  · cases j with
    | zero =>
      have q : x = a ∨ x = c := by simpa using q
      rcases q with rfl | rfl <;> assumption
    | succ j => cases q
  · cases j with
    | zero =>
      cases j' with
      | zero => rfl
      | succ _ => cases q'
    | succ _ => cases q
theorem fnB {x y : Str} {st : Stmt} {f : Addr} {fd : FuncData} {cd : Value} {N ps : List Str} {k : Nat} {m : S → Option Fl} (F : FunC K x st f fd cd) (S : FnScope (y :: N) (y :: ps) (defScope st))
    (hb : ∀ (A : Around) (outer : List Env) (s : Shared) (H : Hp) (E : XK), Room k (A.deeper (envOfC x (defScope st) s.heap.objs.size f cd)) → A.guards = some [] → PYs (cxOf CX0 P w K mg base (y :: N) x (defScope st) f cd A outer s H E).nox T true false (defBody st) m) :
    FnG P w K mg base (k + 1) f fd (y :: ps) (spB K T (y :: ps).length (runB (N.length + 1) m)) := by
  refine F.okG S (fun vs H Q E h => ?_) (fun A outer s H vs Q E hr hg h => ⟨_, hb A outer s H E hr hg, ?_⟩)
  · obtain ⟨_, _, _, _, _, _, _, ws, rfl, h, _⟩ := h
    exact h
  · obtain ⟨O, ds, d, b, b', a, c, ws, rfl, hl, dom, aO, cO, bg, r, tabs, hF, k⟩ := h
    unfold runB at hF
    split at hF
    · next d' s' q =>
      obtain ⟨b1, h1, h2⟩ := Option.map_eq_some_iff.mp hF
      cases h2
      refine ⟨⟨[a, c], H, O, dom, noHi⟩, O, _, _, sim_startB (Z := ⟨K, T, true⟩) r dom aO cO bg rfl rfl rfl tabs, q, fun v σ' H' O' sm rr => ?_⟩
      obtain ⟨a1, c1, _, _, _, g1, g2, _⟩ := sm.bag (bagOf_some h1)
      have g1 : [a, c] = [a1, c1] := g1
      simp only [List.cons.injEq, and_true] at g1
      rw [← g1.1, ← g1.2] at g2
      exact k v H' sm.fr sm.there sm.tabs g2 rr
    · cases hF
end
end Y

namespace Y
open PySem PySem.Spec PyProof.Rows L2

/-! ## lambdas that the law hands to its own judge -/
/-- whoever calls f (nothing that the pure code may change has been changed), gets a value for d -/
structure Thk (P : Program) (w : World) (K : Fg) (mg : Str → Option Value) (base : Heap) (fr : List Addr) (O : List Addr) (H0 : Hp) (h0 : Heap) (k : Nat) (f : Addr) (d : D) : Prop where
  obj : ∃ (oc : Value) (od : Option Addr) (fd : FuncData) (osl : Array (Option Value)), h0.get? f = some ⟨oc, od, .func fd, osl⟩ ∧ oc = .type "function"
  nH : H0 f = none
  nF : f ∉ fr
  run : ∀ (A : Around) (outer : List Env) (s1 : Shared) (HZ : Hp) (Q : VK) (E : XK), Env0 P w K mg base A outer s1 HZ → Room k A → A.guards = some [] → Un fr [] H0 HZ h0 s1.heap → Ex H0 HZ →
    (∀ v H', Ex HZ H' → Rp K O H' v d → Q v H') → codeAny (model P w) A (.call (.ref f) ⟨[], []⟩) (CR CX0 outer P w HZ s1 Q E) s1
section
variable {X : Cx} {pins : List (Addr × Obj)} {σ : L2.St} {H : Hp} {s : Shared} {O : List Addr} {f : Addr} {k : Nat} {d : D}
/-- what lies between is untouched -/
theorem Inv.un_from {g' : Shared} {H' : Hp} (I : Inv X pins σ H s) (hx : X.ex = []) (u : Un (frs X.stack) [] H H' s.heap g'.heap) (hok : HOk X.prog X.w H' g'.heap) (hg : AllBare g'.gens) : Un X.fs [] X.H_0 H' X.s_0.heap g'.heap := by
  have J := I.call (h' := g'.heap) (g' := g'.gens) (t' := g'.toks) (d' := g'.drawn) (ch := []) u hok hg (fun b z => by cases z)
  have := J.base
  rw [hx] at this
  exact this
theorem Thk.weak (I : Inv X pins σ H s) (hx : X.ex = []) (e : Ex X.H_0 H) (t : Thk X.prog X.w X.K X.mg X.base X.fs O X.H_0 X.s_0.heap k f d) (nL : f ≠ X.env.locals) : Thk X.prog X.w X.K X.mg X.base (frs X.stack) O H s.heap k f d := by
  obtain ⟨oc, od, fd, osl, h1, h2⟩ := t.obj
  have b := I.base
  rw [hx] at b
  refine ⟨⟨oc, od, fd, osl, b.keep f _ h1 t.nH t.nF (by simp), h2⟩, b.free f _ h1 t.nH (by simp), fun z => ?_, fun A outer s1 HZ Q E e0 hr hg un ex k => ?_⟩
  · rcases List.mem_cons.mp (I.stkSub _ z) with q | q
    · exact nL q
    · exact t.nF q
  · exact t.run A outer s1 HZ Q E e0 hr hg (Inv.un_from I hx un e0.hok e0.bare) (e.trans ex) k
theorem cx_no {P : Program} {w : World} {outer : List Env} {H : Hp} {s s' : Shared} {u : Value} (x : L2.CX P w outer H s (fun _ _ _ => False) u s') : False := by
  obtain ⟨_, _, _, _, _, _, _, _, _, _, _, _, z⟩ := x
  exact z
/-- the lambda that was just made -/
theorem lam_thk {T : List (Addr × Str)} {tb : Bool} {params : Arguments} {body : Expr} {scope : Scope} {c' : Addr} {pm ctv : Value} {kd : Kd} {m : S → Option D} {E : Ent} {st : S} (I : Inv X pins σ H s) (L : LamX.LamS X.env.scope scope)
    (hf : s.heap.get? f = some (PySem.W.kla_obj "<lambda>" (X.env.qual ++ "<lambda>") params body scope (cloFrom X.env.cells scope.names []) pm c' ctv)) (hfn : H f = none) (hfr : f ∉ frs X.stack) (hc : H c' = some (LamX.CodeO c' (X.env.qual ++ "<lambda>")))
    (hbind : bindArgs (PySem.W.kla_fn "<lambda>" (X.env.qual ++ "<lambda>") params body scope (cloFrom X.env.cells scope.names []) pm (.ref c') ctv) ⟨[], []⟩ = pure [])
    (hbody : ∀ (A : Around) (outer : List Env) (s : Shared) (H : Hp), Room k (A.deeper (LamX.lamEnv X scope s.heap.objs.size f c')) → A.guards = some [] → QE (LamX.lamCx X A outer s H (fun _ _ _ => False) scope f c') T tb kd body m)
    (sm : Sim ⟨X.K, T, tb⟩ E O σ H st) (hm : m st = some d) (hk : kd ≠ .r) : Thk X.prog X.w X.K X.mg X.base (frs X.stack) O H s.heap (k + 1) f d := by
  refine ⟨⟨_, _, _, _, hf, rfl⟩, hfn, hfr, fun A outer s1 HZ Q E' e0 hr hg un ex q => ?_⟩
  have of1 := un.keep f _ hf hfn hfr (by simp)
  obtain ⟨⟨oc, vs, t, hoc, hdc, hvc⟩, _, _⟩ := e0.hok c' _ (ex _ _ hc)
  refine PySem.W.kla_callFunE hr.depth of1 rfl L.co L.gen rfl ⟨c', oc, vs, t, rfl, hoc, hdc, hvc⟩ ?_
  rw [hbind]
  refine wpAny_pure (wpAny_newFunctionEnv (fun y hy => (L.own y hy).2) (fun y hy => absurd hy (by simp)) (fun h₁ hns hsb => ⟨(e0.mod.nolimit.keeps fun b o e => (e0.bs b o e).1).fresh _ hsb, ?_⟩) L.kind)
  show codeAny _ _ (.expr body (LamX.lamEnv X scope s1.heap.objs.size f c')) _ _
  have kp : ∀ b o, s1.heap.get? b = some o → h₁.get? b = some o := fun b o e => hsb.extBut b o (Nat.ne_of_lt (Heap.lt_size e)) (Heap.get?_push_of_some _ e)
  have J : Inv (LamX.lamCx X A outer s1 HZ (fun _ _ _ => False) scope f c') [] σ HZ { s1 with heap := h₁, toks := s1.toks + ([] : List (Str × Value)).length } :=
    LamX.lam_start2 I L e0 hr.hd un hns kp
  refine PySem.W.kla_codeExpr (wpAny_mono ((hbody A outer s1 HZ (hr.deeper _) hg).run [] _ _ HZ Q J ⟨E, O, st, d, sm.ext ex, hm, fun v H' e r => q v H' e (r.toI' hk)⟩) (fun v s' hq => ?_) fun e s' hq => wpAny_mono hq (fun _ s'' x => ?_) (fun _ s'' x => ?_))
  case refine_2 => exact (cx_no x).elim
  case refine_3 => exact (cx_no x).elim
  obtain ⟨w', H', J', rv, q⟩ := hq
  exact ⟨w', H', J'.os, J'.bare, J'.base, J'.hok, rv, q⟩
end
section
variable {P : Program} {w : World} {K : Fg} {mg : Str → Option Value} {base : Heap} {O : List Addr}
/-- the call of what was given, at the slot i -/
theorem pe_thk {X : Cx} {g : Addr} {k : Nat} {d : D} {i : Nat} {a : Str} {p1 p2 : Pos} (t : Thk X.prog X.w X.K X.mg X.base X.fs O X.H_0 X.s_0.heap k g d) (hr : Room k X.A) (gd : X.A.guards = some []) (hx : X.ex = []) (hst : X.stack = X.env :: X.outer) (hns : g ≠ X.env.locals)
    (hN : X.N[i]? = some a) (hv : Vis X.env.scope a) (hd : (a == ("__debug__" : Str)) = false := by decide) (hcd : (a == ("__classdict__" : Str)) = false := by decide) :
    PE X (.Call (.Name a p1) [] [] p2) (fun σ H Q => σ[i]? = some (some (.ref g)) ∧ Ex X.H_0 H ∧ ∀ v H', Ex H H' → Rp X.K O H' v d → Q v H') := by
  refine ⟨fun pins s σ H Q I h => ?_⟩
  obtain ⟨hs, ex, q⟩ := h
  refine wpAny_Call_Name_kw (thn ((pe_var (pos := p1) (i := i) hN hv hd hcd).run pins s σ H (fun v H1 => v = .ref g ∧ H1 = H) I ⟨.ref g, hs, rfl, rfl⟩) fun u s1 ⟨v, H1, I1, r1, q1⟩ => ?_)
  obtain ⟨rfl, rfl⟩ := q1
  obtain rfl : u = Value.ref g := r1
  have t1 := t.weak I1 hx ex hns
  obtain ⟨oc, od, fd, osl, h1, h2⟩ := t1.obj
  subst h2
  refine PySem.W.callWith_F0 ⟨_, _, _, _, h1⟩ ?_
  refine wpAny_call (codeAny_mono (t1.run X.A X.stack s1 H1 Q E0 I1.env0 hr gd Un.refl (Ex.refl _) q) fun r s' hq => ?_)
  cases r with
  | error e => exact hq.elim
  | ok fl =>
    cases fl with
    | ret u => exact I1.after hq
    | next => exact False.elim hq
    | brk => exact False.elim hq
    | cont => exact False.elim hq
theorem told_run {st : Stmt} {f g : Addr} {fd : FuncData} {cd : Value} {N : List Str} {x : Str} (F : FunC K x st f fd cd) (Sc : FnScope N [("call" : Str)] (defScope st)) (hN : N[0]? = some ("call" : Str)) (hv : Vis (defScope st) "call") {j : Nat} {p1 p2 p3 p4 p5 p6 : Pos} {h0 : ExceptHandler} {hs : List ExceptHandler}
    (hb : defBody st = [.Try [.Return (some (.List [.Constant (.str "told") j p1, .Call (.Name "call" p2) [] [] p3] p4)) p5] (h0 :: hs) [] [] p6])
    {A : Around} {outer : List Env} {s : Shared} {H : Hp} {args : Args} {k : Nat} {d : D} {Q : VK} {E : XK} (hr : Room (k + 1) A) (gd : A.guards = some []) (e0 : Env0 P w K mg base A outer s H) (hbn : BindsTo s fd args ([("call" : Str)].zip [Value.ref g]))
    (t : Thk P w K mg base (frs outer) O H s.heap k g d) (dom : ∀ a, a ∈ O → H a ≠ none) (q : ∀ v H', Ex H H' → Rp K O H' v (.list [.str "told", d]) → Q v H') : codeAny (model P w) A (.call (.ref f) args) (CR CX0 outer P w H s Q E) s := by
  obtain ⟨oc, od, kV, doc, pm, an, ct, osl, e, lk, hcd⟩ := F.ex
  subst e
  refine LamX.run_ofS (vs := [.ref g]) lk hcd Sc hr e0 hbn (.cons rfl .nil) rfl fun hr' => ?_
  have lt : g < s.heap.objs.size := by
    obtain ⟨oc, od, fd, osl, h1, _⟩ := t.obj
    exact Heap.lt_size h1
  have act : PE (cxOf CX0 P w K mg base N x (defScope st) f cd A outer s H E).nox (.Call (.Name "call" p2) [] [] p3) _ :=
    pe_thk (i := 0) (a := "call") (g := g) (O := O) (k := k) (d := d) t hr' gd rfl rfl (Nat.ne_of_lt lt) hN hv
  refine ⟨_, by rw [hb]; exact pss_one (ps_try_thru0 (pss_one (ps_ret (pe_lst (pa_cons pe_str (pa_cons act pa_nil)))))), ?_⟩
  have h0 : (L2.start N [V.ref g])[0]? = some (some (V.ref g)) := by
    cases N with
    | nil => simp at hN
    | cons a b => rfl
  refine ⟨h0, Ex.refl H, fun v H' e1 r => ⟨by show 2 ≤ sizeLine; rw [sizeLine_eq]; omega, fun p hp => ?_⟩⟩
  refine q _ _ (e1.trans (Ex.new hp)) (.lst upd_same (fun m => dom p m (e1.back hp)) ?_)
  exact .cons (.str _) (.one (r.ext (Ex.new hp)))
end
end Y

namespace Y
open PySem PySem.Spec PyProof.Rows L2

/-! ## a lambda is made: only tables have grown -/
structure Grown (T : List (Addr × Str)) (H H1 : Hp) : Prop where
  kp : Kp true [] H H1
  th : ∀ x, H1 x = none → H x = none
  tabs : LamX.Tabs T H1
theorem Grown.refl {T : List (Addr × Str)} {H : Hp} (t : LamX.Tabs T H) : Grown T H H := ⟨Kp.refl, fun _ h => h, t⟩
section
variable {X : Cx} {pins : List (Addr × Obj)} {σ : L2.St} {H : Hp} {s : Shared}
theorem make_lam {T : List (Addr × Str)} {c P : Addr} {params : Arguments} {body : Expr} {scope : Scope} {pos : Pos} {E : Value → Shared → Prop} {Q : Value → Shared → Prop} (I : Inv X pins σ H s) (TB : LamX.TabB X.base X.mg c P) (hcode : X.env.code = .ref c)
    (hm : (P, X.env.qual ++ "<lambda>") ∈ T) (hu : ∀ p ∈ T, p.1 = P → p.2 = X.env.qual ++ "<lambda>") (hT : LamX.Tabs T H) (hdef : defaultsOf params X.env = ([], [])) (L : LamX.LamS X.env.scope scope)
    (k : ∀ (f c' : Addr) (pm ctv : Value) (H1 : Hp) (s' : Shared), Inv X pins σ H1 s' → Grown T H H1 → s'.heap.get? f = some (PySem.W.kla_obj "<lambda>" (X.env.qual ++ "<lambda>") params body scope (cloFrom X.env.cells scope.names []) pm c' ctv) →
      H1 f = none → f ∉ frs X.stack → H1 c' = some (LamX.CodeO c' (X.env.qual ++ "<lambda>")) → Q (.ref f) s') : wpAny (model X.prog X.w) X.A (eval (.Lambda params body scope pos) X.env) Q E s := by
  obtain ⟨tb, atP, trip, told⟩ := hT _ hm
  have getP : s.heap.get? P = some { cls := .none, data := .fields tb } := I.hok P _ atP
  have builtP : s.heap.BuiltinsAt X.mg P := TB.bm.keeps I.bk
  have codeP := TB.code.keeps I.bk
  have clo := L.has I.ok
  have outside : ∀ g, s.heap.objs.size ≤ g → g ∉ frs X.stack := fun g hg z => by
    rcases List.mem_cons.mp (I.stkSub _ z) with q | q
    · exact absurd (q ▸ I.lt : g < _) (Nat.not_lt.mpr hg)
    · exact I.nofs hg q
  refine PySem.W.kla_eval hdef ?_
  cases hit : codeAmong pos tb.toList with
  | some cv =>
    obtain ⟨c1, rfl, known⟩ := told pos cv hit
    refine PySem.W.kla_makeFunctionHit (mg := X.mg) (c := c) (P := P) (ps := tb) (closure_ok clo) I.ok.glob (I.mod.glob.keeps I.bk) hcode codeP getP trip hit builtP fun ctv h1 tk grow size => ?_
    refine k h1.objs.size c1 _ ctv H _ (I.kept fun b u z => Heap.get?_push_of_some _ (grow b u z)) (Grown.refl hT) (Heap.get?_push_size _ rfl) (I.hok.fresh size) (outside _ size) known
  | none =>
    refine PySem.W.kla_makeFunction (mg := X.mg) (c := c) (P := P) (ps := tb) (closure_ok clo) I.ok.glob (I.mod.glob.keeps I.bk) hcode codeP getP trip hit TB.gP builtP fun c1 ctv h1 tk grow ge lt rec tabl => ?_
    obtain ⟨c2, oc, fs, t, same, hoc, hd, hv⟩ := rec
    cases same
    have new1 : H c1 = none := I.hok.fresh ge
    have size : s.heap.objs.size ≤ h1.objs.size := by omega
    have neP : P ≠ c1 := ne_of_none atP new1
    have ltP := Heap.lt_size getP
    refine k h1.objs.size c1 _ ctv _ _ (LamX.inv_table (t' := tk) (more := #[rawInt pos.line, rawInt pos.col, .ref c1]) I atP (fun b u n z => Heap.get?_push_of_some _ (grow b u n z)) (Heap.get?_push_of_some _ tabl) ge ⟨oc, fs, t, Heap.get?_push_of_some _ hoc, hd, hv⟩)
      ⟨fun a o z _ nt => ?_, fun a z => ?_, fun p hp => ?_⟩ (Heap.get?_push_size _ rfl) ?_ (outside _ size) upd_same
    · rw [upd_ne (ne_of_none z new1), upd_ne fun q => ?_]
      · exact z
      · rw [q, atP] at z
        exact nt rfl tb (Option.some.inj z).symm
    · by_cases e1 : a = c1
      · rw [e1, upd_same] at z; cases z
      · rw [upd_ne e1] at z
        by_cases e2 : a = P
        · rw [e2, upd_same] at z; cases z
        · rwa [upd_ne e2] at z
    · have other : ∀ b q, H b = some (LamX.CodeO b q) → (upd (upd H P (.tbl (tb ++ #[rawInt pos.line, rawInt pos.col, .ref c1]))) c1 (LamX.CodeO c1 (X.env.qual ++ "<lambda>"))) b = some (LamX.CodeO b q) := fun b q z => by
        rw [upd_ne (ne_of_none z new1), upd_ne fun y => ?_]
        · exact z
        · rw [y, atP] at z
          exact absurd (Option.some.inj z).symm (LamX.codeO_ne _)
      by_cases e : p.1 = P
      · rw [hu p hp e, e]
        have lst : (tb ++ #[rawInt pos.line, rawInt pos.col, .ref c1]).toList = tb.toList ++ [rawInt pos.line, rawInt pos.col, .ref c1] := by simp
        refine ⟨_, by rw [upd_ne neP, upd_same], by rw [lst]; exact PySem.TriplesOk_snoc _ _ _ _ trip, fun p' cv z => ?_⟩
        rw [lst] at z
        rcases LamX.among_app _ trip z with z | z
        · obtain ⟨c0, z1, z2⟩ := told p' cv z
          exact ⟨c0, z1, other c0 _ z2⟩
        · exact ⟨c1, z, upd_same⟩
      · obtain ⟨tb', z1, z2, z3⟩ := hT p hp
        refine ⟨tb', by rw [upd_ne (ne_of_none z1 new1), upd_ne e]; exact z1, z2, fun p' cv z => ?_⟩
        obtain ⟨c0, y1, y2⟩ := z3 p' cv z
        exact ⟨c0, y1, other c0 _ y2⟩
    · rw [upd_ne (Nat.ne_of_gt lt), upd_ne (Nat.ne_of_gt (Nat.lt_of_lt_of_le ltP size))]
      exact I.hok.fresh size
end

/-! ## _law_told, _law_same, _law_is -/
def lawC : Str := "call"
/-- the text of _law_told, as far as it is walked -/
structure ToldSt (st : Stmt) (N : List Str) : Prop where
  sc : FnScope N [("call" : Str)] (defScope st)
  n0 : N[0]? = some ("call" : Str)
  vis : Vis (defScope st) "call"
  body : ∃ (j : Nat) (p1 p2 p3 p4 p5 p6 : Pos) (h0 : ExceptHandler) (hs : List ExceptHandler), defBody st = [.Try [.Return (some (.List [.Constant (.str "told") j p1, .Call (.Name "call" p2) [] [] p3] p4)) p5] (h0 :: hs) [] [] p6]
structure ToldC (P : Program) (w : World) (K : Fg) (mg : Str → Option Value) (base : Heap) : Prop where
  ex : ∃ (f : Addr) (fd : FuncData), mg "_law_told" = some (.ref f) ∧ PySem.W.keepIn K (.ref f) = true ∧ Binds K fd [("call" : Str)] [] ∧
    ∀ (A : Around) (outer : List Env) (s : Shared) (H : Hp) (args : Args) (k : Nat) (g : Addr) (O : List Addr) (d : D) (Q : VK) (E : XK), Room (k + 1) A → A.guards = some [] → Env0 P w K mg base A outer s H → BindsTo s fd args ([("call" : Str)].zip [Value.ref g]) →
      Thk P w K mg base (frs outer) O H s.heap k g d → (∀ a, a ∈ O → H a ≠ none) → (∀ v H', Ex H H' → Rp K O H' v (.list [.str "told", d]) → Q v H') → codeAny (model P w) A (.call (.ref f) args) (CR CX0 outer P w H s Q E) s
def sameF : List D → Option D
  | [a, b] => if (deq a b && okShow a && noDict a && isRef a) = true then some (.bool true) else none
  | _ => none
def toldD (d : D) : D := .list [.str "told", d]
section
variable {P : Program} {w : World} {K : Fg} {mg : Str → Option Value} {base : Heap}
theorem c_told {st : Stmt} {f : Addr} {fd : FuncData} {N : List Str} (hm : mg "_law_told" = some (.ref f)) (F : Fun K "_law_told" "_law_told" st f fd) (T : ToldSt st N) (hb : Binds K fd [("call" : Str)] []) : ToldC P w K mg base := by
  obtain ⟨cd, Fc⟩ := Fun.c F
  obtain ⟨j, p1, p2, p3, p4, p5, p6, h0, hs, e⟩ := T.body
  exact ⟨f, fd, hm, F.kp, hb, fun A outer s H args k g O d Q E hr gd e0 bt t dom q => told_run Fc T.sc T.n0 T.vis e hr gd e0 bt t dom q⟩
theorem pe_told {X : Cx} (C : ToldC X.prog X.w X.K X.mg X.base) {g : Addr} {k : Nat} {O : List Addr} {d : D} {i : Nat} {a : Str} {p1 p2 p3 : Pos} (t : Thk X.prog X.w X.K X.mg X.base X.fs O X.H_0 X.s_0.heap k g d) (dom : ∀ a, a ∈ O → X.H_0 a ≠ none) (hr : Room (k + 1) X.A) (gd : X.A.guards = some []) (hx : X.ex = []) (hns : g ≠ X.env.locals)
    (hg : Gl X "_law_told") (hN : X.N[i]? = some a) (hv : Vis X.env.scope a) (hd : (a == ("__debug__" : Str)) = false := by decide) (hcd : (a == ("__classdict__" : Str)) = false := by decide) :
    PE X (.Call (.Name "_law_told" p1) [.Name a p2] [] p3) (fun σ H Q => σ[i]? = some (some (.ref g)) ∧ Ex X.H_0 H ∧ ∀ v H', Ex H H' → Rp X.K O H' v (toldD d) → Q v H') := by
  obtain ⟨f, fd, hm, kp, hb, run⟩ := C.ex
  refine ⟨fun pins s σ H Q I h => ?_⟩
  obtain ⟨hs, ex, q⟩ := h
  refine wpAny_Call_Name_kw (ld_glob I hg hm ?_ (by decide))
  refine PySem.W.callWith_K (h₀ := X.base) I.ok.mod.kin kp (thn ((pa_cons (pe_var hN hv hd hcd) pa_nil).run p3 pins s σ H (fun vs H1 => vs = [.ref g] ∧ H1 = H) I ⟨_, hs, rfl, rfl⟩) fun us s1 ⟨vs, H1, I1, r, q1⟩ => ?_) rfl rfl
  obtain ⟨rfl, rfl⟩ := q1
  obtain ⟨u, rfl, ru⟩ := vals1 r
  obtain rfl : u = Value.ref g := ru
  have bt := hb s1 [.ref g] I1.kIn rfl
  rw [List.append_nil] at bt
  refine ⟨I1.kIn, wpAny_call (codeAny_mono (run X.A X.stack s1 H1 ⟨[.ref g], []⟩ k g O d Q E0 hr gd I1.env0 bt (t.weak I1 hx ex hns) (fun a m z => dom a m (ex.back z)) q) fun r s' hq => ?_)⟩
  cases r with
  | error e => exact hq.elim
  | ok fl =>
    cases fl with
    | ret u => exact I1.after hq
    | next => exact False.elim hq
    | brk => exact False.elim hq
    | cont => exact False.elim hq
/-- the text of _law_is -/
structure IsSt (st : Stmt) (N : List Str) : Prop where
  sc : FnScope N [("due" : Str), "call", "named"] (defScope st)
  n0 : N[0]? = some ("due" : Str)
  n1 : N[1]? = some ("call" : Str)
  n2 : N[2]? = some ("named" : Str)
  v0 : Vis (defScope st) "due"
  v1 : Vis (defScope st) "call"
  v2 : Vis (defScope st) "named"
  gs : (defScope st).names.lookup ("_law_same" : Str) = some .globalImplicit
  gt : (defScope st).names.lookup ("_law_told" : Str) = some .globalImplicit
  body : ∃ (j1 j2 : Nat) (p1 p2 p3 p4 p5 p6 p7 p8 p9 q1 q2 q3 q4 q5 q6 q7 : Pos), defBody st = [.Return (some (.Call (.Name "_law_same" p1) [.List [.Call (.Name "_law_told" p2) [.Name "call" p3] [] p4, .Call (.Name "_law_told" p5) [.Name "named" p6] [] p7] p8,
    .BinOp (.List [.List [.Constant (.str "told") j1 p9, .Name "due" q1] q2] q3) .Mult (.Constant (.int 2) j2 q4) q5] [] q6)) q7]
structure IsC (P : Program) (w : World) (K : Fg) (mg : Str → Option Value) (base : Heap) : Prop where
  ex : ∃ (f : Addr) (fd : FuncData), mg "_law_is" = some (.ref f) ∧ PySem.W.keepIn K (.ref f) = true ∧ Binds K fd [("due" : Str), "call", "named"] [] ∧
    ∀ (A : Around) (outer : List Env) (s : Shared) (H : Hp) (args : Args) (k : Nat) (u : Value) (v : V) (g1 g2 : Addr) (O : List Addr) (d : D) (Q : VK) (E : XK), Room (k + 2) A → 2 ≤ k → A.guards = some [] → Env0 P w K mg base A outer s H → BindsTo s fd args ([("due" : Str), "call", "named"].zip [u, Value.ref g1, .ref g2]) → RelV v u → Rp K O H v d →
      Thk P w K mg base (frs outer) O H s.heap k g1 d → Thk P w K mg base (frs outer) O H s.heap k g2 d → (∀ a, a ∈ O → H a ≠ none) → sameF [.list [toldD d, toldD d], .list [toldD d, toldD d]] = some (.bool true) → (∀ H', Ex H H' → Q (.bl true) H') → codeAny (model P w) A (.call (.ref f) args) (CR CX0 outer P w H s Q E) s
theorem c_is {st : Stmt} {f : Addr} {fd : FuncData} {N : List Str} (hm : mg "_law_is" = some (.ref f)) (F : Fun K "_law_is" "_law_is" st f fd) (T : IsSt st N) (hb : Binds K fd [("due" : Str), "call", "named"] []) (Ct : ToldC P w K mg base) (Cs : CallG P w K mg base "_law_same" ["one", "other"] 2 (spF K false 2 sameF)) : IsC P w K mg base := by
  obtain ⟨cd, Fc⟩ := Fun.c F
  obtain ⟨oc, od, kV, doc, pm, an, ct, osl, e, lk, hcd⟩ := Fc.ex
  subst e
  refine ⟨f, _, hm, F.kp, hb, fun A outer s H args k u v g1 g2 O d Q E hr hk gd e0 bt ru rp t1 t2 dom sm q => ?_⟩
  refine LamX.run_ofS (vs := [v, .ref g1, .ref g2]) lk hcd T.sc hr e0 bt (.cons ru (.cons rfl (.cons rfl .nil))) rfl fun hr' => ?_
  have lt : ∀ {g}, Thk P w K mg base (frs outer) O H s.heap k g d → g ≠ s.heap.objs.size := fun t => by
    obtain ⟨_, _, _, _, h1, _⟩ := t.obj
    exact Nat.ne_of_lt (Heap.lt_size h1)
  obtain ⟨j1, j2, p1, p2, p3, p4, p5, p6, p7, p8, p9, q1, q2, q3, q4, q5, q6, q7, eb⟩ := T.body
  have a1 : PE (cxOf CX0 P w K mg base N "_law_is" (defScope st) f cd A outer s H E).nox (.Call (.Name "_law_told" p2) [.Name "call" p3] [] p4) _ :=
    pe_told (i := 1) (a := "call") (g := g1) (O := O) (k := k) (d := d) Ct t1 dom hr' gd rfl (lt t1) T.gt T.n1 T.v1
  have a2 : PE (cxOf CX0 P w K mg base N "_law_is" (defScope st) f cd A outer s H E).nox (.Call (.Name "_law_told" p5) [.Name "named" p6] [] p7) _ :=
    pe_told (i := 2) (a := "named") (g := g2) (O := O) (k := k) (d := d) Ct t2 dom hr' gd rfl (lt t2) T.gt T.n2 T.v2
  obtain ⟨N', rfl⟩ : ∃ N', N = ("due" : Str) :: ("call" : Str) :: ("named" : Str) :: N' := by
    have h0 := T.n0
    have h1 := T.n1
    have h2 := T.n2
    cases N with
    | nil => cases h0
    | cons a N =>
      cases N with
      | nil => cases h1
      | cons b N =>
        cases N with
        | nil => cases h2
        | cons c N => cases h0; cases h1; cases h2; exact ⟨N, rfl⟩
  have z2 : ∀ n : Nat, n ≤ 2 → n ≤ sizeLine := fun n h => by rw [sizeLine_eq]; omega
  refine ⟨_, by rw [eb]; exact (pss_one (ps_ret (pe_callG (X := (cxOf CX0 P w K mg base (("due" : Str) :: "call" :: "named" :: N') "_law_is" (defScope st) f cd A outer s H E).nox) (j := k + 1) Cs hr' gd T.gs (pa_cons (pe_lst (pa_cons a1 (pa_cons a2 pa_nil))) (pa_cons (pe_op op_rep (pe_lst (pa_cons (pe_lst (pa_cons pe_str (pa_cons (pe_var (i := 0) T.n0 T.v0) pa_nil))) pa_nil)) pe_int) pa_nil)) (by omega)))).nox, ?_⟩
  refine ⟨rfl, Ex.refl H, fun v1 H1 x1 r1 => ⟨rfl, x1, fun v2 H2 x2 r2 => ⟨z2 2 (by decide), fun p hp => ?_⟩⟩⟩
  refine ⟨v, rfl, z2 2 (by decide), fun p' hp' => ⟨z2 1 (by decide), fun p'' hp'' => ⟨p'', 2, [.ref p'], rfl, rfl, upd_same, by decide, by decide, z2 2 (by decide), fun w hw => ?_⟩⟩⟩
  have y1 : Ex H2 (upd H2 p (.lst [v1, v2])) := Ex.new hp
  have y2 := Ex.new (o := .lst [V.str "told", v]) hp'
  have y3 := Ex.new (o := .lst [V.ref p']) hp''
  have y4 := Ex.new (o := .lst (List.replicate (Int.toNat 2) [V.ref p']).flatten) hw
  have n0 : ∀ {H' : Hp} {a : Addr}, Ex H H' → H' a = none → a ∉ O := fun e z m => dom _ m (e.back z)
  have e2 := x1.trans x2
  have e3 := e2.trans y1
  have e4 := e3.trans y2
  have e5 := e4.trans y3
  have rT : Rp K O (upd (upd (upd H2 p (.lst [v1, v2])) p' (.lst [V.str "told", v])) p'' (.lst [V.ref p'])) (.ref p') (toldD d) :=
    (Rp.lst upd_same (n0 e3 hp') (.cons (.str _) (.one (rp.ext e4)))).ext y3
  refine ⟨O, [.list [toldD d, toldD d], .list [toldD d, toldD d]], .bool true, rfl, fun a m z => dom a m ((e5.trans y4).back z), .cons ?_ (.one ?_), sm, fun r Hr er rr => ?_⟩
  · exact Rp.ext ((y2.trans y3).trans y4) (.lst upd_same (n0 e2 hp) (.cons (r1.ext (x2.trans y1)) (.one (r2.ext y1))))
  · exact .lst upd_same (n0 e5 hw) (.cons (rT.ext y4) (.one (rT.ext y4)))
  · cases rr
    exact q Hr ((e5.trans y4).trans er)
end
end Y

namespace Y
open PySem PySem.Spec PyProof.Rows L2

/-! ## the judge called -/
structure LQ (X : Cx) (T : List (Addr × Str)) (k : Nat) (e : Expr) (m : S → Option D) : Prop where
  ex : ∃ (params : Arguments) (body : Expr) (scope : Scope) (pos : Pos) (kd : Kd), e = .Lambda params body scope pos ∧ kd ≠ .r ∧ LamX.LamS X.env.scope scope ∧ defaultsOf params X.env = ([], []) ∧
    (∀ (q : Str) (cl : List (Str × Addr)) (pm cv ctv : Value), bindArgs (PySem.W.kla_fn "<lambda>" q params body scope cl pm cv ctv) ⟨[], []⟩ = pure []) ∧
    ∀ (A : Around) (outer : List Env) (s : Shared) (H : Hp) (f c' : Addr), Room k (A.deeper (LamX.lamEnv X scope s.heap.objs.size f c')) → A.guards = some [] → QE (LamX.lamCx X A outer s H (fun _ _ _ => False) scope f c') T true kd body m
structure TabOk (base : Heap) (mg : Str → Option Value) (T : List (Addr × Str)) (cd : Value) (q : Str) : Prop where
  ex : ∃ (c P : Addr), LamX.TabB base mg c P ∧ cd = .ref c ∧ (P, q) ∈ T ∧ ∀ p ∈ T, p.1 = P → p.2 = q
theorem TabOk.of {base : Heap} {mg : Str → Option Value} {T : List (Addr × Str)} {c P : Addr} {q : Str} (B : LamX.TabB base mg c P) (hm : (P, q) ∈ T) (hn : (T.map (·.1)).Nodup) : TabOk base mg T (.ref c) q := by
  refine ⟨c, P, B, rfl, hm, fun p hp e => ?_⟩
  induction T with
  | nil => cases hm
  | cons x T ih =>
    rw [List.map_cons, List.nodup_cons] at hn
    rcases List.mem_cons.mp hm with h1 | h1 <;> rcases List.mem_cons.mp hp with h2 | h2
    · rw [h2, ← h1]
    · exact absurd (List.mem_map.mpr ⟨p, h2, by rw [e, ← h1]⟩) hn.1
    · exact absurd (List.mem_map.mpr ⟨_, h1, by rw [← h2, e]⟩) hn.1
    · exact ih h1 hn.2 h2
def isOk (d d1 d2 : D) : Bool := deq d1 d && (deq d2 d && (okShow (.list [toldD d, toldD d]) && noDict d))
def isM (n : S → Option (D × S)) (m1 m2 : S → Option D) : S → Option (D × S) := fun s => (n s).bind fun p => (m1 p.2).bind fun d1 => (m2 p.2).bind fun d2 => if isOk p.1 d1 d2 = true then some (.bool true, p.2) else none
theorem isOk_same {d d1 d2 : D} (h : isOk d d1 d2 = true) : d1 = d ∧ d2 = d ∧ sameF [.list [toldD d, toldD d], .list [toldD d, toldD d]] = some (.bool true) := by
  unfold isOk at h
  simp only [Bool.and_eq_true] at h
  obtain ⟨h1, h2, h3, h4⟩ := h
  have n : noDict (.list [toldD d, toldD d]) = true := by simp [toldD, noDict, noDicts, h4]
  refine ⟨deq_eq h1, deq_eq h2, ?_⟩
  simp only [sameF, deq_refl _ n, h3, n, isRef, Bool.and_self, if_true]
section
variable {X : Cx} {T : List (Addr × Str)} {k : Nat} {p pos : Pos}
theorem lq_make {pins : List (Addr × Obj)} {σ : L2.St} {H : Hp} {s : Shared} {e : Expr} {m : S → Option D} {Q : Value → Shared → Prop} (h : LQ X T k e m) (TO : TabOk X.base X.mg T X.env.code (X.env.qual ++ "<lambda>")) (I : Inv X pins σ H s) (hT : LamX.Tabs T H)
    (q : ∀ (f : Addr) (ob : Obj) (H1 : Hp) (s' : Shared), Inv X pins σ H1 s' → Grown T H H1 → (s'.heap.get? f = some ob ∧ H1 f = none ∧ f ≠ X.env.locals ∧ f ∉ X.fs ∧ ∀ v, ob.data ≠ .cell v) →
      (∀ (H2 : Hp) (s2 : Shared) (pins2 : List (Addr × Obj)), Inv X pins2 σ H2 s2 → Grown T H1 H2 → (f, ob) ∈ pins2 → ∀ (E : Ent) (O : List Addr) (st : S) (d : D), Sim ⟨X.K, T, true⟩ E O σ H2 st → m st = some d → Thk X.prog X.w X.K X.mg X.base (frs X.stack) O H2 s2.heap (k + 1) f d) → Q (.ref f) s') :
    wpAny (model X.prog X.w) X.A (eval e X.env) Q X.xe s := by
  obtain ⟨params, body, scope, lp, kd, rfl, hk, L, hdef, hbind, hbody⟩ := h.ex
  obtain ⟨c, P, B, hc, hm, hu⟩ := TO.ex
  refine make_lam I B hc hm hu hT hdef L fun f c' pm ctv H1 s' I1 g hf hfn hfr hco => ?_
  have hL : f ≠ X.env.locals := fun z => by
    obtain ⟨_, ⟨o, es, ep, ho, hd, _⟩, _⟩ := I1.loc
    rw [← z, hf] at ho
    cases ho
    cases hd
  have hS : ∀ b ∈ X.fs, b ∈ frs X.stack := fun b hb => by
    rcases I1.ok.stk with z | ⟨z, zf⟩
    · rw [z]; exact hb
    · rw [z]
      unfold frs
      rw [List.filterMap_cons, zf]
      exact List.mem_cons_of_mem _ hb
  have hF : f ∉ X.fs := fun z => hfr (hS f z)
  refine q f _ H1 s' I1 g ⟨hf, hfn, hL, hF, fun v z => by cases z⟩ fun H2 s2 pins2 I2 g2 hp E O st d sm hd => ?_
  obtain ⟨a1, a2, _, a4, _⟩ := I2.pin _ (List.mem_append_right _ hp)
  exact lam_thk I2 L a1 a2 hfr (g2.kp _ _ hco (fun z => by cases z) fun _ ps z => LamX.codeO_ne ps z) (hbind _ _ _ _ _) (hbody · · · · f c') sm hd hk
theorem e_is {e l1 l2 : Expr} {n : S → Option (D × S)} {m1 m2 : S → Option D} {j : Nat} (C : IsC X.prog X.w X.K X.mg X.base) (TO : TabOk X.base X.mg T X.env.code (X.env.qual ++ "<lambda>")) (hr : Room j X.A) (gd : X.A.guards = some []) (hg : Gl X "_law_is") (h : EE X T true e n) (h1 : LQ X T k l1 m1) (h2 : LQ X T k l2 m2) (hk : k + 3 ≤ j := by decide) (hk1 : 1 ≤ k := by decide)
    (s1 : starEach [e, l1, l2] X.env = (false, eval e X.env) :: starEach [l1, l2] X.env := by rfl) (s2 : starEach [l1, l2] X.env = (false, eval l1 X.env) :: starEach [l2] X.env := by rfl) (s3 : starEach [l2] X.env = (false, eval l2 X.env) :: starEach [] X.env := by rfl)
    (hpl : (backTo pos (starEach [l1, l2] X.env)).any (·.1) = false := by rfl) : EE X T true (.Call (.Name "_law_is" p) [e, l1, l2] [] pos) (isM n m1 m2) := by
  obtain ⟨f, fd, hm, kp, hb, run⟩ := C.ex
  refine ⟨fun pins s σ H Q I hq => ?_⟩
  obtain ⟨E, O, st, d, st', sm, hd, q⟩ := hq
  obtain ⟨⟨due, st1⟩, hn, hd⟩ := Option.bind_eq_some_iff.mp hd
  obtain ⟨d1, hd1, hd⟩ := Option.bind_eq_some_iff.mp hd
  obtain ⟨d2, hd2, hd⟩ := Option.bind_eq_some_iff.mp hd
  split at hd
  case isFalse => cases hd
  case isTrue ok =>
  cases hd
  obtain ⟨e1, e2, ok'⟩ := isOk_same ok
  dsimp only at e1 e2 hd1 hd2 ok'
  subst e1
  subst e2
  refine wpAny_Call_Name_kw (ld_glob I hg hm ?_ (by decide))
  refine PySem.W.callWith_K (h₀ := X.base) I.ok.mod.kin kp ?_ s1 hpl
  rw [s1, s2, s3]
  show wpAny _ _ (spliced ((false, eval e X.env) :: (false, eval l1 X.env) :: (false, eval l2 X.env) :: [])) _ _ s
  refine Calls.spliced_cons (thn (h.run pins s σ H (fun v H1 => ∃ O1, Stp true O H O1 H1 ∧ Sim ⟨X.K, T, true⟩ E O1 σ H1 st1 ∧ Rp X.K O1 H1 v _) I ⟨E, O, st, _, st1, sm, hn, fun v H1 O1 stp sm1 r => ⟨O1, stp, sm1, r⟩⟩) fun u s1 ⟨v, H1, I1, rv, O1, stp1, sm1, rp⟩ => ?_)
  refine Calls.spliced_cons (lq_make h1 TO I1 sm1.tabs fun f1 ob1 H2 s2 I2 g2 pin1 th1 => ?_)
  have I2' : Inv X ((f1, ob1) :: pins) σ H2 s2 := I2.pins_of fun p hp => by
    rcases List.mem_cons.mp hp with rfl | hp
    · exact pin1
    · exact I2.pin _ (List.mem_append_right _ hp)
  have sm2 : Sim ⟨X.K, T, true⟩ E O1 σ H2 st1 := sm1.kept g2.kp g2.th g2.tabs
  refine Calls.spliced_cons (lq_make h2 TO I2' g2.tabs fun f2 ob2 H3 s3 I3 g3 pin2 th2 => ?_)
  have I3' : Inv X ((f2, ob2) :: (f1, ob1) :: pins) σ H3 s3 := I3.pins_of fun p hp => by
    rcases List.mem_cons.mp hp with rfl | hp
    · exact pin2
    · exact I3.pin _ (List.mem_append_right _ hp)
  have sm3 : Sim ⟨X.K, T, true⟩ E O1 σ H3 st1 := sm2.kept g3.kp g3.th g3.tabs
  have I4 : Inv X pins σ H3 s3 := I3.pins_of fun p hp => I3.pin _ (List.mem_append_right _ (List.mem_cons_of_mem _ hp))
  have k1 := g2.kp
  have stp2 : Stp true O1 H1 O1 H3 := (g2.kp.stp (fun a z => by cases z) g2.th).trans (g3.kp.stp (fun a z => by cases z) g3.th)
  refine Calls.spliced_nil ⟨I4.kIn, ?_⟩
  have bt := hb s3 [u, .ref f1, .ref f2] I4.kIn rfl
  rw [List.append_nil] at bt
  refine wpAny_call (codeAny_mono (run X.A X.stack s3 H3 ⟨[u, .ref f1, .ref f2], []⟩ (k + 1) u v f1 f2 O1 d2 Q E0 (hr.mono hk) (by omega) gd I4.env0 bt rv (rp.step stp2)
    (th1 H3 s3 _ I3' g3 (by simp) E O1 st1 _ sm3 hd1) (th2 H3 s3 _ I3' (Grown.refl g3.tabs) (by simp) E O1 st1 _ sm3 hd2) sm3.dom ok' fun H' ex => ?_) fun r s' hq => ?_)
  · exact q (.bl true) H' O1 ((stp1.trans stp2).trans (Stp.of_ex ex)) (sm3.ext ex) (.bl true)
  cases r with
  | error e => exact hq.elim
  | ok fl =>
    cases fl with
    | ret u => exact I4.after hq
    | next => exact False.elim hq
    | brk => exact False.elim hq
    | cont => exact False.elim hq
end
end Y

namespace Y
open PySem PySem.Spec PyProof.Rows L2

/-! ## f(k = e, ..), nothing by place -/
def perm {α : Type} (π : List Nat) (l : List α) : List α := π.filterMap fun i => l[i]?
theorem vals_perm {xs : List V} {us : List Value} (r : Vals xs us) : ∀ π : List Nat, Vals (perm π xs) (perm π us)
  | [] => .nil
  | i :: π => by
    unfold Y.perm
    rw [List.filterMap_cons, List.filterMap_cons]
    cases e : xs[i]? with
    | none =>
      rw [r.none_of e]
      exact vals_perm r π
    | some x =>
      obtain ⟨u, h1, h2⟩ := r.get e
      rw [h1]
      exact .cons h2 (vals_perm r π)
theorem Rps.perm {K : Fg} {O : List Addr} {H : Hp} {xs : List V} {us : List D} (r : Rps K O H xs us) : ∀ π : List Nat, Rps K O H (perm π xs) (perm π us)
  | [] => .nil
  | i :: π => by
    unfold Y.perm
    rw [List.filterMap_cons, List.filterMap_cons]
    cases e : xs[i]? with
    | none =>
      cases e2 : us[i]? with
      | none => exact Rps.perm r π
      | some d =>
        obtain ⟨v, h1, _⟩ := r.get e2
        rw [e] at h1
        cases h1
    | some x =>
      obtain ⟨u, h1, h2⟩ := r.get' e
      rw [h1]
      exact .cons h2 (Rps.perm r π)
/-- how the names given are put in order -/
def KwB (x : Str) (st : Stmt) (ps ks : List Str) (π : List Nat) : Prop := ∀ (kV doc pm : Value) (an : Option Addr) (cdv ct : Value) (ws : List Value), ws.length = ks.length →
  bindArgs (PySem.W.fnOf x x (defArgs st) (defBody st) (defScope st) .none kV doc pm an cdv ct) ⟨[], ks.zip ws⟩ = pure (ps.zip (perm π ws))
abbrev QK (X : Cx) (T : List (Addr × Str)) (tb : Bool) (kws : List Keyword) (n : S → Option (List D)) : Prop := PK X kws (tAQ ⟨X.K, T, tb⟩ true n)
theorem imp_k {X : Cx} {kws : List Keyword} {t t' : TA} (h : PK X kws t) (hi : ∀ σ H Q, t' σ H Q → t σ H Q) : PK X kws t' := ⟨fun p pins s σ H Q I hw => h.run p pins s σ H Q I (hi σ H Q hw)⟩
section
variable {X : Cx} {T : List (Addr × Str)} {tb kr : Bool} {x : Str} {st : Stmt} {ps ks : List Str} {π : List Nat} {k : Nat} {F : List D → Option D}
theorem k_nil : QK X T tb [] argN := imp_k pk_nil fun σ H Q ⟨E, O, s, d, sm, hm, q⟩ => by
  cases hm
  exact q [] H (Ex.refl H) Rps.nil
theorem k_cons {e : Expr} {nm : Option Str} {kp : Pos} {kws : List Keyword} {kd : Kd} {m : S → Option D} {n : S → Option (List D)} (ha : QE X T tb kd e m) (hr : QK X T tb kws n) (nk : kd ≠ .r := by decide) : QK X T tb (⟨nm, e, kp⟩ :: kws) (argC m n) := imp_k (pk_cons ha hr) fun σ H Q h => by
  obtain ⟨E, O, s, d, sm, hm, q⟩ := h
  obtain ⟨y, hy, hm⟩ := Option.bind_eq_some_iff.mp hm
  obtain ⟨ys, hys, hm⟩ := Option.bind_eq_some_iff.mp hm
  cases hm
  exact ⟨E, O, s, y, sm, hy, fun v H1 e1 r1 => ⟨E, O, s, ys, sm.ext e1, hys, fun vs H2 e2 r2 => q (v :: vs) H2 (e1.trans e2) (Rps.cons ((r1.toI' nk).ext e2) r2)⟩⟩
theorem pass0' {X : Cx} : Passes CX0 X (fun _ _ _ => False) := pass0
theorem q_callK {kws : List Keyword} {p pos : Pos} {n : S → Option (List D)} {j : Nat} (C : CallF X.prog X.w X.K X.mg X.base x st ps k kr F) (hb : KwB x st ps ks π) (hr : Room j X.A) (hg : Gl X x) (ha : QK X T tb kws n) (hk : k ≤ j := by decide) (hl : ∀ s ds, n s = some ds → ds.length = ks.length) (hp : ∀ s ds, n s = some ds → (perm π ds).length = ps.length)
    (hall : (backToKw pos (keywordEach kws X.env)).all (·.1.isSome) = true := by rfl) (hks : (backToKw pos (keywordEach kws X.env)).filterMap (·.1) = ks := by rfl) (hdb : (x == ("__debug__" : Str)) = false := by decide)
    (hpl : ((backTo pos (starEach [] X.env)).any (·.1) || (backToKw pos (keywordEach kws X.env)).any (·.1.isNone)) = false := by rfl) : QE X T tb (kdOf kr) (.Call (.Name x p) [] kws pos) (callM (fun ds => F (perm π ds)) n) := by
  obtain ⟨f, fd, hm, Fn, _, ok⟩ := C.ex
  obtain ⟨oc, od, kV, doc, pm, an, cdv, ct, osl, efd, _, _⟩ := Fn.ex
  subst efd
  refine ⟨fun pins s σ H Q I h => ?_⟩
  obtain ⟨E, O, st', d, sm, hmm, q⟩ := h
  obtain ⟨xs, hxs, hF⟩ := Option.bind_eq_some_iff.mp hmm
  refine wpAny_Call_Name_kw (ld_glob I hg hm ?_ hdb)
  refine PySem.W.callWith_KW0 (h₀ := X.base) I.ok.mod.kin Fn.kp hall ?_ hpl
  refine thn (ha.run pos pins s σ H (fun vs H1 => Ex H H1 ∧ Rps X.K O H1 vs xs) I ⟨E, O, st', xs, sm, hxs, fun vs H1 e1 r1 => ⟨e1, r1⟩⟩) fun ws s2 ⟨zs, H2, I2, rz, e1, r1⟩ => ⟨I2.kIn, ?_⟩
  rw [hks]
  have dom := (sm.ext e1).dom
  have lw : ws.length = ks.length := by rw [← rz.length, r1.length]; exact hl _ _ hxs
  have bt := BindsTo.of_looks (s := s2) fun M => PySem.W.Looks.of_pure (hb kV doc pm an cdv ct ws lw)
  have hsp : spF X.K kr ps.length F (perm π zs) H2 Q E0 := ⟨O, perm π xs, d, by rw [(r1.perm π).length]; exact hp _ _ hxs, dom, r1.perm π, hF, fun v H' e r => q v H' (e1.trans e) ((r.res dom).from e1)⟩
  refine wpAny_call (codeAny_mono (ok.run X.A X.stack s2 H2 ⟨[], ks.zip ws⟩ (perm π ws) (perm π zs) Q E0 (hr.mono hk) I2.env0 bt (vals_perm rz π) hsp) fun r s' hq => ?_)
  cases r with
  | error e => exact hq.elim
  | ok fl =>
    cases fl with
    | ret u => exact I2.after hq
    | next => exact False.elim hq
    | brk => exact False.elim hq
    | cont => exact False.elim hq
end
end Y

namespace Y
open PySem PySem.Spec PyProof.Rows L2

/-! ## x[i] = e; pop; the bag's places -/
def setIxS (i : Nat) (mi : S → Option D) (m : S → Option (D × S)) : S → Option Fl := fun s => (m s).bind fun p => (olAt p.2 i).bind fun ds => (mi p.2).bind fun k => (intD k).bind fun k => (ixN ds.length k).bind fun j => some (.nx (p.2.set i (.ol (ds.set j p.1))))
def popM (i : Nat) : S → Option (D × S) := fun s => (olAt s i).bind fun ds => (ds[ds.length - 1]?).bind fun d => some (d, s.set i (.ol ds.dropLast))
def bagC (i : Nat) : S → Option D := fun s => (bagOf s i).map fun b => .int b.cur
def bagX (i : Nat) : S → Option D := fun s => (bagOf s i).map fun b => .int b.mix
def bagE (i : Nat) : S → Option Bool := fun s => (bagOf s i).map fun b => b.cells.isEmpty
def bagPop (i : Nat) : S → Option (D × S) := fun s => (bagOf s i).bind fun b => (b.cells[b.cells.length - 1]?).map fun c => (.int c, s.set i (.bag ⟨b.cells.dropLast, b.cur, b.mix⟩))
def bagSetC (i : Nat) (m : S → Option (D × S)) : S → Option Fl := fun s => (m s).bind fun p => (bagOf p.2 i).bind fun b => (intD p.1).map fun c => .nx (p.2.set i (.bag ⟨b.cells, c, b.mix⟩))
def bagSetX (i : Nat) (m : S → Option (D × S)) : S → Option Fl := fun s => (m s).bind fun p => (bagOf p.2 i).bind fun b => (intD p.1).map fun c => .nx (p.2.set i (.bag ⟨b.cells, b.cur, c⟩))
theorem Rp.intD {K : Fg} {O : List Addr} {H : Hp} {v : V} {d : D} {i : Int} (h : Rr K O H v d) (e : Y.intD d = some i) : v = .int i := by
  cases d <;> simp [Y.intD] at e
  subst e
  exact h.int
section
variable {X : Cx} {T : List (Addr × Str)} {tb kr : Bool}
theorem s_setix (i : Nat) {x : Str} {e ie : Expr} {p pos' pos : Pos} {k : Kd} {mi : S → Option D} {m : S → Option (D × S)} (he : EE X T tb e m) (hi : QE X T tb k ie mi) (hN : X.N[i]? = some x := by rfl) (hv : Vis X.env.scope x := by first | exact Or.inl rfl | exact Or.inr (Or.inl rfl) | exact Or.inr (Or.inr rfl)) (hd : (x == ("__debug__" : Str)) = false := by decide)
    (hcd : (x == ("__classdict__" : Str)) = false := by decide) (ha : ∀ v, assign (.Subscript (.Name x p) ie pos') X.env v = (do
      let ov ← holding [v] (eval (.Name x p) X.env)
      let iv ← holding [v, ov] (eval ie X.env)
      standAt pos'
      holding [v, ov, iv] (setItem ov iv v)
      release [v, ov, iv] []) := by intro _; rfl) (hs : swapsWithSole [.Subscript (.Name x p) ie pos'] e pos.line X.env = pure false := by rfl) (hw : swappedStores [.Subscript (.Name x p) ie pos'] e X.env = pure none := by rfl)
    (h1 : (assignEach [.Subscript (.Name x p) ie pos'] X.env).map (·.2) = [assign (.Subscript (.Name x p) ie pos') X.env] := by rfl) : PY X T tb kr (.Assign [.Subscript (.Name x p) ie pos'] e pos) (setIxS i mi m) := imp_s (ps_asg he (pg_sub (pe_var hN hv hd hcd) hi set_list ha) hs hw h1) fun B σ H h => by
  obtain ⟨E, O, s, f, sm, hm, k⟩ := h
  obtain ⟨⟨d, s1⟩, h1, hm⟩ := Option.bind_eq_some_iff.mp hm
  obtain ⟨ds, h2, hm⟩ := Option.bind_eq_some_iff.mp hm
  obtain ⟨dk, h3, hm⟩ := Option.bind_eq_some_iff.mp hm
  obtain ⟨kk, h4, hm⟩ := Option.bind_eq_some_iff.mp hm
  obtain ⟨j, h5, hm⟩ := Option.bind_eq_some_iff.mp hm
  cases hm
  refine ⟨E, O, s, d, s1, sm, h1, fun v H1 O1 st1 sm1 r1 => ?_⟩
  obtain ⟨a, _, g1, _⟩ := sm1.lset (es := ds) (olAt_some h2)
  refine ⟨_, g1, E, O1, s1, dk, sm1, h3, fun v2 H2 e2 r2 => ?_⟩
  have sm2 := sm1.ext e2
  obtain ⟨a', vs, g1', g2, g3, g4⟩ := sm2.lset (es := ds.set j d) (olAt_some h2)
  rw [g1] at g1'
  cases g1'
  obtain ⟨sm3, st3⟩ := g4 (vs.set j v) (Rps.set (r1.ext e2) j g3)
  exact ⟨a, vs, kk, j, rfl, Rp.intD r2.toR h4, g2, by rw [g3.length]; exact h5, k σ _ O1 ((st1.trans (Stp.of_ex e2)).trans st3) sm3⟩
theorem e_pop (i : Nat) {x : Str} {p apos cpos : Pos} (hN : X.N[i]? = some x := by rfl) (hv : Vis X.env.scope x := by first | exact Or.inl rfl | exact Or.inr (Or.inl rfl) | exact Or.inr (Or.inr rfl)) (hd : (x == ("__debug__" : Str)) = false := by decide)
    (hcd : (x == ("__classdict__" : Str)) = false := by decide) (hbase : attributeBase (.Name x p) "pop" X.env (eval (.Name x p) X.env) = eval (.Name x p) X.env := by rfl) (hline : (apos.endLine == cpos.line) = true := by rfl) : EE X T tb (.Call (.Attribute (.Name x p) "pop" apos) [] [] cpos) (popM i) :=
  imp_e (pe_bm0 PySem.F.plainAttrs_list PySem.F.slot_list_pop PySem.F.type_list_pop mt_pop (pe_var hN hv hd hcd) hbase hline) fun σ H Q h => by
  obtain ⟨E, O, s, d, s', sm, hm, q⟩ := h
  obtain ⟨ds, h1, hm⟩ := Option.bind_eq_some_iff.mp hm
  obtain ⟨d', h2, hm⟩ := Option.bind_eq_some_iff.mp hm
  cases hm
  obtain ⟨a, vs, g1, g2, g3, g4⟩ := sm.lset (es := ds.dropLast) (olAt_some h1)
  obtain ⟨v, w1, w2⟩ := g3.get h2
  obtain ⟨sm2, st2⟩ := g4 _ g3.dropLast
  exact ⟨_, g1, tyL g2, a, vs, v, rfl, rfl, g2, by rw [g3.length]; exact w1, q v _ O st2 sm2 (w2.step st2)⟩
/-! ### the bag -/
theorem bag_read {i : Nat} {Z : Zx} {E : Ent} {O : List Addr} {σ : L2.St} {H : Hp} {s : S} {b : Bag} (sm : Sim Z E O σ H s) (h : bagOf s i = some b) : ∃ a c, σ[i]? = some (some (.ref a)) ∧ H a = some (.lst [.ref c, .int b.cur, .int b.mix]) ∧ H c = some (.lst (b.cells.map V.int)) := by
  obtain ⟨a, c, h1, _, _, _, ⟨_, h2, h3⟩, _⟩ := sm.bag (bagOf_some h)
  exact ⟨a, c, h1, h2, h3⟩
theorem q_bagC (i : Nat) {x : Str} {jj : Nat} {p p2 pos : Pos} (hN : X.N[i]? = some x := by rfl) (hv : Vis X.env.scope x := by first | exact Or.inl rfl | exact Or.inr (Or.inl rfl) | exact Or.inr (Or.inr rfl)) (hd : (x == ("__debug__" : Str)) = false := by decide) (hcd : (x == ("__classdict__" : Str)) = false := by decide) :
    QE X T tb .i (.Subscript (.Name x p) (.Constant (.int 1) jj p2) pos) (bagC i) := imp_e (pe_ix ix_seq (pe_var hN hv hd hcd) pe_int (fun _ _ => rfl)) fun σ H Q h => by
  obtain ⟨E, O, s, d, sm, hm, q⟩ := h
  obtain ⟨b, hb, hm⟩ := Option.map_eq_some_iff.mp hm
  subst hm
  obtain ⟨a, c, h1, h2, h3⟩ := bag_read sm hb
  exact ⟨_, h1, .inl ⟨a, _, 1, .int b.cur, rfl, rfl, SqL.of h2, rfl, q _ H (Ex.refl H) (.int _)⟩⟩
theorem q_bagX (i : Nat) {x : Str} {jj : Nat} {p p2 pos : Pos} (hN : X.N[i]? = some x := by rfl) (hv : Vis X.env.scope x := by first | exact Or.inl rfl | exact Or.inr (Or.inl rfl) | exact Or.inr (Or.inr rfl)) (hd : (x == ("__debug__" : Str)) = false := by decide) (hcd : (x == ("__classdict__" : Str)) = false := by decide) :
    QE X T tb .i (.Subscript (.Name x p) (.Constant (.int 2) jj p2) pos) (bagX i) := imp_e (pe_ix ix_seq (pe_var hN hv hd hcd) pe_int (fun _ _ => rfl)) fun σ H Q h => by
  obtain ⟨E, O, s, d, sm, hm, q⟩ := h
  obtain ⟨b, hb, hm⟩ := Option.map_eq_some_iff.mp hm
  subst hm
  obtain ⟨a, c, h1, h2, h3⟩ := bag_read sm hb
  exact ⟨_, h1, .inl ⟨a, _, 2, .int b.mix, rfl, rfl, SqL.of h2, rfl, q _ H (Ex.refl H) (.int _)⟩⟩
theorem ints_shaped (l : List Int) : SeqAt.shaped (.list (l.map PyData.int)) = true := by
  have h : PyData.canLayAll0 (l.map PyData.int) = true ∧ PyData.depthAll (l.map PyData.int) = 0 := by
    induction l with
    | nil => exact ⟨by simp [PyData.canLayAll0], by simp [PyData.depthAll]⟩
    | cons a l ih => exact ⟨by simp [PyData.canLayAll0, PyData.canLay0, ih.1], by simp [PyData.depthAll, PyData.depth, ih.2]⟩
  simp [SeqAt.shaped, PyData.canLay0, PyData.depth, h.1, h.2]
theorem dp_ints {K : Fg} {H : Hp} : ∀ l : List Int, DpAll K H (l.map V.int) (l.map PyData.int)
  | [] => .nil
  | a :: l => .cons (.int a) (dp_ints l)
theorem qt_bagE (hu : X.A.units + 64 < cLine) (i : Nat) {x : Str} {jj : Nat} {p p2 p3 p4 pos : Pos} (hN : X.N[i]? = some x := by rfl) (hv : Vis X.env.scope x := by first | exact Or.inl rfl | exact Or.inr (Or.inl rfl) | exact Or.inr (Or.inr rfl)) (hd : (x == ("__debug__" : Str)) = false := by decide) (hcd : (x == ("__classdict__" : Str)) = false := by decide) :
    QT X T tb (.Compare (.Subscript (.Name x p) (.Constant (.int 0) jj p2) p3) [.Eq] [.List [] p4] pos) (bagE i) := imp_t (pt_cmpR (op_eqD hu) (pe_ix ix_seq (pe_var hN hv hd hcd) pe_int (fun _ _ => rfl)) (pe_lst pa_nil) (by first | exact nobehind _ (by decide) (by decide) | rfl)) fun σ H Q h => by
  obtain ⟨E, O, s, d, sm, hm, q⟩ := h
  obtain ⟨b, hb, hm⟩ := Option.map_eq_some_iff.mp hm
  subst hm
  obtain ⟨a, c, h1, h2, h3⟩ := bag_read sm hb
  refine ⟨_, h1, .inl ⟨a, _, 0, .ref c, rfl, rfl, SqL.of h2, rfl, len_line (by decide), fun r hr => ?_⟩⟩
  have e : Ex H (upd H r (.lst [])) := Ex.new hr
  refine ⟨.list (b.cells.map PyData.int), .list [], .lst (SqL.of (e _ _ h3)) (dp_ints _), .lst (SqL.of upd_same) .nil, ints_shaped _, rfl, _, rfl, ?_⟩
  have z : PyData.eqv (.list (b.cells.map PyData.int)) (.list []) = b.cells.isEmpty := by
    cases b.cells with
    | nil => rfl
    | cons x l => rfl
  rw [z]
  exact q _ e
theorem e_bagPop (i : Nat) {x : Str} {jj : Nat} {p p2 p3 apos cpos : Pos} (hN : X.N[i]? = some x := by rfl) (hv : Vis X.env.scope x := by first | exact Or.inl rfl | exact Or.inr (Or.inl rfl) | exact Or.inr (Or.inr rfl)) (hd : (x == ("__debug__" : Str)) = false := by decide)
    (hcd : (x == ("__classdict__" : Str)) = false := by decide) (hbase : attributeBase (.Subscript (.Name x p) (.Constant (.int 0) jj p2) p3) "pop" X.env (eval (.Subscript (.Name x p) (.Constant (.int 0) jj p2) p3) X.env) = eval (.Subscript (.Name x p) (.Constant (.int 0) jj p2) p3) X.env := by rfl) (hline : (apos.endLine == cpos.line) = true := by rfl) :
    EE X T tb (.Call (.Attribute (.Subscript (.Name x p) (.Constant (.int 0) jj p2) p3) "pop" apos) [] [] cpos) (bagPop i) :=
  imp_e (pe_bm0 PySem.F.plainAttrs_list PySem.F.slot_list_pop PySem.F.type_list_pop mt_pop (pe_ix ix_seq (pe_var hN hv hd hcd) pe_int (fun _ _ => rfl)) hbase hline) fun σ H Q h => by
  obtain ⟨E, O, s, d, s', sm, hm, q⟩ := h
  obtain ⟨b, hb, hm⟩ := Option.bind_eq_some_iff.mp hm
  obtain ⟨z, hz, hm⟩ := Option.map_eq_some_iff.mp hm
  cases hm
  obtain ⟨a, c, h1, h4, h5, _, ⟨h6, h2, h3⟩, back⟩ := sm.bag (bagOf_some hb)
  refine ⟨_, h1, .inl ⟨a, _, 0, .ref c, rfl, rfl, SqL.of h2, rfl, tyL h3, c, _, .int z, rfl, rfl, h3, by rw [List.length_map, List.getElem?_map, hz]; rfl, ?_⟩⟩
  have e : (b.cells.map V.int).dropLast = b.cells.dropLast.map V.int := (List.map_dropLast).symm
  rw [e]
  obtain ⟨sm2, st2⟩ := back ⟨b.cells.dropLast, b.cur, b.mix⟩ (upd H c (.lst (b.cells.dropLast.map V.int))) (fun o u w n t => (upd_kp (tb := tb) h3 trivial) o u w (fun m => n (by rw [List.mem_singleton.mp m]; exact List.mem_cons_of_mem _ List.mem_cons_self)) t) upd_there (upd_tabs sm.tabs h3) ⟨h6, (upd_ne h6).trans h2, upd_same⟩
  exact q (.int z) _ O st2 sm2 (.int z)
theorem bag_upd {Z : Zx} {E : Ent} {O : List Addr} {σ : L2.St} {H : Hp} {s : S} {i : Nat} {b : Bag} {m n : Int} (sm : Sim Z E O σ H s) (hb : bagOf s i = some b) : ∃ a c, σ[i]? = some (some (.ref a)) ∧ H a = some (.lst [.ref c, .int b.cur, .int b.mix]) ∧
    Sim Z E O σ (upd H a (.lst [.ref c, .int m, .int n])) (s.set i (.bag ⟨b.cells, m, n⟩)) ∧ Stp Z.tb O H O (upd H a (.lst [.ref c, .int m, .int n])) := by
  obtain ⟨a, c, h1, h4, h5, _, ⟨h6, h2, h3⟩, back⟩ := sm.bag (bagOf_some hb)
  obtain ⟨sm2, st2⟩ := back ⟨b.cells, m, n⟩ (upd H a (.lst [.ref c, .int m, .int n])) (fun o u w n t => (upd_kp (tb := Z.tb) h2 trivial) o u w (fun m => n (by rw [List.mem_singleton.mp m]; exact List.mem_cons_self)) t) upd_there (upd_tabs sm.tabs h2) ⟨h6, upd_same, (upd_ne (Ne.symm h6)).trans h3⟩
  exact ⟨a, c, h1, h2, sm2, st2⟩
theorem s_bagSetC (i : Nat) {x : Str} {e : Expr} {jj : Nat} {p p2 pos' pos : Pos} {m : S → Option (D × S)} (he : EE X T tb e m) (hN : X.N[i]? = some x := by rfl) (hv : Vis X.env.scope x := by first | exact Or.inl rfl | exact Or.inr (Or.inl rfl) | exact Or.inr (Or.inr rfl)) (hd : (x == ("__debug__" : Str)) = false := by decide)
    (hcd : (x == ("__classdict__" : Str)) = false := by decide) (hs : swapsWithSole [.Subscript (.Name x p) (.Constant (.int 1) jj p2) pos'] e pos.line X.env = pure false := by rfl) (hw : swappedStores [.Subscript (.Name x p) (.Constant (.int 1) jj p2) pos'] e X.env = pure none := by rfl)
    (h1 : (assignEach [.Subscript (.Name x p) (.Constant (.int 1) jj p2) pos'] X.env).map (·.2) = [assign (.Subscript (.Name x p) (.Constant (.int 1) jj p2) pos') X.env] := by rfl) : PY X T tb kr (.Assign [.Subscript (.Name x p) (.Constant (.int 1) jj p2) pos'] e pos) (bagSetC i m) := imp_s (ps_asg he (pg_sub (pe_var hN hv hd hcd) pe_int set_list) hs hw h1) fun B σ H h => by
  obtain ⟨E, O, s, f, sm, hm, k⟩ := h
  obtain ⟨⟨d, s1⟩, h1, hm⟩ := Option.bind_eq_some_iff.mp hm
  obtain ⟨b, h2, hm⟩ := Option.bind_eq_some_iff.mp hm
  obtain ⟨z, h3, hm⟩ := Option.map_eq_some_iff.mp hm
  cases hm
  refine ⟨E, O, s, d, s1, sm, h1, fun v H1 O1 st1 sm1 r1 => ?_⟩
  obtain ⟨a, c, g1, g2, sm2, st2⟩ := bag_upd (m := z) (n := b.mix) sm1 h2
  refine ⟨_, g1, a, _, 1, 1, rfl, rfl, g2, rfl, ?_⟩
  rw [Rp.intD (.inl r1) h3]
  exact k σ _ O1 (st1.trans st2) sm2
theorem s_bagSetX (i : Nat) {x : Str} {e : Expr} {jj : Nat} {p p2 pos' pos : Pos} {m : S → Option (D × S)} (he : EE X T tb e m) (hN : X.N[i]? = some x := by rfl) (hv : Vis X.env.scope x := by first | exact Or.inl rfl | exact Or.inr (Or.inl rfl) | exact Or.inr (Or.inr rfl)) (hd : (x == ("__debug__" : Str)) = false := by decide)
    (hcd : (x == ("__classdict__" : Str)) = false := by decide) (hs : swapsWithSole [.Subscript (.Name x p) (.Constant (.int 2) jj p2) pos'] e pos.line X.env = pure false := by rfl) (hw : swappedStores [.Subscript (.Name x p) (.Constant (.int 2) jj p2) pos'] e X.env = pure none := by rfl)
    (h1 : (assignEach [.Subscript (.Name x p) (.Constant (.int 2) jj p2) pos'] X.env).map (·.2) = [assign (.Subscript (.Name x p) (.Constant (.int 2) jj p2) pos') X.env] := by rfl) : PY X T tb kr (.Assign [.Subscript (.Name x p) (.Constant (.int 2) jj p2) pos'] e pos) (bagSetX i m) := imp_s (ps_asg he (pg_sub (pe_var hN hv hd hcd) pe_int set_list) hs hw h1) fun B σ H h => by
  obtain ⟨E, O, s, f, sm, hm, k⟩ := h
  obtain ⟨⟨d, s1⟩, h1, hm⟩ := Option.bind_eq_some_iff.mp hm
  obtain ⟨b, h2, hm⟩ := Option.bind_eq_some_iff.mp hm
  obtain ⟨z, h3, hm⟩ := Option.map_eq_some_iff.mp hm
  cases hm
  refine ⟨E, O, s, d, s1, sm, h1, fun v H1 O1 st1 sm1 r1 => ?_⟩
  obtain ⟨a, c, g1, g2, sm2, st2⟩ := bag_upd (m := b.cur) (n := z) sm1 h2
  refine ⟨_, g1, a, _, 2, 2, rfl, rfl, g2, rfl, ?_⟩
  rw [Rp.intD (.inl r1) h3]
  exact k σ _ O1 (st1.trans st2) sm2
end
end Y

open PySem PySem.Spec PyProof.Rows L2
namespace RT
section
variable {prog : Program} {w : World} {A : Around} {s : Shared} {E : Value → Shared → Prop}
theorem y_ext {it l S : Addr} {items : Array Value} {c0 : Nat} {R : Result → Shared → Prop} (hh : A.in1.handled = none) (hit : s.heap.IsRevIter it l ((items.size : Int) - 1)) (hl : s.heap.IsList l items) (hne : l ≠ it) (hSi : S ≠ it) (hSl : S ≠ l) (hn : items.size ≤ sizeLine)
    (hS : s.heap.get? S = some { cls := .type "list", data := .seq #[] c0 })
    (hR : ∀ (s' : Shared) (acc : Array Value) (c : Nat), Moved (S :: [it]) (fun a b => b = a) s s' → s'.heap.get? S = some { cls := .type "list", data := .seq acc c } → ItemsOf (fun i v => items[items.size - 1 - i]? = some v) acc items.size → R (.ok (.ret .none)) s') :
    wpAny (model prog w) A.in1 (Builtin.List.listExtendWith (.ref S) (.ref it) .none)
      (fun fin s' => match fin with | .done f => R (.ok f) s' | .again c' => c'.quiet = true ∧ codeAny (model prog w) A c' R s') (fun e s' => R (.error e) s') s := by
  have W := (Walks.listRev (prog := prog) (w := w) (A := A.in1) hh it l hne items).toS
  have outF : S ∉ [it, l] := by simp [hSi, hSl]
  have isT : s.TypeIs (.ref it) "list_reverseiterator" := Heap.IsRevIter.typeIs hit
  have diff : Builtin.List.listSameRef (.ref S) (.ref it) = false := by simp [Builtin.List.listSameRef, hSi]
  unfold Builtin.List.listExtendWith
  refine wpAny_bind (wpAny_typeOf isT ?_)
  rw [if_neg (by rw [diff]; decide)]
  refine wpAny_bind (wpAny_pyIter_revIter hit ?_)
  refine wpAny_bind (wpAny_holding ?_)
  unfold Builtin.List.listLengthHint
  refine wpAny_bind (wpAny_specialOf isT nolen_lri ?_)
  show wpAny _ A.in1 (specialOf (Value.ref it) (Str.ofString "__length_hint__") >>= _) _ _ _
  refine wpAny_bind (wpAny_specialOf isT hint_lri ?_)
  generalize hid : ("list_reverseiterator.__length_hint__" : String) = id0
  wp_delta
  rw [show splitId id0 = some ("list_reverseiterator", "__length_hint__") from by subst hid; decide +kernel]
  subst hid
  refine wpAny_bind (wpAny_isInstance (b := true) isT (by rw [isSubtype_type]; kernel_rfl) ?_)
  refine wpAny_pure ?_
  rw [if_neg (by decide)]
  have e0 : ((items.size : Nat) : Int) - 1 - ((0 : Nat) : Int) = (items.size : Int) - 1 := by omega
  refine wpAny_pure ⟨plainId_quiet F.plain_extend_loop _, codeAny_extend_loopS W hn _ outF _ items.size 0 _ _ _ rfl (Nat.zero_le _) ⟨Nat.zero_le _, by rw [e0]; exact hit, hl⟩ hS (ItemsOf.nil _) fun s' acc' c' hm hS' hacc => ?_⟩
  exact hR s' acc' c' hm hS' hacc
theorem y_list_rev {it l : Addr} {items : Array Value} {Q : Value → Shared → Prop} (hh : A.handled = none) (hit : s.heap.IsRevIter it l ((items.size : Int) - 1)) (hl : s.heap.IsList l items) (hne : l ≠ it) (hn : items.size ≤ sizeLine)
    (k : ∀ (h' : Heap) (tk : Nat) (acc : Array Value) (c : Nat), (∀ b o, b ≠ it → s.heap.get? b = some o → h'.get? b = some o) → h'.get? s.heap.objs.size = some { cls := .type "list", data := .seq acc c } → ItemsOf (fun i v => items[items.size - 1 - i]? = some v) acc items.size →
      Q (.ref s.heap.objs.size) { s with heap := h', toks := tk }) : wpAny (model prog w) A (call (.type "list") [.ref it]) Q E s := by
  have new : ∀ {a : Addr}, (∃ o, s.heap.get? a = some o) → s.heap.objs.size ≠ a := fun ⟨o, e⟩ => Nat.ne_of_gt (Heap.lt_size e)
  have n1 : s.heap.objs.size ≠ it := new (let ⟨o, e, _⟩ := hit; ⟨o, e⟩)
  have n2 : s.heap.objs.size ≠ l := new (let ⟨o, e, _⟩ := hl; ⟨o, e⟩)
  refine callType_codes (Q₁ := fun obj s₁ => obj = .ref s.heap.objs.size ∧ s₁ = { s with heap := s.heap.push { cls := .type "list", data := .seq #[] } }) F.called_list (F.typeCall_list_1 _) F.entry_list_init (code_list_new _ ⟨rfl, rfl⟩) fun obj s₁ made => ?_
  obtain ⟨rfl, rfl⟩ := made
  have at0 : (s.heap.push { cls := .type "list", data := .seq #[] }).get? s.heap.objs.size = some { cls := .type "list", data := .seq #[] } := Heap.get?_push_size _ rfl
  have up : ∀ b o, s.heap.get? b = some o → (s.heap.push { cls := .type "list", data := .seq #[] }).get? b = some o := fun b o e => Heap.get?_push_of_some _ e
  refine ⟨⟨_, at0, rfl⟩, F.args_list_init_2 _ _, ?_⟩
  show wpAny _ A.in1.in1 (do let old ← Builtin.List.listItems (.ref s.heap.objs.size); Builtin.List.listUpdate (.ref s.heap.objs.size) (fun _ => #[]); letGo old.toList.reverse; Builtin.List.listExtendWith (.ref s.heap.objs.size) (.ref it) .none) _ _ _
  refine wpAny_bind ?_
  unfold Builtin.List.listItems
  refine wpAny_bind (wpAny_seqItems at0 rfl (wpAny_pure ?_))
  refine wpAny_bind (wpAny_updateSeq at0 rfl ?_)
  have at1 := Heap.get?_update_self (Obj.mapSeq (fun _ => (#[] : Array Value))) at0 rfl
  have keep : ∀ b o, b ≠ s.heap.objs.size → (s.heap.push { cls := .type "list", data := .seq #[] }).get? b = some o → ((s.heap.push { cls := .type "list", data := .seq #[] }).update s.heap.objs.size (Obj.mapSeq (fun _ => (#[] : Array Value)))).get? b = some o := fun b o n e => (Heap.get?_update_other _ _ (Ne.symm n)).trans e
  have both : ∀ b o, s.heap.get? b = some o → ((s.heap.push { cls := .type "list", data := .seq #[] }).update s.heap.objs.size (Obj.mapSeq (fun _ => (#[] : Array Value)))).get? b = some o := fun b o e => keep b o (Nat.ne_of_lt (Heap.lt_size e)) (up b o e)
  refine wpAny_bind (wpAny_letGo ?_)
  have hit1 : ((s.heap.push { cls := .type "list", data := .seq #[] }).update s.heap.objs.size (Obj.mapSeq (fun _ => (#[] : Array Value)))).IsRevIter it l ((items.size : Int) - 1) := hit.at fun o e => both it o e
  have hl1 : ((s.heap.push { cls := .type "list", data := .seq #[] }).update s.heap.objs.size (Obj.mapSeq (fun _ => (#[] : Array Value)))).IsList l items := by
    obtain ⟨o, e, r⟩ := hl
    exact ⟨o, both l o e, r⟩
  refine y_ext (A := A.in1) (s := { s with heap := (s.heap.push { cls := .type "list", data := .seq #[] }).update s.heap.objs.size (Obj.mapSeq (fun _ => (#[] : Array Value))) }) hh hit1 hl1 hne n1 n2 hn at1 fun s' acc c hm hS' hacc => ⟨rfl, ?_⟩
  rw [Moved.eq_with hm]
  refine k s'.heap s'.toks acc c (fun b o hb e => hm.heap b o (fun z => ?_) (both b o e)) hS' hacc
  rcases List.mem_cons.mp z with z | z
  · exact absurd (Heap.lt_size e) (by rw [z]; exact Nat.lt_irrefl _)
  · exact hb (List.mem_singleton.mp z)
end
end RT
namespace Y
/-- list(reversed(x)), x a list: a new list -/
def tLstRev (K : PySem.W.Frag) (te : TE) : TE := fun σ H Q => te σ H fun v H1 => ∃ (a : Addr) (xs : List V), v = .ref a ∧ SqL K H1 a xs ∧ ∀ q, H1 q = none → Q (.ref q) (upd H1 q (.lst xs.reverse))
section
variable {X : Cx}
theorem pe_lstRev {e : Expr} {te : TE} {p p2 pos pos2 : Pos} (hc : X.calm = true) (hg : Gl X "list") (hm : X.mg "list" = none) (hg2 : Gl X "reversed") (hm2 : X.mg "reversed" = none) (he : PE X e te)
    (hs : starEach [e] X.env = (false, eval e X.env) :: starEach [] X.env := by rfl)
    (hs2 : starEach [.Call (.Name "reversed" p2) [e] [] pos2] X.env = (false, eval (.Call (.Name "reversed" p2) [e] [] pos2) X.env) :: starEach [] X.env := by rfl) :
    PE X (.Call (.Name "list" p) [.Call (.Name "reversed" p2) [e] [] pos2] [] pos) (tLstRev X.K te) := by
  refine ⟨fun pins s σ H Q I h => ?_⟩
  refine Call_ (ld_blt I hg hm boot_list (PyProof.Rows.callWith_type1 (args_cons (Call_ (ld_blt I hg2 hm2 PyProof.Rows.boot_reversed (PyProof.Rows.callWith_type1 (args_cons (thn (he.run pins s σ H _ I h) fun u s1 ⟨v, H1, I1, r1, q1⟩ => args_nil ?_) hs) hs rfl))) hs2) hs2 rfl))
  obtain ⟨a, xs, rfl, hq, q⟩ := q1
  obtain rfl : u = Value.ref a := r1
  obtain ⟨its, rv, p', hz⟩ := I1.list hq
  refine call_reversed_list p'.isList (args_nil ?_)
  have I2 : Inv X pins σ H1 { s1 with heap := s1.heap.push (revObj a ((its.toArray.size : Int) - 1)) } := I1.kept (t' := s1.toks) fun b o e => Heap.get?_push_of_some _ e
  obtain ⟨f0, f1, f2, f3, f4, f5⟩ := I1.fpOk (H' := H1) (b := s1.heap.objs.size) (Nat.le_refl _) (I1.hok.fresh (Nat.le_refl _))
  have hl := p'.isList
  have hne : a ≠ s1.heap.objs.size := let ⟨_, z, _⟩ := hl; Nat.ne_of_lt (Heap.lt_size z)
  have hn : its.toArray.size ≤ sizeLine := by rw [List.size_toArray, ← rv.length]; exact hz
  refine RT.y_list_rev (s := { s1 with heap := s1.heap.push (revObj a ((its.toArray.size : Int) - 1)) }) (I1.ok.hd hc) ⟨_, Heap.get?_push_size _ rfl, rfl, rfl⟩ (hl.push _) hne hn fun h' tk acc c hk hS hi => ?_
  have new := I2.hok.fresh (Nat.le_refl _)
  have I3 : Inv X pins σ (upd H1 _ (.lst xs.reverse)) { s1 with heap := (s1.heap.push (revObj a ((its.toArray.size : Int) - 1))).push { cls := .type "list", data := .seq acc c }, toks := tk } :=
    I2.laid (t' := tk) (o := .lst xs.reverse) (fun b o e => Heap.get?_push_of_some _ e) (Nat.le_refl _) ⟨by rw [List.length_reverse]; exact hz, acc.toList, c, RT.vals_rev rv hi, by rw [Array.toArray_toList]; exact Heap.get?_push_size _ rfl⟩
  have nH : (upd H1 (s1.heap.push (revObj a ((its.toArray.size : Int) - 1))).objs.size (.lst xs.reverse)) s1.heap.objs.size = none := by
    rw [upd_ne (by rw [Heap.size_push]; exact Nat.ne_of_lt (Nat.lt_succ_self _))]
    exact I1.hok.fresh (Nat.le_refl _)
  have I4 : Inv X pins σ (upd H1 _ (.lst xs.reverse)) { s1 with heap := h', toks := tk } := I3.turned (t' := tk) (fun b o hb e => by
    by_cases z : b = (s1.heap.push (revObj a ((its.toArray.size : Int) - 1))).objs.size
    · rw [z] at e ⊢
      rw [Heap.get?_push_size _ rfl] at e
      cases e
      exact hS
    · exact hk b o hb (by rwa [Heap.get?_push_ne _ _ _ z] at e)) nH f1 f3 f4 f5
  exact ⟨.ref (s1.heap.push (revObj a ((its.toArray.size : Int) - 1))).objs.size, _, I4, rfl, q _ new⟩
end
end Y

namespace Y
open PySem PySem.Spec PyProof.Rows L2

/-! ## helpers of the printed walks -/
theorem lenN : ∀ (s : S) (ds : List D), argN s = some ds → ds.length = 0 := fun s ds h => by cases h; rfl
theorem lenC {m : S → Option D} {n : S → Option (List D)} {k : Nat} (h : ∀ s ds, n s = some ds → ds.length = k) : ∀ (s : S) (ds : List D), argC m n s = some ds → ds.length = k + 1 := fun s ds e => by
  obtain ⟨x, _, e⟩ := Option.bind_eq_some_iff.mp e
  obtain ⟨xs, h2, e⟩ := Option.bind_eq_some_iff.mp e
  cases e
  rw [List.length_cons, h s xs h2]
theorem lenNE : ∀ (s : S) (ds : List D) (s' : S), argNE s = some (ds, s') → ds.length = 0 := fun s ds s' h => by cases h; rfl
theorem lenCE {m : S → Option (D × S)} {n : S → Option (List D × S)} {k : Nat} (h : ∀ s ds s', n s = some (ds, s') → ds.length = k) : ∀ (s : S) (ds : List D) (s' : S), argCE m n s = some (ds, s') → ds.length = k + 1 := fun s ds s' e => by
  obtain ⟨⟨x, s1⟩, _, e⟩ := Option.bind_eq_some_iff.mp e
  obtain ⟨⟨xs, s2⟩, h2, e⟩ := Option.bind_eq_some_iff.mp e
  cases e
  rw [List.length_cons, h s1 xs s2 h2]
theorem lenBE {n : S → Option (List D × S)} {k : Nat} (h : ∀ s ds s', n s = some (ds, s') → ds.length = k) : ∀ (s : S) (ds : List D) (s' : S), n s = some (ds, s') → ds.length + 1 = k + 1 := fun s ds s' e => by rw [h s ds s' e]
theorem lenP {n : S → Option (List D)} {k j : Nat} {π : List Nat} (h : ∀ s ds, n s = some ds → ds.length = k) (hp : ∀ ds : List D, ds.length = k → (perm π ds).length = j) : ∀ (s : S) (ds : List D), n s = some ds → (perm π ds).length = j := fun s ds e => hp ds (h s ds e)
theorem units65 {k : Nat} {A : Around} (r : Room k A) : A.units + 65 < cLine := by have := r.un; omega
def revD : D → Option D
  | .list ds => some (.list ds.reverse)
  | _ => none
def repL : D → D → Option D
  | .list ds, .int k => if (decide (0 ≤ k) && Nat.ble k.natAbs 100000 && Nat.ble (ds.length * k.toNat) 1000000) = true then some (.list (List.replicate k.toNat ds).flatten) else none
  | _, _ => none
def scrM (i j : Nat) : S → Option D := fun s => match s[i]? with
  | some (.scr ns) => some (.list ((ns.take j).map PyData.int))
  | _ => none
theorem Rps.flat {K : Fg} {O : List Addr} {H : Hp} {vs : List V} {ds : List D} (r : Rps K O H vs ds) : ∀ n : Nat, Rps K O H (List.replicate n vs).flatten (List.replicate n ds).flatten
  | 0 => .nil
  | n + 1 => by
    rw [List.replicate_succ, List.replicate_succ, List.flatten_cons, List.flatten_cons]
    exact r.append (Rps.flat r n)
def andVE (a b : S → Option (D × S)) : S → Option (D × S) := fun s => (a s).bind fun p => (boolD p.1).bind fun c => if c = true then b p.2 else some (.bool false, p.2)
def orVE (a b : S → Option (D × S)) : S → Option (D × S) := fun s => (a s).bind fun p => (boolD p.1).bind fun c => if c = true then some (.bool true, p.2) else b p.2
def notVE (a : S → Option (D × S)) : S → Option (D × S) := fun s => (a s).bind fun p => (boolD p.1).map fun c => (.bool (!c), p.2)
section
variable {X : Cx} {T : List (Addr × Str)} {tb : Bool}
theorem q_lstRev {e : Expr} {k : Kd} {m : S → Option D} {p p2 pos pos2 : Pos} (hc : X.calm = true) (hg : Gl X "list") (hm : X.mg "list" = none) (hg2 : Gl X "reversed") (hm2 : X.mg "reversed" = none) (he : QE X T tb k e m)
    (hs : starEach [e] X.env = (false, eval e X.env) :: starEach [] X.env := by rfl)
    (hs2 : starEach [.Call (.Name "reversed" p2) [e] [] pos2] X.env = (false, eval (.Call (.Name "reversed" p2) [e] [] pos2) X.env) :: starEach [] X.env := by rfl) :
    QE X T tb .o (.Call (.Name "list" p) [.Call (.Name "reversed" p2) [e] [] pos2] [] pos) (op1 revD m) := imp_e (pe_lstRev hc hg hm hg2 hm2 he hs hs2) fun σ H Q h => by
  obtain ⟨E, O, s, d, sm, hm, q⟩ := h
  obtain ⟨x, hx, hm⟩ := Option.bind_eq_some_iff.mp hm
  unfold revD at hm
  split at hm
  · next ds =>
    cases hm
    refine ⟨E, O, s, _, sm, hx, fun v H1 e1 r1 => ?_⟩
    obtain ⟨a, vs, rfl, h1, h2⟩ := r1.toR.list
    refine ⟨a, vs, rfl, SqL.of h1, fun p hp => ?_⟩
    exact q _ _ (e1.trans (Ex.new hp)) ⟨p, vs.reverse, _, rfl, rfl, e1.back hp, fun m => sm.dom p m (e1.back hp), upd_same, (h2.new hp (Ex.new hp)).reverse⟩
  · cases hm
theorem opS_rep : OpS X (binaryOp .Mult) .o repL := ⟨_, op_rep, fun O H x y dx dy d Q dom rx ry e k => by
  unfold repL at e
  split at e
  · next ds n =>
    split at e
    · next c =>
      cases e
      simp only [Bool.and_eq_true, decide_eq_true_eq, Nat.ble_eq] at c
      obtain ⟨⟨c1, c2⟩, c3⟩ := c
      obtain ⟨a, vs, rfl, h1, h2⟩ := rx.list
      rw [ry.int]
      refine ⟨a, n, vs, rfl, rfl, h1, by omega, by omega, by rw [h2.length]; exact Nat.le_trans c3 (by decide), fun p hp => ?_⟩
      exact k _ _ (Ex.new hp) ⟨p, _, _, rfl, rfl, hp, fun m => dom p m hp, upd_same, (h2.new hp (Ex.new hp)).flat _⟩
    · cases e
  · cases e⟩
theorem q_scr (i : Nat) {x : Str} {j j2 : Nat} {p p2 p3 pos : Pos} (hN : X.N[i]? = some x := by rfl) (hv : Vis X.env.scope x := by first | exact Or.inl rfl | exact Or.inr (Or.inl rfl) | exact Or.inr (Or.inr rfl)) (hd : (x == ("__debug__" : Str)) = false := by decide) (hcd : (x == ("__classdict__" : Str)) = false := by decide) :
    QE X T tb .o (.Subscript (.Name x p) (.Slice none (some (.Constant (.int (j : Int)) j2 p2)) none p3) pos) (scrM i j) := imp_e (pe_slice sl_list (pe_var hN hv hd hcd) po_none (po_some pe_int)) fun σ H Q h => by
  obtain ⟨E, O, s, d, sm, hm, q⟩ := h
  unfold scrM at hm
  split at hm
  · next ns hi =>
    cases hm
    obtain ⟨F, f1, _⟩ := sm.own
    obtain ⟨_, a, h1, h2⟩ := f1 i _ hi
    refine ⟨_, sl_some h1, _, rfl, a, _, rfl, h2.sq, fun p hp => ?_⟩
    have e : cutV (ns.map V.int) none (some (j : Int)) = (ns.take j).map V.int := by
      unfold cutV
      rw [HT.sIx_none, HT.sIx_nat, List.drop_zero, Nat.sub_zero, List.map_take, List.length_map]
      rw [List.take_eq_take_iff, List.length_map]
      omega
    rw [e]
    exact q _ _ (Ex.new hp) ⟨p, _, _, rfl, rfl, hp, fun m => sm.dom p m hp, upd_same, rps_of_ints _⟩
  · cases hm
theorem e_one {op : BoolOp} {a : Expr} {pos : Pos} {m : S → Option (D × S)} (h : EE X T tb a m) : EE X T tb (.BoolOp op [a] pos) m := pe_one h
theorem e_and {a b : Expr} {rest : List Expr} {pos : Pos} {m n : S → Option (D × S)} (ha : EE X T tb a m) (hb : EE X T tb (.BoolOp .And (b :: rest) pos) n) : EE X T tb (.BoolOp .And (a :: b :: rest) pos) (andVE m n) := imp_e (pe_and ha hb) fun σ H Q h => by
  obtain ⟨E, O, s, d, s', sm, hm, q⟩ := h
  obtain ⟨⟨x, s1⟩, hx, hm⟩ := Option.bind_eq_some_iff.mp hm
  obtain ⟨c, hc, hm⟩ := Option.bind_eq_some_iff.mp hm
  refine ⟨E, O, s, x, s1, sm, hx, fun v H' O' st sm1 r => ?_⟩
  obtain rfl := boolD_some hc
  cases r
  refine ⟨_, rfl, ?_⟩
  cases c with
  | true => exact iteT ⟨E, O', s1, d, s', sm1, hm, fun w H2 O2 st2 sm2 r2 => q w H2 O2 (st.trans st2) sm2 r2⟩
  | false => cases hm; exact iteF (q _ H' O' st sm1 (.bl false))
theorem e_or {a b : Expr} {rest : List Expr} {pos : Pos} {m n : S → Option (D × S)} (ha : EE X T tb a m) (hb : EE X T tb (.BoolOp .Or (b :: rest) pos) n) : EE X T tb (.BoolOp .Or (a :: b :: rest) pos) (orVE m n) := imp_e (pe_or ha hb) fun σ H Q h => by
  obtain ⟨E, O, s, d, s', sm, hm, q⟩ := h
  obtain ⟨⟨x, s1⟩, hx, hm⟩ := Option.bind_eq_some_iff.mp hm
  obtain ⟨c, hc, hm⟩ := Option.bind_eq_some_iff.mp hm
  refine ⟨E, O, s, x, s1, sm, hx, fun v H' O' st sm1 r => ?_⟩
  obtain rfl := boolD_some hc
  cases r
  refine ⟨_, rfl, ?_⟩
  cases c with
  | false => exact iteF ⟨E, O', s1, d, s', sm1, hm, fun w H2 O2 st2 sm2 r2 => q w H2 O2 (st.trans st2) sm2 r2⟩
  | true => cases hm; exact iteT (q _ H' O' st sm1 (.bl true))
theorem e_not {a : Expr} {pos : Pos} {m : S → Option (D × S)} (ha : EE X T tb a m) : EE X T tb (.UnaryOp .Not a pos) (notVE m) := imp_e (pe_not ha) fun σ H Q h => by
  obtain ⟨E, O, s, d, s', sm, hm, q⟩ := h
  obtain ⟨⟨x, s1⟩, hx, hm⟩ := Option.bind_eq_some_iff.mp hm
  obtain ⟨c, hc, hm⟩ := Option.map_eq_some_iff.mp hm
  cases hm
  refine ⟨E, O, s, x, s1, sm, hx, fun v H' O' st sm1 r => ?_⟩
  obtain rfl := boolD_some hc
  cases r
  exact ⟨_, rfl, q _ H' O' st sm1 (.bl _)⟩
end
end Y

namespace Y
open PySem PySem.Spec PyProof.Rows L2

/-! ## chains as tests; count, index -/
def cntD : D → List D → Option D
  | .list ds, [.int k] => (intsD ds).map fun ns => .int (ns.count k : Nat)
  | _, _ => none
def idxD : D → List D → Option D
  | .list ds, [d] => if (SeqAt.shaped (.list ds) && SeqAt.shaped d) = true then (ds.findIdx? fun z => PyData.eqv z d).map fun j => .int (j : Nat) else none
  | _, _ => none
def isList : D → Bool
  | .list _ => true
  | _ => false
section
variable {X : Cx} {T : List (Addr × Str)} {tb : Bool}
theorem qt_chain {op op' : CmpOp} {g h : D → D → Option D} (ho : OpS X (compareOp op) .i g) (ho' : OpS X (compareOp op') .i h) {a b c : Expr} {pos : Pos} {ka kb kc : Kd} {ma mb mc : S → Option D} (ha : QE X T tb ka a ma) (hb : QE X T tb kb b mb) (hc : QE X T tb kc c mc)
    (hl : lastMarks [op, op'] [b, c] = false := by rfl) : QT X T tb (.Compare a [op, op'] [b, c] pos) (tvM (chainM g h ma mb mc)) := by
  obtain ⟨r, ho, hs⟩ := ho
  obtain ⟨r', ho', hs'⟩ := ho'
  refine imp_t (pt_chain ho ho' ha hb hc hl) fun σ H Q q => ?_
  exact op_chain hs hs' (tv_one q)
theorem q_mlist {id : String} {name : Str} {g : D → List D → Option D} {r : V → List V → Hp → VK → Prop} (slot : Slot "list" name id) (hd : typeOf (.builtin id) = pure (.type "method_descriptor")) (hm : MtR X id r)
    (hs : ∀ (O : List Addr) (H : Hp) (x : V) (xs : List V) (dx : List D) (ds : List D) (d : D) (Q : VK), Rr X.K O H x (.list dx) → Rrs X.K O H xs ds → g (.list dx) ds = some d → (∀ v H', Ex H H' → Res X.K O H H' v d .i → Q v H') → r x xs H Q)
    {o e : Expr} {es : List Expr} {apos cpos : Pos} {ko : Kd} {b : Bool} {m : S → Option D} {n : S → Option (List D)} (ho : QE X T tb ko o m) (ha : QA X T tb b (e :: es) n)
    (hbase : attributeBase o name X.env (eval o X.env) = eval o X.env := by rfl)
    (hfew : ((backTo cpos (starEach (e :: es) X.env)).all (fun x => !x.1) && (backToKw cpos (keywordEach [] X.env)).all (fun x => x.1.isSome)
      && decide ((e :: es).length + ([] : List Keyword).length + (if ([] : List Keyword).isEmpty then 0 else 1) < 30)) = true := by rfl)
    (hline : (apos.endLine == cpos.line) = true := by rfl) (hst : starEach (e :: es) X.env = (false, eval e X.env) :: starEach es X.env := by rfl) (hplain : (backTo cpos (starEach es X.env)).any (·.1) = false := by rfl) :
    QE X T tb .i (.Call (.Attribute o name apos) (e :: es) [] cpos) (methM isList g m n) :=
  imp_e (pe_bm PySem.F.plainAttrs_list slot hd hm ho ha hbase hfew hline hst hplain) fun σ H Q h => by
  obtain ⟨E, O, s, d, sm, hmm, q⟩ := h
  unfold methM at hmm
  obtain ⟨x, hx, hmm⟩ := Option.bind_eq_some_iff.mp hmm
  split at hmm
  · next hok =>
    obtain ⟨xs, hxs, hmm⟩ := Option.bind_eq_some_iff.mp hmm
    obtain ⟨dl, rfl⟩ : ∃ dl, x = .list dl := by cases x <;> first | exact ⟨_, rfl⟩ | cases hok
    refine ⟨E, O, s, _, sm, hx, fun v H1 e1 r1 => ?_⟩
    obtain ⟨a, vs, rfl, h1, h2⟩ := r1.toR.list
    refine ⟨tyL h1, E, O, s, xs, sm.ext e1, hxs, fun vs2 H2 e2 r2 => ?_⟩
    exact hs O H2 _ vs2 dl xs d Q (r1.toR.ext e2) r2.toR hmm fun w H3 e3 r3 => q w H3 (e1.trans (e2.trans e3)) (r3.from (e1.trans e2))
  · cases hmm
theorem q_count {o e : Expr} {apos cpos : Pos} {ko : Kd} {b : Bool} {m : S → Option D} {n : S → Option (List D)} (ho : QE X T tb ko o m) (ha : QA X T tb b [e] n)
    (hbase : attributeBase o "count" X.env (eval o X.env) = eval o X.env := by rfl)
    (hfew : ((backTo cpos (starEach [e] X.env)).all (fun x => !x.1) && (backToKw cpos (keywordEach [] X.env)).all (fun x => x.1.isSome)
      && decide ([e].length + ([] : List Keyword).length + (if ([] : List Keyword).isEmpty then 0 else 1) < 30)) = true := by rfl)
    (hline : (apos.endLine == cpos.line) = true := by rfl) (hst : starEach [e] X.env = (false, eval e X.env) :: starEach [] X.env := by rfl) (hplain : (backTo cpos (starEach [] X.env)).any (·.1) = false := by rfl) :
    QE X T tb .i (.Call (.Attribute o "count" apos) [e] [] cpos) (methM isList cntD m n) :=
  q_mlist PySem.F.slot_list_count PySem.F.type_list_count mt_lcount (fun O H x xs dx ds d Q rx rxs hg k => by
    unfold cntD at hg
    split at hg
    · next ds' kk e1 =>
      cases e1
      obtain ⟨ns, h1, h2⟩ := Option.map_eq_some_iff.mp hg
      cases h2
      obtain rfl := intsD_some h1
      obtain ⟨a, vs, rfl, h3, h4⟩ := rx.list
      obtain ⟨y, rfl, ry⟩ := rrs1 rxs
      rw [ry.int]
      refine ⟨a, ns, kk, rfl, rfl, ?_, k _ H (Ex.refl H) (.int _)⟩
      rw [← rps_ints h4]
      exact SqL.of h3
    · cases hg) ho ha hbase hfew hline hst hplain
theorem q_index (hu : X.A.units + 65 < cLine) {o e : Expr} {apos cpos : Pos} {ko : Kd} {b : Bool} {m : S → Option D} {n : S → Option (List D)} (ho : QE X T tb ko o m) (ha : QA X T tb b [e] n)
    (hbase : attributeBase o "index" X.env (eval o X.env) = eval o X.env := by rfl)
    (hfew : ((backTo cpos (starEach [e] X.env)).all (fun x => !x.1) && (backToKw cpos (keywordEach [] X.env)).all (fun x => x.1.isSome)
      && decide ([e].length + ([] : List Keyword).length + (if ([] : List Keyword).isEmpty then 0 else 1) < 30)) = true := by rfl)
    (hline : (apos.endLine == cpos.line) = true := by rfl) (hst : starEach [e] X.env = (false, eval e X.env) :: starEach [] X.env := by rfl) (hplain : (backTo cpos (starEach [] X.env)).any (·.1) = false := by rfl) :
    QE X T tb .i (.Call (.Attribute o "index" apos) [e] [] cpos) (methM isList idxD m n) :=
  q_mlist PySem.F.slot_list_index PySem.F.type_list_index (mt_indexD hu) (fun O H x xs dx ds d Q rx rxs hg k => by
    unfold idxD at hg
    split at hg
    · next ds' dd e1 =>
      cases e1
      split at hg
      · next c =>
        rw [Bool.and_eq_true] at c
        obtain ⟨j, h1, h2⟩ := Option.map_eq_some_iff.mp hg
        cases h2
        obtain ⟨a, vs, rfl, h3, h4⟩ := rx.list
        obtain ⟨y, rfl, ry⟩ := rrs1 rxs
        obtain ⟨hj, p1, p2⟩ := List.findIdx?_eq_some_iff_getElem.mp h1
        refine ⟨a, y, dd, dx, j, dx[j], rfl, rfl, .lst (SqL.of h3) (h4.dp (by have := SeqAt.canLay_of_shaped c.1; simpa only [PyData.canLay0] using this)), ry.dp (SeqAt.canLay_of_shaped c.2), c.1, c.2, List.getElem?_eq_getElem hj, p1, fun m' z' hm hz => ?_, k _ H (Ex.refl H) (.int _)⟩
        obtain ⟨hm', rfl⟩ := List.getElem?_eq_some_iff.mp hz
        have := p2 m' hm
        simpa using this
      · cases hg
    · cases hg) ho ha hbase hfew hline hst hplain
end
end Y

namespace Y
open PySem PySem.Spec PyProof.Rows L2

/-! ## the draw -/
def m_drawB : S → Option Fl := seqS (ifS (noSt (orT (tvM (op2 gtD (bagC 0) (cM (.int 0)))) (bagE 0))) bkM nxM) (seqS (setS 3 (bagPop 0)) (bagSetC 0 (noSt (ifM (tvM (op2 gtD (varM 3) (op2 powD (cM (.int 10)) (cM (.int 9))))) (varM 3) (cM (.int 0))))))
def m_draw : S → Option Fl := seqS (forS (rng1E (argCE (noSt (cM (.int 64))) argNE)) (putM 2) m_drawB) (seqS (ifS (noSt (tvM (op2 gtD (bagC 0) (cM (.int 0))))) (seqS (setS 4 (noSt (op2 modD (callM int1D (argC (bagC 0) argN)) (varM 1)))) (seqS (bagSetC 0 (noSt (op2 divD (bagC 0) (varM 1)))) (retS (noSt (varM 4))))) nxM) (seqS (bagSetX 0 (noSt (op2 modD (callM int1D (argC (op2 addD (op2 mulD (bagX 0) (cM (.int 48271))) (cM (.int 11))) argN)) (cM (.int 2147483647))))) (retS (noSt (op2 modD (op2 divD (op2 modD (callM int1D (argC (op2 mulD (bagX 0) (bagX 0)) argN)) (cM (.int 2147483629))) (cM (.int 7))) (varM 1))))))
def F_draw : Bag → List D → Option (D × Bag) := runB 5 m_draw
/-- the mixed number is small -/
def OkB (b : Bag) : Prop := 0 ≤ b.mix ∧ b.mix < 2147483647
theorem seqS_nx {a b : S → Option Fl} {s s1 : S} (h : a s = some (.nx s1)) : seqS a b s = b s1 := by unfold seqS; rw [h]; rfl
theorem seqS_rt {a b : S → Option Fl} {s s1 : S} {d : D} (h : a s = some (.rt d s1)) : seqS a b s = some (.rt d s1) := by unfold seqS; rw [h]; rfl
theorem seqS_bk {a b : S → Option Fl} {s s1 : S} (h : a s = some (.bk s1)) : seqS a b s = some (.bk s1) := by unfold seqS; rw [h]; rfl
theorem boolD_b (b : Bool) : boolD (.bool b) = some b := rfl
theorem draw_turn (b : Bag) (k : D) (x y z : M) : ∃ f, m_drawB [.bag b, .imm k, x, y, z] = some f ∧ ∃ b' y', b'.mix = b.mix ∧ (f = .nx [.bag b', .imm k, x, y', z] ∨ f = .bk [.bag b', .imm k, x, y', z]) := by
  by_cases h : decide (b.cur > 0) = true ∨ b.cells.isEmpty = true
  · refine ⟨.bk [.bag b, .imm k, x, y, z], ?_, b, y, rfl, .inr rfl⟩
    have e : orT (tvM (op2 gtD (bagC 0) (cM (.int 0)))) (bagE 0) [.bag b, .imm k, x, y, z] = some true := by
      show (if decide (b.cur > 0) = true then some true else some b.cells.isEmpty) = some true
      by_cases h1 : decide (b.cur > 0) = true
      · rw [if_pos h1]
      · rw [if_neg h1, h.resolve_left h1]
    unfold m_drawB seqS ifS noSt
    rw [e]
    rfl
  · have h1 : ¬ decide (b.cur > 0) = true := fun z => h (.inl z)
    have h2 : b.cells.isEmpty = false := by
      cases q : b.cells.isEmpty with
      | false => rfl
      | true => exact absurd (.inr q) h
    have e : orT (tvM (op2 gtD (bagC 0) (cM (.int 0)))) (bagE 0) [.bag b, .imm k, x, y, z] = some false := by
      show (if decide (b.cur > 0) = true then some true else some b.cells.isEmpty) = some false
      rw [if_neg h1, h2]
    have hl : b.cells.length - 1 < b.cells.length := by
      have : b.cells ≠ [] := fun z => by rw [z] at h2; cases h2
      have := List.length_pos_iff.mpr this
      omega
    obtain ⟨c, hc⟩ : ∃ c, b.cells[b.cells.length - 1]? = some c := ⟨_, List.getElem?_eq_getElem hl⟩
    have e2 : bagPop 0 [.bag b, .imm k, x, y, z] = some (.int c, [.bag ⟨b.cells.dropLast, b.cur, b.mix⟩, .imm k, x, y, z]) := by
      show ((b.cells[b.cells.length - 1]?).map fun c => _) = _
      rw [hc]
      rfl
    refine ⟨.nx [.bag ⟨b.cells.dropLast, if decide (c > 10 ^ 9) = true then c else 0, b.mix⟩, .imm k, x, .imm (.int c), z], ?_, ⟨b.cells.dropLast, if decide (c > 10 ^ 9) = true then c else 0, b.mix⟩, _, rfl, .inl rfl⟩
    unfold m_drawB
    have s1 : ifS (noSt (orT (tvM (op2 gtD (bagC 0) (cM (.int 0)))) (bagE 0))) bkM nxM [.bag b, .imm k, x, y, z] = some (.nx [.bag b, .imm k, x, y, z]) := by
      unfold ifS noSt
      rw [e]
      rfl
    have s2 : setS 3 (bagPop 0) [.bag b, .imm k, x, y, z] = some (.nx [.bag ⟨b.cells.dropLast, b.cur, b.mix⟩, .imm k, x, .imm (.int c), z]) := by
      unfold setS
      rw [e2]
      rfl
    have s3 : bagSetC 0 (noSt (ifM (tvM (op2 gtD (varM 3) (op2 powD (cM (.int 10)) (cM (.int 9))))) (varM 3) (cM (.int 0)))) [.bag ⟨b.cells.dropLast, b.cur, b.mix⟩, .imm k, x, .imm (.int c), z] = some (.nx [.bag ⟨b.cells.dropLast, if decide (c > 10 ^ 9) = true then c else 0, b.mix⟩, .imm k, x, .imm (.int c), z]) := by
      have t : tvM (op2 gtD (varM 3) (op2 powD (cM (.int 10)) (cM (.int 9)))) [.bag ⟨b.cells.dropLast, b.cur, b.mix⟩, .imm k, x, .imm (.int c), z] = some (decide (c > 10 ^ 9)) := rfl
      unfold bagSetC noSt ifM
      rw [t]
      by_cases hq : decide (c > 10 ^ 9) = true
      · simp only [Option.bind, hq, if_true]; rfl
      · simp only [Option.bind, hq, if_false]; rfl
    rw [seqS_nx s1, seqS_nx s2, s3]
theorem draw_loop (k : D) (z : M) : ∀ (ds : List D) (b : Bag) (x y : M), ∃ b' x' y', b'.mix = b.mix ∧ forGo (putM 2) m_drawB ds [.bag b, .imm k, x, y, z] = some (.nx [.bag b', .imm k, x', y', z])
  | [], b, x, y => ⟨b, x, y, rfl, rfl⟩
  | d :: ds, b, x, y => by
    obtain ⟨f, h1, b1, y1, h2, h3⟩ := draw_turn b k (.imm d) y z
    unfold forGo
    have p : putM 2 d [.bag b, .imm k, x, y, z] = some [.bag b, .imm k, .imm d, y, z] := rfl
    rw [p]
    simp only [Option.bind]
    rw [h1]
    simp only [Option.bind]
    rcases h3 with rfl | rfl
    · obtain ⟨b2, x2, y2, g1, g2⟩ := draw_loop k z ds b1 (.imm d) y1
      exact ⟨b2, x2, y2, g1.trans h2, g2⟩
    · exact ⟨b1, _, _, h2, rfl⟩
theorem big_small {k : Int} (h0 : 0 < k) (h : k < 2 ^ 64) : big k.natAbs = true := by
  unfold big
  rw [Nat.blt_eq]
  have : k.natAbs < 2 ^ 64 := by omega
  exact Nat.lt_of_lt_of_le this (Nat.pow_le_pow_right (by decide) (by decide))
theorem draw_ok (b : Bag) (k : Int) (ok : OkB b) (h0 : 0 < k) (h1 : k < 2 ^ 64) : ∃ v b', F_draw b [.int k] = some (.int v, b') ∧ 0 ≤ v ∧ v < k ∧ OkB b' := by
  obtain ⟨b1, x1, y1, hm, hl⟩ := draw_loop (.int k) .un ((List.range 64).map fun n => .int (n : Nat)) b .un .un
  have src : rng1E (argCE (noSt (cM (.int 64))) argNE) [.bag b, .imm (.int k), .un, .un, .un] = some ((List.range 64).map fun n => .int (n : Nat), [.bag b, .imm (.int k), .un, .un, .un]) := by rfl
  have first : forS (rng1E (argCE (noSt (cM (.int 64))) argNE)) (putM 2) m_drawB [.bag b, .imm (.int k), .un, .un, .un] = some (.nx [.bag b1, .imm (.int k), x1, y1, .un]) := by
    unfold forS
    rw [src]
    exact hl
  have ok1 : OkB b1 := by unfold OkB; rw [hm]; exact ok
  have big1 := big_small h0 h1
  have dk : decide (0 < k) = true := decide_eq_true h0
  have md : ∀ i : Int, modD (.int i) (.int k) = some (.int (i % k)) := fun i => by show (if decide (0 < k) = true then some (PyData.int (i % k)) else none) = _; rw [if_pos dk]
  by_cases hc : decide (b1.cur > 0) = true
  · refine ⟨b1.cur % k, ⟨b1.cells, b1.cur / k, b1.mix⟩, ?_, Int.emod_nonneg _ (by omega), Int.emod_lt_of_pos _ h0, ok1⟩
    have dv : divD (.int b1.cur) (.int k) = some (.int (b1.cur / k)) := by
      show (if (decide (0 < k) && big k.natAbs) = true then some (PyData.int (b1.cur / k)) else none) = _
      rw [dk, big1]; rfl
    have tst : tvM (op2 gtD (bagC 0) (cM (.int 0))) [.bag b1, .imm (.int k), x1, y1, .un] = some true := by
      show some (decide (b1.cur > 0)) = some true
      rw [hc]
    have q1 : op2 modD (callM int1D (argC (bagC 0) argN)) (varM 1) [.bag b1, .imm (.int k), x1, y1, .un] = some (.int (b1.cur % k)) := md b1.cur
    have q2 : op2 divD (bagC 0) (varM 1) [.bag b1, .imm (.int k), x1, y1, .imm (.int (b1.cur % k))] = some (.int (b1.cur / k)) := dv
    have body : seqS (setS 4 (noSt (op2 modD (callM int1D (argC (bagC 0) argN)) (varM 1)))) (seqS (bagSetC 0 (noSt (op2 divD (bagC 0) (varM 1)))) (retS (noSt (varM 4)))) [.bag b1, .imm (.int k), x1, y1, .un] = some (.rt (.int (b1.cur % k)) [.bag ⟨b1.cells, b1.cur / k, b1.mix⟩, .imm (.int k), x1, y1, .imm (.int (b1.cur % k))]) := by
      have a1 : setS 4 (noSt (op2 modD (callM int1D (argC (bagC 0) argN)) (varM 1))) [.bag b1, .imm (.int k), x1, y1, .un] = some (.nx [.bag b1, .imm (.int k), x1, y1, .imm (.int (b1.cur % k))]) := by
        unfold setS noSt; rw [q1]; rfl
      have a2 : bagSetC 0 (noSt (op2 divD (bagC 0) (varM 1))) [.bag b1, .imm (.int k), x1, y1, .imm (.int (b1.cur % k))] = some (.nx [.bag ⟨b1.cells, b1.cur / k, b1.mix⟩, .imm (.int k), x1, y1, .imm (.int (b1.cur % k))]) := by
        unfold bagSetC noSt; rw [q2]; rfl
      rw [seqS_nx a1, seqS_nx a2]
      rfl
    have sec : ifS (noSt (tvM (op2 gtD (bagC 0) (cM (.int 0))))) (seqS (setS 4 (noSt (op2 modD (callM int1D (argC (bagC 0) argN)) (varM 1)))) (seqS (bagSetC 0 (noSt (op2 divD (bagC 0) (varM 1)))) (retS (noSt (varM 4))))) nxM [.bag b1, .imm (.int k), x1, y1, .un] = some (.rt (.int (b1.cur % k)) [.bag ⟨b1.cells, b1.cur / k, b1.mix⟩, .imm (.int k), x1, y1, .imm (.int (b1.cur % k))]) := by
      unfold ifS noSt
      rw [tst]
      exact body
    have all : m_draw [.bag b, .imm (.int k), .un, .un, .un] = some (.rt (.int (b1.cur % k)) [.bag ⟨b1.cells, b1.cur / k, b1.mix⟩, .imm (.int k), x1, y1, .imm (.int (b1.cur % k))]) := by
      unfold m_draw
      rw [seqS_nx first, seqS_rt sec]
    show (match m_draw [.bag b, .imm (.int k), .un, .un, .un] with
      | some (.rt d s) => (bagOf s 0).map fun b' => (d, b')
      | _ => none) = _
    rw [all]
    rfl
  · have mx := ok1
    unfold OkB at mx
    generalize hm2 : (b1.mix * 48271 + 11) % 2147483647 = m2
    have m2a : 0 ≤ m2 := by rw [← hm2]; exact Int.emod_nonneg _ (by decide)
    have m2b : m2 < 2147483647 := by rw [← hm2]; exact Int.emod_lt_of_pos _ (by decide)
    refine ⟨m2 * m2 % 2147483629 / 7 % k, ⟨b1.cells, b1.cur, m2⟩, ?_, Int.emod_nonneg _ (by omega), Int.emod_lt_of_pos _ h0, ⟨m2a, m2b⟩⟩
    have bigS : ∀ i : Int, 0 ≤ i → i < 2147483647 → big i.natAbs = true := fun i h0 h1 => by
      unfold big
      rw [Nat.blt_eq]
      have : i.natAbs < 2 ^ 64 := by omega
      exact Nat.lt_of_lt_of_le this (Nat.pow_le_pow_right (by decide) (by decide))
    have mul1 : mulD (.int b1.mix) (.int 48271) = some (.int (b1.mix * 48271)) := by
      show (if (big b1.mix.natAbs && big (48271 : Int).natAbs) = true then some (PyData.int (b1.mix * 48271)) else none) = _
      rw [bigS _ mx.1 mx.2, bigS 48271 (by decide) (by decide)]; rfl
    have mul2 : mulD (.int m2) (.int m2) = some (.int (m2 * m2)) := by
      show (if (big m2.natAbs && big m2.natAbs) = true then some (PyData.int (m2 * m2)) else none) = _
      rw [bigS _ m2a m2b]; rfl
    have tst : tvM (op2 gtD (bagC 0) (cM (.int 0))) [.bag b1, .imm (.int k), x1, y1, .un] = some false := by
      show some (decide (b1.cur > 0)) = some false
      rw [Bool.eq_false_iff.mpr hc]
    have sec : ifS (noSt (tvM (op2 gtD (bagC 0) (cM (.int 0))))) (seqS (setS 4 (noSt (op2 modD (callM int1D (argC (bagC 0) argN)) (varM 1)))) (seqS (bagSetC 0 (noSt (op2 divD (bagC 0) (varM 1)))) (retS (noSt (varM 4))))) nxM [.bag b1, .imm (.int k), x1, y1, .un] = some (.nx [.bag b1, .imm (.int k), x1, y1, .un]) := by
      unfold ifS noSt
      rw [tst]
      rfl
    have q3 : op2 modD (callM int1D (argC (op2 addD (op2 mulD (bagX 0) (cM (.int 48271))) (cM (.int 11))) argN)) (cM (.int 2147483647)) [.bag b1, .imm (.int k), x1, y1, .un] = some (.int m2) := by
      show ((((mulD (.int b1.mix) (.int 48271)).bind fun x => addD x (.int 11)).bind fun x => some [x]).bind int1D).bind (fun x => modD x (.int 2147483647)) = _
      rw [mul1]
      show some (PyData.int ((b1.mix * 48271 + 11) % 2147483647)) = _
      rw [hm2]
    have a3 : bagSetX 0 (noSt (op2 modD (callM int1D (argC (op2 addD (op2 mulD (bagX 0) (cM (.int 48271))) (cM (.int 11))) argN)) (cM (.int 2147483647)))) [.bag b1, .imm (.int k), x1, y1, .un] = some (.nx [.bag ⟨b1.cells, b1.cur, m2⟩, .imm (.int k), x1, y1, .un]) := by
      unfold bagSetX noSt; rw [q3]; rfl
    have a4 : retS (noSt (op2 modD (op2 divD (op2 modD (callM int1D (argC (op2 mulD (bagX 0) (bagX 0)) argN)) (cM (.int 2147483629))) (cM (.int 7))) (varM 1))) [.bag ⟨b1.cells, b1.cur, m2⟩, .imm (.int k), x1, y1, .un] = some (.rt (.int (m2 * m2 % 2147483629 / 7 % k)) [.bag ⟨b1.cells, b1.cur, m2⟩, .imm (.int k), x1, y1, .un]) := by
      have q4 : op2 modD (op2 divD (op2 modD (callM int1D (argC (op2 mulD (bagX 0) (bagX 0)) argN)) (cM (.int 2147483629))) (cM (.int 7))) (varM 1) [.bag ⟨b1.cells, b1.cur, m2⟩, .imm (.int k), x1, y1, .un] = some (.int (m2 * m2 % 2147483629 / 7 % k)) := by
        show (((((mulD (.int m2) (.int m2)).bind fun x => some [x]).bind int1D).bind fun x => modD x (.int 2147483629)).bind fun x => divD x (.int 7)).bind (fun x => modD x (.int k)) = _
        rw [mul2]
        show (divD (.int (m2 * m2 % 2147483629)) (.int 7)).bind (fun x => modD x (.int k)) = _
        have d7 : divD (.int (m2 * m2 % 2147483629)) (.int 7) = some (.int (m2 * m2 % 2147483629 / 7)) := by
          show (if (decide ((0 : Int) < 7) && big (7 : Int).natAbs) = true then some (PyData.int (m2 * m2 % 2147483629 / 7)) else none) = _
          rw [bigS 7 (by decide) (by decide)]; rfl
        rw [d7]
        exact md _
      unfold retS noSt; rw [q4]; rfl
    have all : m_draw [.bag b, .imm (.int k), .un, .un, .un] = some (.rt (.int (m2 * m2 % 2147483629 / 7 % k)) [.bag ⟨b1.cells, b1.cur, m2⟩, .imm (.int k), x1, y1, .un]) := by
      unfold m_draw
      rw [seqS_nx first, seqS_nx sec, seqS_nx a3, a4]
    show (match m_draw [.bag b, .imm (.int k), .un, .un, .un] with
      | some (.rt d s) => (bagOf s 0).map fun b' => (d, b')
      | _ => none) = _
    rw [all]
    rfl
end Y

namespace Y
open PySem PySem.Spec PyProof.Rows L2

/-! ## the law's own bag -/
def e_cell : S → Option D := op2 modD (callM absD (argC (callM int1D (argC (varM 2) argN)) argN)) (op2 powD (cM (.int 10)) (cM (.int 64)))
def m_mix : S → Option Fl := setS 3 (noSt (op2 modD (callM int1D (argC (op2 addD (op2 addD (op2 mulD (varM 3) (cM (.int 48271))) (op2 modD (callM int1D (argC (varM 2) argN)) (cM (.int 2147483629)))) (cM (.int 7))) argN)) (cM (.int 2147483647))))
def m_own (n : Int) : S → Option Fl := seqS (setS 1 (noSt (lcM [2] (seqM (scrM 0 63)) (putM 2) yesM e_cell))) (seqS (setS 3 (noSt (op2 addD (cM (.int n)) (callM lenD (argC (varM 1) argN))))) (seqS (forS (seqE (noSt (varM 1))) (putM 2) m_mix) (retO (ownM (lstM (argC (op1 revD (callM listD (argC (varM 1) argN))) (argC (cM (.int 0)) (argC (varM 3) argN))))))))
def absI (c : Int) : Int := (if c < 0 then -c else c) % 10 ^ 64
theorem own_cells (s0 s1 s3 : M) : ∀ cs : List Int, lcGo (putM 2) yesM e_cell [s0, s1, .un, s3] (cs.map PyData.int) = some (cs.map fun c => .int (absI c))
  | [] => rfl
  | c :: cs => by
    have h : e_cell [s0, s1, .imm (.int c), s3] = some (.int (absI c)) := rfl
    rw [List.map_cons]
    unfold lcGo
    rw [own_cells s0 s1 s3 cs]
    show ((e_cell [s0, s1, .imm (.int c), s3]).bind fun y => _) = _
    rw [h]
    rfl
theorem own_mix (s0 s1 : M) : ∀ (cs : List Int) (x : M) (m : Int), 0 ≤ m → m < 2147483647 → ∃ x' m', forGo (putM 2) m_mix (cs.map PyData.int) [s0, s1, x, .imm (.int m)] = some (.nx [s0, s1, x', .imm (.int m')]) ∧ 0 ≤ m' ∧ m' < 2147483647
  | [], x, m, h0, h1 => ⟨x, m, rfl, h0, h1⟩
  | c :: cs, x, m, h0, h1 => by
    have big1 : ∀ i : Int, 0 ≤ i → i < 2147483647 → big i.natAbs = true := fun i h0 h1 => by
      unfold big
      rw [Nat.blt_eq]
      have : i.natAbs < 2 ^ 64 := by omega
      exact Nat.lt_of_lt_of_le this (Nat.pow_le_pow_right (by decide) (by decide))
    have mul : mulD (.int m) (.int 48271) = some (.int (m * 48271)) := by
      show (if (big m.natAbs && big (48271 : Int).natAbs) = true then some (PyData.int (m * 48271)) else none) = _
      rw [big1 _ h0 h1, big1 48271 (by decide) (by decide)]; rfl
    have st : m_mix [s0, s1, .imm (.int c), .imm (.int m)] = some (.nx [s0, s1, .imm (.int c), .imm (.int ((m * 48271 + c % 2147483629 + 7) % 2147483647))]) := by
      have e : op2 modD (callM int1D (argC (op2 addD (op2 addD (op2 mulD (varM 3) (cM (.int 48271))) (op2 modD (callM int1D (argC (varM 2) argN)) (cM (.int 2147483629)))) (cM (.int 7))) argN)) (cM (.int 2147483647)) [s0, s1, .imm (.int c), .imm (.int m)] = some (.int ((m * 48271 + c % 2147483629 + 7) % 2147483647)) := by
        show (((((mulD (.int m) (.int 48271)).bind fun x => ((modD (.int c) (.int 2147483629)).bind fun y => addD x y)).bind fun x => addD x (.int 7)).bind fun x => some [x]).bind int1D).bind (fun x => modD x (.int 2147483647)) = _
        rw [mul]
        rfl
      unfold m_mix setS noSt
      rw [e]
      rfl
    obtain ⟨x', m', h2, h3, h4⟩ := own_mix s0 s1 cs (.imm (.int c)) ((m * 48271 + c % 2147483629 + 7) % 2147483647) (Int.emod_nonneg _ (by decide)) (Int.emod_lt_of_pos _ (by decide))
    refine ⟨x', m', ?_, h3, h4⟩
    rw [List.map_cons]
    unfold forGo
    have p : putM 2 (.int c) [s0, s1, x, .imm (.int m)] = some [s0, s1, .imm (.int c), .imm (.int m)] := rfl
    rw [p]
    show ((m_mix [s0, s1, .imm (.int c), .imm (.int m)]).bind fun f => _) = _
    rw [st]
    exact h2
theorem own_ok (n : Int) (hn0 : 0 ≤ n) (hn : n < 1000000000) (ns : List Int) : ∃ b : Bag, OkB b ∧ ∃ s', m_own n [.scr ns, .un, .un, .un] = some (.rt (.list [.list (b.cells.map PyData.int), .int b.cur, .int b.mix]) s') := by
  have len : (ns.take 63).length ≤ 63 := by rw [List.length_take]; omega
  generalize hz : ns.take 63 = zs at len
  have c1 : lcM [2] (seqM (scrM 0 63)) (putM 2) yesM e_cell [.scr ns, .un, .un, .un] = some (.list (zs.map fun c => .int (absI c))) := by
    have src : seqM (scrM 0 63) [.scr ns, .un, .un, .un] = some (zs.map PyData.int) := by
      show some ((ns.take 63).map PyData.int) = _
      rw [hz]
    unfold lcM
    rw [src]
    show (if Nat.ble (zs.map PyData.int).length 1000000 = true then (lcGo (putM 2) yesM e_cell [.scr ns, .un, .un, .un] (zs.map PyData.int)).map PyData.list else none) = _
    rw [if_pos (by rw [Nat.ble_eq, List.length_map]; omega), own_cells]
    rfl
  have a1 : setS 1 (noSt (lcM [2] (seqM (scrM 0 63)) (putM 2) yesM e_cell)) [.scr ns, .un, .un, .un] = some (.nx [.scr ns, .imm (.list (zs.map fun c => .int (absI c))), .un, .un]) := by
    unfold setS noSt; rw [c1]; rfl
  have lz : ((zs.map fun c => PyData.int (absI c)).length : Int) = (zs.length : Int) := by rw [List.length_map]
  have a2 : setS 3 (noSt (op2 addD (cM (.int n)) (callM lenD (argC (varM 1) argN)))) [.scr ns, .imm (.list (zs.map fun c => .int (absI c))), .un, .un] = some (.nx [.scr ns, .imm (.list (zs.map fun c => .int (absI c))), .un, .imm (.int (n + (zs.length : Int)))]) := by
    show some (Fl.nx [_, _, _, .imm (.int (n + ((zs.map fun c => PyData.int (absI c)).length : Int)))]) = _
    rw [lz]
  have mp : (zs.map fun c => PyData.int (absI c)) = (zs.map absI).map PyData.int := by rw [List.map_map]; rfl
  obtain ⟨x', m', h2, h3, h4⟩ := own_mix (.scr ns) (.imm (.list (zs.map fun c => .int (absI c)))) (zs.map absI) .un (n + (zs.length : Int)) (by omega) (by omega)
  have a3 : forS (seqE (noSt (varM 1))) (putM 2) m_mix [.scr ns, .imm (.list (zs.map fun c => .int (absI c))), .un, .imm (.int (n + (zs.length : Int)))] = some (.nx [.scr ns, .imm (.list (zs.map fun c => .int (absI c))), x', .imm (.int m')]) := by
    show forGo (putM 2) m_mix (zs.map fun c => PyData.int (absI c)) _ = _
    rw [mp] at h2 ⊢
    exact h2
  refine ⟨⟨(zs.map absI).reverse, 0, m'⟩, ⟨h3, h4⟩, [.scr ns, .imm (.list (zs.map fun c => .int (absI c))), x', .imm (.int m')], ?_⟩
  unfold m_own
  rw [seqS_nx a1, seqS_nx a2, seqS_nx a3]
  show some (Fl.rt (.list [.list (zs.map fun c => PyData.int (absI c)).reverse, .int 0, .int m']) _) = _
  rw [mp, List.map_reverse]
/-- what the maker of the bag promises -/
def spO (K : Fg) : Sp := fun vs H Q _ => ∃ (a : Addr) (ns : List Int), vs = [.ref a] ∧ FrL K H a (ns.map V.int) ∧ ∀ a' c b H', Ex H H' → OkB b → BagAt H' a' c b → Q (.ref a') H'
section
variable {P : Program} {w : World} {K : Fg} {mg : Str → Option Value} {base : Heap} {T : List (Addr × Str)}
theorem sim_scr {Z : Zx} {E : Ent} {H : Hp} {a : Addr} {ns : List Int} (h : FrL Z.K H a (ns.map V.int)) (h0 : E.H0 = H) (hO : E.O0 = []) (tabs : LamX.Tabs Z.T H) (hI : E.Hi = noHi := by rfl) : Sim Z E [] [some (.ref a), none, none, none] H [.scr ns, .un, .un, .un] := by
  refine ⟨rfl, ⟨fun _ => [], fun i m q => ?_, fun _ _ => rfl, fun i b q => (by cases q), fun i j b q => (by cases q)⟩, fun b q => (by cases q), fun b q => (by rw [hO] at q; cases q), fun b o q _ _ => by rw [h0] at q; exact q, fun b q => by rw [h0]; exact q, tabs, fun a o q => by rw [hI] at q; cases q⟩
  match i, q with
  | 0, q => cases q; exact ⟨rfl, a, rfl, h⟩
  | 1, q => cases q; rfl
  | 2, q => cases q; rfl
  | 3, q => cases q; rfl
  | i + 4, q => cases q
theorem fnO {x : Str} {st : Stmt} {f : Addr} {fd : FuncData} {k : Nat} {n : Int} {N : List Str} (hn0 : 0 ≤ n) (hn : n < 1000000000) (F : Fun K x x st f fd) (S : FnScope N ["script"] (defScope st)) (hN : N.length = 4)
    (hb : ∀ (cd : Value) (A : Around) (outer : List Env) (s : Shared) (H : Hp) (E : XK), Room k (A.deeper (envOfC x (defScope st) s.heap.objs.size f cd)) → PYs (cxOf CX0 P w K mg base N x (defScope st) f cd A outer s H E).nox [] false true (defBody st) (m_own n)) :
    FnG P w K mg base (k + 1) f fd ["script"] (spO K) := by
  obtain ⟨cd, Fc⟩ := Fun.c F
  refine Fc.okG S (fun vs H Q E h => ?_) (fun A outer s H vs Q E hr hg h => ⟨_, hb cd A outer s H E hr, ?_⟩)
  · obtain ⟨a, ns, rfl, _⟩ := h
    rfl
  · obtain ⟨a, ns, rfl, hf, q⟩ := h
    obtain ⟨b, okb, s', hm⟩ := own_ok n hn0 hn ns
    have hs : L2.start N [V.ref a] = [some (.ref a), none, none, none] := by
      unfold L2.start
      rw [hN]
      rfl
    refine ⟨⟨[], H, [], fun b z => (by cases z), noHi⟩, [], _, _, ?_, hm, fun v σ' H' O' sm rr => ?_⟩
    · show Sim _ _ [] (L2.start N [V.ref a]) H _
      rw [hs]
      exact sim_scr (Z := ⟨K, [], false⟩) hf rfl rfl (fun p hp => by cases hp)
    · obtain ⟨a', vs, ds, rfl, e2, h3, h4, h5⟩ := rr
      cases e2
      cases h5 with
      | cons g1 h5 =>
        cases h5 with
        | cons g2 h5 =>
          cases h5 with
          | cons g3 h5 =>
            cases h5
            cases g2
            cases g3
            obtain ⟨c, xs, rfl, k1, k2, k3⟩ := g1.ref_list
            refine q a' c b H' (fun o u z => sm.fr o u z (fun y => by cases y) (fun y => by cases y)) okb ⟨fun z => k2 (by rw [z]; exact List.mem_cons_self), h4, ?_⟩
            rw [k1, rps_ints k3]
/-! ## the law -/
def spL (K : Fg) (T : List (Addr × Str)) : Sp := fun vs H Q _ => ∃ (a : Addr) (ns : List Int), vs = [.ref a] ∧ FrL K H a (ns.map V.int) ∧ LamX.Tabs T H ∧ ∀ H', Q (.bl true) H'
theorem sim_bag1 {Z : Zx} {H : Hp} {a c : Addr} {b : Bag} {v : V} (n : Nat) (bg : BagAt H a c b) (dom : ∀ x, x ∈ [a, c] → H x ≠ none) (tabs : LamX.Tabs Z.T H) : Sim Z ⟨[a, c], H, [a, c], dom, noHi⟩ [a, c] (some v :: some (.ref a) :: List.replicate n none) H (.un :: .bag b :: List.replicate n .un) := by
  refine ⟨by simp, ⟨fun j => match j with
    | 1 => [a, c]
    | _ => [], fun j m q => ?_, fun j q => ?_, fun j x q => ?_, fun i j x q r => ?_⟩, dom, fun x q => q, fun x o q _ _ => q, fun x q => q, tabs, fun x o q => by cases q⟩
  · match j, q with
    | 0, q => cases q; rfl
    | 1, q => cases q; exact ⟨a, c, rfl, bg.1, rfl, trivial, rfl, bg.2.1, bg.2.2⟩
    | j + 2, q =>
      have q : (List.replicate n M.un)[j]? = some m := q
      rw [List.getElem?_replicate] at q
      split at q
      · cases q; rfl
      · cases q
  · match j, q with
    | 0, q => rfl
    | 1, q => simp at q
    | j + 2, q => rfl
  · match j, q with
    | 0, q => cases q
    | 1, q => exact q
    | j + 2, q => cases q
  · match i, j, q, r with
    | 1, 1, _, _ => rfl
    | 0, _, q, _ => cases q
    | i + 2, _, q, _ => cases q
    | 1, 0, _, r => cases r
    | 1, j + 2, _, r => cases r
theorem fnL {x : Str} {st : Stmt} {f : Addr} {fd : FuncData} {cd : Value} {N : List Str} {n k : Nat} {m : S → Option Fl} {rest : List Stmt} {p1 p2 p3 p4 p5 : Pos} (F : FunC K x st f fd cd) (S : FnScope ("script" :: "bag" :: N) ["script"] (defScope st)) (hN : N.length = n)
    (e : defBody st = .Assign [.Name "bag" p1] (.Call (.Name "_law_own_bag" p2) [.Name "script" p3] [] p4) p5 :: rest) (CO : CallG P w K mg base "_law_own_bag" ["script"] 2 (spO K))
    (hb : ∀ (A : Around) (outer : List Env) (s : Shared) (H : Hp) (E : XK), Room (k + 2) (A.deeper (envOfC x (defScope st) s.heap.objs.size f cd)) → A.guards = some [] → PYs (cxOf CX0 P w K mg base ("script" :: "bag" :: N) x (defScope st) f cd A outer s H E).nox T true false rest m)
    (hg : (defScope st).names.lookup ("_law_own_bag" : Str) = some .globalImplicit) (hv : Vis (defScope st) "script") (hl : Loc (defScope st) "bag")
    (ok : ∀ b : Bag, OkB b → ∃ s', m (.un :: .bag b :: List.replicate n .un) = some (.rt (.bool true) s')) : FnG P w K mg base (k + 3) f fd ["script"] (spL K T) := by
  refine F.okG S (fun vs H Q E h => ?_) (fun A outer s H vs Q E hr gd h => ?_)
  · obtain ⟨a, ns, rfl, _⟩ := h
    rfl
  · have hs1 : PS (cxOf CX0 P w K mg base ("script" :: "bag" :: N) x (defScope st) f cd A outer s H E).nox (.Assign [.Name "bag" p1] (.Call (.Name "_law_own_bag" p2) [.Name "script" p3] [] p4) p5) _ :=
      ps_set (i := 1) S.nd rfl hl (pe_callG (X := (cxOf CX0 P w K mg base ("script" :: "bag" :: N) x (defScope st) f cd A outer s H E).nox) (j := k + 2) CO hr gd hg (pa_cons (pe_var (i := 0) rfl hv) pa_nil) (by omega)) rfl (.inl rfl)
    refine ⟨_, by rw [e]; exact pss_cons hs1 (hb A outer s H E hr gd), ?_⟩
    obtain ⟨a, ns, rfl, hf, tabs, q⟩ := h
    refine ⟨.ref a, rfl, a, ns, rfl, hf, fun a' c b H' ex okb bg => ?_⟩
    obtain ⟨s', hm⟩ := ok b okb
    have dom : ∀ x, x ∈ [a', c] → H' x ≠ none := fun x z => by
      rcases (by simpa using z : x = a' ∨ x = c) with rfl | rfl
      · rw [bg.2.1]; exact fun z => by cases z
      · rw [bg.2.2]; exact fun z => by cases z
    refine ⟨⟨[a', c], H', [a', c], dom, noHi⟩, [a', c], _, _, ?_, hm, fun v σ' H2 O' sm rr => ?_⟩
    · have hs : (L2.start ("script" :: "bag" :: N) [V.ref a]).set 1 (some (.ref a')) = some (.ref a) :: some (.ref a') :: List.replicate n none := by
        unfold L2.start
        rw [← hN]
        simp [List.replicate_succ]
      show Sim _ _ _ ((L2.start ("script" :: "bag" :: N) [V.ref a]).set 1 (some (.ref a'))) H' _
      rw [hs]
      exact sim_bag1 n bg dom (tabs.ext ex)
    · cases rr
      exact q H2
end
end Y

namespace Y
open PySem PySem.Spec PyProof.Rows L2

/-! ## _law_same -/
def m_same : S → Option Fl := retS (noSt (andV (op2 eqD (callM reprD (argC (varM 0) argN)) (callM reprD (argC (varM 1) argN))) (op2 eqD (varM 0) (varM 1))))
theorem same_run (ds : List D) (d : D) (h : sameF ds = some d) : runF 2 m_same ds = some d := by
  unfold sameF at h
  split at h
  · next a b =>
    split at h
    · next c =>
      cases h
      simp only [Bool.and_eq_true] at c
      obtain ⟨⟨⟨c1, c2⟩, c3⟩, c4⟩ := c
      obtain rfl := deq_eq c1
      have sh := c2
      unfold okShow at sh
      rw [Bool.and_eq_true, Nat.ble_eq, Nat.ble_eq] at sh
      obtain ⟨_, _, _, lay⟩ := shown_ok a sh.1
      have shaped : SeqAt.shaped a = true := by
        unfold SeqAt.shaped
        rw [lay, Bool.true_and, decide_eq_true_eq]
        omega
      have r : reprD [a] = some (.str (PyData.shown a)) := by
        show (if (okShow a && isRef a) = true then _ else _) = _
        rw [c2, c4]
        rfl
      have e1 : eqD a a = some (.bool true) := by
        have g : (if (SeqAt.shaped a && SeqAt.shaped a) = true then some (PyData.bool (PyData.eqv a a)) else none) = some (.bool true) := by
          rw [shaped, SeqAt.eqv_refl a lay]
          rfl
        cases a with
        | list xs => exact g
        | tuple xs => exact g
        | _ => cases c4
      have e2 : eqD (.str (PyData.shown a)) (.str (PyData.shown a)) = some (.bool true) := by
        show some (PyData.bool (PyData.shown a == PyData.shown a)) = _
        rw [beq_self_eq_true]
      have q1 : callM reprD (argC (varM 0) argN) [.imm a, .imm a] = some (.str (PyData.shown a)) := r
      have q2 : callM reprD (argC (varM 1) argN) [.imm a, .imm a] = some (.str (PyData.shown a)) := r
      have q : andV (op2 eqD (callM reprD (argC (varM 0) argN)) (callM reprD (argC (varM 1) argN))) (op2 eqD (varM 0) (varM 1)) [.imm a, .imm a] = some (.bool true) := by
        unfold andV op2
        rw [q1, q2]
        simp only [Option.bind, e2, boolD, if_true]
        exact e1
      show outF (retS (noSt _) [.imm a, .imm a]) = _
      unfold retS noSt
      rw [q]
      rfl
    · cases h
  · cases h
theorem CallG.same {P : Program} {w : World} {K : Fg} {mg : Str → Option Value} {base : Heap} {k : Nat} (C : CallG P w K mg base "_law_same" ["one", "other"] k (spF K false 2 (runF 2 m_same))) : CallG P w K mg base "_law_same" ["one", "other"] k (spF K false 2 sameF) :=
  C.imp fun vs H Q E ⟨O, ds, d, h1, h2, h3, h4, h5⟩ => ⟨O, ds, d, h1, h2, h3, same_run ds d h4, h5⟩

/-! ## the row's end -/
theorem spL_any {K : Fg} {T : List (Addr × Str)} {H : Hp} {a : Addr} {ns : List Int} (h : FrL K H a (ns.map V.int)) (t : LamX.Tabs T H) : spL K T [.ref a] H (fun v _ => v = .bl true) (fun _ _ _ => False) := ⟨a, ns, rfl, h, t, fun _ => rfl⟩
section
variable {P : Program} {w : World} {K : Fg} {mg mb : Str → Option Value} {s : Shared} {a : Addr} {vs : List Value} {ns : List Int} {cs : List (Addr × Addr)}
/-- the script (where the text does not hold it) and the tables are what is tracked -/
def startH (K : Fg) (a : Addr) (vs : List Value) (ns : List Int) (cs : List (Addr × Addr)) : Hp := fun b =>
  if b = a ∧ K.lookup a = none then some (.frz { cls := .type "list", data := .seq vs.toArray } (.lst (ns.map V.int))) else if b ∈ cs.map (·.2) then some (.tbl #[]) else none
theorem startH_cases (b : Addr) : (b = a ∧ K.lookup a = none ∧ startH K a vs ns cs b = some (.frz { cls := .type "list", data := .seq vs.toArray } (.lst (ns.map V.int)))) ∨ (b ∈ cs.map (·.2) ∧ startH K a vs ns cs b = some (.tbl #[])) ∨ startH K a vs ns cs b = none := by
  unfold startH
  by_cases h : b = a ∧ K.lookup a = none
  · exact .inl ⟨h.1, h.2, if_pos h⟩
  · by_cases h2 : b ∈ cs.map (·.2)
    · exact .inr (.inl ⟨h2, by rw [if_neg h, if_pos h2]⟩)
    · exact .inr (.inr (by rw [if_neg h, if_neg h2]))
theorem lawG_call {k : Nat} {fa : Addr} {fd : FuncData} {x : Str} {T : List (Addr × Str)} (KX : K.In s.heap) (hns : s.heap.Ns mainGlobals mg) (hb : s.heap.Ns builtinsNs mb) (hbb : ∀ x : Str, x ≠ "__name__" → mb x = bootBuiltins x) (hlim : s.heap.NoLimit) (hg : s.gens = #[])
    (hT : ∀ p ∈ cs, s.heap.get? p.2 = some { cls := .none, data := .fields #[] }) (nT : ∀ p ∈ cs, K.lookup p.2 = none) (C : ∀ p ∈ cs, PySem.W.CodeHd s.heap p.1 p.2)
    (hbm : ∃ (bm : Addr) (ob : Obj), mg "__builtins__" = some (.ref bm) ∧ bm ≠ builtinsNs ∧ s.heap.get? bm = some ob ∧ ob.cls = .type "module" ∧ ob.dict = some builtinsNs ∧ ob.data = .plain)
    (ha : s.heap.get? a = some { cls := .type "list", data := .seq vs.toArray }) (hi : IntsAre vs ns) (hl : ns.length ≤ sizeLine) (hr : Room k callerA) (gd : callerA.guards = some [])
    (F : ∀ base : Heap, K.In base → base.Ns mainGlobals mg → (∀ p ∈ cs, LamX.TabB base mg p.1 p.2) → FnG P w K mg base k fa fd [x] (spL K T)) (hbind : ∀ (s : Shared) (u : Value), BindsTo s fd ⟨[u], []⟩ [(x, u)]) (hTT : ∀ p ∈ T, p.1 ∈ cs.map (·.2)) :
    codeAny (model P w) callerA (.call (.ref fa) ⟨[.ref a], []⟩) (fun r s' => r = .ok (.ret (.bool true)) ∧ OldK s.heap s'.heap ∧ s'.os = s.os ∧ AllBare s'.gens) s := by
  have hints := vals_ints hi
  have tabAt : ∀ b, b ∈ cs.map (·.2) → s.heap.get? b = some { cls := .none, data := .fields #[] } := fun b m => by
    obtain ⟨p, hp, rfl⟩ := List.mem_map.mp m
    exact hT p hp
  have aNo : a ∉ cs.map (·.2) := fun z => by
    have := tabAt a z
    rw [ha] at this
    cases this
  obtain ⟨H, eH⟩ : ∃ H, H = startH K a vs ns cs := ⟨_, rfl⟩
  have look := fun b => startH_cases (K := K) (a := a) (vs := vs) (ns := ns) (cs := cs) b
  rw [← eH] at look
  have isTab : ∀ b, b ∈ cs.map (·.2) → H b = some (.tbl #[]) := fun b m => by
    rcases look b with ⟨rfl, _, _⟩ | ⟨_, q⟩ | q
    · exact absurd m aNo
    · exact q
    · rw [eH] at q
      unfold startH at q
      rw [if_neg (show ¬(b = a ∧ K.lookup a = none) from fun z => aNo (z.1 ▸ m)), if_pos m] at q
      cases q
  -- what is neither a list nor an empty table is not tracked
  have free : ∀ b o, s.heap.get? b = some o → (∀ xs n, o.data ≠ .seq xs n) → o.data ≠ .fields #[] → H b = none := fun b o e h1 h2 => by
    rcases look b with ⟨rfl, _, _⟩ | ⟨m, _⟩ | q
    · rw [ha] at e; cases e; exact absurd rfl (h1 _ _)
    · rw [tabAt b m] at e; cases e; exact absurd rfl h2
    · exact q
  have down : ∀ b o, s.heap.get? b = some o → H b = none → (hidT s.heap H).get? b = some o := fun b o e n => hidT_get e n
  have nsDown : ∀ {b : Addr} {m : Str → Option Value}, s.heap.Ns b m → (hidT s.heap H).Ns b m := fun {b m} ⟨o, es, ep, e, d, r⟩ => ⟨o, es, ep, down b o e (free b o e (fun _ _ z => by rw [d] at z; cases z) (fun z => by rw [d] at z; cases z)), d, r⟩
  have ok : HOk P w H s.heap := fun b u z => by
    rcases look b with ⟨rfl, _, q⟩ | ⟨m, q⟩ | q
    · rw [q] at z
      cases z
      exact ⟨ha, by rw [List.length_map]; exact hl, vs, _, hints, ha⟩
    · rw [q] at z
      cases z
      exact tabAt b m
    · rw [q] at z; cases z
  have kb : K.In (hidT s.heap H) := fun b o e => down b o (KX b o e) (by
    rcases look b with ⟨rfl, n, _⟩ | ⟨m, _⟩ | q
    · rw [n] at e; cases e
    · obtain ⟨p, hp, rfl⟩ := List.mem_map.mp m
      rw [nT p hp] at e; cases e
    · exact q)
  have md : L2.Mod K mg (hidT s.heap H) := ⟨kb, nsDown hns, ⟨mb, nsDown hb, hbb⟩, let ⟨mc, z1, z2⟩ := hlim; ⟨mc, nsDown z1, z2⟩⟩
  have TB : ∀ p ∈ cs, LamX.TabB (hidT s.heap H) mg p.1 p.2 := fun p hp => by
    have at2 := hT p hp
    refine ⟨?_, ?_, fun z => ?_⟩
    · obtain ⟨o, us, file, tf, flags, tg, inF, text, tt, g1, g2, g3, g4⟩ := C p hp
      exact ⟨o, us, file, tf, flags, tg, inF, text, tt, down _ o g1 (free _ o g1 (fun _ _ z => by rw [g3] at z; cases z) (fun z => by
        rw [g3] at z
        cases z
        have g5 := g4.1
        simp at g5)), g2, g3, g4⟩
    · obtain ⟨bm, ob, b1, b2, b3, b4, b5, b6⟩ := hbm
      refine ⟨bm, ob, b1, b2, fun z => ?_, fun z => ?_, down _ ob b3 (free _ ob b3 (fun _ _ z => by rw [b6] at z; cases z) (fun z => by rw [b6] at z; cases z)), b4, b5, b6⟩
      · obtain ⟨o, es, ep, e, d, _⟩ := hns
        rw [← z, b3] at e
        cases e
        rw [b6] at d; cases d
      · rw [← z, b3] at at2
        cases at2
        cases b6
    · obtain ⟨o, es, ep, e, d, _⟩ := hns
      rw [z, at2] at e
      cases e
      cases d
  have e0 : Env0 P w K mg (hidT s.heap H) callerA [] s H := ⟨rfl, md, fun b o e => of_hidT e, Nat.le_of_eq (hidT_size _ _), trivial, fun b z => (by cases z), ok, .of_eq hg⟩
  have fr : FrL K H a (ns.map V.int) := by
    rcases look a with ⟨_, _, q⟩ | ⟨m, _⟩ | q
    · exact .inl ⟨_, q⟩
    · exact absurd m aNo
    · cases hk : K.lookup a with
      | none =>
        rw [eH] at q
        unfold startH at q
        rw [if_pos ⟨rfl, hk⟩] at q
        cases q
      | some o =>
        have e := KX a o hk
        rw [ha] at e
        cases e
        exact .inr (.inr ⟨_, vs.toArray, _, hk, rfl, rfl, rfl, by rw [List.size_toArray, hi.length]; exact hl, by simpa using hints⟩)
  have tabs : LamX.Tabs T H := fun p hp => LamX.TabS.nil (isTab _ (hTT p hp))
  refine codeAny_mono ((F _ kb (nsDown hns) TB).run callerA [] s H ⟨[.ref a], []⟩ [.ref a] [.ref a] _ _ hr gd e0 (hbind s (.ref a)) (.cons rfl .nil) (spL_any fr tabs)) fun r s' h => ?_
  cases r with
  | error e => exact h.elim
  | ok fl =>
    cases fl with
    | next => exact h.elim
    | brk => exact h.elim
    | cont => exact h.elim
    | ret u =>
      obtain ⟨v, H', os, bare, un, ok', rv, rfl⟩ := h
      obtain rfl : u = Value.bool true := rv
      have stays : ∀ b o, b ∉ cs.map (·.2) → s.heap.get? b = some o → s'.heap.get? b = some o := fun b o nb e => by
        rcases look b with ⟨rfl, _, q⟩ | ⟨m, _⟩ | q
        · have e1 := (ok' b _ (un.frzs b _ _ q)).1
          rw [ha] at e
          cases e
          exact e1
        · exact absurd m nb
        · exact un.keep b o e q (fun z => by cases z) (by simp)
      have grows : ∀ p ∈ cs, ∃ more : Array Value, s'.heap.get? p.2 = some { cls := .none, data := .fields more } := fun p hp => by
        obtain ⟨more, z⟩ := un.tbls p.2 #[] (isTab _ (List.mem_map.mpr ⟨p, hp, rfl⟩))
        exact ⟨_, ok' p.2 _ z⟩
      refine ⟨rfl, ⟨fun b o e => ?_, fun b o e => ?_⟩, os, bare⟩ <;> by_cases m : b ∈ cs.map (·.2)
      · obtain ⟨p, hp, rfl⟩ := List.mem_map.mp m
        obtain ⟨more, z⟩ := grows p hp
        rw [hT p hp] at e
        cases e
        exact .inr (.inl ⟨((C p hp).tab (hT p hp)).isCodeTable, rfl, #[], more, rfl, by rw [Array.empty_append]; exact z⟩)
      · exact .inl (stays b o m e)
      · obtain ⟨p, hp, rfl⟩ := List.mem_map.mp m
        obtain ⟨more, z⟩ := grows p hp
        exact ⟨_, z⟩
      · exact ⟨o, stays b o m e⟩
/-- what is known of the law at the head's heap -/
def LawG (l : PySem.W.OpenLaw) (w : World) (K : Fg) (k : Nat) (x : Str) (mg : Str → Option Value) (fa : Addr) (h : Heap) : Prop :=
  ∃ (fd : FuncData) (cs : List (Addr × Addr)) (T : List (Addr × Str)), (∀ p ∈ cs, h.get? p.2 = some { cls := .none, data := .fields #[] }) ∧ (∀ p ∈ cs, K.lookup p.2 = none) ∧ (∀ p ∈ cs, PySem.W.CodeHd h p.1 p.2) ∧ (∀ (s : Shared) (u : Value), BindsTo s fd ⟨[u], []⟩ [(x, u)]) ∧ (∀ p ∈ T, p.1 ∈ cs.map (·.2)) ∧
    ∀ base : Heap, K.In base → base.Ns mainGlobals mg → (∀ p ∈ cs, LamX.TabB base mg p.1 p.2) → FnG l.prog w K mg base k fa fd [x] (spL K T)
theorem walkG {l : PySem.W.OpenLaw} {n k : Nat} {q : Program} {loose : List Str} {XP : (Str → Option Value) → Heap → Prop} {YP : World → Heap → Prop} {d : DefRec} {K : Params → PySem.W.Frag} {x : Str} (hn : l.most = some n) (hn2 : n ≤ sizeLine) (hdf : d.params.defaults = []) (hr : Room k callerA) (gd : callerA.guards = some [])
    (hY : ∀ (w : World) (h : Heap), YP w h → (K w.params).In h) (F : ∀ (w : World) (mg : Str → Option Value) (fa : Addr) (h : Heap), YP w h → (K w.params).In h → h.Ns mainGlobals mg → mg d.name = some (.ref fa) → LawG l w (K w.params) k x mg fa h) :
    PySem.W.WalkO q loose XP YP l.row.toRowW d [] (fun f vs => PySem.call f vs) := by
  refine Att.attach_callB hn hdf fun w s₀ s₁ mg mb fa o pm cd doc a vs ns G Y ho hd hcd hmg hobj hints hlen hbits hg => ?_
  have KX := hY w _ Y
  obtain ⟨fd, cs, T, hT, nT, C, hb, hTT, hF⟩ := F w mg fa _ Y KX G.T.g hmg
  exact lawG_call KX G.T.g G.T.b G.T.builtins G.T.nolimit hg hT nT C G.T.bmain hobj hints (Nat.le_trans hlen hn2) hr gd hF hb hTT
end
end Y

namespace Y
open PySem PySem.Spec PyProof.Rows L2

/-! ## what a walk comes to: the plain law's own steps -/
def Wp {α : Type} (m : S → Option α) (s : S) (Q : α → Prop) : Prop := ∃ a, m s = some a ∧ Q a
def We (m : S → Option (D × S)) (s : S) (Q : D → S → Prop) : Prop := ∃ d s', m s = some (d, s') ∧ Q d s'
def Wl (m : S → Option (List D × S)) (s : S) (Q : List D → S → Prop) : Prop := ∃ d s', m s = some (d, s') ∧ Q d s'
def Wt (m : S → Option (Bool × S)) (s : S) (Q : Bool → S → Prop) : Prop := ∃ d s', m s = some (d, s') ∧ Q d s'
/-- an answer there is -/
def Hv {α : Type} (o : Option α) (Q : α → Prop) : Prop := ∃ a, o = some a ∧ Q a
theorem hv_some {α : Type} {a : α} {Q : α → Prop} (h : Q a) : Hv (some a) Q := ⟨a, rfl, h⟩
theorem hv_of {α : Type} {o : Option α} {a : α} {Q : α → Prop} (e : o = some a) (h : Q a) : Hv o Q := ⟨a, e, h⟩
def seqQ (b : S → Option Fl) (Q : Fl → Prop) : Fl → Prop
  | .nx s => Wp b s Q
  | f => Q f
section
variable {Q : Fl → Prop} {s : S} {a b m n : S → Option Fl} {i j : Nat}
theorem w_seq (h : Wp a s (seqQ b Q)) : Wp (seqS a b) s Q := by
  obtain ⟨f, h1, h2⟩ := h
  unfold seqS Wp
  dsimp only
  rw [h1]
  cases f with
  | nx s' => exact h2
  | bk s' => exact ⟨_, rfl, h2⟩
  | ct s' => exact ⟨_, rfl, h2⟩
  | rt d s' => exact ⟨_, rfl, h2⟩
theorem w_nx (h : Q (.nx s)) : Wp nxM s Q := ⟨_, rfl, h⟩
theorem w_bk (h : Q (.bk s)) : Wp bkM s Q := ⟨_, rfl, h⟩
theorem w_ct (h : Q (.ct s)) : Wp ctM s Q := ⟨_, rfl, h⟩
theorem w_if {t : S → Option (Bool × S)} (h : Wt t s fun c s' => (c = true → Wp a s' Q) ∧ (c = false → Wp b s' Q)) : Wp (ifS t a b) s Q := by
  obtain ⟨c, s', h1, h2, h3⟩ := h
  unfold ifS Wp
  dsimp only
  rw [h1]
  cases c with
  | true => exact h2 rfl
  | false => exact h3 rfl
theorem w_ret {e : S → Option (D × S)} (h : We e s fun d s' => Q (.rt d s')) : Wp (retS e) s Q := by
  obtain ⟨d, s', h1, h2⟩ := h
  exact ⟨_, by unfold retS; rw [h1]; rfl, h2⟩
theorem w_retO {e : S → Option (List D × S)} (h : Wl e s fun d s' => Q (.rt (.list d) s')) : Wp (retO e) s Q := by
  obtain ⟨d, s', h1, h2⟩ := h
  exact ⟨_, by unfold retO; rw [h1]; rfl, h2⟩
theorem w_retV {ds : List D} (e : s[i]? = some (.ol ds)) (h : Q (.rt (.list ds) (s.set i (.imm (.list ds))))) : Wp (retV i) s Q := ⟨_, by unfold retV; rw [e], h⟩
theorem w_set {e : S → Option (D × S)} (h : We e s fun d s' => i < s'.length ∧ Q (.nx (s'.set i (.imm d)))) : Wp (setS i e) s Q := by
  obtain ⟨d, s', h1, h2, h3⟩ := h
  exact ⟨_, by unfold setS; rw [h1]; exact if_pos h2, h3⟩
theorem w_setO {e : S → Option (List D × S)} (h : Wl e s fun d s' => i < s'.length ∧ Q (.nx (s'.set i (.ol d)))) : Wp (setO i e) s Q := by
  obtain ⟨d, s', h1, h2, h3⟩ := h
  exact ⟨_, by unfold setO; rw [h1]; exact if_pos h2, h3⟩
theorem w_asg {g : D → S → Option S} {e : S → Option (D × S)} (h : We e s fun d s' => Hv (g d s') fun s2 => Q (.nx s2)) : Wp (asgS g e) s Q := by
  obtain ⟨d, s', h1, s2, h2, h3⟩ := h
  exact ⟨_, by unfold asgS; rw [h1]; show (g d s').map Fl.nx = _; rw [h2]; rfl, h3⟩
theorem w_drop {e : S → Option (D × S)} (h : We e s fun d s' => Q (.nx s')) : Wp (dropS e) s Q := by
  obtain ⟨d, s', h1, h2⟩ := h
  exact ⟨_, by unfold dropS; rw [h1]; rfl, h2⟩
theorem w_par {e : S → Option (List D × S)} (h : Wl e s fun ds s' => ∃ x y, ds = [x, y] ∧ i < s'.length ∧ j < s'.length ∧ Q (.nx ((s'.set i (.imm x)).set j (.imm y)))) : Wp (parS i j e) s Q := by
  obtain ⟨ds, s', h1, x, y, rfl, h2, h3, h4⟩ := h
  exact ⟨_, by unfold parS; rw [h1]; exact if_pos ⟨h2, h3⟩, h4⟩
theorem w_app {e : S → Option (D × S)} {d0 : List D} (h0 : s[i]? = some (.ol d0)) (h : We e s fun d s' => ∃ ds, s'[i]? = some (.ol ds) ∧ ds.length ≤ 1000000 ∧ Q (.nx (s'.set i (.ol (ds ++ [d]))))) : Wp (appS i e) s Q := by
  obtain ⟨d, s', h1, ds, h2, h3, h4⟩ := h
  refine ⟨_, ?_, h4⟩
  have e0 : olAt s i = some d0 := by unfold olAt; rw [h0]
  have e1 : olAt s' i = some ds := by unfold olAt; rw [h2]
  unfold appS
  rw [e0]
  show ((e s).bind fun p => _) = _
  rw [h1]
  show ((olAt s' i).bind fun ds => _) = _
  rw [e1]
  exact if_pos (by rw [Nat.ble_eq]; exact h3)
theorem w_ext {e : S → Option (D × S)} {d0 : List D} (h0 : s[i]? = some (.ol d0)) (h : We e s fun d s' => ∃ ds es, s'[i]? = some (.ol ds) ∧ lstOf d = some es ∧ ds.length + es.length ≤ 1000000 ∧ Q (.nx (s'.set i (.ol (ds ++ es))))) : Wp (extS i e) s Q := by
  obtain ⟨d, s', h1, ds, es, h2, h3, h4, h5⟩ := h
  refine ⟨_, ?_, h5⟩
  have e0 : olAt s i = some d0 := by unfold olAt; rw [h0]
  have e1 : olAt s' i = some ds := by unfold olAt; rw [h2]
  unfold extS
  rw [e0]
  show ((e s).bind fun p => _) = _
  rw [h1]
  show ((olAt s' i).bind fun ds => _) = _
  rw [e1]
  show ((lstOf d).bind fun es => _) = _
  rw [h3]
  exact if_pos (by rw [Nat.ble_eq]; exact h4)
theorem w_setix {mi : S → Option D} {e : S → Option (D × S)} (h : We e s fun d s' => ∃ ds k jx, s'[i]? = some (.ol ds) ∧ mi s' = some (.int k) ∧ ixN ds.length k = some jx ∧ Q (.nx (s'.set i (.ol (ds.set jx d))))) : Wp (setIxS i mi e) s Q := by
  obtain ⟨d, s', h1, ds, k, jx, h2, h3, h4, h5⟩ := h
  refine ⟨_, ?_, h5⟩
  have e1 : olAt s' i = some ds := by unfold olAt; rw [h2]
  unfold setIxS
  rw [h1]
  show ((olAt s' i).bind fun ds => _) = _
  rw [e1]
  show ((mi s').bind fun k => _) = _
  rw [h3]
  show ((ixN ds.length k).bind fun j => _) = _
  rw [h4]
  rfl
/-- one turn of a loop -/
def loopQ (Q : Fl → Prop) (I : S → Prop) : Fl → Prop
  | .nx s => I s
  | .ct s => I s
  | .bk s => Q (.nx s)
  | .rt d s => Q (.rt d s)
theorem for_go {g : D → S → Option S} {Q : Fl → Prop} (I : Nat → S → Prop) : ∀ (ds : List D) (k : Nat) (s : S), I k s → (∀ i d s, ds[i]? = some d → I (k + i) s → Hv (g d s) fun s1 => Wp m s1 (loopQ Q (I (k + i + 1)))) → (∀ s, I (k + ds.length) s → Q (.nx s)) → ∃ f, forGo g m ds s = some f ∧ Q f
  | [], k, s, h, _, hq => ⟨_, rfl, hq s h⟩
  | d :: ds, k, s, h, hs, hq => by
    obtain ⟨s1, h1, f, h2, h3⟩ := hs 0 d s rfl h
    unfold forGo
    rw [h1]
    show ∃ f, ((m s1).bind fun f => _) = some f ∧ _
    rw [h2]
    have next : ∀ s2, I (k + 0 + 1) s2 → ∃ f, forGo g m ds s2 = some f ∧ Q f := fun s2 h => for_go I ds (k + 1) s2 h (fun i d s e q => by
      have := hs (i + 1) d s e (by rw [show k + (i + 1) = k + 1 + i by omega]; exact q)
      rw [show k + (i + 1) + 1 = k + 1 + i + 1 by omega] at this
      exact this) fun s q => hq s (by rw [List.length_cons, show k + (ds.length + 1) = k + 1 + ds.length by omega]; exact q)
    cases f with
    | nx s2 => exact next s2 h3
    | ct s2 => exact next s2 h3
    | bk s2 => exact ⟨_, rfl, h3⟩
    | rt d s2 => exact ⟨_, rfl, h3⟩
theorem w_for {g : D → S → Option S} {src : S → Option (List D × S)} (h : Wl src s fun ds s' => ∃ I : Nat → S → Prop, I 0 s' ∧ (∀ i d s, ds[i]? = some d → I i s → Hv (g d s) fun s1 => Wp m s1 (loopQ Q (I (i + 1)))) ∧ ∀ s, I ds.length s → Q (.nx s)) : Wp (forS src g m) s Q := by
  obtain ⟨ds, s', h1, I, h2, h3, h4⟩ := h
  unfold forS Wp
  dsimp only
  rw [h1]
  exact for_go I ds 0 s' h2 (fun i d s e q => by
    have := h3 i d s e (by rwa [Nat.zero_add] at q)
    rwa [Nat.zero_add]) fun s q => h4 s (by rwa [Nat.zero_add] at q)
theorem w_while {t : S → Option (Bool × S)} (I : Nat → S → Prop) : ∀ (fuel : Nat) (s : S), I fuel s → (∀ k s, I (k + 1) s → Wt t s fun c s' => (c = true → Wp m s' (loopQ Q (I k))) ∧ (c = false → Q (.nx s'))) → (∀ s, ¬ I 0 s) → Wp (whGo t m fuel) s Q
  | 0, s, h, _, h0 => absurd h (h0 s)
  | k + 1, s, h, hs, h0 => by
    obtain ⟨c, s', h1, h2, h3⟩ := hs k s h
    unfold Wp whGo
    rw [h1]
    cases c with
    | false => exact ⟨_, rfl, h3 rfl⟩
    | true =>
      obtain ⟨f, h4, h5⟩ := h2 rfl
      show ∃ f, ((m s').bind fun f => _) = some f ∧ _
      rw [h4]
      cases f with
      | nx s2 => exact w_while I k s2 h5 hs h0
      | ct s2 => exact w_while I k s2 h5 hs h0
      | bk s2 => exact ⟨_, rfl, h5⟩
      | rt d s2 => exact ⟨_, rfl, h5⟩
end
section
variable {s : S} {i : Nat}
/-! effectful expressions -/
theorem we_q {m : S → Option D} {Q : D → S → Prop} (h : Wp m s fun d => Q d s) : We (noSt m) s Q := by
  obtain ⟨d, h1, h2⟩ := h
  exact ⟨d, s, by unfold noSt; rw [h1]; rfl, h2⟩
theorem wt_q {m : S → Option Bool} {Q : Bool → S → Prop} (h : Wp m s fun d => Q d s) : Wt (noSt m) s Q := by
  obtain ⟨d, h1, h2⟩ := h
  exact ⟨d, s, by unfold noSt; rw [h1]; rfl, h2⟩
theorem wl_own {m : S → Option D} {Q : List D → S → Prop} (h : Wp m s fun d => ∃ ds, d = .list ds ∧ Q ds s) : Wl (ownM m) s Q := by
  obtain ⟨d, h1, ds, rfl, h2⟩ := h
  exact ⟨ds, s, by unfold ownM; rw [h1]; rfl, h2⟩
theorem we_frzO {ds : List D} {Q : D → S → Prop} (e : s[i]? = some (.ol ds)) (h : Q (.list ds) (s.set i (.imm (.list ds)))) : We (frzM i) s Q := ⟨_, _, by unfold frzM; rw [e], h⟩
theorem we_frzI {d : D} {Q : D → S → Prop} (e : s[i]? = some (.imm d)) (h : Q d s) : We (frzM i) s Q := ⟨_, _, by unfold frzM; rw [e], h⟩
theorem we_op2 {g : D → D → Option D} {a b : S → Option (D × S)} {Q : D → S → Prop} (h : We a s fun x s1 => We b s1 fun y s2 => Hv (g x y) fun d => Q d s2) : We (op2E g a b) s Q := by
  obtain ⟨x, s1, h1, y, s2, h2, d, h3, h4⟩ := h
  refine ⟨d, s2, ?_, h4⟩
  unfold op2E
  rw [h1]
  show ((b s1).bind fun q => _) = _
  rw [h2]
  show (g x y).map _ = _
  rw [h3]
  rfl
theorem wl_nil {Q : List D → S → Prop} (h : Q [] s) : Wl argNE s Q := ⟨_, _, rfl, h⟩
theorem wl_cons {a : S → Option (D × S)} {r : S → Option (List D × S)} {Q : List D → S → Prop} (h : We a s fun x s1 => Wl r s1 fun xs s2 => Q (x :: xs) s2) : Wl (argCE a r) s Q := by
  obtain ⟨x, s1, h1, xs, s2, h2, h3⟩ := h
  refine ⟨_, _, ?_, h3⟩
  unfold argCE
  rw [h1]
  show ((r s1).bind fun q => _) = _
  rw [h2]
  rfl
theorem we_tup {r : S → Option (List D × S)} {Q : D → S → Prop} (h : Wl r s fun xs s1 => xs.length ≤ 10000 ∧ Q (.tuple xs) s1) : We (tupE r) s Q := by
  obtain ⟨xs, s1, h1, h2, h3⟩ := h
  exact ⟨_, _, by unfold tupE; rw [h1]; exact if_pos h2, h3⟩
theorem wl_lst {r : S → Option (List D × S)} {Q : List D → S → Prop} (h : Wl r s fun xs s1 => xs.length ≤ 10000 ∧ Q xs s1) : Wl (lstE r) s Q := by
  obtain ⟨xs, s1, h1, h2, h3⟩ := h
  exact ⟨_, _, by unfold lstE; rw [h1]; exact if_pos h2, h3⟩
theorem we_call {g : List D → Option D} {r : S → Option (List D × S)} {Q : D → S → Prop} (h : Wl r s fun xs s1 => Hv (g xs) fun d => Q d s1) : We (callE g r) s Q := by
  obtain ⟨xs, s1, h1, d, h2, h3⟩ := h
  exact ⟨_, _, by unfold callE; rw [h1]; show (g xs).map _ = _; rw [h2]; rfl, h3⟩
theorem we_callT {g : List D → Option D} {r : S → Option (List D × S)} {Q : D → S → Prop} (h : Wl r s fun xs s1 => Hv (g xs) fun d => Q d s1) : We (callT g r) s Q := by
  obtain ⟨xs, s1, h1, d, h2, h3⟩ := h
  exact ⟨_, _, by unfold callT; rw [h1]; show (g xs).map _ = _; rw [h2]; rfl, h3⟩
theorem we_callB {F : Bag → List D → Option (D × Bag)} {n : S → Option (List D × S)} {Q : D → S → Prop} {b0 : Bag} (e : s[i]? = some (.bag b0)) (h : Wl n s fun ds s1 => ∃ b, s1[i]? = some (.bag b) ∧ Hv (F b ds) fun p => Q p.1 (s1.set i (.bag p.2))) : We (callB i F n) s Q := by
  obtain ⟨ds, s1, h1, b, h2, p, h3, h4⟩ := h
  refine ⟨_, _, ?_, h4⟩
  have e0 : bagOf s i = some b0 := by unfold bagOf; rw [e]
  have e1 : bagOf s1 i = some b := by unfold bagOf; rw [h2]
  unfold callB
  rw [e0]
  show ((n s).bind fun p => _) = _
  rw [h1]
  show ((bagOf s1 i).bind fun b => _) = _
  rw [e1]
  show (F b ds).map _ = _
  rw [h3]
  rfl
/-- a draw: any number below -/
theorem we_draw {k : Int} {b : Bag} {Q : D → S → Prop} (e : s[i]? = some (.bag b)) (ok : OkB b) (h0 : 0 < k) (h1 : k < 2 ^ 64) (h : ∀ v b', 0 ≤ v → v < k → OkB b' → Q (.int v) (s.set i (.bag b'))) : We (callB i F_draw (argCE (noSt (cM (.int k))) argNE)) s Q := by
  obtain ⟨v, b', g1, g2, g3, g4⟩ := draw_ok b k ok h0 h1
  exact we_callB e ⟨[.int k], s, rfl, b, e, _, g1, h v b' g2 g3 g4⟩
theorem draw_hv {k : Int} {b : Bag} {Q : D × Bag → Prop} (ok : OkB b) (h0 : 0 < k) (h1 : k < 2 ^ 64) (h : ∀ v b', 0 ≤ v → v < k → OkB b' → Q (.int v, b')) : Hv (F_draw b [.int k]) Q := by
  obtain ⟨v, b', g1, g2, g3, g4⟩ := draw_ok b k ok h0 h1
  exact ⟨_, g1, h v b' g2 g3 g4⟩
theorem wt_v {a : S → Option (D × S)} {Q : Bool → S → Prop} (h : We a s fun d s1 => ∃ c, d = .bool c ∧ Q c s1) : Wt (tvE a) s Q := by
  obtain ⟨d, s1, h1, c, rfl, h2⟩ := h
  exact ⟨_, _, by unfold tvE; rw [h1]; rfl, h2⟩
theorem wt_not {a : S → Option (Bool × S)} {Q : Bool → S → Prop} (h : Wt a s fun c s1 => Q (!c) s1) : Wt (notE a) s Q := by
  obtain ⟨c, s1, h1, h2⟩ := h
  exact ⟨_, _, by unfold notE; rw [h1]; rfl, h2⟩
theorem wt_and {a b : S → Option (Bool × S)} {Q : Bool → S → Prop} (h : Wt a s fun c s1 => (c = true → Wt b s1 Q) ∧ (c = false → Q false s1)) : Wt (andE a b) s Q := by
  obtain ⟨c, s1, h1, h2, h3⟩ := h
  unfold andE Wt
  dsimp only
  rw [h1]
  cases c with
  | true => exact h2 rfl
  | false => exact ⟨_, _, rfl, h3 rfl⟩
theorem wt_or {a b : S → Option (Bool × S)} {Q : Bool → S → Prop} (h : Wt a s fun c s1 => (c = true → Q true s1) ∧ (c = false → Wt b s1 Q)) : Wt (orE a b) s Q := by
  obtain ⟨c, s1, h1, h2, h3⟩ := h
  unfold orE Wt
  dsimp only
  rw [h1]
  cases c with
  | true => exact ⟨_, _, rfl, h2 rfl⟩
  | false => exact h3 rfl
theorem we_if {t : S → Option (Bool × S)} {a b : S → Option (D × S)} {Q : D → S → Prop} (h : Wt t s fun c s1 => (c = true → We a s1 Q) ∧ (c = false → We b s1 Q)) : We (ifE t a b) s Q := by
  obtain ⟨c, s1, h1, h2, h3⟩ := h
  unfold ifE We
  dsimp only
  rw [h1]
  cases c with
  | true => exact h2 rfl
  | false => exact h3 rfl
theorem we_is {n : S → Option (D × S)} {m1 m2 : S → Option D} {Q : D → S → Prop} (h : We n s fun d s1 => Wp m1 s1 fun d1 => Wp m2 s1 fun d2 => isOk d d1 d2 = true ∧ Q (.bool true) s1) : We (isM n m1 m2) s Q := by
  obtain ⟨d, s1, h1, d1, h2, d2, h3, h4, h5⟩ := h
  refine ⟨_, _, ?_, h5⟩
  unfold isM
  rw [h1]
  show ((m1 s1).bind fun d1 => _) = _
  rw [h2]
  show ((m2 s1).bind fun d2 => _) = _
  rw [h3]
  exact if_pos h4
theorem wl_seq {a : S → Option (D × S)} {Q : List D → S → Prop} (h : We a s fun d s1 => ∃ ds, seqD d = some ds ∧ Q ds s1) : Wl (seqE a) s Q := by
  obtain ⟨d, s1, h1, ds, h2, h3⟩ := h
  exact ⟨_, _, by unfold seqE; rw [h1]; show (seqD d).map _ = _; rw [h2]; rfl, h3⟩
def upto (n : Int) : List D := (List.range n.toNat).map fun k => .int (k : Nat)
theorem wl_rng1 {a : S → Option (List D × S)} {Q : List D → S → Prop} (h : Wl a s fun xs s1 => ∃ ds, rng1M (fun _ => some xs) s = some ds ∧ Q ds s1) : Wl (rng1E a) s Q := by
  obtain ⟨xs, s1, h1, ds, h2, h3⟩ := h
  exact ⟨_, _, by unfold rng1E; rw [h1]; show (rng1M (fun _ => some xs) s).map _ = _; rw [h2]; rfl, h3⟩
theorem wl_rng2 {a : S → Option (List D × S)} {Q : List D → S → Prop} (h : Wl a s fun xs s1 => ∃ ds, rng2M (fun _ => some xs) s = some ds ∧ Q ds s1) : Wl (rng2E a) s Q := by
  obtain ⟨xs, s1, h1, ds, h2, h3⟩ := h
  exact ⟨_, _, by unfold rng2E; rw [h1]; show (rng2M (fun _ => some xs) s).map _ = _; rw [h2]; rfl, h3⟩
/-! quiet expressions -/
theorem wq_var {d : D} {Q : D → Prop} (e : s[i]? = some (.imm d)) (h : Q d) : Wp (varM i) s Q := ⟨d, by unfold varM; rw [e], h⟩
theorem wq_varI {d : D} {Q : D → Prop} (e : s[i]? = some (.imm d)) (h : Q d) : Wp (varR i) s Q := ⟨d, by unfold varR; rw [e], h⟩
theorem wq_varO {ds : List D} {Q : D → Prop} (e : s[i]? = some (.ol ds)) (h : Q (.list ds)) : Wp (varR i) s Q := ⟨_, by unfold varR; rw [e], h⟩
theorem wq_c {d : D} {Q : D → Prop} (h : Q d) : Wp (cM d) s Q := ⟨d, rfl, h⟩
theorem wq_op1 {g : D → Option D} {a : S → Option D} {Q : D → Prop} (h : Wp a s fun x => Hv (g x) Q) : Wp (op1 g a) s Q := by
  obtain ⟨x, h1, d, h2, h3⟩ := h
  exact ⟨d, by unfold op1; rw [h1]; exact h2, h3⟩
theorem wq_op2 {g : D → D → Option D} {a b : S → Option D} {Q : D → Prop} (h : Wp a s fun x => Wp b s fun y => Hv (g x y) Q) : Wp (op2 g a b) s Q := by
  obtain ⟨x, h1, y, h2, d, h3, h4⟩ := h
  refine ⟨d, ?_, h4⟩
  unfold op2
  rw [h1]
  show ((b s).bind fun y => _) = _
  rw [h2]
  exact h3
theorem wq_nil {Q : List D → Prop} (h : Q []) : Wp argN s Q := ⟨_, rfl, h⟩
theorem wq_cons {a : S → Option D} {r : S → Option (List D)} {Q : List D → Prop} (h : Wp a s fun x => Wp r s fun xs => Q (x :: xs)) : Wp (argC a r) s Q := by
  obtain ⟨x, h1, xs, h2, h3⟩ := h
  refine ⟨_, ?_, h3⟩
  unfold argC
  rw [h1]
  show ((r s).bind fun y => _) = _
  rw [h2]
  rfl
theorem wq_tup {r : S → Option (List D)} {Q : D → Prop} (h : Wp r s fun xs => xs.length ≤ 10000 ∧ Q (.tuple xs)) : Wp (tupM r) s Q := by
  obtain ⟨xs, h1, h2, h3⟩ := h
  exact ⟨_, by unfold tupM; rw [h1]; exact if_pos h2, h3⟩
theorem wq_lst {r : S → Option (List D)} {Q : D → Prop} (h : Wp r s fun xs => xs.length ≤ 10000 ∧ Q (.list xs)) : Wp (lstM r) s Q := by
  obtain ⟨xs, h1, h2, h3⟩ := h
  exact ⟨_, by unfold lstM; rw [h1]; exact if_pos h2, h3⟩
theorem wq_if {t : S → Option Bool} {a b : S → Option D} {Q : D → Prop} (h : Wp t s fun c => (c = true → Wp a s Q) ∧ (c = false → Wp b s Q)) : Wp (ifM t a b) s Q := by
  obtain ⟨c, h1, h2, h3⟩ := h
  unfold ifM Wp
  dsimp only
  rw [h1]
  cases c with
  | true => exact h2 rfl
  | false => exact h3 rfl
theorem wq_tv {a : S → Option D} {Q : Bool → Prop} (h : Wp a s fun d => ∃ c, d = .bool c ∧ Q c) : Wp (tvM a) s Q := by
  obtain ⟨d, h1, c, rfl, h2⟩ := h
  exact ⟨_, by unfold tvM; rw [h1]; rfl, h2⟩
theorem wq_notT {a : S → Option Bool} {Q : Bool → Prop} (h : Wp a s fun c => Q (!c)) : Wp (notT a) s Q := by
  obtain ⟨c, h1, h2⟩ := h
  exact ⟨_, by unfold notT; rw [h1]; rfl, h2⟩
theorem wq_andT {a b : S → Option Bool} {Q : Bool → Prop} (h : Wp a s fun c => (c = true → Wp b s Q) ∧ (c = false → Q false)) : Wp (andT a b) s Q := by
  obtain ⟨c, h1, h2, h3⟩ := h
  unfold andT Wp
  dsimp only
  rw [h1]
  cases c with
  | true => exact h2 rfl
  | false => exact ⟨_, rfl, h3 rfl⟩
theorem wq_orT {a b : S → Option Bool} {Q : Bool → Prop} (h : Wp a s fun c => (c = true → Q true) ∧ (c = false → Wp b s Q)) : Wp (orT a b) s Q := by
  obtain ⟨c, h1, h2, h3⟩ := h
  unfold orT Wp
  dsimp only
  rw [h1]
  cases c with
  | true => exact ⟨_, rfl, h2 rfl⟩
  | false => exact h3 rfl
theorem wq_call {g : List D → Option D} {r : S → Option (List D)} {Q : D → Prop} (h : Wp r s fun xs => Hv (g xs) Q) : Wp (callM g r) s Q := by
  obtain ⟨xs, h1, d, h2, h3⟩ := h
  exact ⟨_, by unfold callM; rw [h1]; exact h2, h3⟩
theorem wq_seq {a : S → Option D} {Q : List D → Prop} (h : Wp a s fun d => Hv (seqD d) Q) : Wp (seqM a) s Q := by
  obtain ⟨d, h1, ds, h2, h3⟩ := h
  exact ⟨_, by unfold seqM; rw [h1]; exact h2, h3⟩
end
/-- two answers are there and the same -/
def eqO (a b : Option D) : Bool := match a, b with
  | some x, some y => deq x y
  | _, _ => false
theorem eqO_some {a b : Option D} (h : eqO a b = true) : ∃ d, a = some d ∧ b = some d := by
  unfold eqO at h
  split at h
  · next x y => exact ⟨x, rfl, by rw [deq_eq h]⟩
  · cases h
section
variable {x y : Int} {Q : D → Prop}
theorem hv_add (h : Q (.int (x + y))) : Hv (addD (.int x) (.int y)) Q := ⟨_, rfl, h⟩
theorem hv_sub (h : Q (.int (x - y))) : Hv (subD (.int x) (.int y)) Q := ⟨_, rfl, h⟩
theorem hv_eq (h : Q (.bool (x == y))) : Hv (eqD (.int x) (.int y)) Q := ⟨_, rfl, h⟩
theorem hv_ne (h : Q (.bool (!(x == y)))) : Hv (neD (.int x) (.int y)) Q := ⟨_, rfl, h⟩
theorem hv_lt (h : Q (.bool (decide (x < y)))) : Hv (ltD (.int x) (.int y)) Q := ⟨_, rfl, h⟩
theorem hv_le (h : Q (.bool (decide (x ≤ y)))) : Hv (leD (.int x) (.int y)) Q := ⟨_, rfl, h⟩
theorem hv_gt (h : Q (.bool (decide (x > y)))) : Hv (gtD (.int x) (.int y)) Q := ⟨_, rfl, h⟩
theorem hv_ge (h : Q (.bool (decide (x ≥ y)))) : Hv (geD (.int x) (.int y)) Q := ⟨_, rfl, h⟩
theorem hv_mod (h0 : 0 < y) (h : Q (.int (x % y))) : Hv (modD (.int x) (.int y)) Q := ⟨_, if_pos (decide_eq_true h0), h⟩
theorem hv_div (h0 : 0 < y) (hb : big y.natAbs = true) (h : Q (.int (x / y))) : Hv (divD (.int x) (.int y)) Q := ⟨_, if_pos (by rw [hb, decide_eq_true h0]; rfl), h⟩
theorem hv_mul (h1 : big x.natAbs = true) (h2 : big y.natAbs = true) (h : Q (.int (x * y))) : Hv (mulD (.int x) (.int y)) Q := ⟨_, if_pos (by rw [h1, h2]; rfl), h⟩
theorem ex_bool {b : Bool} {R : Bool → Prop} (h : R b) : ∃ c, PyData.bool b = PyData.bool c ∧ R c := ⟨b, rfl, h⟩
theorem len10 {a : List D} {P : Prop} (h : a.length ≤ 10000) (hp : P) : a.length ≤ 10000 ∧ P := ⟨h, hp⟩
theorem wq_andV {a b : S → Option D} {s : S} (h : Wp a s fun d => ∃ c, d = .bool c ∧ (c = true → Wp b s Q) ∧ (c = false → Q (.bool false))) : Wp (andV a b) s Q := by
  obtain ⟨d, h1, c, rfl, h2, h3⟩ := h
  unfold andV Wp
  dsimp only
  rw [h1]
  cases c with
  | true => exact h2 rfl
  | false => exact ⟨_, rfl, h3 rfl⟩
theorem wq_orV {a b : S → Option D} {s : S} (h : Wp a s fun d => ∃ c, d = .bool c ∧ (c = true → Q (.bool true)) ∧ (c = false → Wp b s Q)) : Wp (orV a b) s Q := by
  obtain ⟨d, h1, c, rfl, h2, h3⟩ := h
  unfold orV Wp
  dsimp only
  rw [h1]
  cases c with
  | true => exact ⟨_, rfl, h2 rfl⟩
  | false => exact h3 rfl
theorem wq_notV {a : S → Option D} {s : S} (h : Wp a s fun d => ∃ c, d = .bool c ∧ Q (.bool (!c))) : Wp (notV a) s Q := by
  obtain ⟨d, h1, c, rfl, h2⟩ := h
  exact ⟨_, by unfold notV; rw [h1]; rfl, h2⟩
theorem wq_chain {g k : D → D → Option D} {a b c : S → Option D} {s : S} (h : Wp a s fun x => Wp b s fun y => Hv (g x y) fun z => ∃ t, z = .bool t ∧ (t = true → Wp c s fun w => Hv (k y w) Q) ∧ (t = false → Q (.bool false))) : Wp (chainM g k a b c) s Q := by
  obtain ⟨x, h1, y, h2, z, h3, t, rfl, h4, h5⟩ := h
  unfold chainM Wp
  dsimp only
  rw [h1]
  dsimp only [Option.bind]
  rw [h2]
  dsimp only
  rw [h3]
  dsimp only [boolD]
  cases t with
  | false => exact ⟨_, rfl, h5 rfl⟩
  | true =>
    obtain ⟨w, h6, d, h7, h8⟩ := h4 rfl
    rw [if_pos rfl, h6]
    exact ⟨d, h7, h8⟩
end
section
variable {b : S → Option Fl} {Q : Fl → Prop} {s : S} {d : D} {I : S → Prop}
theorem sq_nx (h : Wp b s Q) : seqQ b Q (.nx s) := h
theorem sq_rt (h : Q (.rt d s)) : seqQ b Q (.rt d s) := h
theorem sq_bk (h : Q (.bk s)) : seqQ b Q (.bk s) := h
theorem sq_ct (h : Q (.ct s)) : seqQ b Q (.ct s) := h
theorem lp_nx (h : I s) : loopQ Q I (.nx s) := h
theorem lp_ct (h : I s) : loopQ Q I (.ct s) := h
theorem lp_bk (h : Q (.nx s)) : loopQ Q I (.bk s) := h
theorem lp_rt (h : Q (.rt d s)) : loopQ Q I (.rt d s) := h
theorem rngL_at (c : Int) : ∀ (n : Nat) (lo : Int) (i : Nat) (d : D), (rngL lo c n)[i]? = some d → i < n ∧ d = .int (lo + i * c)
  | 0, _, i, d, h => by simp [rngL] at h
  | n + 1, lo, 0, d, h => by
    simp [rngL] at h
    subst h
    exact ⟨by omega, by simp⟩
  | n + 1, lo, i + 1, d, h => by
    obtain ⟨h1, h2⟩ := rngL_at c n (lo + c) i d (by simpa [rngL] using h)
    refine ⟨by omega, ?_⟩
    rw [h2]
    congr 1
    rw [Int.add_assoc]
    congr 1
    rw [show ((i + 1 : Nat) : Int) = (i : Int) + 1 from rfl, Int.add_mul, Int.one_mul, Int.add_comm]
theorem ex_rng1 {R : List D → Prop} {j : Int} (hj : j.natAbs ≤ 1000000) (h : R (rngL 0 1 j.toNat)) : ∃ ds, rng1M (fun _ => some [.int j]) s = some ds ∧ R ds := ⟨_, if_pos (by rw [Nat.ble_eq]; exact hj), h⟩
theorem ex_rng2 {R : List D → Prop} {i j : Int} (hi : i.natAbs ≤ 1000000) (hj : j.natAbs ≤ 1000000) (h : R (rngL i 1 (j - i).toNat)) : ∃ ds, rng2M (fun _ => some [.int i, .int j]) s = some ds ∧ R ds := ⟨_, if_pos (by rw [Bool.and_eq_true, Nat.ble_eq, Nat.ble_eq]; exact ⟨hi, hj⟩), h⟩
end
theorem wp_eq {α : Type} {m : S → Option α} {s : S} {x : α} (h : Wp m s fun d => d = x) : m s = some x := by
  obtain ⟨d, h1, rfl⟩ := h
  exact h1
theorem wp_val {α : Type} {m : S → Option α} {s : S} {Q : α → Prop} (x : α) (h : Wp m s fun d => d = x) (q : Q x) : Wp m s Q := ⟨x, wp_eq h, q⟩
theorem if_both {c : Bool} {A B : Prop} (h : if c = true then A else B) : (c = true → A) ∧ (c = false → B) := by
  cases c with
  | true => exact ⟨fun _ => h, fun z => by cases z⟩
  | false => exact ⟨fun z => (by cases z), fun _ => h⟩
theorem wp_csq {α : Type} {m : S → Option α} {s : S} {P Q : α → Prop} (h : Wp m s P) (k : ∀ f, P f → Q f) : Wp m s Q := by
  obtain ⟨d, h1, h2⟩ := h
  exact ⟨d, h1, k d h2⟩
end Y

namespace Y
open PySem PySem.Spec PyProof.Rows L2

/-! ## what the top has written -/
def FnAt (K : Fg) (mg : Str → Option Value) (x : Str) (st : Stmt) : Prop := ∃ (f : Addr) (fd : FuncData), mg x = some (.ref f) ∧ Fun K x x st f fd
def FnLm (K : Fg) (mg : Str → Option Value) (x : Str) (st : Stmt) (P : Addr) : Prop := ∃ (f : Addr) (fd : FuncData) (c : Addr), mg x = some (.ref f) ∧ FunC K x st f fd (.ref c) ∧ PySem.W.codeHdIn K c P = true
def cdIn (vs : Array Value) (c P : Addr) : Bool := (match (vs[11]? : Option Value) with | some (.ref P') => P' == P | _ => false) &&
      (match vs.getD 18 .none with | .str _ _ => true | _ => false) && (match vs.getD 7 .none with | .int _ _ => true | _ => false) &&
      (match vs.getD 9 .none with | .bool _ => true | _ => false) && (match vs.getD 10 .none with | .int _ _ => true | _ => false) && c != P
section
variable {K : Fg} {h : Heap} {mg : Str → Option Value} {x : Str} {st : Stmt} {f c P : Addr} {oc kV doc pm cd ct : Value} {od an : Option Addr} {osl : Array (Option Value)}
theorem fnAt_mk (X : K.In h) (G : h.Ns mainGlobals mg) (a : PySem.W.nsIn K mainGlobals x = some (some (.ref f))) (l : K.lookup f = some ⟨oc, od, .func (PySem.W.fnOf x x (defArgs st) (defBody st) (defScope st) .none kV doc pm an cd ct), osl⟩)
    (c : PySem.W.codeIn K cd x = true) (k : PySem.W.keepIn K (.ref f) = true) : FnAt K mg x st := ⟨f, _, PySem.W.mg_of X G a, fun_mk (st := st) l c k⟩
theorem fnLm_mk {co : Option Addr} {vs : Array Value} {sl : Array (Option Value)} (X : K.In h) (G : h.Ns mainGlobals mg) (a : PySem.W.nsIn K mainGlobals x = some (some (.ref f))) (l : K.lookup f = some ⟨oc, od, .func (PySem.W.fnOf x x (defArgs st) (defBody st) (defScope st) .none kV doc pm an (.ref c) ct), osl⟩)
    (cc : PySem.W.codeIn K (.ref c) x = true) (k : PySem.W.keepIn K (.ref f) = true) (lc : K.lookup c = some ⟨.type "code", co, .fields vs, sl⟩) (hP : cdIn vs c P = true) : FnLm K mg x st P := by
  refine ⟨f, _, c, PySem.W.mg_of X G a, ⟨⟨oc, od, kV, doc, pm, an, ct, osl, rfl, l, cc⟩, k⟩, ?_⟩
  unfold PySem.W.codeHdIn
  rw [lc]
  exact hP
theorem lookup_out {P : Addr} : ∀ {K : Fg}, P ∉ K.map (·.1) → K.lookup P = none
  | [], _ => rfl
  | (a, o) :: r, n => by
    have n1 : P ≠ a := fun e => n (by rw [e]; exact List.mem_cons_self)
    have n2 : P ∉ List.map (·.1) r := fun e => n (List.mem_cons_of_mem _ e)
    rw [List.lookup_cons, show (P == a) = false from beq_eq_false_iff_ne.mpr n1]
    exact lookup_out n2
theorem km_out {K : Params → PySem.W.Frag} {as : List Addr} {e : ∀ P, as = (K P).map (·.1)} {ts : List Addr} {w : World} {h : Heap} (_ : (PySem.W.kmHook K as e ts).says w h) (hn : (ts.all fun P => !as.contains P) = true) : ∀ P ∈ ts, (K w.params).lookup P = none := fun P hP => by
  refine lookup_out fun hm => ?_
  rw [← e w.params] at hm
  have := List.all_eq_true.mp hn P hP
  rw [Bool.not_eq_true', ← Bool.not_eq_true, List.contains_iff_mem] at this
  exact this hm
theorem tabOk_of {base : Heap} {T : List (Addr × Str)} {cs : List (Addr × Addr)} {q : Str} (TB : ∀ p ∈ cs, LamX.TabB base mg p.1 p.2) (hc : (c, P) ∈ cs) (hm : (P, q) ∈ T) (hn : (T.map (·.1)).Nodup) : TabOk base mg T (.ref c) q := .of (TB _ hc) hm hn
end
end Y

namespace Y
open PySem PySem.Spec PyProof.Rows L2

/-! ## enumerate, zip, reversed -/
def enumL : Nat → List D → List D
  | _, [] => []
  | i, d :: ds => pairD (.int (i : Nat)) d :: enumL (i + 1) ds
theorem enumL_length : ∀ (ds : List D) (i : Nat), (enumL i ds).length = ds.length
  | [], _ => rfl
  | _ :: ds, i => by rw [enumL, List.length_cons, List.length_cons, enumL_length ds]
theorem enumL_get : ∀ (ds : List D) (k i : Nat) (e : D), (enumL k ds)[i]? = some e → ∃ d, ds[i]? = some d ∧ e = pairD (.int ((k + i : Nat) : Int)) d
  | [], _, i, e, h => by simp [enumL] at h
  | d :: ds, k, 0, e, h => by
    simp [enumL] at h
    exact ⟨d, rfl, h.symm⟩
  | d :: ds, k, i + 1, e, h => by
    obtain ⟨d', h1, h2⟩ := enumL_get ds (k + 1) i e (by simpa [enumL] using h)
    exact ⟨d', by simpa using h1, by rw [h2, show k + 1 + i = k + (i + 1) by omega]⟩
theorem rv_tupNew {K : Fg} {O : List Addr} {H : Hp} {T : Addr} {p q : V} {x y : D} (n : H T = none) (r : Rp K O H p x) (r2 : Rp K O H q y) : Ex H (upd H T (.tup [p, q])) ∧ Rv true K O (upd H T (.tup [p, q])) (.ref T) (pairD x y) :=
  ⟨Ex.new n, .inr ⟨rfl, x, y, T, p, q, rfl, rfl, .inl (.inl upd_same), r.ext (Ex.new n), r2.ext (Ex.new n)⟩⟩
theorem walk_enum {K : Fg} {O : List Addr} {H1 : Hp} {a : Addr} {xs : List V} {ds : List D} (h : H1 a = some (.lst xs)) (r : Rps K O H1 xs ds) : WalkQ true K (Ite K a) O H1 (enumL 0 ds) := fun i O2 H e n => by
  have h2 := e _ _ h
  refine ⟨fun d hd => ?_, fun hl => ⟨xs, SqL.of h2, by rw [r.length, ← enumL_length ds 0]; exact hl⟩⟩
  obtain ⟨d', h3, rfl⟩ := enumL_get ds 0 i d hd
  obtain ⟨v, h4, h5⟩ := r.get h3
  refine ⟨⟨xs, v, SqL.of h2, h4⟩, fun x H' y => ?_⟩
  obtain ⟨T, x', rfl, hT, rfl, y⟩ := y
  have y1 := y xs (SqL.of h2)
  rw [h4] at y1
  cases y1
  rw [Nat.zero_add]
  exact rv_tupNew hT (.int _) (h5.step (tb := false) ⟨fun a o h _ _ => e a o h, n, fun a h => e.back h⟩)
theorem walk_enumS {K : Fg} {O : List Addr} {H1 : Hp} {a : Addr} {xs : List V} {ds : List D} (h : H1 a = some (.lst xs)) (nO : a ∉ O) (r : Rps K O H1 xs ds) : WalkS true K (Ite K a) O H1 (enumL 0 ds) := fun i tb O2 H st => by
  have h2 : H a = some (.lst xs) := st.keep _ _ h (fun m => absurd m nO) fun _ ps z => by cases z
  refine ⟨fun d hd => ?_, fun hl => ⟨xs, SqL.of h2, by rw [r.length, ← enumL_length ds 0]; exact hl⟩⟩
  obtain ⟨d', h3, rfl⟩ := enumL_get ds 0 i d hd
  obtain ⟨v, h4, h5⟩ := r.get h3
  refine ⟨⟨xs, v, SqL.of h2, h4⟩, fun x H' y => ?_⟩
  obtain ⟨T, x', rfl, hT, rfl, y⟩ := y
  have y1 := y xs (SqL.of h2)
  rw [h4] at y1
  cases y1
  rw [Nat.zero_add]
  exact rv_tupNew hT (.int _) (h5.step st)
def zipL : List D → List D → List D
  | x :: xs, y :: ys => pairD x y :: zipL xs ys
  | _, _ => []
theorem zipL_get : ∀ (xs ys : List D) (i : Nat) (e : D), (zipL xs ys)[i]? = some e → ∃ x y, xs[i]? = some x ∧ ys[i]? = some y ∧ e = pairD x y
  | [], _, i, e, h => by simp [zipL] at h
  | _ :: _, [], i, e, h => by simp [zipL] at h
  | x :: xs, y :: ys, 0, e, h => by
    simp [zipL] at h
    exact ⟨x, y, rfl, rfl, h.symm⟩
  | x :: xs, y :: ys, i + 1, e, h => by
    obtain ⟨x', y', h1, h2, h3⟩ := zipL_get xs ys i e (by simpa [zipL] using h)
    exact ⟨x', y', by simpa using h1, by simpa using h2, h3⟩
theorem zipL_end : ∀ (xs ys : List D) (i : Nat), (zipL xs ys).length ≤ i → xs.length ≤ i ∨ ys.length ≤ i
  | [], _, i, _ => .inl (Nat.zero_le _)
  | _ :: _, [], i, _ => .inr (Nat.zero_le _)
  | x :: xs, y :: ys, 0, h => by simp [zipL] at h
  | x :: xs, y :: ys, i + 1, h => by
    rcases zipL_end xs ys i (by simpa [zipL] using h) with q | q
    · exact .inl (by simpa using q)
    · exact .inr (by simpa using q)
theorem walk_zip {K : Fg} {O : List Addr} {H1 : Hp} {a b : Addr} {xs ys : List V} {ds es : List D} (h : H1 a = some (.lst xs)) (r : Rps K O H1 xs ds) (h' : H1 b = some (.lst ys)) (r' : Rps K O H1 ys es) : WalkQ true K (Itz K a b) O H1 (zipL ds es) := fun i O2 H e n => by
  have h2 := e _ _ h
  have h2' := e _ _ h'
  have st : Stp false O H1 O2 H := ⟨fun a o h _ _ => e a o h, n, fun a h => e.back h⟩
  refine ⟨fun d hd => ?_, fun hl => ⟨xs, ys, SqL.of h2, SqL.of h2', by rw [r.length, r'.length]; exact zipL_end _ _ _ hl⟩⟩
  obtain ⟨x, y, g1, g2, rfl⟩ := zipL_get _ _ _ _ hd
  obtain ⟨v, h4, h5⟩ := r.get g1
  obtain ⟨w, h6, h7⟩ := r'.get g2
  refine ⟨⟨xs, ys, v, w, SqL.of h2, SqL.of h2', h4, h6⟩, fun z H' q => ?_⟩
  obtain ⟨T, x', y', rfl, hT, rfl, q1, q2⟩ := q
  have q1 := q1 xs (SqL.of h2)
  have q2 := q2 ys (SqL.of h2')
  rw [h4] at q1
  rw [h6] at q2
  cases q1
  cases q2
  exact rv_tupNew hT (h5.step st) (h7.step st)
theorem walk_zipT {K : Fg} {O : List Addr} {H1 : Hp} {a b : Addr} {xs ys : List V} {ds es : List D} (h : SqT K H1 a xs) (r : Rps K O H1 xs ds) (h' : SqT K H1 b ys) (r' : Rps K O H1 ys es) : WalkS true K (RZ.ItzT K a b) O H1 (zipL ds es) := fun i tb O2 H st => by
  have h2 : SqT K H a xs := sqT_kept (fun a o e m t => st.keep a o e (fun _ => m) fun _ => t) h
  have h2' : SqT K H b ys := sqT_kept (fun a o e m t => st.keep a o e (fun _ => m) fun _ => t) h'
  refine ⟨fun d hd => ?_, fun hl => ⟨xs, ys, h2, h2', by rw [r.length, r'.length]; exact zipL_end _ _ _ hl⟩⟩
  obtain ⟨x, y, g1, g2, rfl⟩ := zipL_get _ _ _ _ hd
  obtain ⟨v, h4, h5⟩ := r.get g1
  obtain ⟨w, h6, h7⟩ := r'.get g2
  refine ⟨⟨xs, ys, v, w, h2, h2', h4, h6⟩, fun z H' q => ?_⟩
  obtain ⟨T, x', y', rfl, hT, rfl, q1, q2⟩ := q
  have q1 := q1 xs h2
  have q2 := q2 ys h2'
  rw [h4] at q1
  rw [h6] at q2
  cases q1
  cases q2
  exact rv_tupNew hT (h5.step st) (h7.step st)
theorem walk_rev {pw : Bool} {K : Fg} {O : List Addr} {H1 : Hp} {a : Addr} {xs : List V} {ds : List D} (h : H1 a = some (.lst xs)) (r : Rps K O H1 xs ds) : WalkQ pw K (Itv K a xs.length) O H1 ds.reverse := fun i O2 H e n => by
  have h2 := e _ _ h
  have hl := r.length
  refine ⟨fun d hd => ?_, fun h => by show xs.length ≤ i; rw [hl]; simpa using h⟩
  have hi : i < ds.length := by
    have := (List.getElem?_eq_some_iff.mp hd).1
    simpa using this
  rw [List.getElem?_reverse hi] at hd
  obtain ⟨v, h4, h5⟩ := r.get hd
  rw [← hl] at h4
  refine ⟨⟨by omega, xs, v, SqL.of h2, h4⟩, fun z H' q => ?_⟩
  obtain ⟨rfl, q⟩ := q
  have q := q xs (SqL.of h2)
  rw [h4] at q
  cases q
  exact ⟨Ex.refl _, (h5.step (tb := false) ⟨fun a o h _ _ => e a o h, n, fun a h => e.back h⟩).v⟩
theorem walk_revS {pw : Bool} {K : Fg} {O : List Addr} {H1 : Hp} {a : Addr} {xs : List V} {ds : List D} (h : H1 a = some (.lst xs)) (nO : a ∉ O) (r : Rps K O H1 xs ds) : WalkS pw K (Itv K a xs.length) O H1 ds.reverse := fun i tb O2 H st => by
  have h2 : H a = some (.lst xs) := st.keep _ _ h (fun m => absurd m nO) fun _ ps z => by cases z
  have hl := r.length
  refine ⟨fun d hd => ?_, fun h => by show xs.length ≤ i; rw [hl]; simpa using h⟩
  have hi : i < ds.length := by
    have := (List.getElem?_eq_some_iff.mp hd).1
    simpa using this
  rw [List.getElem?_reverse hi] at hd
  obtain ⟨v, h4, h5⟩ := r.get hd
  rw [← hl] at h4
  refine ⟨⟨by omega, xs, v, SqL.of h2, h4⟩, fun z H' q => ?_⟩
  obtain ⟨rfl, q⟩ := q
  have q := q xs (SqL.of h2)
  rw [h4] at q
  cases q
  exact ⟨Ex.refl _, (h5.step st).v⟩
theorem walk_revT {pw : Bool} {K : Fg} {O : List Addr} {H1 : Hp} {a : Addr} {xs : List V} {ds : List D} (h : SqT K H1 a xs) (r : Rps K O H1 xs ds) : WalkS pw K (RT.ItvT K a xs.length) O H1 ds.reverse := fun i tb O2 H st => by
  have h2 : SqT K H a xs := sqT_kept (fun a o e m t => st.keep a o e (fun _ => m) fun _ => t) h
  have hl := r.length
  refine ⟨fun d hd => ?_, fun h => by show xs.length ≤ i; rw [hl]; simpa using h⟩
  have hi : i < ds.length := by
    have := (List.getElem?_eq_some_iff.mp hd).1
    simpa using this
  rw [List.getElem?_reverse hi] at hd
  obtain ⟨v, h4, h5⟩ := r.get hd
  rw [← hl] at h4
  refine ⟨⟨by omega, xs, v, h2, h4⟩, fun z H' q => ?_⟩
  obtain ⟨rfl, q⟩ := q
  have q := q xs h2
  rw [h4] at q
  cases q
  exact ⟨Ex.refl _, (h5.step st).v⟩
def enumM (a : S → Option D) : S → Option (List D) := fun s => (a s).bind fun d => (lstOf d).map (enumL 0)
def enumE (a : S → Option (D × S)) : S → Option (List D × S) := fun s => (a s).bind fun p => (lstOf p.1).map fun ds => (enumL 0 ds, p.2)
def revM (a : S → Option D) : S → Option (List D) := fun s => (a s).bind fun d => (seqD d).map List.reverse
def revE (a : S → Option (D × S)) : S → Option (List D × S) := fun s => (a s).bind fun p => (seqD p.1).map fun ds => (ds.reverse, p.2)
def zip2D : List D → Option (List D)
  | [.list a, .list b] => some (zipL a b)
  | [.tuple a, .tuple b] => some (zipL a b)
  | _ => none
def zipM (a : S → Option (List D)) : S → Option (List D) := fun s => (a s).bind zip2D
theorem lstOf_some {d : D} {ds : List D} (h : lstOf d = some ds) : d = .list ds := by
  cases d <;> simp [lstOf] at h
  rw [h]
section
variable {X : Cx} {T : List (Addr × Str)} {tb pw : Bool}
theorem qi_enum {e : Expr} {k : Kd} {m : S → Option D} {p pos tpos : Pos} {elts : List Expr} {kk : Nat} (hg : Gl X "enumerate") (hm : X.mg "enumerate" = none) (he : QE X T tb k e m) (hs : starEach [e] X.env = [(false, eval e X.env)] := by rfl) : QI X T tb true (.Tuple elts kk tpos) (.Call (.Name "enumerate" p) [e] [] pos) (enumM m) := ⟨imp_i (pi_enum hg hm (pa_cons he pa_nil hs) hs) fun σ H R q => by
  obtain ⟨E, O, s, ds, sm, hm, k⟩ := q
  obtain ⟨d, hd, hm⟩ := Option.bind_eq_some_iff.mp hm
  obtain ⟨xs, hx, rfl⟩ := Option.map_eq_some_iff.mp hm
  obtain rfl := lstOf_some hx
  refine ⟨E, O, s, _, sm, hd, fun v H' e r => ?_⟩
  obtain ⟨a, vs, rfl, h1, h2⟩ := r.toR.list
  exact ⟨a, vs, rfl, SqL.of h1, k _ H' e (walk_enum h1 h2)⟩⟩
theorem ei_enum {e : Expr} {m : S → Option (D × S)} {p pos tpos : Pos} {elts : List Expr} {kk : Nat} (hg : Gl X "enumerate") (hm : X.mg "enumerate" = none) (he : EE X T tb e m) (hs : starEach [e] X.env = [(false, eval e X.env)] := by rfl) : EI X T tb true (.Tuple elts kk tpos) (.Call (.Name "enumerate" p) [e] [] pos) (enumE m) := imp_i (pi_enum hg hm (pa_cons he pa_nil hs) hs) fun σ H R q => by
  obtain ⟨E, O, s, ds, s', sm, hm, k⟩ := q
  obtain ⟨⟨d, s1⟩, hd, hm⟩ := Option.bind_eq_some_iff.mp hm
  obtain ⟨xs, hx, hm⟩ := Option.map_eq_some_iff.mp hm
  cases hm
  obtain rfl := lstOf_some hx
  refine ⟨E, O, s, _, s1, sm, hd, fun v H' O' st sm' r => ?_⟩
  obtain ⟨a, vs, rfl, h1, h2, h3⟩ := r.ref_list
  exact ⟨a, vs, rfl, SqL.of h1, k _ H' O' st sm' (walk_enumS h1 h2 h3)⟩
theorem qi_rev {tg e : Expr} {k : Kd} {m : S → Option D} {p pos : Pos} (hg : Gl X "reversed") (hm : X.mg "reversed" = none) (he : QE X T tb k e m) (hs : starEach [e] X.env = (false, eval e X.env) :: starEach [] X.env := by rfl) : QI X T tb pw tg (.Call (.Name "reversed" p) [e] [] pos) (revM m) := ⟨imp_i (RT.pi_revA hg hm he hs) fun σ H R q => by
  obtain ⟨E, O, s, ds, sm, hm, k⟩ := q
  obtain ⟨d, hd, hm⟩ := Option.bind_eq_some_iff.mp hm
  obtain ⟨xs, hx, rfl⟩ := Option.map_eq_some_iff.mp hm
  refine ⟨E, O, s, _, sm, hd, fun v H' e r => ?_⟩
  rcases seqD_some hx with rfl | rfl
  · obtain ⟨a, vs, rfl, h1, h2⟩ := r.toR.list
    exact ⟨a, vs, rfl, .inl ⟨SqL.of h1, k _ H' e (walk_rev h1 h2)⟩⟩
  · obtain ⟨a, vs, rfl, h1, h2⟩ := r.toR.tuple
    exact ⟨a, vs, rfl, .inr ⟨h1, k _ H' e (walk_revT h1 h2).q⟩⟩⟩
theorem ei_rev {tg e : Expr} {m : S → Option (D × S)} {p pos : Pos} (hg : Gl X "reversed") (hm : X.mg "reversed" = none) (he : EE X T tb e m) (hs : starEach [e] X.env = (false, eval e X.env) :: starEach [] X.env := by rfl) : EI X T tb pw tg (.Call (.Name "reversed" p) [e] [] pos) (revE m) := imp_i (RT.pi_revA hg hm he hs) fun σ H R q => by
  obtain ⟨E, O, s, ds, s', sm, hm, k⟩ := q
  obtain ⟨⟨d, s1⟩, hd, hm⟩ := Option.bind_eq_some_iff.mp hm
  obtain ⟨xs, hx, hm⟩ := Option.map_eq_some_iff.mp hm
  cases hm
  refine ⟨E, O, s, _, s1, sm, hd, fun v H' O' st sm' r => ?_⟩
  rcases seqD_some hx with q | q <;> (dsimp only at q; subst q)
  · obtain ⟨a, vs, rfl, h1, h2, h3⟩ := r.ref_list
    exact ⟨a, vs, rfl, .inl ⟨SqL.of h1, k _ H' O' st sm' (walk_revS h1 h2 h3)⟩⟩
  · obtain ⟨a, vs, rfl, h1, h2⟩ := r.ref_tuple
    exact ⟨a, vs, rfl, .inr ⟨h1, k _ H' O' st sm' (walk_revT h1 h2)⟩⟩
theorem qi_zip {e e2 : Expr} {b : Bool} {n : S → Option (List D)} {p pos tpos : Pos} {elts : List Expr} {kk : Nat} (hg : Gl X "zip") (hm : X.mg "zip" = none) (ha : QA X T tb b [e, e2] n) (hs : starEach [e, e2] X.env = (false, eval e X.env) :: starEach [e2] X.env := by rfl) (hpl : (backTo pos (starEach [e2] X.env)).any (·.1) = false := by rfl) :
    QI X T tb true (.Tuple elts kk tpos) (.Call (.Name "zip" p) [e, e2] [] pos) (zipM n) := ⟨imp_i (RZ.pi_zipA hg hm ha hs hpl) fun σ H R q => by
  obtain ⟨E, O, s, ds, sm, hm, k⟩ := q
  obtain ⟨xs, hx, hm⟩ := Option.bind_eq_some_iff.mp hm
  refine ⟨E, O, s, xs, sm, hx, fun vs H' e r => ?_⟩
  unfold zip2D at hm
  split at hm
  · cases hm
    obtain ⟨v, w, rfl, r1, r2⟩ := rrs2 (ResL.toR r)
    obtain ⟨a, as, rfl, h1, h2⟩ := r1.list
    obtain ⟨c, cs, rfl, h3, h4⟩ := r2.list
    exact ⟨a, c, as, cs, rfl, .inl ⟨SqL.of h1, SqL.of h3, k _ H' e (walk_zip h1 h2 h3 h4)⟩⟩
  · cases hm
    obtain ⟨v, w, rfl, r1, r2⟩ := rrs2 (ResL.toR r)
    obtain ⟨a, as, rfl, h1, h2⟩ := r1.tuple
    obtain ⟨c, cs, rfl, h3, h4⟩ := r2.tuple
    exact ⟨a, c, as, cs, rfl, .inr ⟨h1, h3, k _ H' e (walk_zipT h1 h2 h3 h4).q⟩⟩
  · cases hm⟩
end
end Y

namespace Y
open PySem PySem.Spec PyProof.Rows L2

/-! ## two names at once, lists of one's own among them -/
def parOO (i j : Nat) (a : S → Option (List D × S)) (b : S → Option D) : S → Option Fl := fun s => (a s).bind fun p => (b p.2).bind fun d => (lstOf d).bind fun es => if i < p.2.length ∧ j < p.2.length then some (.nx ((p.2.set i (.ol p.1)).set j (.ol es))) else none
def parOI (i j : Nat) (a : S → Option (List D × S)) (b : S → Option D) : S → Option Fl := fun s => (a s).bind fun p => (b p.2).bind fun d => if i < p.2.length ∧ j < p.2.length then some (.nx ((p.2.set i (.ol p.1)).set j (.imm d))) else none
def parIO (i j : Nat) (a : S → Option (D × S)) (b : S → Option (List D × S)) : S → Option Fl := fun s => (a s).bind fun p => (b p.2).bind fun q => if i < q.2.length ∧ j < q.2.length then some (.nx ((q.2.set i (.imm p.1)).set j (.ol q.1))) else none
section
variable {X : Cx} {T : List (Addr × Str)} {tb kr : Bool}
theorem s_parOO (i j : Nat) {x y : Str} {a b : Expr} {px py pt pos : Pos} {kt k2 pt2} {m : S → Option (List D × S)} {n : S → Option D} (hc : X.calm = true) (hN : X.N.Nodup) (ha : EO X T tb a m) (hb : QE X T tb .o b n) (hi : X.N[i]? = some x := by rfl) (hj : X.N[j]? = some y := by rfl) (hij : i ≠ j := by decide)
    (hx : X.env.scope.names.lookup x = some .local := by rfl) (hy : X.env.scope.names.lookup y = some .local := by rfl)
    (hw : swappedStores [.Tuple [.Name x px, .Name y py] kt pt] (.Tuple [a, b] k2 pt2) X.env = pure (some [x, y]) := by rfl) (hs : swapsWithSole [.Tuple [.Name x px, .Name y py] kt pt] (.Tuple [a, b] k2 pt2) pos.line X.env = pure false := by rfl)
    (h1 : starEach [a, b] X.env = (false, eval a X.env) :: starEach [b] X.env := by rfl) (h2 : starEach [b] X.env = (false, eval b X.env) :: starEach [] X.env := by rfl) :
    PY X T tb kr (.Assign [.Tuple [.Name x px, .Name y py] kt pt] (.Tuple [a, b] k2 pt2) pos) (parOO i j m n) := imp_s (ps_par hc hN hi hj hij hx hy (pa_cons ha (pa_cons hb pa_nil h2) h1) hw hs) fun B σ H h => by
  obtain ⟨E, O, s, f, sm, hm, k⟩ := h
  obtain ⟨⟨ds, s1⟩, g1, hm⟩ := Option.bind_eq_some_iff.mp hm
  obtain ⟨d, g2, hm⟩ := Option.bind_eq_some_iff.mp hm
  obtain ⟨es, g3, hm⟩ := Option.bind_eq_some_iff.mp hm
  obtain rfl := lstOf_some g3
  split at hm
  · next hl =>
    cases hm
    refine ⟨E, O, s, ds, s1, sm, g1, fun a1 vs H1 O1 st nO sm1 sm2 n0 q1 r1 => ⟨E, a1 :: O1, s1, _, sm2, g2, fun v H2 e r2 => ⟨_, _, rfl, ?_⟩⟩⟩
    obtain ⟨a2, ws, es', rfl, e1, n1, nO2, q2, r2⟩ := r2
    cases e1
    have t1 := sm1.setO sm2 nO hl.1 q1 n0 r1
    have t2 := t1.grow n1 e (by rw [q2]; exact fun z => by cases z)
    refine k _ H2 (a2 :: a1 :: O1) (st.trans ⟨fun b o h _ _ => e b o h, fun b hb => ?_, fun b z => e.back z⟩) ((t1.ext e).setO t2 nO2 (by rw [List.length_set]; exact hl.2) q2 (sm2.there _ n1) r2)
    rcases List.mem_cons.mp hb with rfl | hb
    · exact .inr n1
    · exact .inl hb
  · cases hm
theorem s_parOI (i j : Nat) {x y : Str} {a b : Expr} {px py pt pos : Pos} {kt k2 pt2} {kd : Kd} {m : S → Option (List D × S)} {n : S → Option D} (hc : X.calm = true) (hN : X.N.Nodup) (ha : EO X T tb a m) (hb : QE X T tb kd b n) (nk : kd ≠ .r := by decide) (hi : X.N[i]? = some x := by rfl) (hj : X.N[j]? = some y := by rfl) (hij : i ≠ j := by decide)
    (hx : X.env.scope.names.lookup x = some .local := by rfl) (hy : X.env.scope.names.lookup y = some .local := by rfl)
    (hw : swappedStores [.Tuple [.Name x px, .Name y py] kt pt] (.Tuple [a, b] k2 pt2) X.env = pure (some [x, y]) := by rfl) (hs : swapsWithSole [.Tuple [.Name x px, .Name y py] kt pt] (.Tuple [a, b] k2 pt2) pos.line X.env = pure false := by rfl)
    (h1 : starEach [a, b] X.env = (false, eval a X.env) :: starEach [b] X.env := by rfl) (h2 : starEach [b] X.env = (false, eval b X.env) :: starEach [] X.env := by rfl) :
    PY X T tb kr (.Assign [.Tuple [.Name x px, .Name y py] kt pt] (.Tuple [a, b] k2 pt2) pos) (parOI i j m n) := imp_s (ps_par hc hN hi hj hij hx hy (pa_cons ha (pa_cons hb pa_nil h2) h1) hw hs) fun B σ H h => by
  obtain ⟨E, O, s, f, sm, hm, k⟩ := h
  obtain ⟨⟨ds, s1⟩, g1, hm⟩ := Option.bind_eq_some_iff.mp hm
  obtain ⟨d, g2, hm⟩ := Option.bind_eq_some_iff.mp hm
  split at hm
  · next hl =>
    cases hm
    refine ⟨E, O, s, ds, s1, sm, g1, fun a1 vs H1 O1 st nO sm1 sm2 n0 q1 r1 => ⟨E, a1 :: O1, s1, _, sm2, g2, fun v H2 e r2 => ⟨_, _, rfl, ?_⟩⟩⟩
    have t1 := (sm1.setO sm2 nO hl.1 q1 n0 r1).ext e
    exact k _ H2 (a1 :: O1) (st.trans (Stp.of_ex e)) (t1.setI (by rw [List.length_set]; exact hl.2) (r2.toI' nk))
  · cases hm
theorem s_parIO (i j : Nat) {x y : Str} {a b : Expr} {px py pt pos : Pos} {kt k2 pt2} {m : S → Option (D × S)} {n : S → Option (List D × S)} (hc : X.calm = true) (hN : X.N.Nodup) (ha : EE X T tb a m) (hb : EO X T tb b n) (hi : X.N[i]? = some x := by rfl) (hj : X.N[j]? = some y := by rfl) (hij : i ≠ j := by decide)
    (hx : X.env.scope.names.lookup x = some .local := by rfl) (hy : X.env.scope.names.lookup y = some .local := by rfl)
    (hw : swappedStores [.Tuple [.Name x px, .Name y py] kt pt] (.Tuple [a, b] k2 pt2) X.env = pure (some [x, y]) := by rfl) (hs : swapsWithSole [.Tuple [.Name x px, .Name y py] kt pt] (.Tuple [a, b] k2 pt2) pos.line X.env = pure false := by rfl)
    (h1 : starEach [a, b] X.env = (false, eval a X.env) :: starEach [b] X.env := by rfl) (h2 : starEach [b] X.env = (false, eval b X.env) :: starEach [] X.env := by rfl) :
    PY X T tb kr (.Assign [.Tuple [.Name x px, .Name y py] kt pt] (.Tuple [a, b] k2 pt2) pos) (parIO i j m n) := imp_s (ps_par hc hN hi hj hij hx hy (pa_cons ha (pa_cons hb pa_nil h2) h1) hw hs) fun B σ H h => by
  obtain ⟨E, O, s, f, sm, hm, k⟩ := h
  obtain ⟨⟨d, s1⟩, g1, hm⟩ := Option.bind_eq_some_iff.mp hm
  obtain ⟨⟨es, s2⟩, g2, hm⟩ := Option.bind_eq_some_iff.mp hm
  split at hm
  · next hl =>
    cases hm
    refine ⟨E, O, s, d, s1, sm, g1, fun v H1 O1 st sm1 r1 => ⟨E, O1, s1, es, s2, sm1, g2, fun a2 ws H2 O2 st2 nO sm2 sm3 n0 q2 r2 => ⟨_, _, rfl, ?_⟩⟩⟩
    have r3 := r1.step st2
    have r4 : Rp X.K O2 H2 v d := r3.mono fun b m => List.mem_cons_of_mem _ m
    exact k _ H2 (a2 :: O2) (st.trans st2) ((sm2.setI hl.1 r4).setO (sm3.setI hl.1 r3) nO (by rw [List.length_set]; exact hl.2) q2 n0 r2)
  · cases hm
end
end Y

namespace Y
open PySem PySem.Spec PyProof.Rows L2

/-! ## comprehensions over what is got with effects -/
def lcS (vs : List Nat) (src : S → Option (List D × S)) (g : D → S → Option S) (t : S → Option Bool) (e : S → Option D) : S → Option (List D × S) := fun s =>
  (src s).bind fun p => if Nat.ble p.1.length 1000000 = true then (lcGo g t e (wipeS p.2 vs) p.1).map fun rs => (rs, p.2) else none
def lstV (a : S → Option (List D × S)) : S → Option (D × S) := fun s => (a s).map fun p => (.list p.1, p.2)
section
variable {X : Cx} {T : List (Addr × Str)} {tb pw : Bool}
theorem lcS_read {src : S → Option (List D × S)} {g : D → S → Option S} {t : S → Option Bool} {e : S → Option D} {k : Kd} {vs ts : List Nat} (nk : k ≠ .r) (hts : ∀ i, i ∈ ts → i ∈ vs) {σ : L2.St} {H : Hp} {Q : VK} (h : tEo (Zo X T tb) (lcS vs src g t e) σ H Q) :
    tLc (tIE (Zo X T tb) pw src) (tG (Zo X T tb) pw ts g) (tTQ (Zo X T tb) t) (tQ (Zo X T tb) k e) vs σ H Q := by
  obtain ⟨E, O0, s0, rs, s, sm0, hm, kk0⟩ := h
  obtain ⟨⟨ds, s1⟩, hds, hm⟩ := Option.bind_eq_some_iff.mp hm
  dsimp only at hm
  split at hm
  case isFalse => cases hm
  next hle =>
  obtain ⟨rs1, hrs, hz⟩ := Option.map_eq_some_iff.mp hm
  cases hz
  have hle : ds.length ≤ 1000000 := by simpa [Nat.ble_eq] using hle
  refine ⟨E, O0, s0, ds, s, sm0, hds, fun J H1 O st sm1 w0 D hD => ?_⟩
  have w := w0.q
  have newc : ∀ a, a ∈ D :: O → a ∈ O ∨ H1 a = none := fun a m => (List.mem_cons.mp m).elim (fun q => .inr (q ▸ hD)) .inl
  refine ⟨fun i m H => m = ds.length - i ∧ i ≤ ds.length ∧ Ex H1 H ∧ ∃ acc dn rest, H D = some (.lst acc) ∧ Rps X.K (D :: O) H acc dn ∧ lcGo g t e (wipeS s vs) (ds.drop i) = some rest ∧ rs = dn ++ rest ∧ acc.length ≤ i,
    ⟨ds.length, by simp, Nat.zero_le _, Ex.new hD, [], [], rs, upd_same, .nil, hrs, rfl, Nat.le_refl _⟩, ?_⟩
  rintro i m H2 ⟨rfl, hi, e2, acc, dn, rest, hacc, racc, hgo, hcat, hal⟩
  by_cases hlt : i < ds.length
  · refine .inr ?_
    have hd : ds[i]? = some ds[i] := List.getElem?_eq_getElem hlt
    obtain ⟨w1, w2⟩ := w i (D :: O) H2 e2 newc
    obtain ⟨go, w1⟩ := w1 _ hd
    rw [List.drop_eq_getElem_cons hlt] at hgo
    unfold lcGo at hgo
    obtain ⟨s1, hg1, hgo⟩ := Option.bind_eq_some_iff.mp hgo
    obtain ⟨b, ht1, hgo⟩ := Option.bind_eq_some_iff.mp hgo
    refine ⟨go, fun H' => Ex H1 H' ∧ ∃ acc dn rest, H' D = some (.lst acc) ∧ Rps X.K (D :: O) H' acc dn ∧ lcGo g t e (wipeS s vs) (ds.drop (i + 1)) = some rest ∧ rs = dn ++ rest ∧ acc.length ≤ i + 1, fun H' q => ⟨ds.length - (i + 1), by omega, rfl, hlt, q⟩, fun x H3 y => ?_⟩
    obtain ⟨e3, rx⟩ := w1 x H3 y
    have n3 : H3 D = some (.lst acc) := e3 _ _ hacc
    have smw : Sim (Zo X T tb) E (D :: O) (L2.wipe σ vs) H3 (wipeS s vs) := (sm1.wipe vs).grow hD (e2.trans e3) (by rw [n3]; exact fun z => by cases z)
    refine ⟨E, D :: O, wipeS s vs, ds[i], s1, smw, rx, hg1, fun σ2 ag sm2 => ⟨wipe_agr ag hts, E, D :: O, s1, b, sm2, ht1, fun H4 e4 => ?_⟩⟩
    cases b with
    | true =>
      rw [if_pos rfl] at hgo ⊢
      obtain ⟨z, hz, hgo⟩ := Option.bind_eq_some_iff.mp hgo
      obtain ⟨r', hr', hgo⟩ := Option.bind_eq_some_iff.mp hgo
      cases hgo
      refine ⟨E, D :: O, s1, z, sm2.ext e4, hz, fun v H5 e5 r5 => ⟨acc, (e4.trans e5) _ _ n3, Nat.lt_of_le_of_lt (Nat.le_trans hal hi) (Nat.lt_of_le_of_lt hle (by decide)), ?_⟩⟩
      have n5 : H5 D = some (.lst acc) := (e4.trans e5) _ _ n3
      have st : Stp false (D :: O) H5 (D :: O) (upd H5 D (.lst (acc ++ [v]))) := (upd_kp (tb := false) n5 trivial).stp (fun a q => by rw [List.mem_singleton.mp q]; exact List.mem_cons_self) upd_there
      refine ⟨fun a o q => ?_, acc ++ [v], dn ++ [z], r', upd_same, ((racc.ext (e3.trans (e4.trans e5))).step st).append (.one ((r5.toI' nk).step st)), hr', by rw [hcat]; simp, by rw [List.length_append]; simp; omega⟩
      rw [upd_ne (ne_of_none q hD)]
      exact (e2.trans (e3.trans (e4.trans e5))) a o q
    | false =>
      rw [if_neg Bool.false_ne_true] at hgo ⊢
      exact ⟨e2.trans (e3.trans e4), acc, dn, rest, e4 _ _ n3, racc.ext (e3.trans e4), hgo, hcat, by omega⟩
  · have hi : i = ds.length := by omega
    refine .inl ⟨(w i (D :: O) H2 e2 newc).2 (by omega), ?_⟩
    rw [hi, List.drop_length] at hgo
    cases hgo
    rw [List.append_nil] at hcat
    subst hcat
    have nD : D ∉ O := fun m => sm1.dom D m hD
    have smO := sm1.ext e2
    exact kk0 D acc H2 O (st.trans ⟨fun b o h _ _ => e2 b o h, fun b hb => (List.mem_cons.mp hb).elim (fun z => .inr (z ▸ hD)) .inl, fun b z => e2.back z⟩) nD smO (sm1.grow hD e2 (by rw [hacc]; exact fun z => by cases z)) (sm1.there D hD) hacc racc
theorem eo_lcS {elt tg iter : Expr} {ifs : List Expr} {scope : Scope} {own : List (Str × Nat)} {pos : Pos} {src : S → Option (List D × S)} {g : D → S → Option S} {t : S → Option Bool} {e : S → Option D} {k : Kd} {ts : List Nat} (hc : X.calm = true) (hN : X.N.Nodup) (hi : EI X T tb pw tg iter src) (ok : BlkOk X.N X.env.scope scope own)
    (hg : ∀ (s : Shared) (H : Hp) (C : Addr) (cl : List (Str × Addr)) (fp : List Addr), PG (X.blk s H scope (compEnvC scope cl C X.env) fp) tg (tG (Zo X T tb) pw ts g)) (ht : ∀ (s : Shared) (H : Hp) (C : Addr) (cl : List (Str × Addr)) (fp : List Addr), PTs (X.blk s H scope (compEnvC scope cl C X.env) fp) ifs (tTQ (Zo X T tb) t))
    (he : ∀ (s : Shared) (H : Hp) (C : Addr) (cl : List (Str × Addr)) (fp : List Addr), PE (X.blk s H scope (compEnvC scope cl C X.env) fp) elt (tQ (Zo X T tb) k e)) (nk : k ≠ .r := by decide) (hts : ∀ i, i ∈ ts → i ∈ own.map (·.2) := by decide) (hs : ∀ x, foldedSetIterable iter X.env x = pure x := by intro _; rfl) :
    EO X T tb (.ListComp elt [⟨tg, iter, ifs, 0⟩] scope pos) (lcS (own.map (·.2)) src g t e) :=
  imp_e (pe_lc hc hN hi ok hg ht he hs) fun σ H Q h => lcS_read nk hts h
theorem e_eo {e : Expr} {m : S → Option (List D × S)} (h : EO X T tb e m) : EE X T tb e (lstV m) := imp_e h fun σ H Q q => by
  obtain ⟨E, O, s, d, s', sm, hm, k⟩ := q
  obtain ⟨⟨ds, s1⟩, h1, hm⟩ := Option.map_eq_some_iff.mp hm
  cases hm
  exact ⟨E, O, s, ds, _, sm, h1, fun a vs H' O' st nO sm1 sm2 n0 ha r => k _ H' O' ⟨st.keep, fun b hb => st.new b (List.mem_cons_of_mem _ hb), st.there⟩ sm1 (.lst ha nO (r.mono fun b m => List.mem_cons_of_mem _ m))⟩
end
end Y

namespace Y
open PySem PySem.Spec PyProof.Rows L2

/-! ## x.pop(e) -/
def popAtM (i : Nat) (m : S → Option (D × S)) : S → Option (D × S) := fun s => (olAt s i).bind fun _ => (m s).bind fun p => (olAt p.2 i).bind fun ds => (intD p.1).bind fun k => (ixN ds.length k).bind fun j => (ds[j]?).bind fun d =>
  if Nat.ble ds.length 1000000 = true then some (d, p.2.set i (.ol (ds.eraseIdx j))) else none
theorem Rps.erase {K : Fg} {O : List Addr} {H : Hp} : ∀ {vs : List V} {ds : List D} (i : Nat), Rps K O H vs ds → Rps K O H (vs.eraseIdx i) (ds.eraseIdx i)
  | _, _, _, .nil => .nil
  | _, _, 0, .cons _ r => r
  | _, _, i + 1, .cons q r => .cons q (Rps.erase i r)
section
variable {X : Cx} {T : List (Addr × Str)} {tb : Bool}
theorem e_popAt (i : Nat) {x : Str} {e : Expr} {p apos cpos : Pos} {m : S → Option (D × S)} (he : EE X T tb e m) (hN : X.N[i]? = some x := by rfl) (hv : Vis X.env.scope x := by first | exact Or.inl rfl | exact Or.inr (Or.inl rfl) | exact Or.inr (Or.inr rfl)) (hd : (x == ("__debug__" : Str)) = false := by decide)
    (hcd : (x == ("__classdict__" : Str)) = false := by decide) (hbase : attributeBase (.Name x p) "pop" X.env (eval (.Name x p) X.env) = eval (.Name x p) X.env := by rfl)
    (hfew : ((backTo cpos (starEach [e] X.env)).all (fun x => !x.1) && (backToKw cpos (keywordEach [] X.env)).all (fun x => x.1.isSome)
      && decide ([e].length + ([] : List Keyword).length + (if ([] : List Keyword).isEmpty then 0 else 1) < 30)) = true := by rfl)
    (hline : (apos.endLine == cpos.line) = true := by rfl) (hs : starEach [e] X.env = (false, eval e X.env) :: starEach [] X.env := by rfl) (hplain : (backTo cpos (starEach [] X.env)).any (·.1) = false := by rfl) :
    EE X T tb (.Call (.Attribute (.Name x p) "pop" apos) [e] [] cpos) (popAtM i m) :=
  imp_e (pe_bm PySem.F.plainAttrs_list PySem.F.slot_list_pop PySem.F.type_list_pop mt_popAt (pe_var hN hv hd hcd) (pa_cons he pa_nil hs) hbase hfew hline hs hplain) fun σ H Q h => by
  obtain ⟨E, O, s, d, s', sm, hm, q⟩ := h
  obtain ⟨ds0, h0, hm⟩ := Option.bind_eq_some_iff.mp hm
  obtain ⟨⟨dk, s1⟩, h1, hm⟩ := Option.bind_eq_some_iff.mp hm
  obtain ⟨ds, h2, hm⟩ := Option.bind_eq_some_iff.mp hm
  obtain ⟨k, h3, hm⟩ := Option.bind_eq_some_iff.mp hm
  obtain ⟨j, h4, hm⟩ := Option.bind_eq_some_iff.mp hm
  obtain ⟨d', h5, hm⟩ := Option.bind_eq_some_iff.mp hm
  split at hm
  · next hl =>
    cases hm
    have hl : ds.length ≤ 1000000 := by simpa [Nat.ble_eq] using hl
    obtain ⟨a, vs0, g1, g2, _⟩ := sm.lset (es := []) (olAt_some h0)
    refine ⟨_, g1, tyL g2, E, O, s, dk, s1, sm, h1, fun v H' O' st sm' r => ?_⟩
    obtain ⟨a', vs, e1, e2, e3, e4⟩ := sm'.lset (es := ds.eraseIdx j) (olAt_some h2)
    rw [g1] at e1
    cases e1
    obtain ⟨sm2, st2⟩ := e4 (vs.eraseIdx j) (e3.erase j)
    obtain ⟨b1, b2, b3, b4⟩ := ixN_seq h4
    obtain ⟨w, w1, w2⟩ := e3.get h5
    have hlen := e3.length
    refine ⟨a, vs, k, j, w, rfl, ?_, e2, by omega, by omega, by rw [hlen]; exact b1, w1, q w _ O' (st.trans st2) sm2 (w2.step st2)⟩
    rw [Rp.intD (.inl r) h3]
  · cases hm
end
end Y

open PySem PySem.Spec PyProof.Rows L2
namespace PySem
/-! ## enumerate(a tuple) -/
theorem y_enumNewT (l : Addr) (items : Array Value) (n : Nat) (dct : Option Addr) (sl : Array (Option Value)) :
    Meets (Builtin.«enumerate.__new__» ⟨[.type "enumerate", .ref l], []⟩) (fun _ R s => s.heap.get? l = some { cls := .type "tuple", dict := dct, data := .seq items n, slots := sl } ∧
      R (.ok (.ret (.ref (s.heap.push { cls := .type "tuple_iterator", data := .fields #[.ref l, .int 0 0] }).objs.size)))
        { s with heap := (s.heap.push { cls := .type "tuple_iterator", data := .fields #[.ref l, .int 0 0] }).push { cls := .type "enumerate", data := .fields #[.none, .bool false, .ref s.heap.objs.size, rawInt 0, .none, .none] } }) :=
  .of_wp fun prog w A R s h => by
    obtain ⟨hp, g, d, tk, os⟩ := s
    obtain ⟨hl, h⟩ := h
    have hsub := sub_enumerate
    have isT : Heap.IsTuple (Shared.heap ⟨hp, g, d, tk, os⟩) l items := ⟨_, hl, rfl, n, rfl⟩
    wp_walk using AutoSeq1.wpAny_loadPart' hl
    refine wpAny_stack_any fun st => wpAny_pure ?_
    split
    · next c _ _ _ _ _ =>
      cases (c == Value.type "enumerate") <;> (wp_walk using AutoSeq1.wpAny_loadPart' hl, wpAny_pyIter_tuple isT; exact ⟨_, rfl, h⟩)
    · wp_walk using AutoSeq1.wpAny_loadPart' hl, wpAny_pyIter_tuple isT
      exact ⟨_, rfl, h⟩
section
variable {prog : Program} {w : World} {A : Around} {E : Value → Shared → Prop} {s : Shared}
theorem y_callEnumT {l : Addr} {items : Array Value} {Q : Value → Shared → Prop} (hL : s.heap.IsTuple l items)
    (h : ∀ h', IsEnum h' (s.heap.objs.size + 1) s.heap.objs.size 0 .none → h'.IsTupleIter s.heap.objs.size l 0 → (∀ b o, s.heap.get? b = some o → h'.get? b = some o) → Q (.ref (s.heap.objs.size + 1)) { s with heap := h' }) :
    wpAny (model prog w) A (call (.type "enumerate") [.ref l]) Q E s := by
  obtain ⟨⟨c, dct, dt, sl⟩, hl, hc, n, hd⟩ := hL
  obtain rfl : c = .type "tuple" := hc
  obtain rfl : dt = .seq items n := hd
  refine callType_new F.called_enumerate (by decide) (F.typeCall_enumerate_1 _) (F.newCall_enumerate_1 _) (fun obj => F.args_object_init_2 obj _) F.entry_enumerate_new (y_enumNewT l items n dct sl) ⟨hl, ?_⟩
  have hz : (s.heap.push { cls := .type "tuple_iterator", data := .fields #[.ref l, .int 0 0] }).objs.size = s.heap.objs.size + 1 := Heap.size_push ..
  show _ ∧ _
  rw [hz]
  have top := Heap.get?_push_size (s.heap.push { cls := .type "tuple_iterator", data := .fields #[.ref l, .int 0 0] }) (o := { cls := .type "enumerate", data := .fields #[.none, .bool false, .ref s.heap.objs.size, rawInt 0, .none, .none] }) rfl
  rw [hz] at top
  have he : IsEnum ((s.heap.push { cls := .type "tuple_iterator", data := .fields #[.ref l, .int 0 0] }).push { cls := .type "enumerate", data := .fields #[.none, .bool false, .ref s.heap.objs.size, rawInt 0, .none, .none] }) (s.heap.objs.size + 1) s.heap.objs.size 0 .none := top
  exact ⟨⟨_, he, rfl⟩, h _ he ⟨_, Heap.get?_push_of_some _ (Heap.get?_push_size _ rfl), rfl, rfl⟩ fun b o x => Heap.get?_push_of_some _ (Heap.get?_push_of_some _ x)⟩
end
end PySem
namespace Y
def IteT (K : PySem.W.Frag) (a : Addr) (n : Nat) : It :=
  ⟨fun i H => i < n ∧ ∃ (xs : List V) (x : V), SqT K H a xs ∧ xs[i]? = some x, fun i H v H' => ∃ T x, v = .ref T ∧ H T = none ∧ H' = upd H T (.tup [.int (i : Nat), x]) ∧ ∀ xs, SqT K H a xs → xs[i]? = some x, fun i H => n ≤ i ∧ ∃ xs : List V, SqT K H a xs ∧ xs.length = n⟩
theorem turn_enumT {P : Program} {w : World} {K : PySem.W.Frag} {elts : List Expr} {kk : Nat} {tpos : Pos} (a e it : Addr) (n : Nat) :
    Turn P w K (.Tuple elts kk tpos) (IteT K a n) [e, it] e (fun i h => (∃ old, IsEnum h e it ((i : Nat) : Int) old) ∧ h.IsTupleIter it a i ∧ e ≠ it ∧ i ≤ n) where
  mem := by simp
  obj := fun i h st b hb => by
    obtain ⟨⟨old, he⟩, ⟨o, ho, hc, hd⟩, _⟩ := st
    rcases (by simpa using hb : b = e ∨ b = it) with rfl | rfl
    · exact ⟨_, he, fun v q => nomatch q⟩
    · exact ⟨o, ho, fun v q => by rw [hd] at q; cases q⟩
  keep := fun i h h' st k => ⟨st.1.imp fun old he => k e (by simp) _ he, st.2.1.at fun o q => k it (by simp) o q, st.2.2⟩
  item := by
    intro X hP hw hK hc i pins s σ H E I hf st hg
    subst hP hw hK
    obtain ⟨⟨old, he⟩, hit, hne, hle⟩ := st
    obtain ⟨hin, xs, x, hq, hx⟩ := hg
    obtain ⟨its, rv, p, hz⟩ := I.tuple hq
    have hel : e < s.heap.objs.size := Heap.lt_size he
    have hil : it < s.heap.objs.size := by obtain ⟨_, q, _⟩ := hit; exact Heap.lt_size q
    have ait : a ≠ it := fun z => by
      obtain ⟨o1, q1, c1, _⟩ := hit
      obtain ⟨o2, q2, c2, _⟩ := p
      rw [z, q1] at q2
      cases q2
      rw [c1] at c2
      exact absurd c2 (by decide)
    have ae : a ≠ e := fun z => by
      obtain ⟨o2, q2, c2, _⟩ := p
      rw [z, he] at q2
      cases q2
      exact absurd (show Value.type "enumerate" = Value.type "tuple" from c2) (by decide)
    have hlt : i < its.toArray.size := by
      have := (List.getElem?_eq_some_iff.mp hx).1
      rw [List.size_toArray, ← rv.length]; exact this
    refine wpAny_pyNext_enum_itemD (Draws.tuple (prog := X.prog) (w := X.w) (A := X.A.in1) (I.ok.hd hc) it a ait its.toArray) he ⟨hit, p⟩ hlt hne (by simp only [List.mem_cons, List.not_mem_nil, or_false, not_or]; exact ⟨hne, Ne.symm ae⟩) fun u h' tk hu ho st' hT hsz hk => ?_
    obtain ⟨u', hu', ru⟩ := rv.get hx
    have eu : u = u' := by
      have : its.toArray[i]? = some u' := by simpa using hu'
      rw [hu] at this
      exact Option.some.inj this
    subst eu
    refine ⟨_, rfl, wpAny_letOwnedTupleGo_enum (s := { s with heap := h', toks := tk + 1 }) ho fun h'' he' sb => ?_⟩
    have hT2 : h''.get? s.heap.objs.size = some { cls := .type "tuple", data := .seq #[.int i tk, u] } := (sb.2 _ (Nat.ne_of_gt hel)).trans hT
    have new : ObjOk X.prog X.w (upd H s.heap.objs.size (.tup [.int (i : Nat), x])) h'' s.heap.objs.size (.tup [.int (i : Nat), x]) :=
      ⟨by show 2 ≤ sizeLine; decide, [.int i tk, u], .cons ⟨_, rfl⟩ (.cons ru .nil), ⟨_, hT2, rfl, _, rfl⟩⟩
    have I1 : Inv X pins σ (upd H s.heap.objs.size (.tup [.int (i : Nat), x])) { s with heap := h'', toks := tk + 1 } :=
      I.turnedNew (t' := tk + 1) (ch := [e, it]) (fun b ob hb q => (sb.2 b (fun z => hb (by simp [z]))).trans (hk b ob (fun z => hb (by simp [z])) (fun z => hb (by simp [z])) q)) hf (Nat.le_refl _) new
    refine ⟨.ref s.heap.objs.size, _, I1, rfl, ⟨_, x, rfl, I.hok.fresh (Nat.le_refl _), rfl, fun ys hy => by rw [I.tuple_inj hy hq]; exact hx⟩, ⟨⟨u, ?_⟩, st'.1.at fun o q => (sb.2 it (Ne.symm hne)).trans q, hne, hin⟩, fun b hb => ?_⟩
    · rw [show ((i + 1 : Nat) : Int) = (i : Int) + 1 from rfl]
      exact he'
    · have lt : b < s.heap.objs.size := by rcases (by simpa using hb : b = e ∨ b = it) with rfl | rfl <;> assumption
      rw [upd_ne (Nat.ne_of_lt lt)]
      exact (hf b hb).1
  done := by
    intro X hP hw hK hc i pins s σ H E I hf st hg
    subst hP hw hK
    obtain ⟨⟨old, he⟩, hit, hne, hle⟩ := st
    obtain ⟨hin, xs, hq, hx⟩ := hg
    obtain ⟨its, rv, p, hz⟩ := I.tuple hq
    obtain ⟨f0, f1, f2, f3, f4, f5⟩ := hf it (by simp)
    have ait : a ≠ it := fun z => by
      obtain ⟨o1, q1, c1, _⟩ := hit
      obtain ⟨o2, q2, c2, _⟩ := p
      rw [z, q1] at q2
      cases q2
      rw [c1] at c2
      exact absurd c2 (by decide)
    have en : its.toArray.size = i := by rw [List.size_toArray, ← rv.length]; omega
    refine wpAny_pyNext_enum_endD (Draws.tuple (prog := X.prog) (w := X.w) (A := X.A.in1) (I.ok.hd hc) it a ait its.toArray) he ⟨by rw [en]; exact hit, p⟩ fun h' eb => ?_
    exact ⟨rfl, I.turned (t' := s.toks) (fun b o hb q => eb b o hb q) f0 f1 f3 f4 f5⟩
  self := fun A i s Q E st h => let ⟨⟨_, he⟩, _⟩ := st; wpAny_pyIter_enum he h
def iEnumT (K : PySem.W.Frag) (ta : TA) : TI := fun σ H R => ta σ H fun vs H1 => ∃ a xs, vs = [.ref a] ∧ SqT K H1 a xs ∧ R (IteT K a xs.length) H1
theorem pi_enumT {X : Cx} {e : Expr} {ta : TA} {p pos tpos : Pos} {elts : List Expr} {kk : Nat} (hg : Gl X "enumerate") (hm : X.mg "enumerate" = none) (ha : PA X [e] ta) (hs : starEach [e] X.env = [(false, eval e X.env)] := by rfl) :
    PI X (.Tuple elts kk tpos) (.Call (.Name "enumerate" p) [e] [] pos) (iEnumT X.K ta) := by
  refine ⟨fun pins s σ H R I h => ?_⟩
  refine Call_ (ld_blt I hg hm boot_enumerate (PyProof.Rows.callWith_type1 (thn (ha.run pos pins s σ H _ I h) fun us s1 ⟨vs, H1, I1, r1, q1⟩ => ?_) hs rfl))
  obtain ⟨a, xs, rfl, hq, q⟩ := q1
  obtain ⟨u, rfl, ru⟩ := vals1 r1
  obtain rfl : u = Value.ref a := ru
  obtain ⟨its, rv, p', hz⟩ := I1.tuple hq
  refine y_callEnumT p' fun h' he hit hk => wpAny_pyIter_enum he ?_
  have I2 : Inv X pins σ H1 { s1 with heap := h' } := I1.kept (t' := s1.toks) hk
  refine ⟨s1.heap.objs.size + 1, [s1.heap.objs.size + 1, s1.heap.objs.size], _, _, H1, rfl, I2, turn_enumT a (s1.heap.objs.size + 1) s1.heap.objs.size xs.length, ⟨⟨.none, he⟩, hit, Nat.succ_ne_self _, Nat.zero_le _⟩, fun b hb => ?_, q⟩
  have hle : s1.heap.objs.size ≤ b := by
    rcases (by simpa using hb : b = s1.heap.objs.size + 1 ∨ b = s1.heap.objs.size) with rfl | rfl
    · exact Nat.le_add_right _ _
    · exact Nat.le_refl _
  exact I1.fpOk hle (I1.hok.fresh hle)
theorem walk_enumT {K : Fg} {O : List Addr} {H1 : Hp} {a : Addr} {xs : List V} {ds : List D} (h : SqT K H1 a xs) (r : Rps K O H1 xs ds) : WalkS true K (IteT K a xs.length) O H1 (enumL 0 ds) := fun i tb O2 H st => by
  have h2 : SqT K H a xs := sqT_kept (fun a o e m t => st.keep a o e (fun _ => m) fun _ => t) h
  have hl := r.length
  refine ⟨fun d hd => ?_, fun hn => ⟨by rw [hl, ← enumL_length ds 0]; exact hn, xs, h2, rfl⟩⟩
  obtain ⟨d', h3, rfl⟩ := enumL_get ds 0 i d hd
  obtain ⟨v, h4, h5⟩ := r.get h3
  refine ⟨⟨(List.getElem?_eq_some_iff.mp h4).1, xs, v, h2, h4⟩, fun x H' y => ?_⟩
  obtain ⟨T, x', rfl, hT, rfl, y⟩ := y
  have y1 := y xs h2
  rw [h4] at y1
  cases y1
  rw [Nat.zero_add]
  exact rv_tupNew hT (.int _) (h5.step st)
def tupOf : D → Option (List D)
  | .tuple ds => some ds
  | _ => none
theorem tupOf_some {d : D} {ds : List D} (h : tupOf d = some ds) : d = .tuple ds := by
  cases d <;> simp [tupOf] at h
  rw [h]
def enumTM (a : S → Option D) : S → Option (List D) := fun s => (a s).bind fun d => (tupOf d).map (enumL 0)
def enumTE (a : S → Option (D × S)) : S → Option (List D × S) := fun s => (a s).bind fun p => (tupOf p.1).map fun ds => (enumL 0 ds, p.2)
section
variable {X : Cx} {T : List (Addr × Str)} {tb pw : Bool}
theorem qi_enumT {e : Expr} {k : Kd} {m : S → Option D} {p pos tpos : Pos} {elts : List Expr} {kk : Nat} (hg : Gl X "enumerate") (hm : X.mg "enumerate" = none) (he : QE X T tb k e m) (hs : starEach [e] X.env = [(false, eval e X.env)] := by rfl) : QI X T tb true (.Tuple elts kk tpos) (.Call (.Name "enumerate" p) [e] [] pos) (enumTM m) := ⟨imp_i (pi_enumT hg hm (pa_cons he pa_nil hs) hs) fun σ H R q => by
  obtain ⟨E, O, s, ds, sm, hm, k⟩ := q
  obtain ⟨d, hd, hm⟩ := Option.bind_eq_some_iff.mp hm
  obtain ⟨xs, hx, rfl⟩ := Option.map_eq_some_iff.mp hm
  obtain rfl := tupOf_some hx
  refine ⟨E, O, s, _, sm, hd, fun v H' e r => ?_⟩
  obtain ⟨a, vs, rfl, h1, h2⟩ := r.toR.tuple
  exact ⟨a, vs, rfl, h1, k _ H' e (walk_enumT h1 h2).q⟩⟩
theorem ei_enumT {e : Expr} {m : S → Option (D × S)} {p pos tpos : Pos} {elts : List Expr} {kk : Nat} (hg : Gl X "enumerate") (hm : X.mg "enumerate" = none) (he : EE X T tb e m) (hs : starEach [e] X.env = [(false, eval e X.env)] := by rfl) : EI X T tb true (.Tuple elts kk tpos) (.Call (.Name "enumerate" p) [e] [] pos) (enumTE m) := imp_i (pi_enumT hg hm (pa_cons he pa_nil hs) hs) fun σ H R q => by
  obtain ⟨E, O, s, ds, s', sm, hm, k⟩ := q
  obtain ⟨⟨d, s1⟩, hd, hm⟩ := Option.bind_eq_some_iff.mp hm
  obtain ⟨xs, hx, hm⟩ := Option.map_eq_some_iff.mp hm
  cases hm
  obtain rfl := tupOf_some hx
  refine ⟨E, O, s, _, s1, sm, hd, fun v H' O' st sm' r => ?_⟩
  obtain ⟨a, vs, rfl, h1, h2⟩ := r.ref_tuple
  exact ⟨a, vs, rfl, h1, k _ H' O' st sm' (walk_enumT h1 h2)⟩
end
end Y

namespace Y
open PySem PySem.Spec PyProof.Rows L2

/-! ## list(range(..)), tuple(range(..)), sorted -/
def rngD (a b : Int) : List D := (List.range (b - a).toNat).map fun i => .int (a + (i : Nat))
def rgOk (a b : Int) : Bool := Nat.ble a.natAbs 1000000 && Nat.ble b.natAbs 1000000
theorem rgOk_ok {a b : Int} (h : rgOk a b = true) : RgOk a b := by
  unfold rgOk at h
  rw [Bool.and_eq_true, Nat.ble_eq, Nat.ble_eq] at h
  exact ⟨by omega, by omega, by omega, by omega, by omega⟩
theorem rps_rng {K : Fg} {O : List Addr} {H : Hp} (a b : Int) : Rps K O H (rgV a b) (rngD a b) := by
  unfold rgV rngD
  induction List.range (b - a).toNat with
  | nil => exact .nil
  | cons x l ih => exact .cons (.int _) ih
def rgL1 (m : S → Option D) : S → Option D := fun s => (m s).bind fun x => (intD x).bind fun n => if rgOk 0 n = true then some (.list (rngD 0 n)) else none
def rgL2 (m n : S → Option D) : S → Option D := fun s => (m s).bind fun x => (n s).bind fun y => (intD x).bind fun a => (intD y).bind fun b => if rgOk a b = true then some (.list (rngD a b)) else none
def rgT1 (m : S → Option D) : S → Option D := fun s => (m s).bind fun x => (intD x).bind fun n => if rgOk 0 n = true then some (.tuple (rngD 0 n)) else none
def rgT2 (m n : S → Option D) : S → Option D := fun s => (m s).bind fun x => (n s).bind fun y => (intD x).bind fun a => (intD y).bind fun b => if rgOk a b = true then some (.tuple (rngD a b)) else none
/-- ints in rising order -/
def insI (x : Int) : List Int → List Int
  | [] => [x]
  | y :: ys => if x ≤ y then x :: y :: ys else y :: insI x ys
def sortI : List Int → List Int
  | [] => []
  | x :: xs => insI x (sortI xs)
def sortedD : List D → Option D
  | [.list ds] => (intsD ds).map fun ns => .list ((sortI ns).map PyData.int)
  | _ => none
section
variable {X : Cx} {T : List (Addr × Str)} {tb : Bool}
def tTupRgZ (te : L2.St → Hp → (Int → Int → Hp → Prop) → Prop) : TE := fun σ H Q => te σ H fun a b H1 => RgOk a b ∧ NewT H1 (rgV a b) Q
theorem pe_tupRgZ {e : Expr} {te : L2.St → Hp → (Int → Int → Hp → Prop) → Prop} {p pos : Pos} (hc : X.calm = true) (hg : Gl X "tuple") (hm : X.mg "tuple" = none) (he : PRg X e te) (na : starEach [e] X.env = (false, eval e X.env) :: starEach [] X.env := by rfl) : PE X (.Call (.Name "tuple" p) [e] [] pos) (tTupRgZ te) := ⟨fun pins s σ H Q I h => by
  refine Call_ (ld_blt I hg hm boot_tuple (PyProof.Rows.callWith_type1 (args_cons (thn (he pins s σ H _ I h) fun x s1 q0 => args_nil ?_) na) na))
  obtain ⟨r, a, b, t, u, v, H1, ex, hr, I1, ok, q⟩ := q0
  subst ex
  refine call_tuple_range (n := (b - a).toNat) (I1.ok.hd hc) hr (small_one ok.1 ok.2.1 ok.2.2.1 ok.2.2.2.1) (rangeSize_nat a b) ok.2.2.2.2 fun h' tk acc hk hi => ?_
  exact laidZ (s := { s1 with heap := h', toks := tk }) (I1.kept (t' := tk) hk) (vals_rg hi) (by rw [rgV_length, sizeLine_eq]; have := ok.2.2.2.2; omega) q⟩
theorem q_rgL1 {a : Expr} {k : Kd} {m : S → Option D} {p p2 pos pos2 : Pos} (hc : X.calm = true) (hg : Gl X "list") (hm : X.mg "list" = none) (hg2 : Gl X "range") (hm2 : X.mg "range" = none) (ha : QE X T tb k a m)
    (na : starEach [a] X.env = (false, eval a X.env) :: starEach [] X.env := by rfl) (nb : starEach [.Call (.Name "range" p2) [a] [] pos2] X.env = (false, eval (.Call (.Name "range" p2) [a] [] pos2) X.env) :: starEach [] X.env := by rfl) :
    QE X T tb .o (.Call (.Name "list" p) [.Call (.Name "range" p2) [a] [] pos2] [] pos) (rgL1 m) := imp_e (pe_listRg hc hg hm (prg_1 hg2 hm2 ha na) nb) fun σ H Q h => by
  obtain ⟨E, O, s, d, sm, hm, q⟩ := h
  obtain ⟨x, hx, hm⟩ := Option.bind_eq_some_iff.mp hm
  obtain ⟨n, hn, hm⟩ := Option.bind_eq_some_iff.mp hm
  split at hm
  · next ok =>
    cases hm
    refine ⟨E, O, s, x, sm, hx, fun v H1 e1 r1 => ⟨n, Rp.intD r1.toR hn, rgOk_ok ok, fun b hb => ?_⟩⟩
    exact q _ _ (e1.trans (Ex.new hb)) ⟨b, _, _, rfl, rfl, e1.back hb, fun m => sm.dom b m (e1.back hb), upd_same, rps_rng _ _⟩
  · cases hm
theorem q_rgT1 {a : Expr} {k : Kd} {m : S → Option D} {p p2 pos pos2 : Pos} (hc : X.calm = true) (hg : Gl X "tuple") (hm : X.mg "tuple" = none) (hg2 : Gl X "range") (hm2 : X.mg "range" = none) (ha : QE X T tb k a m)
    (na : starEach [a] X.env = (false, eval a X.env) :: starEach [] X.env := by rfl) (nb : starEach [.Call (.Name "range" p2) [a] [] pos2] X.env = (false, eval (.Call (.Name "range" p2) [a] [] pos2) X.env) :: starEach [] X.env := by rfl) :
    QE X T tb .i (.Call (.Name "tuple" p) [.Call (.Name "range" p2) [a] [] pos2] [] pos) (rgT1 m) := imp_e (pe_tupRgZ hc hg hm (prg_1 hg2 hm2 ha na) nb) fun σ H Q h => by
  obtain ⟨E, O, s, d, sm, hm, q⟩ := h
  obtain ⟨x, hx, hm⟩ := Option.bind_eq_some_iff.mp hm
  obtain ⟨n, hn, hm⟩ := Option.bind_eq_some_iff.mp hm
  split at hm
  · next ok =>
    cases hm
    refine ⟨E, O, s, x, sm, hx, fun v H1 e1 r1 => ⟨n, Rp.intD r1.toR hn, rgOk_ok ok, fun b ob hb hd => ?_⟩⟩
    exact q _ _ (e1.trans (Ex.new hb)) (.tup ⟨ob, upd_same, hd⟩ (rps_rng _ _))
  · cases hm
theorem q_rgL2 {a c : Expr} {k kc : Kd} {m n : S → Option D} {p p2 pos pos2 : Pos} (hc : X.calm = true) (hg : Gl X "list") (hm : X.mg "list" = none) (hg2 : Gl X "range") (hm2 : X.mg "range" = none) (ha : QE X T tb k a m) (hb : QE X T tb kc c n)
    (na : starEach [a, c] X.env = (false, eval a X.env) :: starEach [c] X.env := by rfl) (nc : starEach [c] X.env = (false, eval c X.env) :: starEach [] X.env := by rfl) (hp : (backTo pos2 (starEach [c] X.env)).any (·.1) = false := by rfl)
    (nb : starEach [.Call (.Name "range" p2) [a, c] [] pos2] X.env = (false, eval (.Call (.Name "range" p2) [a, c] [] pos2) X.env) :: starEach [] X.env := by rfl) :
    QE X T tb .o (.Call (.Name "list" p) [.Call (.Name "range" p2) [a, c] [] pos2] [] pos) (rgL2 m n) := imp_e (pe_listRg hc hg hm (prg_2 hg2 hm2 ha hb na nc hp) nb) fun σ H Q h => by
  obtain ⟨E, O, s, d, sm, hm, q⟩ := h
  obtain ⟨x, hx, hm⟩ := Option.bind_eq_some_iff.mp hm
  obtain ⟨y, hy, hm⟩ := Option.bind_eq_some_iff.mp hm
  obtain ⟨i, hi, hm⟩ := Option.bind_eq_some_iff.mp hm
  obtain ⟨j, hj, hm⟩ := Option.bind_eq_some_iff.mp hm
  split at hm
  · next ok =>
    cases hm
    refine ⟨E, O, s, x, sm, hx, fun v H1 e1 r1 => ⟨E, O, s, y, sm.ext e1, hy, fun w H2 e2 r2 => ⟨i, j, Rp.intD r1.toR hi, Rp.intD r2.toR hj, rgOk_ok ok, fun b hb => ?_⟩⟩⟩
    have e3 := e1.trans e2
    exact q _ _ (e3.trans (Ex.new hb)) ⟨b, _, _, rfl, rfl, e3.back hb, fun m => sm.dom b m (e3.back hb), upd_same, rps_rng _ _⟩
  · cases hm
theorem q_rgT2 {a c : Expr} {k kc : Kd} {m n : S → Option D} {p p2 pos pos2 : Pos} (hc : X.calm = true) (hg : Gl X "tuple") (hm : X.mg "tuple" = none) (hg2 : Gl X "range") (hm2 : X.mg "range" = none) (ha : QE X T tb k a m) (hb : QE X T tb kc c n)
    (na : starEach [a, c] X.env = (false, eval a X.env) :: starEach [c] X.env := by rfl) (nc : starEach [c] X.env = (false, eval c X.env) :: starEach [] X.env := by rfl) (hp : (backTo pos2 (starEach [c] X.env)).any (·.1) = false := by rfl)
    (nb : starEach [.Call (.Name "range" p2) [a, c] [] pos2] X.env = (false, eval (.Call (.Name "range" p2) [a, c] [] pos2) X.env) :: starEach [] X.env := by rfl) :
    QE X T tb .i (.Call (.Name "tuple" p) [.Call (.Name "range" p2) [a, c] [] pos2] [] pos) (rgT2 m n) := imp_e (pe_tupRgZ hc hg hm (prg_2 hg2 hm2 ha hb na nc hp) nb) fun σ H Q h => by
  obtain ⟨E, O, s, d, sm, hm, q⟩ := h
  obtain ⟨x, hx, hm⟩ := Option.bind_eq_some_iff.mp hm
  obtain ⟨y, hy, hm⟩ := Option.bind_eq_some_iff.mp hm
  obtain ⟨i, hi, hm⟩ := Option.bind_eq_some_iff.mp hm
  obtain ⟨j, hj, hm⟩ := Option.bind_eq_some_iff.mp hm
  split at hm
  · next ok =>
    cases hm
    refine ⟨E, O, s, x, sm, hx, fun v H1 e1 r1 => ⟨E, O, s, y, sm.ext e1, hy, fun w H2 e2 r2 => ⟨i, j, Rp.intD r1.toR hi, Rp.intD r2.toR hj, rgOk_ok ok, fun b ob hb hd => ?_⟩⟩⟩
    have e3 := e1.trans e2
    exact q _ _ (e3.trans (Ex.new hb)) (.tup ⟨ob, upd_same, hd⟩ (rps_rng _ _))
  · cases hm
theorem insI_perm (x : Int) : ∀ l : List Int, (insI x l).Perm (x :: l)
  | [] => .refl _
  | y :: ys => by
    unfold insI
    split
    · exact .refl _
    · exact ((insI_perm x ys).cons y).trans (.swap x y ys)
theorem sortI_perm : ∀ l : List Int, (sortI l).Perm l
  | [] => .refl _
  | x :: xs => (insI_perm x _).trans ((sortI_perm xs).cons x)
theorem insI_sorted (x : Int) : ∀ l : List Int, l.Pairwise (· ≤ ·) → (insI x l).Pairwise (· ≤ ·)
  | [], _ => by simp [insI]
  | y :: ys, h => by
    unfold insI
    have h' := List.pairwise_cons.mp h
    split
    · next c => exact List.pairwise_cons.mpr ⟨fun z hz => by
        rcases List.mem_cons.mp hz with rfl | hz
        · exact c
        · exact Int.le_trans c (h'.1 z hz), h⟩
    · next c => exact List.pairwise_cons.mpr ⟨fun z hz => by
        rcases List.mem_cons.mp ((insI_perm x ys).mem_iff.mp hz) with rfl | hz
        · omega
        · exact h'.1 z hz, insI_sorted x ys h'.2⟩
theorem sortI_sorted : ∀ l : List Int, (sortI l).Pairwise (· ≤ ·)
  | [] => List.Pairwise.nil
  | x :: xs => insI_sorted x _ (sortI_sorted xs)
theorem sorted_uniq : ∀ {l m : List Int}, l.Perm m → l.Pairwise (· ≤ ·) → m.Pairwise (· ≤ ·) → l = m
  | [], m, p, _, _ => (List.Perm.nil_eq p)
  | x :: xs, [], p, _, _ => absurd p.length_eq (by simp)
  | x :: xs, y :: ys, p, h1, h2 => by
    have a := List.pairwise_cons.mp h1
    have b := List.pairwise_cons.mp h2
    have e : x = y := by
      have m1 : x ∈ y :: ys := p.mem_iff.mp List.mem_cons_self
      have m2 : y ∈ x :: xs := p.mem_iff.mpr List.mem_cons_self
      rcases List.mem_cons.mp m1 with h | h
      · exact h
      · rcases List.mem_cons.mp m2 with h' | h'
        · exact h'.symm
        · have := a.1 y h'
          have := b.1 x h
          omega
    subst e
    rw [sorted_uniq ((List.perm_cons x).mp p) a.2 b.2]
theorem cs_sorted : CallS X (.builtin "sorted") .o sortedD := ⟨_, cr_sortedI, fun O H xs ds d Q dom r e k => by
  unfold sortedD at e
  split at e
  · next dl =>
    obtain ⟨ns, h1, h2⟩ := Option.map_eq_some_iff.mp e
    cases h2
    obtain rfl := intsD_some h1
    obtain ⟨x, rfl, rx⟩ := rrs1 r
    obtain ⟨a, vs, rfl, h3, h4⟩ := rx.list
    refine ⟨a, ns, rfl, by rw [← rps_ints h4]; exact SqL.of h3, fun ns' p pm srt hp => ?_⟩
    rw [sorted_uniq (pm.trans (sortI_perm ns).symm) srt (sortI_sorted ns)]
    exact k _ _ (Ex.new hp) ⟨p, _, _, rfl, rfl, hp, fun m => dom p m hp, upd_same, rps_of_ints _⟩
  · cases e⟩
end
end Y

namespace Y
open PySem PySem.Spec PyProof.Rows L2

/-! ## dicts: reading -/
def flatK : D → Option Key
  | .int i => some (.inl i)
  | .str x => some (.inr x)
  | _ => none
def ksOf : List D → Option (List Key)
  | [] => some []
  | d :: ds => (flatK d).bind fun k => (ksOf ds).map (k :: ·)
/-- may x be a key of such a dict? -/
def keyOk : Bool → D → Bool
  | false, x => (flatK x).isSome
  | true, .tuple ds => !zmode && (ksOf ds).isSome
  | true, _ => false
def isT : List (D × D) → Bool
  | (.none, _) :: _ => true
  | _ => false
def findK (kvs : List (D × D)) (x : D) : Option D := (kvs.find? fun p => deq p.1 x).map (·.2)
def dgetD : D → D → Option D
  | .dict kvs, x => if keyOk (isT kvs) x = true then findK kvs x else none
  | _, _ => none
def dinD (neg : Bool) : D → D → Option D
  | x, .dict kvs => if keyOk (isT kvs) x = true then some (.bool (xor neg (findK kvs x).isSome)) else none
  | _, _ => none
def dget1D : D → D → Option D
  | .dict kvs, x => if keyOk (isT kvs) x = true then some ((findK kvs x).getD .none) else none
  | _, _ => none
def dget2D : D → D → D → Option D
  | .dict kvs, x, y => if keyOk (isT kvs) x = true then some ((findK kvs x).getD y) else none
  | _, _, _ => none
theorem flatK_some {x : D} {k : Key} (h : flatK x = some k) : x = kD k := by
  cases x <;> simp [flatK] at h <;> subst h <;> rfl
theorem ksOf_some : ∀ {ds : List D} {ks : List Key}, ksOf ds = some ks → ds = ks.map kD
  | [], ks, h => by cases h; rfl
  | d :: ds, ks, h => by
    obtain ⟨k, h1, h2⟩ := Option.bind_eq_some_iff.mp h
    obtain ⟨ks', h3, rfl⟩ := Option.map_eq_some_iff.mp h2
    rw [flatK_some h1, ksOf_some h3]; rfl
theorem kD_inj {a b : Key} (h : kD a = kD b) : a = b := by
  cases a <;> cases b <;> simp [kD] at h <;> rw [h]
theorem kDs_inj : ∀ {a b : List Key}, a.map kD = b.map kD → a = b
  | [], [], _ => rfl
  | [], _ :: _, h => by cases h
  | _ :: _, [], h => by cases h
  | x :: xs, y :: ys, h => by
    simp only [List.map_cons, List.cons.injEq] at h
    rw [kD_inj h.1, kDs_inj h.2]
theorem nd_kD (k : Key) : noDict (kD k) = true := by cases k <;> rfl
theorem nd_kDs (k : List Key) : noDicts (k.map kD) = true := by
  induction k with
  | nil => rfl
  | cons x xs ih => simp [noDicts, nd_kD, ih]
theorem deq_kD (a b : Key) : deq (kD a) (kD b) = decide (a = b) := by
  by_cases h : a = b
  · subst h; rw [decide_eq_true rfl]; exact deq_refl _ (nd_kD a)
  · rw [decide_eq_false h]
    cases e : deq (kD a) (kD b) with
    | false => rfl
    | true => exact absurd (kD_inj (deq_eq e)) h
theorem deq_kDs (a b : List Key) : deq (kDs a) (kDs b) = decide (a = b) := by
  by_cases h : a = b
  · subst h; rw [decide_eq_true rfl]; exact deq_refl _ (by simp only [kDs, noDict]; exact nd_kDs a)
  · rw [decide_eq_false h]
    cases e : deq (kDs a) (kDs b) with
    | false => rfl
    | true =>
      have := deq_eq e
      simp only [kDs, PyData.tuple.injEq] at this
      exact absurd (kDs_inj this) h
theorem kD_val {K : Fg} {O : List Addr} {H : Hp} {v : V} {k : Key} (h : Rr K O H v (kD k)) : v = kV k := by
  cases k with
  | inl i => exact h.int
  | inr x => exact h.str
theorem kDs_vals {K : Fg} {O : List Addr} {H : Hp} : ∀ {xs : List V} {k : List Key}, Rps K O H xs (k.map kD) → xs = k.map kV
  | _, [], .nil => rfl
  | _, k :: ks, .cons h r => by rw [kD_val (.inl h), kDs_vals r]; rfl
theorem isT_dK {k : List (Key × V)} {kvs : List (D × D)} (h : k.map (fun p => kD p.1) = kvs.map (·.1)) : isT kvs = false := by
  cases kvs with
  | nil => rfl
  | cons p kvs =>
    cases k with
    | nil => cases h
    | cons q k =>
      simp only [List.map_cons, List.cons.injEq] at h
      obtain ⟨a, b⟩ := p
      obtain ⟨c, d⟩ := q
      have h1 : kD c = a := h.1
      subst h1
      cases c <;> rfl
section
variable {K : Fg} {O : List Addr} {H : Hp}
theorem val_rel {κ : Type} [DecidableEq κ] {f : κ → D} (hf : ∀ a b, deq (f a) (f b) = decide (a = b)) (key : κ) : ∀ {ks : List (κ × V)} {kvs : List (D × D)}, ks.map (fun p => f p.1) = kvs.map (·.1) → Rps K O H (ks.map (·.2)) (kvs.map (·.2)) →
    (L2.valV ks key = none ∧ findK kvs (f key) = none) ∨ ∃ v d, L2.valV ks key = some v ∧ findK kvs (f key) = some d ∧ Rp K O H v d
  | [], [], _, _ => .inl ⟨rfl, rfl⟩
  | [], _ :: _, e, _ => by cases e
  | _ :: _, [], e, _ => by cases e
  | (a, v) :: ks, (b, d) :: kvs, e, r => by
    simp only [List.map_cons, List.cons.injEq] at e r
    obtain ⟨e1, e⟩ := e
    subst e1
    cases r with
    | cons r1 r2 =>
      by_cases c : a = key
      · refine .inr ⟨v, d, ?_, ?_, r1⟩
        · simp [L2.valV, c]
        · simp [findK, List.find?_cons, hf, c]
      · have h1 : L2.valV ((a, v) :: ks) key = L2.valV ks key := by simp [L2.valV, List.find?_cons, c]
        have h2 : findK ((f a, d) :: kvs) (f key) = findK kvs (f key) := by simp [findK, List.find?_cons, hf, c]
        rw [h1, h2]
        exact val_rel hf key e r2
/-- what is got of a dict -/
theorem dget_rel {a : Addr} {o : HO} {vs : List V} {kvs : List (D × D)} {v : V} {x : D} (ha : H a = some o) (hd : DictO o (kvs.map (·.1)) vs) (r : Rps K O H vs (kvs.map (·.2))) (rx : Rr K O H v x) (hk : keyOk (isT kvs) x = true) :
    ∃ w, DGet H a v w ∧ ((w = none ∧ findK kvs x = none) ∨ ∃ u d, w = some u ∧ findK kvs x = some d ∧ Rp K O H u d) := by
  cases o with
  | dK k =>
    obtain ⟨h1, rfl⟩ := hd
    rw [isT_dK h1] at hk
    obtain ⟨key, hk⟩ := Option.isSome_iff_exists.mp (show (flatK x).isSome = true from hk)
    obtain rfl := flatK_some hk
    obtain rfl := kD_val rx
    refine ⟨_, DGet.k ha, ?_⟩
    rcases val_rel deq_kD key h1 r with h | ⟨u, d, h2, h3, h4⟩
    · exact .inl h
    · exact .inr ⟨u, d, h2, h3, h4⟩
  | dT k =>
    obtain ⟨h1, rfl⟩ := hd
    cases kvs with
    | nil => cases h1
    | cons p kvs =>
      simp only [List.map_cons, List.cons.injEq] at h1 r
      obtain ⟨b, c⟩ := p
      have h2 : b = .none := h1.1
      subst h2
      cases r with
      | cons r0 r =>
        cases x with
        | tuple ds =>
          have hk : (!zmode && (ksOf ds).isSome) = true := hk
          rw [Bool.and_eq_true, Bool.not_eq_true'] at hk
          obtain ⟨key, hk2⟩ := Option.isSome_iff_exists.mp hk.2
          obtain ⟨t, xs, rfl, ⟨ob, g, to⟩, g2⟩ := rx.tupleZ
          obtain rfl : ob = .tup xs := by
            rcases to with ⟨z, _⟩ | ⟨_, z⟩
            · rw [hk.1] at z; cases z
            · exact z
          obtain rfl := ksOf_some hk2
          obtain rfl := kDs_vals g2
          refine ⟨_, DGet.t ha g, ?_⟩
          have e : findK ((.none, c) :: kvs) (.tuple (key.map kD)) = findK kvs (kDs key) := by simp [findK, List.find?_cons, deq, kDs]
          rw [e]
          rcases val_rel deq_kDs key h1.2.symm r with h | ⟨u, d, h2, h3, h4⟩
          · exact .inl h
          · exact .inr ⟨u, d, h2, h3, h4⟩
        | _ => cases hk
  | _ => exact hd.elim
theorem Rr.isD {v : V} {kvs : List (D × D)} (h : Rr K O H v (.dict kvs)) : ∃ a, v = .ref a ∧ IsD H a := by
  obtain ⟨a, o, vs, rfl, h1, h2, _⟩ := h.dict
  cases o with
  | dK k => exact ⟨a, rfl, .inl ⟨k, .inl h1⟩⟩
  | dT k => exact ⟨a, rfl, .inr ⟨k, .inl h1⟩⟩
  | _ => exact h2.elim
end
section
variable {X : Cx} {T : List (Addr × Str)} {tb kr : Bool}
theorem q_dget (hu : X.A.units + 1 < cLine) {o e : Expr} {k k2 : Kd} {m n : S → Option D} {pos : Pos} (ho : QE X T tb k o m) (he : QE X T tb k2 e n) (hs : NoSl e := by exact fun _ _ => rfl) : QE X T tb .i (.Subscript o e pos) (op2 dgetD m n) := imp_e (pe_dget hu ho he hs) fun σ H Q h => by
  obtain ⟨E, O, s, d, sm, hm, q⟩ := h
  obtain ⟨x, hx, hm⟩ := Option.bind_eq_some_iff.mp hm
  obtain ⟨y, hy, hm⟩ := Option.bind_eq_some_iff.mp hm
  refine ⟨E, O, s, x, sm, hx, fun v H1 e1 r1 => ⟨E, O, s, y, sm.ext e1, hy, fun w H2 e2 r2 => ?_⟩⟩
  unfold dgetD at hm
  split at hm
  · split at hm
    · next c =>
      obtain ⟨a, ob, vs, rfl, h1, h2, h3⟩ := (r1.toR.ext e2).dict
      obtain ⟨u, g, ⟨_, z⟩ | ⟨u', d', rfl, z, h4⟩⟩ := dget_rel h1 h2 h3 r2.toR c
      · rw [hm] at z; cases z
      · rw [hm] at z
        cases z
        exact ⟨a, u', rfl, g, q _ _ (e1.trans e2) h4⟩
    · cases hm
  · cases hm
theorem din_read {b : Bool} {σ : L2.St} {H : Hp} {Q : VK} {k k2 : Kd} {m n : S → Option D} (h : tQ (Zo X T tb) .i (op2 (dinD b) m n) σ H Q) :
    tQ (Zo X T tb) k m σ H fun y H1 => tQ (Zo X T tb) k2 n σ H1 fun x H2 => ∃ a o, x = .ref a ∧ DGet H2 a y o ∧ Q (.bl (xor b o.isSome)) H2 := by
  obtain ⟨E, O, s, d, sm, hm, q⟩ := h
  obtain ⟨x, hx, hm⟩ := Option.bind_eq_some_iff.mp hm
  obtain ⟨y, hy, hm⟩ := Option.bind_eq_some_iff.mp hm
  refine ⟨E, O, s, x, sm, hx, fun v H1 e1 r1 => ⟨E, O, s, y, sm.ext e1, hy, fun w H2 e2 r2 => ?_⟩⟩
  unfold dinD at hm
  split at hm
  · split at hm
    · next c =>
      cases hm
      obtain ⟨a, ob, vs, rfl, h1, h2, h3⟩ := r2.toR.dict
      obtain ⟨u, g, z⟩ := dget_rel h1 h2 h3 (r1.toR.ext e2) c
      refine ⟨a, u, rfl, g, ?_⟩
      rcases z with ⟨rfl, z⟩ | ⟨u', d', rfl, z, _⟩ <;> rw [z] at q <;> exact q _ H2 (e1.trans e2) (.bl _)
    · cases hm
  · cases hm
theorem q_din (hu : X.A.units + 1 < cLine) {e o : Expr} {k k2 : Kd} {m n : S → Option D} {pos : Pos} (he : QE X T tb k e m) (ho : QE X T tb k2 o n) (hm : behindInMarks .In o = false := by rfl) :
    QE X T tb .i (.Compare e [.In] [o] pos) (op2 (dinD false) m n) := imp_e (pe_cmp (pc_din hu he ho) hm) fun σ H Q h => by
  have := din_read (k := k) (k2 := k2) h
  simp only [Bool.false_xor] at this
  exact this
theorem q_dnotin (hu : X.A.units + 1 < cLine) {e o : Expr} {k k2 : Kd} {m n : S → Option D} {pos : Pos} (he : QE X T tb k e m) (ho : QE X T tb k2 o n) (hm : behindInMarks .NotIn o = false := by rfl) :
    QE X T tb .i (.Compare e [.NotIn] [o] pos) (op2 (dinD true) m n) := imp_e (pe_cmp (pc_dnotin hu he ho) hm) fun σ H Q h => by
  have := din_read (k := k) (k2 := k2) h
  simp only [Bool.true_xor] at this
  exact this
theorem qt_din (hu : X.A.units + 1 < cLine) {e o : Expr} {k k2 : Kd} {m n : S → Option D} {pos : Pos} (he : QE X T tb k e m) (ho : QE X T tb k2 o n) (hm : behindInMarks .In o = false := by rfl) :
    QT X T tb (.Compare e [.In] [o] pos) (tvM (op2 (dinD false) m n)) := imp_t (pt_cmp (pc_din hu he ho) hm) fun σ H Q h => by
  have := din_read (k := k) (k2 := k2) (tv_one (k := .i) h)
  simp only [Bool.false_xor] at this
  exact this
theorem qt_dnotin (hu : X.A.units + 1 < cLine) {e o : Expr} {k k2 : Kd} {m n : S → Option D} {pos : Pos} (he : QE X T tb k e m) (ho : QE X T tb k2 o n) (hm : behindInMarks .NotIn o = false := by rfl) :
    QT X T tb (.Compare e [.NotIn] [o] pos) (tvM (op2 (dinD true) m n)) := imp_t (pt_cmp (pc_dnotin hu he ho) hm) fun σ H Q h => by
  have := din_read (k := k) (k2 := k2) (tv_one (k := .i) h)
  simp only [Bool.true_xor] at this
  exact this
def op3 (g : D → D → D → Option D) (a b c : S → Option D) : S → Option D := fun s => (a s).bind fun x => (b s).bind fun y => (c s).bind fun z => g x y z
theorem q_dget2 (hu : X.A.units + 1 < cLine) {o e f : Expr} {apos cpos : Pos} {k k2 k3 : Kd} {m n l : S → Option D} (ho : QE X T tb k o m) (he : QE X T tb k2 e n) (hf : QE X T tb k3 f l) (mm : M2 X o "get" apos e f cpos := by exact ⟨rfl, rfl, rfl, rfl⟩) (nk : k3 ≠ .r := by decide) :
    QE X T tb .i (.Call (.Attribute o "get" apos) [e, f] [] cpos) (op3 dget2D m n l) := imp_e (pe_dget2 hu ho he hf mm) fun σ H Q h => by
  obtain ⟨E, O, s, d, sm, hm, q⟩ := h
  obtain ⟨x, hx, hm⟩ := Option.bind_eq_some_iff.mp hm
  obtain ⟨y, hy, hm⟩ := Option.bind_eq_some_iff.mp hm
  obtain ⟨z, hz, hm⟩ := Option.bind_eq_some_iff.mp hm
  unfold dget2D at hm
  split at hm
  · split at hm
    · next c =>
      cases hm
      refine ⟨E, O, s, _, sm, hx, fun v H1 e1 r1 => ?_⟩
      obtain ⟨a, rfl, g1⟩ := r1.toR.isD
      refine ⟨a, rfl, g1, E, O, s, y, sm.ext e1, hy, fun w H2 e2 r2 => ⟨E, O, s, z, sm.ext (e1.trans e2), hz, fun u H3 e3 r3 => ?_⟩⟩
      obtain ⟨a', ob, vs, e4, h1, h2, h3⟩ := (r1.toR.ext (e2.trans e3)).dict
      cases e4
      obtain ⟨t, g, zz⟩ := dget_rel h1 h2 h3 (r2.toR.ext e3) c
      refine ⟨t, g, ?_⟩
      rcases zz with ⟨rfl, zz⟩ | ⟨u', d', rfl, zz, g4⟩
      · rw [zz] at q
        exact q _ H3 ((e1.trans e2).trans e3) (r3.toI' nk)
      · rw [zz] at q
        exact q _ H3 ((e1.trans e2).trans e3) g4
    · cases hm
  · cases hm
theorem q_dget1 (hu : X.A.units + 1 < cLine) {o e : Expr} {apos cpos : Pos} {k k2 : Kd} {m n : S → Option D} (ho : QE X T tb k o m) (he : QE X T tb k2 e n) (mm : M1 X o "get" apos e cpos := by exact ⟨rfl, rfl, rfl, rfl⟩) :
    QE X T tb .i (.Call (.Attribute o "get" apos) [e] [] cpos) (op2 dget1D m n) := imp_e (pe_dget1 hu ho he mm) fun σ H Q h => by
  obtain ⟨E, O, s, d, sm, hm, q⟩ := h
  obtain ⟨x, hx, hm⟩ := Option.bind_eq_some_iff.mp hm
  obtain ⟨y, hy, hm⟩ := Option.bind_eq_some_iff.mp hm
  unfold dget1D at hm
  split at hm
  · split at hm
    · next c =>
      cases hm
      refine ⟨E, O, s, _, sm, hx, fun v H1 e1 r1 => ?_⟩
      obtain ⟨a, rfl, g1⟩ := r1.toR.isD
      refine ⟨a, rfl, g1, E, O, s, y, sm.ext e1, hy, fun w H2 e2 r2 => ?_⟩
      obtain ⟨a', ob, vs, e4, h1, h2, h3⟩ := (r1.toR.ext e2).dict
      cases e4
      obtain ⟨t, g, zz⟩ := dget_rel h1 h2 h3 r2.toR c
      refine ⟨t, g, ?_⟩
      rcases zz with ⟨rfl, zz⟩ | ⟨u', d', rfl, zz, g4⟩
      · rw [zz] at q
        exact q _ H2 (e1.trans e2) .non
      · rw [zz] at q
        exact q _ H2 (e1.trans e2) g4
    · cases hm
  · cases hm
end
end Y

namespace Y
open PySem PySem.Spec PyProof.Rows L2

/-! ## d[k] = v, {} -/
def odAt (s : S) (i : Nat) : Option (List (D × D)) := match s[i]? with
  | some (.od kvs) => some kvs
  | _ => none
theorem odAt_some {s : S} {i : Nat} {kvs : List (D × D)} (h : odAt s i = some kvs) : s[i]? = some (.od kvs) := by
  unfold odAt at h
  split at h
  · next q => cases h; exact q
  · cases h
def putD (kvs : List (D × D)) (k d : D) : List (D × D) := if (kvs.any fun kv => deq kv.1 k) = true then kvs.map (fun kv => if deq kv.1 k = true then (kv.1, d) else kv) else kvs ++ [(k, d)]
section
variable {K : Fg} {O : List Addr} {H : Hp}
theorem any_keys {κ : Type} [DecidableEq κ] {f : κ → D} (hf : ∀ a b, deq (f a) (f b) = decide (a = b)) (key : κ) : ∀ {ks : List (κ × V)} {kvs : List (D × D)}, ks.map (fun p => f p.1) = kvs.map (·.1) → (ks.any fun kv => decide (kv.1 = key)) = (kvs.any fun kv => deq kv.1 (f key))
  | [], [], _ => rfl
  | [], _ :: _, e => by cases e
  | _ :: _, [], e => by cases e
  | (a, v) :: ks, (b, d) :: kvs, e => by
    simp only [List.map_cons, List.cons.injEq] at e
    obtain ⟨e1, e⟩ := e
    subst e1
    simp only [List.any_cons, any_keys hf key e, hf]
theorem upd_rel {κ : Type} [DecidableEq κ] {f : κ → D} (hf : ∀ a b, deq (f a) (f b) = decide (a = b)) (key : κ) {v : V} {d : D} (h : Rp K O H v d) : ∀ {ks : List (κ × V)} {kvs : List (D × D)}, ks.map (fun p => f p.1) = kvs.map (·.1) → Rps K O H (ks.map (·.2)) (kvs.map (·.2)) →
    (ks.map fun kv => if kv.1 = key then (kv.1, v) else kv).map (fun p => f p.1) = (kvs.map fun kv => if deq kv.1 (f key) = true then (kv.1, d) else kv).map (·.1) ∧ Rps K O H ((ks.map fun kv => if kv.1 = key then (kv.1, v) else kv).map (·.2)) ((kvs.map fun kv => if deq kv.1 (f key) = true then (kv.1, d) else kv).map (·.2))
  | [], [], _, _ => ⟨rfl, .nil⟩
  | [], _ :: _, e, _ => by cases e
  | _ :: _, [], e, _ => by cases e
  | (a, v') :: ks, (b, d') :: kvs, e, r => by
    simp only [List.map_cons, List.cons.injEq] at e r
    obtain ⟨e1, e⟩ := e
    subst e1
    cases r with
    | cons r1 r2 =>
      obtain ⟨h1, h2⟩ := upd_rel hf key h e r2
      simp only [List.map_cons, hf]
      by_cases c : a = key
      · simp only [c, if_true, decide_true]
        exact ⟨by rw [h1], .cons h h2⟩
      · simp only [c, if_false, decide_false, Bool.false_eq_true]
        exact ⟨by rw [h1], .cons r1 h2⟩
theorem put_rel {κ : Type} [DecidableEq κ] {f : κ → D} (hf : ∀ a b, deq (f a) (f b) = decide (a = b)) (key : κ) {v : V} {d : D} (h : Rp K O H v d) {ks : List (κ × V)} {kvs : List (D × D)} (e : ks.map (fun p => f p.1) = kvs.map (·.1)) (r : Rps K O H (ks.map (·.2)) (kvs.map (·.2))) :
    (putK ks key v).map (fun p => f p.1) = (putD kvs (f key) d).map (·.1) ∧ Rps K O H ((putK ks key v).map (·.2)) ((putD kvs (f key) d).map (·.2)) := by
  unfold putK putD
  rw [any_keys hf key e]
  split
  · exact upd_rel hf key h e r
  · rw [List.map_append, List.map_append, List.map_append, List.map_append, e]
    exact ⟨rfl, r.append (.one h)⟩
theorem put_mark {c : D} {kvs : List (D × D)} {k : List Key} {d : D} : putD ((.none, c) :: kvs) (kDs k) d = (.none, c) :: putD kvs (kDs k) d := by
  unfold putD
  have e : deq .none (kDs k) = false := rfl
  simp only [List.any_cons, e, Bool.false_or]
  split
  · simp only [List.map_cons, e, Bool.false_eq_true, if_false]
  · rfl
/-- the dict behind a store -/
theorem dput_rel {a : Addr} {o : HO} {vs : List V} {kvs : List (D × D)} {v y : V} {x d : D} (ha : H a = some o) (hd : DictO o (kvs.map (·.1)) vs) (r : Rps K O H vs (kvs.map (·.2))) (rx : Rr K O H v x) (ry : Rp K O H y d) (hk : keyOk (isT kvs) x = true) (hl : kvs.length ≤ 1000000) :
    ∃ o' vs', DPut H a v y (upd H a o') ∧ DictO o' ((putD kvs x d).map (·.1)) vs' ∧ Rps K O H vs' ((putD kvs x d).map (·.2)) := by
  cases o with
  | dK k =>
    obtain ⟨h1, rfl⟩ := hd
    rw [isT_dK h1] at hk
    obtain ⟨key, hk⟩ := Option.isSome_iff_exists.mp (show (flatK x).isSome = true from hk)
    obtain rfl := flatK_some hk
    obtain rfl := kD_val rx
    obtain ⟨p1, p2⟩ := put_rel deq_kD key ry h1 r
    have len : k.length = kvs.length := by simpa using congrArg List.length h1
    exact ⟨.dK (putK k key y), _, DPut.k ha (by rw [len]; exact Nat.lt_of_le_of_lt hl (by decide)), ⟨p1, rfl⟩, p2⟩
  | dT k =>
    obtain ⟨h1, rfl⟩ := hd
    cases kvs with
    | nil => cases h1
    | cons p kvs =>
      simp only [List.map_cons, List.cons.injEq] at h1 r
      obtain ⟨b, c⟩ := p
      have h2 : b = .none := h1.1
      subst h2
      cases r with
      | cons r0 r =>
        cases x with
        | tuple ds =>
          have hk : (!zmode && (ksOf ds).isSome) = true := hk
          rw [Bool.and_eq_true, Bool.not_eq_true'] at hk
          obtain ⟨key, hk2⟩ := Option.isSome_iff_exists.mp hk.2
          obtain ⟨t, xs, rfl, ⟨ob, g, to⟩, g2⟩ := rx.tupleZ
          obtain rfl : ob = .tup xs := by
            rcases to with ⟨z, _⟩ | ⟨_, z⟩
            · rw [hk.1] at z; cases z
            · exact z
          obtain rfl := ksOf_some hk2
          obtain rfl := kDs_vals g2
          obtain ⟨p1, p2⟩ := put_rel deq_kDs key ry h1.2.symm r
          have len : k.length = kvs.length := by simpa using congrArg List.length h1.2.symm
          have hl : kvs.length + 1 ≤ 1000000 := hl
          have e := put_mark (c := c) (kvs := kvs) (k := key) (d := d)
          refine ⟨.dT (putK k key y), .non :: (putK k key y).map (·.2), DPut.t ha g (by rw [len]; exact Nat.lt_of_le_of_lt (by omega : kvs.length ≤ 1000000) (by decide)), ?_, ?_⟩
          · rw [show putD ((.none, c) :: kvs) (.tuple (key.map kD)) d = _ from e, List.map_cons, ← p1]
            exact ⟨rfl, rfl⟩
          · rw [show putD ((.none, c) :: kvs) (.tuple (key.map kD)) d = _ from e]
            exact .cons r0 p2
        | _ => cases hk
  | _ => exact hd.elim
end
theorem upd_tabsD {T : List (Addr × Str)} {H : Hp} {a : Addr} {o o' : HO} (t : LamX.Tabs T H) {ks : List D} {vs : List V} (hH : H a = some o) (hd : DictO o ks vs) : LamX.Tabs T (upd H a o') := fun p hp => by
  obtain ⟨ps, e1, e2, e3⟩ := t p hp
  refine ⟨ps, (upd_ne fun z => ?_).trans e1, e2, fun pos cv hc => ?_⟩
  · rw [z, hH] at e1
    exact hd.mut.2 _ (Option.some.inj e1)
  · obtain ⟨c, g1, g2⟩ := e3 pos cv hc
    refine ⟨c, g1, (upd_ne fun z => ?_).trans g2⟩
    rw [z, hH] at g2
    cases g2
    exact hd
theorem Sim.dput {Z : Zx} {E : Ent} {O : List Addr} {σ : L2.St} {H : Hp} {s : S} {i : Nat} {kvs es : List (D × D)} (h : Sim Z E O σ H s) (hi : s[i]? = some (.od kvs)) :
    ∃ a o vs, σ[i]? = some (some (.ref a)) ∧ H a = some o ∧ DictO o (kvs.map (·.1)) vs ∧ Rps Z.K O H vs (kvs.map (·.2)) ∧ ∀ (o' : HO) (ws : List V), DictO o' (es.map (·.1)) ws → Rps Z.K O H ws (es.map (·.2)) → Sim Z E O σ (upd H a o') (s.set i (.od es)) ∧ Stp Z.tb O H O (upd H a o') := by
  obtain ⟨F, f1, f2, f3, f4⟩ := h.own
  obtain ⟨a, o, vs, h1, h2, h3, h4, h5, h6⟩ := f1 i _ hi
  have aO : a ∈ O := f3 i a (by rw [h1]; exact List.mem_cons_self)
  refine ⟨a, o, vs, sl_some h2, h3, h5, h6, fun o' ws e r => ?_⟩
  have k : Kp Z.tb [a] H (upd H a o') := upd_kp h3 h5.mut.1
  have hF : ∀ b, b ∈ [a] → b ∈ O := fun b q => by rw [List.mem_singleton.mp q]; exact aO
  have st := k.stp hF upd_there
  refine ⟨h.chg (F1 := [a]) (Fi := [a]) k hF (fun b q => by rw [List.mem_singleton.mp q]; exact .inr h4) upd_there (upd_tabsD h.tabs h3 h5) (fun j m' F' c e g b q => ?_) (fun _ => ⟨a, o', ws, rfl, h2, upd_same, h4, e, r.step st⟩) (fun _ b q => q) (fun b q => h.slotIdle hi (f1 i _ hi) (by rw [h1]; exact q)), st⟩
  rw [g.uniq (f1 j m' e)] at q
  intro z
  rw [List.mem_singleton.mp z] at q
  exact c (f4 j i a q (by rw [h1]; exact List.mem_cons_self))
theorem Sim.setD {Z : Zx} {E : Ent} {O : List Addr} {σ : L2.St} {H : Hp} {s : S} {i : Nat} {a : Addr} {o : HO} {vs : List V} {kvs : List (D × D)} (h : Sim Z E O σ H s) (h2 : Sim Z E (a :: O) σ H s) (nO : a ∉ O) (hi : i < s.length) (ha : H a = some o) (n0 : E.H0 a = none) (e : DictO o (kvs.map (·.1)) vs) (r : Rps Z.K (a :: O) H vs (kvs.map (·.2))) :
    Sim Z E (a :: O) (σ.set i (some (.ref a))) H (s.set i (.od kvs)) := by
  refine h2.slot hi (F1 := [a]) ⟨a, o, vs, rfl, rfl, ha, n0, e, r⟩ (fun b q => by rw [List.mem_singleton.mp q]; exact List.mem_cons_self) (fun b q j m' F c e hr => ?_) (fun b q => h.notIdle (by rw [List.mem_singleton.mp q]; exact nO))
  rw [List.mem_singleton.mp q]
  obtain ⟨G, g1, _, g3, _⟩ := h.own
  rw [hr.uniq (g1 j m' e)]
  exact fun z => nO (g3 j a z)
/-- new dicts as quiet values -/
def emptyD (t : Bool) : List (D × D) := if t = true then [(.none, .none)] else []
def setP (i : Nat) (m : S → Option D) : S → Option Fl := fun s => (m s).bind fun d => match d with
  | .dict kvs => if i < s.length then some (.nx (s.set i (.od kvs))) else none
  | _ => none
def dputS (i : Nat) (mi : S → Option D) (m : S → Option (D × S)) : S → Option Fl := fun s => (m s).bind fun p => (odAt p.2 i).bind fun _ => (mi p.2).bind fun x => (odAt p.2 i).bind fun kvs => if (keyOk (isT kvs) x && Nat.ble kvs.length 1000000) = true then some (.nx (p.2.set i (.od (putD kvs x p.1)))) else none
def dctOf : D → Option (List (D × D))
  | .dict kvs => some kvs
  | _ => none
theorem dctOf_some {d : D} {kvs : List (D × D)} (h : dctOf d = some kvs) : d = .dict kvs := by
  cases d <;> simp [dctOf] at h
  rw [h]
def parOP (i j : Nat) (a : S → Option (List D × S)) (b : S → Option D) : S → Option Fl := fun s => (a s).bind fun p => (b p.2).bind fun d => (dctOf d).bind fun kvs => if i < p.2.length ∧ j < p.2.length then some (.nx ((p.2.set i (.ol p.1)).set j (.od kvs))) else none
def parPI (i j : Nat) (a : S → Option D) (b : S → Option D) : S → Option Fl := fun s => (a s).bind fun d => (dctOf d).bind fun kvs => (b s).bind fun e => if i < s.length ∧ j < s.length then some (.nx ((s.set i (.od kvs)).set j (.imm e))) else none
section
variable {X : Cx} {T : List (Addr × Str)} {tb kr : Bool}
theorem q_dnewK {pos : Pos} : QE X T tb .p (.Dict [] [] pos) (cM (.dict [])) := imp_e pe_dnewK fun σ H Q h => by
  obtain ⟨E, O, s, d, sm, hm, q⟩ := h
  cases hm
  intro a ha
  exact q _ _ (Ex.new ha) ⟨a, .dK [], [], [], rfl, rfl, ha, fun m => sm.dom a m ha, upd_same, ⟨rfl, rfl⟩, .nil⟩
theorem q_dnewT {pos : Pos} : QE X T tb .p (.Dict [] [] pos) (cM (.dict [(.none, .none)])) := imp_e pe_dnewT fun σ H Q h => by
  obtain ⟨E, O, s, d, sm, hm, q⟩ := h
  cases hm
  intro a ha
  exact q _ _ (Ex.new ha) ⟨a, .dT [], [.non], [(.none, .none)], rfl, rfl, ha, fun m => sm.dom a m ha, upd_same, ⟨rfl, rfl⟩, .one .non⟩
/-- a new dict is kept in a slot -/
theorem Sim.putP {E : Ent} {O : List Addr} {σ : L2.St} {H H' : Hp} {s : S} {i : Nat} {v : V} {kvs : List (D × D)} (sm : Sim (Zo X T tb) E O σ H s) (hl : i < s.length) (e : Ex H H') (r : Res X.K O H H' v (.dict kvs) .p) :
    ∃ a, v = .ref a ∧ a ∉ O ∧ E.H0 a = none ∧ Stp tb O H (a :: O) H' ∧ Sim (Zo X T tb) E (a :: O) (σ.set i (some v)) H' (s.set i (.od kvs)) := by
  obtain ⟨a, o, vs, kvs', rfl, e1, h3, h4, h5, h6, h7⟩ := r
  cases e1
  exact ⟨a, rfl, h4, sm.there a h3, ⟨fun b o h _ _ => e b o h, fun b m => (List.mem_cons.mp m).elim (fun z => .inr (z ▸ h3)) .inl, fun b z => e.back z⟩,
    (sm.ext e).setD (sm.grow h3 e (by rw [h5]; exact fun z => by cases z)) h4 hl h5 (sm.there a h3) h6 h7⟩
theorem s_setP (i : Nat) {x : Str} {e : Expr} {pos' pos : Pos} {m : S → Option D} (hN : X.N.Nodup) (he : QE X T tb .p e m) (hi : X.N[i]? = some x := by rfl) (hx : Loc X.env.scope x := by first | exact Or.inl rfl | exact Or.inr rfl) (hs : swapsWith e (some (.Name x pos')) pos.line X.env = pure false := by rfl)
    (hf : X.fn x = true ∨ X.env.scope.names.lookup x = some .local := by first | exact .inl rfl | exact .inr rfl) : PY X T tb kr (.Assign [.Name x pos'] e pos) (setP i m) := imp_s (ps_set hN hi hx he hs hf) fun B σ H h => by
  obtain ⟨E, O, s, f, sm, hm, k⟩ := h
  obtain ⟨d, h1, hm⟩ := Option.bind_eq_some_iff.mp hm
  split at hm
  · split at hm
    · next hl =>
      cases hm
      refine ⟨E, O, s, _, sm, h1, fun v H' e r => ?_⟩
      obtain ⟨a, rfl, _, _, st, sm2⟩ := sm.putP hl e r
      exact k _ H' (a :: O) st sm2
    · cases hm
  · cases hm
theorem s_parOP (i j : Nat) {x y : Str} {a b : Expr} {px py pt pos : Pos} {kt k2 pt2} {m : S → Option (List D × S)} {n : S → Option D} (hc : X.calm = true) (hN : X.N.Nodup) (ha : EO X T tb a m) (hb : QE X T tb .p b n) (hi : X.N[i]? = some x := by rfl) (hj : X.N[j]? = some y := by rfl) (hij : i ≠ j := by decide)
    (hx : X.env.scope.names.lookup x = some .local := by rfl) (hy : X.env.scope.names.lookup y = some .local := by rfl)
    (hw : swappedStores [.Tuple [.Name x px, .Name y py] kt pt] (.Tuple [a, b] k2 pt2) X.env = pure (some [x, y]) := by rfl) (hs : swapsWithSole [.Tuple [.Name x px, .Name y py] kt pt] (.Tuple [a, b] k2 pt2) pos.line X.env = pure false := by rfl)
    (h1 : starEach [a, b] X.env = (false, eval a X.env) :: starEach [b] X.env := by rfl) (h2 : starEach [b] X.env = (false, eval b X.env) :: starEach [] X.env := by rfl) :
    PY X T tb kr (.Assign [.Tuple [.Name x px, .Name y py] kt pt] (.Tuple [a, b] k2 pt2) pos) (parOP i j m n) := imp_s (ps_par hc hN hi hj hij hx hy (pa_cons ha (pa_cons hb pa_nil h2) h1) hw hs) fun B σ H h => by
  obtain ⟨E, O, s, f, sm, hm, k⟩ := h
  obtain ⟨⟨ds, s1⟩, g1, hm⟩ := Option.bind_eq_some_iff.mp hm
  obtain ⟨d, g2, hm⟩ := Option.bind_eq_some_iff.mp hm
  obtain ⟨kvs, g3, hm⟩ := Option.bind_eq_some_iff.mp hm
  obtain rfl := dctOf_some g3
  split at hm
  · next hl =>
    cases hm
    refine ⟨E, O, s, ds, s1, sm, g1, fun a1 vs H1 O1 st nO sm1 sm2 n0 q1 r1 => ⟨E, a1 :: O1, s1, _, sm2, g2, fun v H2 e r2 => ⟨_, _, rfl, ?_⟩⟩⟩
    have t1 : Sim (Zo X T tb) E (a1 :: O1) (σ.set i (some (.ref a1))) H1 (s1.set i (.ol ds)) := sm1.setO sm2 nO hl.1 q1 n0 r1
    obtain ⟨c, rfl, _, _, st2, sm3⟩ := t1.putP (i := j) (by rw [List.length_set]; exact hl.2) e r2
    exact k _ H2 (c :: a1 :: O1) (st.trans st2) sm3
  · cases hm
theorem s_dput (hu : X.A.units + 1 < cLine) (i : Nat) {x : Str} {e ie : Expr} {p pos' pos : Pos} {k : Kd} {mi : S → Option D} {m : S → Option (D × S)} (he : EE X T tb e m) (hi : QE X T tb k ie mi) (hN : X.N[i]? = some x := by rfl) (hv : Vis X.env.scope x := by first | exact Or.inl rfl | exact Or.inr (Or.inl rfl) | exact Or.inr (Or.inr rfl)) (hd : (x == ("__debug__" : Str)) = false := by decide)
    (hcd : (x == ("__classdict__" : Str)) = false := by decide) (hs : swapsWith e (some (.Subscript (.Name x p) ie pos')) pos.line X.env = pure false := by rfl) : PY X T tb kr (.Assign [.Subscript (.Name x p) ie pos'] e pos) (dputS i mi m) := imp_s (ps_dput hu (pe_var hN hv hd hcd) hi he hs) fun B σ H h => by
  obtain ⟨E, O, s, f, sm, hm, kk⟩ := h
  obtain ⟨⟨d, s1⟩, h1, hm⟩ := Option.bind_eq_some_iff.mp hm
  obtain ⟨kv0, h0, hm⟩ := Option.bind_eq_some_iff.mp hm
  obtain ⟨y, h2, hm⟩ := Option.bind_eq_some_iff.mp hm
  obtain ⟨kvs, h3, hm⟩ := Option.bind_eq_some_iff.mp hm
  split at hm
  · next c =>
    cases hm
    rw [Bool.and_eq_true, Nat.ble_eq] at c
    refine ⟨E, O, s, d, s1, sm, h1, fun v H1 O1 st1 sm1 r1 => ?_⟩
    obtain ⟨a, _, _, g1, _⟩ := sm1.dput (es := []) (odAt_some h0)
    refine ⟨_, g1, E, O1, s1, y, sm1, h2, fun w H2 e2 r2 => ?_⟩
    obtain ⟨a', o, vs, g1', g2, g3, g4, g5⟩ := (sm1.ext e2).dput (es := putD kvs y d) (odAt_some h3)
    rw [g1] at g1'
    cases g1'
    obtain ⟨o', vs', p1, p2, p3⟩ := dput_rel g2 g3 g4 r2.toR (r1.ext e2) c.1 c.2
    obtain ⟨sm3, st3⟩ := g5 o' vs' p2 p3
    exact ⟨a, _, rfl, p1, kk _ _ O1 ((st1.trans (Stp.of_ex e2)).trans st3) sm3⟩
  · cases hm
end
end Y

namespace Y
open PySem PySem.Spec PyProof.Rows L2
/-! ## the room, for dicts -/
theorem units1 {k : Nat} {A : Around} (r : Room k A) : A.units + 1 < cLine := by have := r.un; omega
end Y

namespace Y
open PySem PySem.Spec PyProof.Rows L2
/-! ## t.index(x) of data -/
section
variable {X : Cx}
def rTIndexD (K : PySem.W.Frag) : V → List V → Hp → VK → Prop := fun x xs H Q => ∃ (a : Addr) (y : V) (d : PyData) (ds : List PyData) (j : Nat) (z : PyData), x = V.ref a ∧ xs = [y] ∧ Dp K H (V.ref a) (.tuple ds) ∧ Dp K H y d ∧
  SeqAt.shaped (.tuple ds) = true ∧ SeqAt.shaped d = true ∧ ds[j]? = some z ∧ PyData.eqv z d = true ∧ (∀ (m : Nat) (z' : PyData), m < j → ds[m]? = some z' → PyData.eqv z' d = false) ∧ Q (.int (j : Nat)) H
theorem mt_tindexD (hu : X.A.units + 65 < cLine) : MtR X "tuple.index" (rTIndexD X.K) := by
  intro pins s σ H x xs v us Q I rx rxs h
  obtain ⟨a, y, d, ds, j, z, rfl, rfl, hl, hy, sl, sd, hz, hzj, hno, q⟩ := h
  cases rx
  cases rxs with
  | cons ry rt =>
    rename_i uy ut
    cases rt
    obtain ⟨bs, r1⟩ := Dp.reads I d y uy hy ry
    have hxs : PyData.canLayAll0 ds = true := SeqAt.canLay_of_shaped sl
    have hroom : X.A.units + 1 + min (PyData.depthAll ds) d.depth < cLine := room_in_shaped sd hu
    cases hl with
    | tup hs ha =>
      obtain ⟨its, rv, ⟨⟨cls, dd, data, sls⟩, ho, hc, n, hd⟩, hlen⟩ := I.tuple hs
      simp only at hc hd
      subst hc hd
      obtain ⟨as, h4⟩ := Dp.readsAll I ds _ its ha rv
      have hn : its.length = ds.length := SeqAt.ReadsAll.length ds its as h4
      have hmap : its.map (SeqAt.readOf s.heap) = ds := SeqAt.readsAll_map ds its as hxs h4
      obtain ⟨hjd, _⟩ := List.getElem?_eq_some_iff.mp hz
      have hjl : j < its.length := by omega
      have hj : j < its.toArray.size := by simpa using hjl
      have at_ : ∀ (m : Nat) (hm : m < its.toArray.size) (z' : PyData), ds[m]? = some z' → SeqAt.readOf s.heap its.toArray[m] = z' := by
        intro m hm z' hz'
        have hml : m < its.length := by simpa using hm
        rw [← hmap, List.getElem?_map, List.getElem?_eq_getElem hml] at hz'
        have e1 : SeqAt.readOf s.heap its[m] = z' := Option.some.inj (show some (SeqAt.readOf s.heap its[m]) = some z' from hz')
        simpa using e1
      refine call_meets PySem.F.slot_tuple_index ⟨_, ho, rfl⟩ PySem.F.entry_tuple_index (PySem.F.args_tuple_index_2 _ _)
        (_root_.TI.tuple_indexAt a its.toArray n dd sls uy (fun u => PyData.eqv (SeqAt.readOf s.heap u) d) j hj ?_ ?_) ⟨ho, SeqAt.items_eqAt (vs := its.toArray) (show ReadsAll s.heap its.toArray.toList ds as from h4) r1 hxs (SeqAt.canLay_of_shaped sd) hroom, ?_⟩
      · show PyData.eqv (SeqAt.readOf s.heap its.toArray[j]) d = true
        rw [at_ j hj z hz]
        exact hzj
      · intro m hm hmj
        have hml : m < its.length := by simpa using hm
        have hmd : m < ds.length := by omega
        have hz' : ds[m]? = some ds[m] := List.getElem?_eq_getElem hmd
        show PyData.eqv (SeqAt.readOf s.heap its.toArray[m]) d = false
        rw [at_ m hm _ hz']
        exact hno m _ hmj hz'
      · exact ⟨.int (j : Nat), H, I.tok _, ⟨_, rfl⟩, q⟩
end
end Y

namespace Y
open PySem PySem.Spec PyProof.Rows L2
/-! ## methods of lists and tuples -/
def tyZ (x : V) (H : Hp) : Prop := zmode = true ∧ ∃ a xs, x = .ref a ∧ SqZ H a xs
section
variable {X : Cx}
theorem tyZ_is {pins : List (Addr × Obj)} {σ : L2.St} {H : Hp} {s : Shared} {x : V} {v : Value} (I : Inv X pins σ H s) (r : RelV x v) (ty : tyZ x H) : s.TypeIs v "tuple" ∧ ∀ a, v = .ref a → ∃ ob, s.heap.get? a = some ob ∧ ob.dict = none := by
  obtain ⟨zm, a, xs, rfl, o, h, t⟩ := ty
  obtain rfl : v = Value.ref a := r
  rcases t with ⟨_, ob, rfl, d⟩ | ⟨z, _⟩
  · obtain ⟨g, _, _, _, p⟩ := I.hok a _ h
    exact ⟨p.typeIs, fun b e => by cases e; exact ⟨ob, g, d⟩⟩
  · rw [zm] at z; cases z
def tBMLT (K : Fg) (rL rT : V → List V → Hp → VK → Prop) (to : TE) (t : TA) : TE := fun σ H Q => to σ H fun x H1 => (tyV K "list" x H1 ∧ t σ H1 fun xs H2 => rL x xs H2 Q) ∨ (tyZ x H1 ∧ t σ H1 fun xs H2 => rT x xs H2 Q)
theorem pe_bmLT {o e : Expr} {es : List Expr} {to : TE} {t : TA} {name : Str} {apos cpos : Pos} {idL idT : String} {rL rT : V → List V → Hp → VK → Prop}
    (sL : Slot "list" name idL) (dL : typeOf (.builtin idL) = pure (.type "method_descriptor")) (mL : MtR X idL rL) (sT : Slot "tuple" name idT) (dT : typeOf (.builtin idT) = pure (.type "method_descriptor")) (mT : MtR X idT rT) (ho : PE X o to) (ha : PA X (e :: es) t)
    (hbase : attributeBase o name X.env (eval o X.env) = eval o X.env := by rfl)
    (hfew : ((backTo cpos (starEach (e :: es) X.env)).all (fun x => !x.1) && (backToKw cpos (keywordEach [] X.env)).all (fun x => x.1.isSome)
      && decide ((e :: es).length + ([] : List Keyword).length + (if ([] : List Keyword).isEmpty then 0 else 1) < 30)) = true := by rfl)
    (hline : (apos.endLine == cpos.line) = true := by rfl) (hst : starEach (e :: es) X.env = (false, eval e X.env) :: starEach es X.env := by rfl) (hplain : (backTo cpos (starEach es X.env)).any (·.1) = false := by rfl) :
    PE X (.Call (.Attribute o name apos) (e :: es) [] cpos) (tBMLT X.K rL rT to t) := ⟨fun pins s σ H Q I h => by
  refine wpAny_Call_method_late hbase hfew hline rfl (thn (ho.run pins s σ H _ I h) fun v s1 q0 => ?_)
  obtain ⟨x, H1, I1, r1, ⟨ty, q1⟩ | ⟨ty, q1⟩⟩ := q0
  · have ⟨h1, h2⟩ := tyV_is I1 r1 ty
    refine ⟨"list", idL, PySem.F.plainAttrs_list, sL, dL, h1, h2, ?_⟩
    have hA := ha.run cpos pins s1 σ H1 _ I1 q1
    rw [hst] at hA ⊢
    refine Calls.callWith_builtin (by show (false || (backTo cpos (starEach es X.env)).any (·.1)) = false; rw [hplain] <;> rfl) (Calls.evalArgs_plain (thn hA fun us s2 q2 => ?_))
    obtain ⟨vs, H2, I2, r2, q2⟩ := q2
    exact mL pins s2 σ H2 _ vs _ us Q I2 r1 r2 q2
  · have ⟨h1, h2⟩ := tyZ_is I1 r1 ty
    refine ⟨"tuple", idT, PySem.F.plainAttrs_tuple, sT, dT, h1, h2, ?_⟩
    have hA := ha.run cpos pins s1 σ H1 _ I1 q1
    rw [hst] at hA ⊢
    refine Calls.callWith_builtin (by show (false || (backTo cpos (starEach es X.env)).any (·.1)) = false; rw [hplain] <;> rfl) (Calls.evalArgs_plain (thn hA fun us s2 q2 => ?_))
    obtain ⟨vs, H2, I2, r2, q2⟩ := q2
    exact mT pins s2 σ H2 _ vs _ us Q I2 r1 r2 q2⟩
end
/-- a list, or (bt) a tuple -/
def isSeq (bt : Bool) : D → Bool
  | .list _ => true
  | .tuple _ => bt
  | _ => false
def idxLs (ds : List D) (d : D) : Option D := if (SeqAt.shaped (.list ds) && SeqAt.shaped d) = true then (ds.findIdx? fun z => PyData.eqv z d).map fun j => .int (j : Nat) else none
def idxA : D → List D → Option D
  | .list ds, [d] => idxLs ds d
  | .tuple ds, [d] => idxLs ds d
  | _, _ => none
section
variable {X : Cx} {T : List (Addr × Str)} {tb : Bool}
theorem q_mseq {idL idT : String} {name : Str} {g : D → List D → Option D} {rL rT : V → List V → Hp → VK → Prop} {bt : Bool} (zt : bt = true → zmode = true) (sL : Slot "list" name idL) (dL : typeOf (.builtin idL) = pure (.type "method_descriptor")) (mL : MtR X idL rL) (sT : Slot "tuple" name idT) (dT : typeOf (.builtin idT) = pure (.type "method_descriptor")) (mT : MtR X idT rT)
    (hs : ∀ (O : List Addr) (H : Hp) (x : V) (xs : List V) (dx : List D) (ds : List D) (d : D) (Q : VK), Rr X.K O H x (.list dx) → Rrs X.K O H xs ds → g (.list dx) ds = some d → (∀ v H', Ex H H' → Res X.K O H H' v d .i → Q v H') → rL x xs H Q)
    (ht : ∀ (O : List Addr) (H : Hp) (x : V) (xs : List V) (dx : List D) (ds : List D) (d : D) (Q : VK), Rr X.K O H x (.tuple dx) → Rrs X.K O H xs ds → g (.tuple dx) ds = some d → (∀ v H', Ex H H' → Res X.K O H H' v d .i → Q v H') → rT x xs H Q)
    {o e : Expr} {es : List Expr} {apos cpos : Pos} {ko : Kd} {b : Bool} {m : S → Option D} {n : S → Option (List D)} (ho : QE X T tb ko o m) (ha : QA X T tb b (e :: es) n)
    (hbase : attributeBase o name X.env (eval o X.env) = eval o X.env := by rfl)
    (hfew : ((backTo cpos (starEach (e :: es) X.env)).all (fun x => !x.1) && (backToKw cpos (keywordEach [] X.env)).all (fun x => x.1.isSome)
      && decide ((e :: es).length + ([] : List Keyword).length + (if ([] : List Keyword).isEmpty then 0 else 1) < 30)) = true := by rfl)
    (hline : (apos.endLine == cpos.line) = true := by rfl) (hst : starEach (e :: es) X.env = (false, eval e X.env) :: starEach es X.env := by rfl) (hplain : (backTo cpos (starEach es X.env)).any (·.1) = false := by rfl) :
    QE X T tb .i (.Call (.Attribute o name apos) (e :: es) [] cpos) (methM (isSeq bt) g m n) :=
  imp_e (pe_bmLT sL dL mL sT dT mT ho ha hbase hfew hline hst hplain) fun σ H Q h => by
  obtain ⟨E, O, s, d, sm, hmm, q⟩ := h
  unfold methM at hmm
  obtain ⟨x, hx, hmm⟩ := Option.bind_eq_some_iff.mp hmm
  split at hmm
  · next hok =>
    obtain ⟨xs, hxs, hmm⟩ := Option.bind_eq_some_iff.mp hmm
    refine ⟨E, O, s, _, sm, hx, fun v H1 e1 r1 => ?_⟩
    cases x with
    | list dl =>
      obtain ⟨a, vs, rfl, h1, h2⟩ := r1.toR.list
      refine .inl ⟨tyL h1, E, O, s, xs, sm.ext e1, hxs, fun vs2 H2 e2 r2 => ?_⟩
      exact hs O H2 _ vs2 dl xs d Q (r1.toR.ext e2) r2.toR hmm fun w H3 e3 r3 => q w H3 (e1.trans (e2.trans e3)) (r3.from (e1.trans e2))
    | tuple dl =>
      obtain ⟨a, vs, rfl, h1, h2⟩ := r1.toR.tupleZ
      refine .inr ⟨⟨zt hok, a, vs, rfl, h1⟩, E, O, s, xs, sm.ext e1, hxs, fun vs2 H2 e2 r2 => ?_⟩
      exact ht O H2 _ vs2 dl xs d Q (r1.toR.ext e2) r2.toR hmm fun w H3 e3 r3 => q w H3 (e1.trans (e2.trans e3)) (r3.from (e1.trans e2))
    | _ => cases hok
  · cases hmm
theorem shaped_lt {ds : List D} (h : SeqAt.shaped (.list ds) = true) : SeqAt.shaped (.tuple ds) = true := h
theorem q_indexA (zm : zmode = true) (hu : X.A.units + 65 < cLine) {o e : Expr} {apos cpos : Pos} {ko : Kd} {b : Bool} {m : S → Option D} {n : S → Option (List D)} (ho : QE X T tb ko o m) (ha : QA X T tb b [e] n)
    (hbase : attributeBase o "index" X.env (eval o X.env) = eval o X.env := by rfl)
    (hfew : ((backTo cpos (starEach [e] X.env)).all (fun x => !x.1) && (backToKw cpos (keywordEach [] X.env)).all (fun x => x.1.isSome)
      && decide ([e].length + ([] : List Keyword).length + (if ([] : List Keyword).isEmpty then 0 else 1) < 30)) = true := by rfl)
    (hline : (apos.endLine == cpos.line) = true := by rfl) (hst : starEach [e] X.env = (false, eval e X.env) :: starEach [] X.env := by rfl) (hplain : (backTo cpos (starEach [] X.env)).any (·.1) = false := by rfl) :
    QE X T tb .i (.Call (.Attribute o "index" apos) [e] [] cpos) (methM (isSeq true) idxA m n) :=
  q_mseq (fun _ => zm) PySem.F.slot_list_index PySem.F.type_list_index (mt_indexD hu) PySem.F.slot_tuple_index PySem.F.type_tuple_index (mt_tindexD hu) (fun O H x xs dx ds d Q rx rxs hg k => by
    unfold idxA at hg
    split at hg
    · next ds' dd e1 =>
      cases e1
      unfold idxLs at hg
      split at hg
      · next c =>
        rw [Bool.and_eq_true] at c
        obtain ⟨j, h1, h2⟩ := Option.map_eq_some_iff.mp hg
        cases h2
        obtain ⟨a, vs, rfl, h3, h4⟩ := rx.list
        obtain ⟨y, rfl, ry⟩ := rrs1 rxs
        obtain ⟨hj, p1, p2⟩ := List.findIdx?_eq_some_iff_getElem.mp h1
        refine ⟨a, y, dd, dx, j, dx[j], rfl, rfl, .lst (SqL.of h3) (h4.dp (by have := SeqAt.canLay_of_shaped c.1; simpa only [PyData.canLay0] using this)), ry.dp (SeqAt.canLay_of_shaped c.2), c.1, c.2, List.getElem?_eq_getElem hj, p1, fun m' z' hm hz => ?_, k _ H (Ex.refl H) (.int _)⟩
        obtain ⟨hm', rfl⟩ := List.getElem?_eq_some_iff.mp hz
        have := p2 m' hm
        simpa using this
      · cases hg
    · next e1 => cases e1
    · cases hg) (fun O H x xs dx ds d Q rx rxs hg k => by
    unfold idxA at hg
    split at hg
    · next e1 => cases e1
    · next ds' dd e1 =>
      cases e1
      unfold idxLs at hg
      split at hg
      · next c =>
        rw [Bool.and_eq_true] at c
        obtain ⟨j, h1, h2⟩ := Option.map_eq_some_iff.mp hg
        cases h2
        obtain ⟨a, vs, rfl, h3, h4⟩ := rx.tuple
        obtain ⟨y, rfl, ry⟩ := rrs1 rxs
        obtain ⟨hj, p1, p2⟩ := List.findIdx?_eq_some_iff_getElem.mp h1
        refine ⟨a, y, dd, dx, j, dx[j], rfl, rfl, .tup h3 (h4.dp (by have := SeqAt.canLay_of_shaped c.1; simpa only [PyData.canLay0] using this)), ry.dp (SeqAt.canLay_of_shaped c.2), shaped_lt c.1, c.2, List.getElem?_eq_getElem hj, p1, fun m' z' hm hz => ?_, k _ H (Ex.refl H) (.int _)⟩
        obtain ⟨hm', rfl⟩ := List.getElem?_eq_some_iff.mp hz
        have := p2 m' hm
        simpa using this
      · cases hg
    · cases hg) ho ha hbase hfew hline hst hplain
end
end Y

namespace Y
open PySem PySem.Spec PyProof.Rows L2

/-! ## {k: v for ..}, keys ints or texts -/
def dcGo (g : D → S → Option S) (t : S → Option Bool) (ke ve : S → Option D) (s : S) : List D → List (D × D) → Option (List (D × D))
  | [], acc => some acc
  | d :: ds, acc => (g d s).bind fun s1 => (t s1).bind fun b => if b = true then (ke s1).bind fun x => (ve s1).bind fun y => if (flatK x).isSome = true then dcGo g t ke ve s ds (putD acc x y) else none else dcGo g t ke ve s ds acc
def dcM (vs : List Nat) (src : S → Option (List D)) (g : D → S → Option S) (t : S → Option Bool) (ke ve : S → Option D) : S → Option D := fun s => (src s).bind fun ds => if Nat.ble ds.length 1000000 = true then (dcGo g t ke ve (wipeS s vs) ds []).map .dict else none
theorem putD_length (kvs : List (D × D)) (x y : D) : (putD kvs x y).length ≤ kvs.length + 1 := by
  unfold putD
  split
  · rw [List.length_map]; exact Nat.le_succ _
  · rw [List.length_append]; exact Nat.le_refl _
section
variable {X : Cx} {T : List (Addr × Str)} {tb pw : Bool}
theorem dc_read {src : S → Option (List D)} {g : D → S → Option S} {t : S → Option Bool} {ke ve : S → Option D} {k k2 : Kd} {vs ts : List Nat} (nk2 : k2 ≠ .r) (hts : ∀ i, i ∈ ts → i ∈ vs) {σ : L2.St} {H : Hp} {Q : VK} (h : tQ (Zo X T tb) .p (dcM vs src g t ke ve) σ H Q) :
    tDc (tIQ (Zo X T tb) pw src) (tG (Zo X T tb) pw ts g) (tTQ (Zo X T tb) t) (tQ (Zo X T tb) k ke) (tQ (Zo X T tb) k2 ve) vs σ H Q := by
  obtain ⟨E, O, s, d, sm, hm, kk⟩ := h
  unfold dcM at hm
  obtain ⟨ds, hds, hm⟩ := Option.bind_eq_some_iff.mp hm
  split at hm
  case isFalse => cases hm
  next hle =>
  obtain ⟨rs, hrs, rfl⟩ := Option.map_eq_some_iff.mp hm
  have hle : ds.length ≤ 1000000 := by simpa [Nat.ble_eq] using hle
  refine ⟨E, O, s, ds, sm, hds, fun J H1 e1 w D hD => ?_⟩
  have newc : ∀ a, a ∈ D :: O → a ∈ O ∨ H1 a = none := fun a m => (List.mem_cons.mp m).elim (fun q => .inr (q ▸ hD)) .inl
  have sm1 := sm.ext e1
  refine ⟨fun i m H => m = ds.length - i ∧ i ≤ ds.length ∧ Ex H1 H ∧ ∃ (kv : List (Key × V)) (acc : List (Y.D × Y.D)), H D = some (.dK kv) ∧ kv.map (fun p => kD p.1) = acc.map (·.1) ∧ Rps X.K (D :: O) H (kv.map (·.2)) (acc.map (·.2)) ∧ dcGo g t ke ve (wipeS s vs) (ds.drop i) acc = some rs ∧ acc.length ≤ i,
    ⟨ds.length, by simp, Nat.zero_le _, Ex.new hD, [], [], upd_same, rfl, .nil, hrs, Nat.le_refl _⟩, ?_⟩
  rintro i m H2 ⟨rfl, hi, e2, kv, acc, hacc, rkey, racc, hgo, hal⟩
  by_cases hlt : i < ds.length
  · refine .inr ?_
    have hd : ds[i]? = some ds[i] := List.getElem?_eq_getElem hlt
    obtain ⟨w1, w2⟩ := w i (D :: O) H2 e2 newc
    obtain ⟨go, w1⟩ := w1 _ hd
    rw [List.drop_eq_getElem_cons hlt] at hgo
    unfold dcGo at hgo
    obtain ⟨s1, hg1, hgo⟩ := Option.bind_eq_some_iff.mp hgo
    obtain ⟨b, ht1, hgo⟩ := Option.bind_eq_some_iff.mp hgo
    refine ⟨go, fun H' => Ex H1 H' ∧ ∃ (kv : List (Key × V)) (acc : List (Y.D × Y.D)), H' D = some (.dK kv) ∧ kv.map (fun p => kD p.1) = acc.map (·.1) ∧ Rps X.K (D :: O) H' (kv.map (·.2)) (acc.map (·.2)) ∧ dcGo g t ke ve (wipeS s vs) (ds.drop (i + 1)) acc = some rs ∧ acc.length ≤ i + 1, fun H' q => ⟨ds.length - (i + 1), by omega, rfl, hlt, q⟩, fun x H3 y => ?_⟩
    obtain ⟨e3, rx⟩ := w1 x H3 y
    have n3 : H3 D = some (.dK kv) := e3 _ _ hacc
    have smw : Sim (Zo X T tb) E (D :: O) (L2.wipe σ vs) H3 (wipeS s vs) := (sm1.wipe vs).grow hD (e2.trans e3) (by rw [n3]; exact fun z => by cases z)
    refine ⟨E, D :: O, wipeS s vs, ds[i], s1, smw, rx, hg1, fun σ2 ag sm2 => ⟨wipe_agr ag hts, E, D :: O, s1, b, sm2, ht1, fun H4 e4 => ?_⟩⟩
    cases b with
    | true =>
      rw [if_pos rfl] at hgo ⊢
      obtain ⟨z1, hz1, hgo⟩ := Option.bind_eq_some_iff.mp hgo
      obtain ⟨z2, hz2, hgo⟩ := Option.bind_eq_some_iff.mp hgo
      split at hgo
      case isFalse => cases hgo
      next hfk =>
      obtain ⟨key, hfk⟩ := Option.isSome_iff_exists.mp hfk
      obtain rfl := flatK_some hfk
      refine ⟨E, D :: O, s1, _, sm2.ext e4, hz1, fun v H5 e5 r5 => ⟨E, D :: O, s1, z2, sm2.ext (e4.trans e5), hz2, fun v2 H6 e6 r6 => ?_⟩⟩
      have n6 : H6 D = some (.dK kv) := ((e4.trans e5).trans e6) _ _ n3
      have len : kv.length = acc.length := by simpa using congrArg List.length rkey
      refine ⟨kv, key, kD_val r5.toR, n6, by rw [len]; exact Nat.lt_of_le_of_lt (Nat.le_trans hal hi) (Nat.lt_of_le_of_lt hle (by decide)), ?_⟩
      have st : Stp false (D :: O) H6 (D :: O) (upd H6 D (.dK (putK kv key v2))) := (upd_kp (tb := false) n6 trivial).stp (fun a q => by rw [List.mem_singleton.mp q]; exact List.mem_cons_self) upd_there
      obtain ⟨p1, p2⟩ := put_rel deq_kD key (r6.toI' nk2) rkey (racc.ext (e3.trans ((e4.trans e5).trans e6)))
      refine ⟨fun a o q => ?_, putK kv key v2, putD acc (kD key) z2, upd_same, p1, p2.step st, hgo, Nat.le_trans (putD_length _ _ _) (by omega)⟩
      rw [upd_ne (ne_of_none q hD)]
      exact (e2.trans (e3.trans ((e4.trans e5).trans e6))) a o q
    | false =>
      rw [if_neg Bool.false_ne_true] at hgo ⊢
      exact ⟨e2.trans (e3.trans e4), kv, acc, e4 _ _ n3, rkey, racc.ext (e3.trans e4), hgo, by omega⟩
  · have hi : i = ds.length := by omega
    refine .inl ⟨(w i (D :: O) H2 e2 newc).2 (by omega), ?_⟩
    rw [hi, List.drop_length] at hgo
    cases hgo
    exact kk _ H2 (e1.trans e2) ⟨D, .dK kv, _, rs, rfl, rfl, e1.back hD, fun m => sm.dom D m (e1.back hD), hacc, ⟨rkey, rfl⟩, racc⟩
theorem q_dc {kx vx tg iter : Expr} {ifs : List Expr} {scope : Scope} {own : List (Str × Nat)} {pos : Pos} {src : S → Option (List D)} {g : D → S → Option S} {t : S → Option Bool} {ke ve : S → Option D} {k k2 : Kd} {ts : List Nat} (hc : X.calm = true) (hN : X.N.Nodup) (hi : QI X T tb pw tg iter src) (ok : BlkOk X.N X.env.scope scope own)
    (hg : ∀ (s : Shared) (H : Hp) (C : Addr) (cl : List (Str × Addr)) (fp : List Addr), PG (X.blk s H scope (compEnvC scope cl C X.env) fp) tg (tG (Zo X T tb) pw ts g)) (ht : ∀ (s : Shared) (H : Hp) (C : Addr) (cl : List (Str × Addr)) (fp : List Addr), PTs (X.blk s H scope (compEnvC scope cl C X.env) fp) ifs (tTQ (Zo X T tb) t))
    (hk : ∀ (s : Shared) (H : Hp) (C : Addr) (cl : List (Str × Addr)) (fp : List Addr), PE (X.blk s H scope (compEnvC scope cl C X.env) fp) kx (tQ (Zo X T tb) k ke)) (he : ∀ (s : Shared) (H : Hp) (C : Addr) (cl : List (Str × Addr)) (fp : List Addr), PE (X.blk s H scope (compEnvC scope cl C X.env) fp) vx (tQ (Zo X T tb) k2 ve)) (nk2 : k2 ≠ .r := by decide) (hts : ∀ i, i ∈ ts → i ∈ own.map (·.2) := by decide) (hs : ∀ x, foldedSetIterable iter X.env x = pure x := by intro _; rfl) :
    QE X T tb .p (.DictComp kx vx [⟨tg, iter, ifs, 0⟩] scope pos) (dcM (own.map (·.2)) src g t ke ve) :=
  imp_e (pe_dc hc hN hi.p ok hg ht hk he hs) fun σ H Q h => dc_read nk2 hts h
end

theorem sw_trueD {kx vx : Expr} {gs : List Comprehension} {scope : Scope} {pos py : Pos} {y : Str} {l : Nat} {env : Env} (hk : env.scope.kind = .function) (hy : env.scope.names.lookup y = some .local) (hl : (py.line == pos.line) = true)
    (ha : (scope.names.any fun (n, k) => n == y && (k == .local || k == .cell)) = false) : swapsWith (.DictComp kx vx gs scope pos) (some (.Name y py)) l env = pure true := by
  have k1 : env.kindOf y = some .local := hy
  have k2 : env.blockKind = .function := by unfold Env.blockKind; rw [hk]; rfl
  unfold swapsWith
  simp only [k2, k1, ha, Expr.pos, hl]
  rfl
section
variable {X : Cx} {T : List (Addr × Str)} {tb pw kr : Bool}
/-- name = {.. for ..}, the name a plain local -/
theorem ps_setDc {i : Nat} {y : Str} {py : Pos} {kx vx tg iter : Expr} {ifs : List Expr} {scope : Scope} {own : List (Str × Nat)} {pos spos : Pos} {wi : TI} {g : TG} {tt : TT} {tk tv : TE} (hc : X.calm = true) (hN : X.N.Nodup) (hy : X.N[i]? = some y) (hyl : X.env.scope.names.lookup y = some .local)
    (hsw : swapsWith (.DictComp kx vx [⟨tg, iter, ifs, 0⟩] scope pos) (some (.Name y py)) spos.line X.env = pure true) (hi : PI X tg iter wi) (ok : BlkOk X.N X.env.scope scope own)
    (hg : ∀ (s : Shared) (H : Hp) (C : Addr) (cl : List (Str × Addr)) (fp : List Addr), PG (X.blk s H scope (compEnvC scope cl C X.env) fp) tg g) (ht : ∀ (s : Shared) (H : Hp) (C : Addr) (cl : List (Str × Addr)) (fp : List Addr), PTs (X.blk s H scope (compEnvC scope cl C X.env) fp) ifs tt)
    (hk : ∀ (s : Shared) (H : Hp) (C : Addr) (cl : List (Str × Addr)) (fp : List Addr), PE (X.blk s H scope (compEnvC scope cl C X.env) fp) kx tk) (he : ∀ (s : Shared) (H : Hp) (C : Addr) (cl : List (Str × Addr)) (fp : List Addr), PE (X.blk s H scope (compEnvC scope cl C X.env) fp) vx tv) (hs : ∀ x, foldedSetIterable iter X.env x = pure x) :
    PS X (.Assign [.Name y py] (.DictComp kx vx [⟨tg, iter, ifs, 0⟩] scope pos) spos) (tAsg (tDc wi g tt tk tv (own.map (·.2))) (gName i)) := ⟨fun pins s σ H B I h => by
  rw [exec_Assign_Name_used _ _ _ _ hsw]
  refine wpAny_bind (wpAny_standAt (wpAny_bind ?_))
  have h2 : tDc wi g tt tk tv (own.map (·.2)) σ H (fun x H1 => gName i x σ H1 B.nx) := h
  show wpAny _ X.A (do let _ ← comprehension (.DictComp kx vx [⟨tg, iter, ifs, 0⟩] scope pos) scope X.env (firstIterPos [⟨tg, iter, ifs, 0⟩] pos) newDict false (eval iter X.env) (some (assign (.Name y py) X.env))) _ _ s
  refine wpAny_bind (thn (dc_core (Qf := fun _ t => SP X pins B .next t) hc hN I hi ok hg ht hk he hs h2 fun A C t m H2 I2 q hn fp => ?_) fun _ t hq => wpAny_pure (wpAny_pure hq))
  show wpAny _ _ (assign (.Name y py) X.env (.ref A)) _ _ _
  obtain ⟨p0, p1, p2, p3, p4, p5⟩ := fp
  refine wpAny_assign_Name (store_ok2 (v := V.ref A) I2 hN hy (.inl hyl) rfl (fun t2 I3 z => ?_) (.inr hyl))
  obtain ⟨a, sb, ha⟩ := z
  have ne : C ≠ a := ha.elim (fun z => by rw [z]; exact p1) fun z w => p4 y a z w.symm
  exact ⟨m, hn.sameBut sb ne, fun h3 sb3 => ⟨_, H2, I3.turned (t' := t2.toks) (fun b o hb e => (sb3.2 b hb).trans e) p0 p1 p3 p4 p5, q⟩⟩⟩
theorem s_setDc (i : Nat) {y : Str} {py : Pos} {kx vx tg iter : Expr} {ifs : List Expr} {scope : Scope} {own : List (Str × Nat)} {pos spos : Pos} {src : S → Option (List D)} {g : D → S → Option S} {t : S → Option Bool} {ke ve : S → Option D} {k k2 : Kd} {ts : List Nat} (hc : X.calm = true) (hN : X.N.Nodup) (hi : QI X T tb pw tg iter src) (ok : BlkOk X.N X.env.scope scope own)
    (hg : ∀ (s : Shared) (H : Hp) (C : Addr) (cl : List (Str × Addr)) (fp : List Addr), PG (X.blk s H scope (compEnvC scope cl C X.env) fp) tg (tG (Zo X T tb) pw ts g)) (ht : ∀ (s : Shared) (H : Hp) (C : Addr) (cl : List (Str × Addr)) (fp : List Addr), PTs (X.blk s H scope (compEnvC scope cl C X.env) fp) ifs (tTQ (Zo X T tb) t))
    (hk : ∀ (s : Shared) (H : Hp) (C : Addr) (cl : List (Str × Addr)) (fp : List Addr), PE (X.blk s H scope (compEnvC scope cl C X.env) fp) kx (tQ (Zo X T tb) k ke)) (he : ∀ (s : Shared) (H : Hp) (C : Addr) (cl : List (Str × Addr)) (fp : List Addr), PE (X.blk s H scope (compEnvC scope cl C X.env) fp) vx (tQ (Zo X T tb) k2 ve)) (hy : X.N[i]? = some y := by rfl) (hyl : X.env.scope.names.lookup y = some .local := by rfl)
    (hsw : swapsWith (.DictComp kx vx [⟨tg, iter, ifs, 0⟩] scope pos) (some (.Name y py)) spos.line X.env = pure true := by exact sw_trueD rfl rfl rfl (by decide +kernel)) (nk2 : k2 ≠ .r := by decide) (hts : ∀ i, i ∈ ts → i ∈ own.map (·.2) := by decide) (hs : ∀ x, foldedSetIterable iter X.env x = pure x := by intro _; rfl) :
    PY X T tb kr (.Assign [.Name y py] (.DictComp kx vx [⟨tg, iter, ifs, 0⟩] scope pos) spos) (setS i (noSt (dcM (own.map (·.2)) src g t ke ve))) := imp_s (ps_setDc hc hN hy hyl hsw hi.p ok hg ht hk he hs) fun B σ H h => by
  obtain ⟨E, O, s, f, sm, hm, kk⟩ := h
  obtain ⟨⟨d, s1⟩, h1, hm⟩ := Option.bind_eq_some_iff.mp hm
  obtain ⟨x, hx, hxe⟩ := Option.map_eq_some_iff.mp h1
  cases hxe
  dsimp only at hm
  split at hm
  · next hl =>
    cases hm
    exact dc_read nk2 hts ⟨E, O, s, d, sm, hx, fun v H' e r => kk _ H' O (Stp.of_ex e) ((sm.ext e).setI hl r.toP)⟩
  · cases hm
end

/-! ## a dict of one's own is given away -/
theorem Sim.giveUpD {Z : Zx} {E : Ent} {O : List Addr} {σ : L2.St} {H : Hp} {s : S} {i : Nat} {kvs : List (D × D)} (h : Sim Z E O σ H s) (hi : s[i]? = some (.od kvs)) :
    ∃ a o vs O', σ[i]? = some (some (.ref a)) ∧ H a = some o ∧ E.H0 a = none ∧ DictO o (kvs.map (·.1)) vs ∧ Rps Z.K O H vs (kvs.map (·.2)) ∧ (∀ b, b ∈ O' → b ∈ O) ∧ a ∉ O' ∧ Sim Z E O' σ H (s.set i (.imm (.dict kvs))) := by
  have hid : ∀ b, b ∈ slF E (.od kvs) (sl σ i) → E.Hi b = none := fun b q => by
    obtain ⟨F, f1, _⟩ := h.own
    exact h.slotIdle hi (f1 i _ hi) ((f1 i _ hi).slF ▸ q)
  obtain ⟨l, ⟨F, f1, f2, f3, f4⟩, d, sb, f, t, tbs, idl⟩ := h
  obtain ⟨a, o, vs, h1, h2, h3, h4, h5, h6⟩ := f1 i _ hi
  have hil : i < s.length := lt_of_get hi
  have mem : ∀ {b}, b ∈ O.filter (fun b => decide (b ≠ a)) ↔ b ∈ O ∧ b ≠ a := fun {b} => by rw [List.mem_filter]; simp
  have own : ∀ {j b}, j ≠ i → b ∈ F j → b ≠ a := fun {j b} c m z => c (f4 j i b m (by rw [h1, z]; exact List.mem_cons_self))
  refine ⟨a, o, vs, O.filter (fun b => decide (b ≠ a)), sl_some h2, h3, h4, h5, h6, fun b m => (mem.mp m).1, fun m => (mem.mp m).2 rfl, by rw [List.length_set, l], ⟨fun j => if j = i then [] else F j, fun j m q => ?_, fun j q => ?_, fun j b q => ?_, fun j k b q r => ?_⟩, fun b m => d b (mem.mp m).1, fun b m => mem.mpr ⟨sb b m, fun z => E.h0 b m (by rw [z]; exact h4)⟩, f, t, tbs, fun b o q => ⟨⟨mem.mpr ⟨(idl b o q).1.1, fun z => by have := hid b (by rw [h2, z]; exact List.mem_cons_self); rw [q] at this; cases this⟩, (idl b o q).1.2⟩, fun j m e z => by
    by_cases c : j = i
    · subst c
      rw [List.getElem?_set_self hil] at e
      cases e
      cases z
    · rw [List.getElem?_set_ne (Ne.symm c)] at e
      exact (idl b o q).2 j m e z⟩⟩
  · dsimp only
    by_cases c : j = i
    · rw [c] at q ⊢
      rw [List.getElem?_set_self hil] at q
      cases q
      rw [if_pos rfl]
      exact ⟨rfl, _, h2, .dct h3 h5 (fun m => (mem.mp m).2 rfl) (h6.mono fun b m => (mem.mp m).1)⟩
    · rw [List.getElem?_set_ne (Ne.symm c)] at q
      rw [if_neg c]
      have g := f1 j m q
      cases m with
      | un => exact g
      | imm dd => obtain ⟨g1, v, g2, g3⟩ := g; exact ⟨g1, v, g2, g3.mono fun b m => (mem.mp m).1⟩
      | ol es => obtain ⟨b, vs, g1, g2, g3, g4, g5⟩ := g; exact ⟨b, vs, g1, g2, g3, g4, g5.mono fun b m => (mem.mp m).1⟩
      | bag b => exact g
      | scr ns => exact g
      | od kvs => obtain ⟨b, o, ks, g1, g2, g3, g4, g5, g6⟩ := g; exact ⟨b, o, ks, g1, g2, g3, g4, g5, g6.mono fun b m => (mem.mp m).1⟩
  · dsimp only
    rw [List.length_set] at q
    split
    · rfl
    · exact f2 j q
  · dsimp only at q
    split at q
    · cases q
    · next c => exact mem.mpr ⟨f3 j b q, own c q⟩
  · dsimp only at q r
    split at q
    · cases q
    · split at r
      · cases r
      · exact f4 j k b q r
def frzD (i : Nat) : S → Option (D × S) := fun s => (odAt s i).map fun kvs => (.dict kvs, s.set i (.imm (.dict kvs)))
theorem e_frzD {X : Cx} {T : List (Addr × Str)} {tb : Bool} (i : Nat) {x : Str} {pos : Pos} (hN : X.N[i]? = some x := by rfl) (hv : Vis X.env.scope x := by first | exact Or.inl rfl | exact Or.inr (Or.inl rfl) | exact Or.inr (Or.inr rfl)) (hd : (x == ("__debug__" : Str)) = false := by decide)
    (hcd : (x == ("__classdict__" : Str)) = false := by decide) : EE X T tb (.Name x pos) (frzD i) := imp_e (pe_var hN hv hd hcd) fun σ H Q h => by
  obtain ⟨E, O, s, d, s', sm, hm, k⟩ := h
  obtain ⟨kvs, q, hm⟩ := Option.map_eq_some_iff.mp hm
  cases hm
  obtain ⟨a, o, vs, O', h1, h2, h3, h4, h5, h6, h7, sm'⟩ := sm.giveUpD (odAt_some q)
  exact ⟨_, h1, k _ H O' ⟨Kp.refl, fun b m => .inl (h6 b m), fun b z => z⟩ sm' (.dct h2 h4 h7 (h5.mono h6))⟩
end Y

namespace Y
open PySem PySem.Spec PyProof.Rows L2

/-! ## what is owned but in no slot -/
def Ent.hold (E : Ent) (a : Addr) (o : HO) : Ent := { E with Hi := fun b => if b = a then some o else E.Hi b }
theorem slF_hold {E : Ent} {a : Addr} {o : HO} {m : M} {ov : Option V} : slF (E.hold a o) m ov = slF E m ov := by cases m <;> cases ov <;> rfl
theorem slotR_hold {K : Fg} {E : Ent} {a : Addr} {o : HO} {O : List Addr} {H : Hp} {m : M} {ov : Option V} {F : List Addr} : SlotR K (E.hold a o) O H m ov F = SlotR K E O H m ov F := by cases m <;> rfl
/-- a in no slot -/
def NoSlot (E : Ent) (σ : L2.St) (s : S) (a : Addr) : Prop := ∀ i m, s[i]? = some m → a ∉ slF E m (sl σ i)
section
variable {Z : Zx} {E : Ent} {O O' : List Addr} {σ : L2.St} {H H' : Hp} {s : S} {a : Addr} {o o' : HO}
theorem Sim.noSlot (h : Sim Z E O σ H s) (n : a ∉ O) : NoSlot E σ s a := fun i m e z => by
  obtain ⟨F, f1, _, f3, _⟩ := h.own
  exact n (f3 i a ((f1 i m e).slF ▸ z))
theorem Sim.hold (h : Sim Z E O σ H s) (aO : a ∈ O) (ha : H a = some o) (nt : ∀ ps, o ≠ .tbl ps) (n : NoSlot E σ s a) : Sim Z (E.hold a o) O σ H s := by
  obtain ⟨l, ⟨F, f1, f2, f3, f4⟩, d, sb, f, t, tb, idl⟩ := h
  refine ⟨l, ⟨F, fun i m q => by rw [slotR_hold]; exact f1 i m q, f2, f3, f4⟩, d, sb, f, t, tb, fun b u q => ?_⟩
  have q : (if b = a then some o else E.Hi b) = some u := q
  by_cases c : b = a
  · rw [if_pos c] at q
    cases q
    subst c
    exact ⟨⟨aO, ha, nt⟩, fun i m e z => n i m e (slF_hold ▸ z)⟩
  · rw [if_neg c] at q
    exact ⟨(idl b u q).1, fun i m e z => (idl b u q).2 i m e (slF_hold ▸ z)⟩
theorem Sim.held (h : Sim Z (E.hold a o) O σ H s) (n : E.Hi a = none) : Sim Z E O σ H s ∧ a ∈ O ∧ H a = some o ∧ NoSlot E σ s a := by
  obtain ⟨l, ⟨F, f1, f2, f3, f4⟩, d, sb, f, t, tb, idl⟩ := h
  have ia := idl a o (if_pos rfl)
  refine ⟨⟨l, ⟨F, fun i m q => by have := f1 i m q; rwa [slotR_hold] at this, f2, f3, f4⟩, d, sb, f, t, tb, fun b u q => ?_⟩, ia.1.1, ia.1.2.1, fun i m e z => ia.2 i m e (by rw [slF_hold]; exact z)⟩
  have c : b ≠ a := fun z => by rw [z, n] at q; cases q
  have := idl b u ((if_neg c).trans q)
  exact ⟨this.1, fun i m e z => this.2 i m e (by rw [slF_hold]; exact z)⟩
theorem Sim.same (h : Sim Z E O σ H s) (e : ∀ x, x ∈ O ↔ x ∈ O') : Sim Z E O' σ H s := by
  obtain ⟨l, ⟨F, f1, f2, f3, f4⟩, d, sb, f, t, tb, idl⟩ := h
  refine ⟨l, ⟨F, fun i m q => ?_, f2, fun i b q => (e b).mp (f3 i b q), f4⟩, fun b q => d b ((e b).mpr q), fun b q => (e b).mp (sb b q), f, t, tb, fun b u q => ⟨⟨(e b).mp (idl b u q).1.1, (idl b u q).1.2⟩, (idl b u q).2⟩⟩
  have g := f1 i m q
  cases m with
  | un => exact g
  | imm dd => obtain ⟨g1, v, g2, g3⟩ := g; exact ⟨g1, v, g2, g3.mono fun b m => (e b).mpr m⟩
  | ol es => obtain ⟨b, vs, g1, g2, g3, g4, g5⟩ := g; exact ⟨b, vs, g1, g2, g3, g4, g5.mono fun b m => (e b).mpr m⟩
  | bag b => exact g
  | scr ns => exact g
  | od kvs => obtain ⟨b, o, ks, g1, g2, g3, g4, g5, g6⟩ := g; exact ⟨b, o, ks, g1, g2, g3, g4, g5, g6.mono fun b m => (e b).mpr m⟩
/-- it is owned no more -/
theorem Sim.shrink (h : Sim Z E O σ H s) (n : NoSlot E σ s a) (h0 : E.H0 a = none) (hi : E.Hi a = none) : Sim Z E (O.filter fun b => decide (b ≠ a)) σ H s := by
  have mem : ∀ {b}, b ∈ O.filter (fun b => decide (b ≠ a)) ↔ b ∈ O ∧ b ≠ a := fun {b} => by rw [List.mem_filter]; simp
  obtain ⟨l, ⟨F, f1, f2, f3, f4⟩, d, sb, f, t, tb, idl⟩ := h
  refine ⟨l, ⟨F, fun i m q => ?_, f2, fun i b q => mem.mpr ⟨f3 i b q, fun z => ?_⟩, f4⟩, fun b q => d b (mem.mp q).1, fun b q => mem.mpr ⟨sb b q, fun z => E.h0 b q (by rw [z]; exact h0)⟩, f, t, tb, fun b u q => ⟨⟨mem.mpr ⟨(idl b u q).1.1, fun z => by rw [z, hi] at q; cases q⟩, (idl b u q).1.2⟩, (idl b u q).2⟩⟩
  · have g := f1 i m q
    cases m with
    | un => exact g
    | imm dd => obtain ⟨g1, v, g2, g3⟩ := g; exact ⟨g1, v, g2, g3.mono fun b m => (mem.mp m).1⟩
    | ol es => obtain ⟨b, vs, g1, g2, g3, g4, g5⟩ := g; exact ⟨b, vs, g1, g2, g3, g4, g5.mono fun b m => (mem.mp m).1⟩
    | bag b => exact g
    | scr ns => exact g
    | od kvs => obtain ⟨b, o, ks, g1, g2, g3, g4, g5, g6⟩ := g; exact ⟨b, o, ks, g1, g2, g3, g4, g5, g6.mono fun b m => (mem.mp m).1⟩
  · subst z
    cases e : s[i]? with
    | none => rw [f2 i (List.getElem?_eq_none_iff.mp e)] at q; cases q
    | some m => exact n i m e ((f1 i m e).slF ▸ q)
/-- a held list is written -/
theorem Sim.rehold {vs ws : List V} (h : Sim Z (E.hold a (.lst vs)) O σ H s) (n : E.Hi a = none) (h0 : E.H0 a = none) : Sim Z (E.hold a (.lst ws)) O σ (upd H a (.lst ws)) s ∧ Stp Z.tb O H O (upd H a (.lst ws)) := by
  obtain ⟨sm, aO, ha, ns⟩ := h.held n
  have k : Kp Z.tb [a] H (upd H a (.lst ws)) := upd_kp ha trivial
  have hF : ∀ b, b ∈ [a] → b ∈ O := fun b q => by rw [List.mem_singleton.mp q]; exact aO
  refine ⟨Sim.hold (sm.chg0 (F1 := [a]) k hF (fun b q => by rw [List.mem_singleton.mp q]; exact .inr h0) upd_there (upd_tabs sm.tabs ha) (fun j m' F' e g b q z => ?_) (fun b q => by rw [List.mem_singleton.mp q]; exact n)) aO upd_same (fun ps z => by cases z) ns, k.stp hF upd_there⟩
  rw [List.mem_singleton.mp z] at q
  exact ns j m' e (g.slF ▸ q)
end
/-! ## the slots of a comprehension's names are as they were -/
def rst (vs : List Nat) : Nat → S → S → S
  | k, a :: s, b :: t => (if vs.contains k then a else b) :: rst vs (k + 1) s t
  | _, _, _ => []
theorem rst_length (vs : List Nat) : ∀ (k : Nat) (s t : S), s.length = t.length → (rst vs k s t).length = s.length
  | _, [], [], _ => rfl
  | _, [], _ :: _, h => by cases h
  | _, _ :: _, [], h => by cases h
  | k, a :: s, b :: t, h => by rw [rst, List.length_cons, List.length_cons, rst_length vs (k + 1) s t (by simpa using h)]
theorem rst_get (vs : List Nat) : ∀ (k : Nat) (s t : S), s.length = t.length → ∀ i : Nat, (rst vs k s t)[i]? = if vs.contains (k + i) then s[i]? else t[i]?
  | k, [], [], _, i => by simp [rst]
  | _, [], _ :: _, h, _ => by cases h
  | _, _ :: _, [], h, _ => by cases h
  | k, a :: s, b :: t, h, 0 => by
    rw [rst, List.getElem?_cons_zero, List.getElem?_cons_zero, List.getElem?_cons_zero, Nat.add_zero]
    split <;> rfl
  | k, a :: s, b :: t, h, i + 1 => by
    rw [rst, List.getElem?_cons_succ, List.getElem?_cons_succ, List.getElem?_cons_succ, rst_get vs (k + 1) s t (by simpa using h), show k + 1 + i = k + (i + 1) by omega]
def plainM : M → Bool
  | .un => true
  | .imm _ => true
  | _ => false
def plainAt (s : S) (vs : List Nat) : Bool := vs.all fun i => match s[i]? with
  | some m => plainM m
  | none => true
theorem Sim.back {Z : Zx} {E : Ent} {O O' : List Addr} {σ : L2.St} {H H' : Hp} {s t : S} {vs : List Nat} (h : Sim Z E O σ H s) (h1 : Sim Z E O' (L2.wipe σ vs) H' t) (st : Stp Z.tb O H O' H') (hp : plainAt s vs = true) : Sim Z E O' σ H' (rst vs 0 s t) := by
  have hl : s.length = t.length := by rw [← h.len, ← h1.len, L2.wipe_length]
  have get := rst_get vs 0 s t hl
  obtain ⟨F, f1, f2, f3, f4⟩ := h.own
  obtain ⟨l', ⟨G, g1, g2, g3, g4⟩, d', sb', fr', t', tb', idl'⟩ := h1
  have plain : ∀ i m, i ∈ vs → s[i]? = some m → m = .un ∨ ∃ d, m = .imm d := fun i m q e => by
    have := List.all_eq_true.mp hp i q
    rw [e] at this
    cases m <;> first | exact .inl rfl | exact .inr ⟨_, rfl⟩ | cases this
  have slw : ∀ i, i ∉ vs → sl (L2.wipe σ vs) i = sl σ i := fun i q => by unfold sl; rw [wipe_out q]
  refine ⟨by rw [rst_length _ _ _ _ hl, h.len], ⟨fun i => if i ∈ vs then [] else G i, fun i m q => ?_, fun i q => ?_, fun i b q => ?_, fun i j b q r => ?_⟩, d', sb', fr', t', tb', fun a o q => ⟨(idl' a o q).1, fun i m e z => ?_⟩⟩
  · rw [get, Nat.zero_add] at q
    by_cases c : i ∈ vs
    · rw [if_pos (by simpa using c)] at q
      dsimp only
      rw [if_pos c]
      have r := f1 i m q
      rcases plain i m c q with rfl | ⟨d, rfl⟩
      · rfl
      · obtain ⟨_, v, r2, r3⟩ := r
        exact ⟨rfl, v, r2, r3.step st⟩
    · rw [if_neg (by simpa using c)] at q
      dsimp only
      rw [if_neg c, ← slw i c]
      exact g1 i m q
  · rw [rst_length _ _ _ _ hl] at q
    dsimp only
    split
    · rfl
    · exact g2 i (by omega)
  · dsimp only at q
    split at q
    · cases q
    · exact g3 i b q
  · dsimp only at q r
    split at q
    · cases q
    · split at r
      · cases r
      · exact g4 i j b q r
  · rw [get, Nat.zero_add] at e
    by_cases c : i ∈ vs
    · rw [if_pos (by simpa using c)] at e
      rcases plain i m c e with rfl | ⟨d, rfl⟩ <;> cases z
    · rw [if_neg (by simpa using c)] at e
      rw [← slw i c] at z
      exact (idl' a o q).2 i m e z
/-! ## comprehensions with effects within -/
def lcGoE (vs : List Nat) (g : D → S → Option S) (t : S → Option (Bool × S)) (e : S → Option (D × S)) : List D → S → Option (List D × S)
  | [], s => some ([], s)
  | d :: ds, s => (g d s).bind fun s1 => (t s1).bind fun p => if p.1 = true then (e p.2).bind fun q => (lcGoE vs g t e ds (wipeS q.2 vs)).map fun r => (q.1 :: r.1, r.2) else lcGoE vs g t e ds (wipeS p.2 vs)
def lcE (vs : List Nat) (src : S → Option (List D × S)) (g : D → S → Option S) (t : S → Option (Bool × S)) (e : S → Option (D × S)) : S → Option (List D × S) := fun s =>
  (src s).bind fun p => if (Nat.ble p.1.length 1000000 && plainAt p.2 vs) = true then (lcGoE vs g t e p.1 (wipeS p.2 vs)).map fun q => (q.1, rst vs 0 p.2 q.2) else none
section
variable {X : Cx} {T : List (Addr × Str)} {tb pw : Bool}
theorem lcE_read {src : S → Option (List D × S)} {g : D → S → Option S} {t : S → Option (Bool × S)} {e : S → Option (D × S)} {vs ts : List Nat} (hts : ∀ i, i ∈ ts → i ∈ vs) {σ : L2.St} {H : Hp} {Q : VK} (h : tEo (Zo X T tb) (lcE vs src g t e) σ H Q) :
    tLc (tIE (Zo X T tb) pw src) (tG (Zo X T tb) pw ts g) (tTE (Zo X T tb) t) (tEi (Zo X T tb) e) vs σ H Q := by
  obtain ⟨E, O0, s0, rs, sF, sm0, hm, kk⟩ := h
  obtain ⟨⟨ds, s1⟩, hds, hm⟩ := Option.bind_eq_some_iff.mp hm
  dsimp only at hm
  split at hm
  case isFalse => cases hm
  next hle =>
  obtain ⟨⟨rs', s2⟩, hrs, hz⟩ := Option.map_eq_some_iff.mp hm
  cases hz
  rw [Bool.and_eq_true, Nat.ble_eq] at hle
  obtain ⟨hle, hpl⟩ := hle
  refine ⟨E, O0, s0, ds, s1, sm0, hds, fun J H1 O1 st1 sm1 w A hA => ?_⟩
  have nA : A ∉ O1 := fun m => sm1.dom A m hA
  have iA : E.Hi A = none := sm1.notIdle nA
  have zA : E.H0 A = none := sm1.there A hA
  have eA : Ex H1 (upd H1 A (.lst [])) := Ex.new hA
  have wA : Sim (Zo X T tb) (E.hold A (.lst [])) (A :: O1) (L2.wipe σ vs) (upd H1 A (.lst [])) (wipeS s1 vs) :=
    Sim.hold ((sm1.wipe vs).grow hA eA (by rw [upd_same]; exact fun z => by cases z)) List.mem_cons_self upd_same (fun ps z => by cases z) (((sm1.wipe vs).noSlot nA))
  have stA : Stp tb O1 H1 (A :: O1) (upd H1 A (.lst [])) := ⟨fun b o h _ _ => eA b o h, fun b m => (List.mem_cons.mp m).elim (fun z => .inr (z ▸ hA)) .inl, fun b z => eA.back z⟩
  refine ⟨fun i m H2 => m = ds.length - i ∧ i ≤ ds.length ∧ ∃ O2 s3 acc dn rest, Sim (Zo X T tb) (E.hold A (.lst acc)) O2 (L2.wipe σ vs) H2 s3 ∧ Stp tb O1 H1 O2 H2 ∧ Rps X.K O2 H2 acc dn ∧ lcGoE vs g t e (ds.drop i) s3 = some (rest, s2) ∧ rs' = dn ++ rest ∧ acc.length ≤ i,
    ⟨ds.length, by simp, Nat.zero_le _, A :: O1, _, [], [], rs', wA, stA, .nil, hrs, rfl, Nat.le_refl _⟩, ?_⟩
  rintro i m H2 ⟨rfl, hi, O2, s3, acc, dn, rest, sm2, st2, racc, hgo, hcat, hal⟩
  obtain ⟨w1, w2⟩ := w i tb O2 H2 st2
  by_cases hlt : i < ds.length
  · refine .inr ?_
    obtain ⟨go, w1⟩ := w1 _ (List.getElem?_eq_getElem hlt)
    rw [List.drop_eq_getElem_cons hlt] at hgo
    unfold lcGoE at hgo
    obtain ⟨s4, hg4, hgo⟩ := Option.bind_eq_some_iff.mp hgo
    obtain ⟨⟨b, s5⟩, ht5, hgo⟩ := Option.bind_eq_some_iff.mp hgo
    refine ⟨go, fun H' => ∃ O2 s3 acc dn rest, Sim (Zo X T tb) (E.hold A (.lst acc)) O2 (L2.wipe σ vs) H' s3 ∧ Stp tb O1 H1 O2 H' ∧ Rps X.K O2 H' acc dn ∧ lcGoE vs g t e (ds.drop (i + 1)) s3 = some (rest, s2) ∧ rs' = dn ++ rest ∧ acc.length ≤ i + 1, fun H' q => ⟨ds.length - (i + 1), by omega, rfl, hlt, q⟩, fun x H3 y => ?_⟩
    obtain ⟨e3, rx⟩ := w1 x H3 y
    refine ⟨E.hold A (.lst acc), O2, s3, ds[i], s4, sm2.ext e3, rx, hg4, fun σ2 ag sm4 => ⟨wipe_agr ag hts, E.hold A (.lst acc), O2, s4, b, s5, sm4, ht5, fun H4 O4 st4 sm5 => ?_⟩⟩
    have st24 : Stp tb O2 H2 O4 H4 := (Stp.of_ex e3).trans st4
    have hwp : L2.wipe σ2 vs = L2.wipe σ vs := wipe_agr ag hts
    cases b with
    | true =>
      rw [if_pos rfl] at hgo
      dsimp only
      rw [if_pos rfl]
      obtain ⟨⟨z, s6⟩, hz6, hgo⟩ := Option.bind_eq_some_iff.mp hgo
      obtain ⟨⟨r', s7⟩, hr', hgo⟩ := Option.map_eq_some_iff.mp hgo
      cases hgo
      refine ⟨E.hold A (.lst acc), O4, s5, z, s6, sm5, hz6, fun v H5 O5 st5 sm6 r5 => ?_⟩
      have st25 := st24.trans st5
      have smw := sm6.wipe vs
      rw [hwp] at smw
      obtain ⟨smd, aO, ha, ns⟩ := smw.held iA
      refine ⟨acc, ha, Nat.lt_of_le_of_lt (Nat.le_trans hal hi) (Nat.lt_of_le_of_lt hle (by decide)), ?_⟩
      obtain ⟨sm7, st7⟩ := smw.rehold (ws := acc ++ [v]) iA zA
      exact ⟨O5, _, acc ++ [v], dn ++ [z], r', sm7, (st2.trans st25).trans st7, ((racc.step st25).step st7).append (.one (r5.step st7)), hr', by rw [hcat]; simp, by rw [List.length_append]; simp; omega⟩
    | false =>
      rw [if_neg Bool.false_ne_true] at hgo
      dsimp only
      rw [if_neg Bool.false_ne_true]
      have smw := sm5.wipe vs
      rw [hwp] at smw
      exact ⟨O4, _, acc, dn, rest, smw, st2.trans st24, racc.step st24, hgo, hcat, by omega⟩
  · have hi : i = ds.length := by omega
    refine .inl ⟨w2 (by omega), ?_⟩
    rw [hi, List.drop_length] at hgo
    cases hgo
    rw [List.append_nil] at hcat
    subst hcat
    obtain ⟨smd, aO, ha, ns⟩ := sm2.held iA
    have mem : ∀ {b}, b ∈ O2.filter (fun b => decide (b ≠ A)) ↔ b ∈ O2 ∧ b ≠ A := fun {b} => by rw [List.mem_filter]; simp
    have eqv : ∀ x, x ∈ O2 ↔ x ∈ A :: O2.filter (fun b => decide (b ≠ A)) := fun x => by
      rw [List.mem_cons, mem]
      by_cases c : x = A
      · exact ⟨fun _ => .inl c, fun _ => c ▸ aO⟩
      · exact ⟨fun z => .inr ⟨z, c⟩, fun z => z.elim (fun y => absurd y c) (·.1)⟩
    have sm3 := sm1.back smd st2 hpl
    have nsB : NoSlot E σ (rst vs 0 s1 s2) A := fun j m e z => by
      have hl : s1.length = s2.length := by rw [← sm1.len, ← smd.len, L2.wipe_length]
      rw [rst_get vs 0 s1 s2 hl, Nat.zero_add] at e
      by_cases c : j ∈ vs
      · rw [if_pos (by simpa using c)] at e
        have := List.all_eq_true.mp hpl j c
        rw [e] at this
        cases m <;> first | cases z | cases this
      · rw [if_neg (by simpa using c)] at e
        refine ns j m e ?_
        have : sl (L2.wipe σ vs) j = sl σ j := by unfold sl; rw [wipe_out c]
        rw [this]; exact z
    have smS := sm3.shrink nsB zA iA
    have stF : Stp tb O0 H (A :: O2.filter (fun b => decide (b ≠ A))) H2 := by
      have := st1.trans st2
      exact ⟨this.keep, fun b m => this.new b ((eqv b).mpr m), this.there⟩
    exact kk A acc H2 _ stF (fun m => (mem.mp m).2 rfl) smS (sm3.same eqv) zA ha (racc.mono fun b m => (eqv b).mpr m)
theorem pts_yesE {X : Cx} : PTs X [] (tTE (Zo X T tb) (noSt yesM)) := ⟨fun pins s σ H Q I h => by
  obtain ⟨E, O, s, b, s', sm, hm, k⟩ := h
  cases hm
  exact pts_nil.run pins _ σ H Q I (k H O Stp.refl sm)⟩
theorem pts_e {X : Cx} {c : Expr} {t : S → Option (Bool × S)} (h : ET X T tb c t) : PTs X [c] (tTE (Zo X T tb) t) := pts_one h
theorem eo_lcE {elt tg iter : Expr} {ifs : List Expr} {scope : Scope} {own : List (Str × Nat)} {pos : Pos} {src : S → Option (List D × S)} {g : D → S → Option S} {t : S → Option (Bool × S)} {e : S → Option (D × S)} {ts : List Nat} (hc : X.calm = true) (hN : X.N.Nodup) (hi : EI X T tb pw tg iter src) (ok : BlkOk X.N X.env.scope scope own)
    (hg : ∀ (s : Shared) (H : Hp) (C : Addr) (cl : List (Str × Addr)) (fp : List Addr), PG (X.blk s H scope (compEnvC scope cl C X.env) fp) tg (tG (Zo X T tb) pw ts g)) (ht : ∀ (s : Shared) (H : Hp) (C : Addr) (cl : List (Str × Addr)) (fp : List Addr), PTs (X.blk s H scope (compEnvC scope cl C X.env) fp) ifs (tTE (Zo X T tb) t))
    (he : ∀ (s : Shared) (H : Hp) (C : Addr) (cl : List (Str × Addr)) (fp : List Addr), PE (X.blk s H scope (compEnvC scope cl C X.env) fp) elt (tEi (Zo X T tb) e)) (hts : ∀ i, i ∈ ts → i ∈ own.map (·.2) := by decide) (hs : ∀ x, foldedSetIterable iter X.env x = pure x := by intro _; rfl) :
    EO X T tb (.ListComp elt [⟨tg, iter, ifs, 0⟩] scope pos) (lcE (own.map (·.2)) src g t e) :=
  imp_e (pe_lc hc hN hi ok hg ht he hs) fun σ H Q h => lcE_read hts h
end
end Y

namespace Y
open PySem PySem.Spec PyProof.Rows L2

/-! ## several targets at once -/
inductive PV where
  | i (d : D)
  | o (ds : List D)
  | p (kvs : List (D × D))
theorem hold_comm {E : Ent} {a b : Addr} {o u : HO} (h : a ≠ b) : (E.hold a o).hold b u = (E.hold b u).hold a o := by
  unfold Ent.hold
  congr 1
  funext c
  by_cases ca : c = a
  · subst ca
    simp [h]
  · by_cases cb : c = b
    · subst cb; simp [ca]
    · simp [ca, cb]
/-- values that wait for their targets -/
def Pend (Z : Zx) (O : List Addr) (σ : L2.St) (H : Hp) (s : S) : Ent → List V → List PV → Prop
  | E, [], [] => Sim Z E O σ H s
  | E, v :: vs, .i d :: ps => Rp Z.K O H v d ∧ Pend Z O σ H s E vs ps
  | E, v :: vs, .o ds :: ps => ∃ a ws, v = .ref a ∧ E.Hi a = none ∧ E.H0 a = none ∧ Rps Z.K O H ws ds ∧ Pend Z O σ H s (E.hold a (.lst ws)) vs ps
  | E, v :: vs, .p kvs :: ps => ∃ a o ws, v = .ref a ∧ E.Hi a = none ∧ E.H0 a = none ∧ DictO o (kvs.map (·.1)) ws ∧ Rps Z.K O H ws (kvs.map (·.2)) ∧ Pend Z O σ H s (E.hold a o) vs ps
  | _, _, _ => False
section
variable {Z : Zx} {O O' : List Addr} {σ σ' : L2.St} {H H' : Hp} {s s' : S}
/-- the same values under other slots, another heap -/
theorem Pend.map (st : Stp Z.tb O H O' H') : ∀ (ps : List PV) (vs : List V) (E : Ent), (∀ E' : Ent, E'.H0 = E.H0 → E'.P = E.P → Sim Z E' O σ H s → Sim Z E' O' σ' H' s') → Pend Z O σ H s E vs ps → Pend Z O' σ' H' s' E vs ps
  | [], [], E, f, h => f E rfl rfl h
  | [], _ :: _, _, _, h => h.elim
  | .i d :: ps, v :: vs, E, f, h => ⟨h.1.step st, Pend.map st ps vs E f h.2⟩
  | .o ds :: ps, v :: vs, E, f, ⟨a, ws, h1, h2, h3, h4, h5⟩ => ⟨a, ws, h1, h2, h3, h4.step st, Pend.map st ps vs _ f h5⟩
  | .p kvs :: ps, v :: vs, E, f, ⟨a, o, ws, h1, h2, h3, h4, h5, h6⟩ => ⟨a, o, ws, h1, h2, h3, h4, h5.step st, Pend.map st ps vs _ f h6⟩
  | .i _ :: _, [], _, _, h => h.elim
  | .o _ :: _, [], _, _, h => h.elim
  | .p _ :: _, [], _, _, h => h.elim
theorem Pend.sim : ∀ (ps : List PV) (vs : List V) (E : Ent), Pend Z O σ H s E vs ps → ∃ E' : Ent, E'.H0 = E.H0 ∧ E'.P = E.P ∧ Sim Z E' O σ H s
  | [], [], E, h => ⟨E, rfl, rfl, h⟩
  | [], _ :: _, _, h => h.elim
  | .i d :: ps, v :: vs, E, h => Pend.sim ps vs E h.2
  | .o ds :: ps, v :: vs, E, ⟨a, ws, _, _, _, _, h5⟩ => Pend.sim ps vs (E.hold a (.lst ws)) h5
  | .p kvs :: ps, v :: vs, E, ⟨a, o, ws, _, _, _, _, _, h6⟩ => Pend.sim ps vs (E.hold a o) h6
  | .i _ :: _, [], _, h => h.elim
  | .o _ :: _, [], _, h => h.elim
  | .p _ :: _, [], _, h => h.elim
/-- a held object goes into a slot -/
theorem Pend.take {i : Nat} {a : Addr} {ob : HO} {m : M} (hi : i < s.length) : ∀ (ps : List PV) (vs : List V) (E : Ent), E.Hi a = none → E.H0 a = none → (∀ E' : Ent, E'.H0 = E.H0 → SlotR Z.K E' O H m (some (.ref a)) [a]) → Pend Z O σ H s (E.hold a ob) vs ps → Pend Z O (σ.set i (some (.ref a))) H (s.set i m) E vs ps
  | [], [], E, n, z, f, h => by
    obtain ⟨sm, aO, ha, ns⟩ := Sim.held h n
    refine sm.slot hi (F1 := [a]) (f E rfl) (fun b q => by rw [List.mem_singleton.mp q]; exact aO) (fun b q j m' F c e hr => ?_) (fun b q => by rw [List.mem_singleton.mp q]; exact n)
    rw [List.mem_singleton.mp q, hr.slF]
    exact ns j m' e
  | [], _ :: _, _, _, _, _, h => h.elim
  | .i d :: ps, v :: vs, E, n, z, f, h => ⟨h.1, Pend.take hi ps vs E n z f h.2⟩
  | .o ds :: ps, v :: vs, E, n, z, f, ⟨b, ws, h1, h2, h3, h4, h5⟩ => by
    have c : b ≠ a := fun q => by
      have h2 : (if b = a then some ob else E.Hi b) = none := h2
      rw [if_pos q] at h2; cases h2
    have h2' : E.Hi b = none := by
      have h2 : (if b = a then some ob else E.Hi b) = none := h2
      rwa [if_neg c] at h2
    rw [hold_comm (Ne.symm c)] at h5
    exact ⟨b, ws, h1, h2', h3, h4, Pend.take hi ps vs (E.hold b (.lst ws)) (by show (if a = b then _ else _) = none; rw [if_neg (Ne.symm c)]; exact n) z f h5⟩
  | .p kvs :: ps, v :: vs, E, n, z, f, ⟨b, o, ws, h1, h2, h3, h4, h5, h6⟩ => by
    have c : b ≠ a := fun q => by
      have h2 : (if b = a then some ob else E.Hi b) = none := h2
      rw [if_pos q] at h2; cases h2
    have h2' : E.Hi b = none := by
      have h2 : (if b = a then some ob else E.Hi b) = none := h2
      rwa [if_neg c] at h2
    rw [hold_comm (Ne.symm c)] at h6
    exact ⟨b, o, ws, h1, h2', h3, h4, h5, Pend.take hi ps vs (E.hold b o) (by show (if a = b then _ else _) = none; rw [if_neg (Ne.symm c)]; exact n) z f h6⟩
  | .i _ :: _, [], _, _, _, _, h => h.elim
  | .o _ :: _, [], _, _, _, _, h => h.elim
  | .p _ :: _, [], _, _, _, _, h => h.elim
end
def putPV (i : Nat) : PV → S → Option S
  | .i d, s => if i < s.length then some (s.set i (.imm d)) else none
  | .o ds, s => if i < s.length then some (s.set i (.ol ds)) else none
  | .p kvs, s => if i < s.length then some (s.set i (.od kvs)) else none
theorem Pend.put {Z : Zx} {E : Ent} {O : List Addr} {σ : L2.St} {H : Hp} {s s' : S} {i : Nat} {v : V} {p : PV} {vs : List V} {ps : List PV} (h : Pend Z O σ H s E (v :: vs) (p :: ps)) (e : putPV i p s = some s') : Pend Z O (σ.set i (some v)) H s' E vs ps := by
  cases p with
  | i d =>
    unfold putPV at e
    dsimp only at e
    split at e
    · next hl => cases e; exact Pend.map Stp.refl ps vs E (fun E' _ _ sm => sm.setI hl h.1) h.2
    · cases e
  | o ds =>
    obtain ⟨a, ws, rfl, h2, h3, h4, h5⟩ := h
    unfold putPV at e
    dsimp only at e
    split at e
    · next hl =>
      cases e
      obtain ⟨E', _, _, sm⟩ := Pend.sim ps vs _ h5
      have ha : H a = some (.lst ws) := by
        have : ∀ (ps : List PV) (vs : List V) (E : Ent), E.Hi a = some (.lst ws) → Pend Z O σ H s E vs ps → H a = some (.lst ws) := by
          intro ps
          induction ps with
          | nil =>
            intro vs E n h
            cases vs with
            | nil => exact (h.idle a _ n).1.2.1
            | cons _ _ => exact h.elim
          | cons p ps ih =>
            intro vs E n h
            cases vs with
            | nil => cases p <;> exact h.elim
            | cons v vs =>
              cases p with
              | i d => exact ih vs E n h.2
              | o ds =>
                obtain ⟨b, _, _, g2, _, _, g5⟩ := h
                refine ih vs _ ?_ g5
                show (if a = b then _ else _) = _
                rw [if_neg (fun q => by rw [← q, n] at g2; cases g2)]
                exact n
              | p kvs =>
                obtain ⟨b, _, _, _, g2, _, _, _, g5⟩ := h
                refine ih vs _ ?_ g5
                show (if a = b then _ else _) = _
                rw [if_neg (fun q => by rw [← q, n] at g2; cases g2)]
                exact n
        exact this ps vs _ (if_pos rfl) h5
      exact Pend.take (m := .ol ds) hl ps vs E h2 h3 (fun E' e0 => ⟨a, ws, rfl, rfl, ha, by rw [e0]; exact h3, h4⟩) h5
    · cases e
  | p kvs =>
    obtain ⟨a, o, ws, rfl, h2, h3, h4, h4', h5⟩ := h
    unfold putPV at e
    dsimp only at e
    split at e
    · next hl =>
      cases e
      have ha : H a = some o := by
        have : ∀ (ps : List PV) (vs : List V) (E : Ent), E.Hi a = some o → Pend Z O σ H s E vs ps → H a = some o := by
          intro ps
          induction ps with
          | nil =>
            intro vs E n h
            cases vs with
            | nil => exact (h.idle a _ n).1.2.1
            | cons _ _ => exact h.elim
          | cons p ps ih =>
            intro vs E n h
            cases vs with
            | nil => cases p <;> exact h.elim
            | cons v vs =>
              cases p with
              | i d => exact ih vs E n h.2
              | o ds =>
                obtain ⟨b, _, _, g2, _, _, g5⟩ := h
                refine ih vs _ ?_ g5
                show (if a = b then _ else _) = _
                rw [if_neg (fun q => by rw [← q, n] at g2; cases g2)]
                exact n
              | p kvs =>
                obtain ⟨b, _, _, _, g2, _, _, _, g5⟩ := h
                refine ih vs _ ?_ g5
                show (if a = b then _ else _) = _
                rw [if_neg (fun q => by rw [← q, n] at g2; cases g2)]
                exact n
        exact this ps vs _ (if_pos rfl) h5
      exact Pend.take (m := .od kvs) hl ps vs E h2 h3 (fun E' e0 => ⟨a, o, ws, rfl, rfl, ha, by rw [e0]; exact h3, h4, h4'⟩) h5
    · cases e
/-! ### the values -/
def tAP (Z : Zx) (m : S → Option (List PV × S)) : TA := fun σ H Q => ∃ E O s ps s', Sim Z E O σ H s ∧ m s = some (ps, s') ∧ ∀ vs H' O', Stp Z.tb O H O' H' → Pend Z O' σ H' s' E vs ps → Q vs H'
abbrev AP (X : Cx) (T : List (Addr × Str)) (tb : Bool) (e : List Expr) (m : S → Option (List PV × S)) : Prop := PA X e (tAP (Zo X T tb) m)
def apN : S → Option (List PV × S) := fun s => some ([], s)
def apI (a : S → Option (D × S)) (r : S → Option (List PV × S)) : S → Option (List PV × S) := fun s => (a s).bind fun p => (r p.2).map fun q => (.i p.1 :: q.1, q.2)
def apO (a : S → Option (List D × S)) (r : S → Option (List PV × S)) : S → Option (List PV × S) := fun s => (a s).bind fun p => (r p.2).map fun q => (.o p.1 :: q.1, q.2)
def apP (a : S → Option D) (r : S → Option (List PV × S)) : S → Option (List PV × S) := fun s => (a s).bind fun d => (dctOf d).bind fun kvs => (r s).map fun q => (.p kvs :: q.1, q.2)
section
variable {X : Cx} {T : List (Addr × Str)} {tb kr : Bool}
theorem ap_nil : AP X T tb [] apN := imp_a pa_nil fun σ H Q h => by
  obtain ⟨E, O, s, ps, s', sm, hm, q⟩ := h
  cases hm
  exact q [] H O Stp.refl sm
theorem ap_i {e : Expr} {es : List Expr} {m : S → Option (D × S)} {n : S → Option (List PV × S)} (ha : EE X T tb e m) (hr : AP X T tb es n) (hs : starEach (e :: es) X.env = (false, eval e X.env) :: starEach es X.env := by rfl) : AP X T tb (e :: es) (apI m n) := imp_a (pa_cons ha hr hs) fun σ H Q h => by
  obtain ⟨E, O, s, ps, s', sm, hm, q⟩ := h
  obtain ⟨⟨x, s1⟩, hx, hm⟩ := Option.bind_eq_some_iff.mp hm
  obtain ⟨⟨xs, s2⟩, hxs, hm⟩ := Option.map_eq_some_iff.mp hm
  cases hm
  exact ⟨E, O, s, x, s1, sm, hx, fun v H1 O1 st1 sm1 r1 => ⟨E, O1, s1, xs, s2, sm1, hxs, fun vs H2 O2 st2 pd => q (v :: vs) H2 O2 (st1.trans st2) ⟨r1.step st2, pd⟩⟩⟩
theorem ap_o {e : Expr} {es : List Expr} {m : S → Option (List D × S)} {n : S → Option (List PV × S)} (ha : EO X T tb e m) (hr : AP X T tb es n) (hs : starEach (e :: es) X.env = (false, eval e X.env) :: starEach es X.env := by rfl) : AP X T tb (e :: es) (apO m n) := imp_a (pa_cons ha hr hs) fun σ H Q h => by
  obtain ⟨E, O, s, ps, s', sm, hm, q⟩ := h
  obtain ⟨⟨x, s1⟩, hx, hm⟩ := Option.bind_eq_some_iff.mp hm
  obtain ⟨⟨xs, s2⟩, hxs, hm⟩ := Option.map_eq_some_iff.mp hm
  cases hm
  refine ⟨E, O, s, x, s1, sm, hx, fun a ws H1 O1 st1 nO sm1 sm2 n0 hl r1 => ?_⟩
  refine ⟨E.hold a (.lst ws), a :: O1, s1, xs, s2, sm2.hold List.mem_cons_self hl (fun ps z => by cases z) (sm1.noSlot nO), hxs, fun vs H2 O2 st2 pd => q (.ref a :: vs) H2 O2 (st1.trans st2) ⟨a, ws, rfl, sm1.notIdle nO, n0, r1.step st2, pd⟩⟩
theorem ap_p {e : Expr} {es : List Expr} {m : S → Option D} {n : S → Option (List PV × S)} (ha : QE X T tb .p e m) (hr : AP X T tb es n) (hs : starEach (e :: es) X.env = (false, eval e X.env) :: starEach es X.env := by rfl) : AP X T tb (e :: es) (apP m n) := imp_a (pa_cons ha hr hs) fun σ H Q h => by
  obtain ⟨E, O, s, ps, s', sm, hm, q⟩ := h
  obtain ⟨d, hx, hm⟩ := Option.bind_eq_some_iff.mp hm
  obtain ⟨kvs, hd, hm⟩ := Option.bind_eq_some_iff.mp hm
  obtain ⟨⟨xs, s2⟩, hxs, hm⟩ := Option.map_eq_some_iff.mp hm
  cases hm
  obtain rfl := dctOf_some hd
  refine ⟨E, O, s, _, sm, hx, fun v H1 e1 r1 => ?_⟩
  obtain ⟨a, o, ws, kvs', rfl, e2, h3, nO, h5, h6, h7⟩ := r1
  cases e2
  have sm2 := sm.grow h3 e1 (by rw [h5]; exact fun z => by cases z)
  have st1 : Stp tb O H (a :: O) H1 := ⟨fun b o h _ _ => e1 b o h, fun b m => (List.mem_cons.mp m).elim (fun z => .inr (z ▸ h3)) .inl, fun b z => e1.back z⟩
  exact ⟨E.hold a o, a :: O, s, xs, s2, sm2.hold List.mem_cons_self h5 h6.mut.2 (sm.noSlot nO), hxs, fun vs H2 O2 st2 pd => q (.ref a :: vs) H2 O2 (st1.trans st2) ⟨a, o, ws, rfl, sm.notIdle nO, sm.there a h3, h6, h7.step st2, pd⟩⟩
/-! ### the targets -/
def tGP1 (Z : Zx) (g : PV → S → Option S) : TG := fun v σ H Q => ∃ E O s p s' vs ps, Pend Z O σ H s E (v :: vs) (p :: ps) ∧ g p s = some s' ∧ ∀ σ' H' O', Stp Z.tb O H O' H' → Pend Z O' σ' H' s' E vs ps → Q σ' H'
def tGsP (Z : Zx) (g : List PV → S → Option S) : TGs := fun vs σ H Q => ∃ E O s ps s', Pend Z O σ H s E vs ps ∧ g ps s = some s' ∧ ∀ σ' H' O', Stp Z.tb O H O' H' → Sim Z E O' σ' H' s' → Q σ' H'
def gpN : List PV → S → Option S
  | [], s => some s
  | _, _ => none
def gpC (g : PV → S → Option S) (r : List PV → S → Option S) : List PV → S → Option S
  | p :: ps, s => (g p s).bind (r ps)
  | [], _ => none
theorem gp_nil : PGs X [] (tGsP (Zo X T tb) gpN) := imp_gs pgs_nil fun vs σ H Q h => by
  obtain ⟨E, O, s, ps, s', pd, hg, k⟩ := h
  cases ps with
  | nil =>
    cases vs with
    | nil => cases hg; exact ⟨rfl, k σ H O Stp.refl pd⟩
    | cons _ _ => exact pd.elim
  | cons _ _ => cases hg
theorem gp_cons {e : Expr} {es : List Expr} {g : PV → S → Option S} {r : List PV → S → Option S} (h1 : PG X e (tGP1 (Zo X T tb) g)) (h2 : PGs X es (tGsP (Zo X T tb) r)) (hs : (assignEach (e :: es) X.env).map (·.2) = assign e X.env :: (assignEach es X.env).map (·.2) := by rfl) : PGs X (e :: es) (tGsP (Zo X T tb) (gpC g r)) := imp_gs (pgs_cons h1 h2 hs) fun vs σ H Q h => by
  obtain ⟨E, O, s, ps, s', pd, hg, k⟩ := h
  cases ps with
  | nil => cases hg
  | cons p ps =>
    cases vs with
    | nil => cases p <;> exact pd.elim
    | cons v vs =>
      obtain ⟨s1, e1, e2⟩ := Option.bind_eq_some_iff.mp (show (g p s).bind (r ps) = some s' from hg)
      exact ⟨v, vs, rfl, E, O, s, p, s1, vs, ps, pd, e1, fun σ1 H1 O1 st1 pd1 => ⟨E, O1, s1, ps, s', pd1, e2, fun σ2 H2 O2 st2 sm2 => k σ2 H2 O2 (st1.trans st2) sm2⟩⟩
theorem gp_name (i : Nat) {x : Str} {pos : Pos} (hN : X.N.Nodup) (hi : X.N[i]? = some x := by rfl) (hx : Loc X.env.scope x := by first | exact Or.inl rfl | exact Or.inr rfl) (hf : X.fn x = true ∨ X.env.scope.names.lookup x = some .local := by first | exact .inl rfl | exact .inr rfl) : PG X (.Name x pos) (tGP1 (Zo X T tb) (putPV i)) :=
  imp_g (pg_name hN hi hx hf) fun v σ H Q h => by
  obtain ⟨E, O, s, p, s', vs, ps, pd, hg, k⟩ := h
  exact k _ H O Stp.refl (pd.put hg)
def gpIx (i : Nat) (mi : S → Option D) : PV → S → Option S
  | .i d, s => (olAt s i).bind fun _ => (mi s).bind fun x => (olAt s i).bind fun ds => (intD x).bind fun k => (ixN ds.length k).map fun j => s.set i (.ol (ds.set j d))
  | _, _ => none
theorem gp_ix (i : Nat) {x : Str} {ie : Expr} {p pos' : Pos} {k : Kd} {mi : S → Option D} (hi : QE X T tb k ie mi) (hN : X.N[i]? = some x := by rfl) (hv : Vis X.env.scope x := by first | exact Or.inl rfl | exact Or.inr (Or.inl rfl) | exact Or.inr (Or.inr rfl)) (hd : (x == ("__debug__" : Str)) = false := by decide)
    (hcd : (x == ("__classdict__" : Str)) = false := by decide) (ha : ∀ v, assign (.Subscript (.Name x p) ie pos') X.env v = (do
      let ov ← holding [v] (eval (.Name x p) X.env)
      let iv ← holding [v, ov] (eval ie X.env)
      standAt pos'
      holding [v, ov, iv] (setItem ov iv v)
      release [v, ov, iv] []) := by intro _; rfl) : PG X (.Subscript (.Name x p) ie pos') (tGP1 (Zo X T tb) (gpIx i mi)) := imp_g (pg_sub (pe_var hN hv hd hcd) hi set_list ha) fun v σ H Q h => by
  obtain ⟨E, O, s, p, s', vs, ps, pd, hg, kk⟩ := h
  cases p with
  | i d =>
    obtain ⟨_, h0, hg⟩ := Option.bind_eq_some_iff.mp hg
    obtain ⟨y, h1, hg⟩ := Option.bind_eq_some_iff.mp hg
    obtain ⟨ds, h2, hg⟩ := Option.bind_eq_some_iff.mp hg
    obtain ⟨n, h3, hg⟩ := Option.bind_eq_some_iff.mp hg
    obtain ⟨j, h4, hg⟩ := Option.map_eq_some_iff.mp hg
    subst hg
    obtain ⟨E', eH, eP, sm⟩ := Pend.sim ps vs E pd.2
    obtain ⟨a, _, g1, _⟩ := sm.lset (es := ds) (olAt_some h2)
    refine ⟨_, g1, E', O, s, y, sm, h1, fun v2 H2 e2 r2 => ?_⟩
    obtain ⟨a', ws, g1', g2, g3, g4⟩ := (sm.ext e2).lset (es := ds.set j d) (olAt_some h2)
    rw [g1] at g1'
    cases g1'
    have rv := pd.1.ext e2
    have st2 : Stp tb O H O H2 := Stp.of_ex e2
    obtain ⟨_, st3⟩ := g4 (ws.set j v) (Rps.set rv j g3)
    refine ⟨a, ws, n, j, rfl, Rp.intD r2.toR h3, g2, by rw [g3.length]; exact h4, kk σ _ O (st2.trans st3) (Pend.map (st2.trans st3) ps vs E (fun E2 _ _ sm2 => ?_) pd.2)⟩
    obtain ⟨a2, ws2, k1, k2, k3, k4⟩ := (sm2.ext e2).lset (es := ds.set j d) (olAt_some h2)
    rw [g1] at k1
    cases k1
    exact (k4 (ws.set j v) (Rps.set rv j g3)).1
  | _ => cases hg
def gpDk (i : Nat) (mi : S → Option D) : PV → S → Option S
  | .i d, s => (odAt s i).bind fun _ => (mi s).bind fun x => (odAt s i).bind fun kvs => if (keyOk (isT kvs) x && Nat.ble kvs.length 1000000) = true then some (s.set i (.od (putD kvs x d))) else none
  | _, _ => none
theorem gp_dk (hu : X.A.units + 1 < cLine) (i : Nat) {x : Str} {ie : Expr} {p pos' : Pos} {k : Kd} {mi : S → Option D} (hi : QE X T tb k ie mi) (hN : X.N[i]? = some x := by rfl) (hv : Vis X.env.scope x := by first | exact Or.inl rfl | exact Or.inr (Or.inl rfl) | exact Or.inr (Or.inr rfl)) (hd : (x == ("__debug__" : Str)) = false := by decide)
    (hcd : (x == ("__classdict__" : Str)) = false := by decide) (ha : ∀ v, assign (.Subscript (.Name x p) ie pos') X.env v = (do
      let ov ← holding [v] (eval (.Name x p) X.env)
      let iv ← holding [v, ov] (eval ie X.env)
      standAt pos'
      holding [v, ov, iv] (setItem ov iv v)
      release [v, ov, iv] []) := by intro _; rfl) : PG X (.Subscript (.Name x p) ie pos') (tGP1 (Zo X T tb) (gpDk i mi)) := imp_g (pg_sub (pe_var hN hv hd hcd) hi (set_dict hu) ha) fun v σ H Q h => by
  obtain ⟨E, O, s, p, s', vs, ps, pd, hg, kk⟩ := h
  cases p with
  | i d =>
    obtain ⟨_, h0, hg⟩ := Option.bind_eq_some_iff.mp hg
    obtain ⟨y, h1, hg⟩ := Option.bind_eq_some_iff.mp hg
    obtain ⟨kvs, h2, hg⟩ := Option.bind_eq_some_iff.mp hg
    split at hg
    case isFalse => cases hg
    next c =>
    cases hg
    rw [Bool.and_eq_true, Nat.ble_eq] at c
    obtain ⟨E', eH, eP, sm⟩ := Pend.sim ps vs E pd.2
    obtain ⟨a, _, _, g1, _⟩ := sm.dput (es := []) (odAt_some h2)
    refine ⟨_, g1, E', O, s, y, sm, h1, fun v2 H2 e2 r2 => ?_⟩
    obtain ⟨a', o, ws, g1', g2, g3, g4, g5⟩ := (sm.ext e2).dput (es := putD kvs y d) (odAt_some h2)
    rw [g1] at g1'
    cases g1'
    have rv := pd.1.ext e2
    have st2 : Stp tb O H O H2 := Stp.of_ex e2
    obtain ⟨o', ws', p1, p2, p3⟩ := dput_rel g2 g3 g4 r2.toR rv c.1 c.2
    obtain ⟨_, st3⟩ := g5 o' ws' p2 p3
    refine ⟨a, _, rfl, p1, kk σ _ O (st2.trans st3) (Pend.map (st2.trans st3) ps vs E (fun E2 _ _ sm2 => ?_) pd.2)⟩
    obtain ⟨a2, o2, ws2, k1, k2, k3, k4, k5⟩ := (sm2.ext e2).dput (es := putD kvs y d) (odAt_some h2)
    rw [g1] at k1
    cases k1
    exact (k5 o' ws' p2 p3).1
  | _ => cases hg
/-! ### the statements -/
def parG (m : S → Option (List PV × S)) (g : List PV → S → Option S) : S → Option Fl := fun s => (m s).bind fun p => (g p.1 p.2).map .nx
theorem s_parT {es ts : List Expr} {kt k2 pt pt2} {pos : Pos} {n : Nat} {m : S → Option (List PV × S)} {g : List PV → S → Option S} (hc : X.calm = true) (ha : AP X T tb es m) (hg : PGs X ts (tGsP (Zo X T tb) g)) (ln : ∀ s ps s', m s = some (ps, s') → ps.length = n)
    (hn : (assignEach ts X.env).length = n := by rfl) (hst : (assignEach ts X.env).findIdx? (·.1) = none := by rfl) (hl : Nat.ble n 1000 = true := by rfl)
    (hs : swapsWithSole [.Tuple ts kt pt] (.Tuple es k2 pt2) pos.line X.env = pure false := by rfl) (hw : swappedStores [.Tuple ts kt pt] (.Tuple es k2 pt2) X.env = pure none := by rfl)
    (h1 : (assignEach [.Tuple ts kt pt] X.env).map (·.2) = [assign (.Tuple ts kt pt) X.env] := by rfl) : PY X T tb kr (.Assign [.Tuple ts kt pt] (.Tuple es k2 pt2) pos) (parG m g) := imp_s (ps_asg (pe_tup ha) (pg_tup hc hg hn hst) hs hw h1) fun B σ H h => by
  obtain ⟨E, O, s, f, sm, hm, k⟩ := h
  obtain ⟨⟨ps, s1⟩, h1, hm⟩ := Option.bind_eq_some_iff.mp hm
  obtain ⟨s2, h2, hm⟩ := Option.map_eq_some_iff.mp hm
  subst hm
  have hps := ln s ps s1 h1
  refine ⟨E, O, s, ps, s1, sm, h1, fun vs H1 O1 st1 pd => ?_⟩
  have len : ∀ (ps : List PV) (vs : List V) (E : Ent), Pend (Zo X T tb) O1 σ H1 s1 E vs ps → vs.length = ps.length := by
    intro ps
    induction ps with
    | nil => intro vs E h; cases vs with
      | nil => rfl
      | cons _ _ => exact h.elim
    | cons p ps ih =>
      intro vs E h
      cases vs with
      | nil => cases p <;> exact h.elim
      | cons v vs =>
        cases p with
        | i d => rw [List.length_cons, List.length_cons, ih vs E h.2]
        | o ds => obtain ⟨_, _, _, _, _, _, g⟩ := h; rw [List.length_cons, List.length_cons, ih vs _ g]
        | p kvs => obtain ⟨_, _, _, _, _, _, _, _, g⟩ := h; rw [List.length_cons, List.length_cons, ih vs _ g]
  have hv : vs.length = n := (len ps vs E pd).trans hps
  refine ⟨by rw [hv]; exact Nat.le_trans (Nat.le_of_ble_eq_true hl) (by decide), fun q hq => ?_⟩
  have e2 : Ex H1 (upd H1 q (.tup vs)) := Ex.new hq
  refine ⟨q, vs, rfl, SqT.of upd_same, hv, E, O1, s1, ps, s2, Pend.map (Stp.of_ex e2) ps vs E (fun E' _ _ sm => sm.ext e2) pd, h2, fun σ' H' O' st' sm' => k σ' H' O' (st1.trans ((Stp.of_ex e2).trans st')) sm'⟩
theorem Pend.two {Z : Zx} {E : Ent} {O : List Addr} {σ : L2.St} {H : Hp} {s s' : S} {vs : List V} {ps : List PV} {i j : Nat} (pd : Pend Z O σ H s E vs ps) (e : gpC (putPV i) (gpC (putPV j) gpN) ps s = some s') : ∃ v w, vs = [v, w] ∧ Sim Z E O ((σ.set i (some v)).set j (some w)) H s' := by
  match ps, e with
  | [p, q], e =>
    obtain ⟨s1, e1, e2⟩ := Option.bind_eq_some_iff.mp (show (putPV i p s).bind _ = some s' from e)
    obtain ⟨s2, e3, e4⟩ := Option.bind_eq_some_iff.mp (show (putPV j q s1).bind _ = some s' from e2)
    cases e4
    match vs, pd with
    | [v, w], pd => exact ⟨v, w, rfl, (pd.put e1).put e3⟩
    | [], pd => cases p <;> exact pd.elim
    | [v], pd =>
      have := pd.put e1
      cases q <;> exact this.elim
    | v :: w :: u :: vs, pd => exact ((pd.put e1).put e3).elim
  | [], e => cases e
  | [p], e =>
    obtain ⟨s1, e1, e2⟩ := Option.bind_eq_some_iff.mp (show (putPV i p s).bind _ = some s' from e)
    cases e2
  | p :: q :: r :: ps, e =>
    obtain ⟨s1, e1, e2⟩ := Option.bind_eq_some_iff.mp (show (putPV i p s).bind _ = some s' from e)
    obtain ⟨s2, e3, e4⟩ := Option.bind_eq_some_iff.mp (show (putPV j q s1).bind _ = some s' from e2)
    cases e4
/-- two plain names -/
theorem s_par2 (i j : Nat) {x y : Str} {a b : Expr} {px py pt pos : Pos} {kt k2 pt2} {m : S → Option (List PV × S)} (hc : X.calm = true) (hN : X.N.Nodup) (ha : AP X T tb [a, b] m) (hi : X.N[i]? = some x := by rfl) (hj : X.N[j]? = some y := by rfl) (hij : i ≠ j := by decide)
    (hx : X.env.scope.names.lookup x = some .local := by rfl) (hy : X.env.scope.names.lookup y = some .local := by rfl)
    (hw : swappedStores [.Tuple [.Name x px, .Name y py] kt pt] (.Tuple [a, b] k2 pt2) X.env = pure (some [x, y]) := by rfl) (hs : swapsWithSole [.Tuple [.Name x px, .Name y py] kt pt] (.Tuple [a, b] k2 pt2) pos.line X.env = pure false := by rfl) :
    PY X T tb kr (.Assign [.Tuple [.Name x px, .Name y py] kt pt] (.Tuple [a, b] k2 pt2) pos) (parG m (gpC (putPV i) (gpC (putPV j) gpN))) := imp_s (ps_par hc hN hi hj hij hx hy ha hw hs) fun B σ H h => by
  obtain ⟨E, O, s, f, sm, hm, k⟩ := h
  obtain ⟨⟨ps, s1⟩, h1, hm⟩ := Option.bind_eq_some_iff.mp hm
  obtain ⟨s2, h2, hm⟩ := Option.map_eq_some_iff.mp hm
  subst hm
  refine ⟨E, O, s, ps, s1, sm, h1, fun vs H1 O1 st1 pd => ?_⟩
  obtain ⟨v, w, rfl, sm2⟩ := pd.two h2
  exact ⟨v, w, rfl, k _ H1 O1 st1 sm2⟩
theorem Pend.three {Z : Zx} {E : Ent} {O : List Addr} {σ : L2.St} {H : Hp} {s s' : S} {vs : List V} {ps : List PV} {i j l : Nat} (pd : Pend Z O σ H s E vs ps) (e : gpC (putPV i) (gpC (putPV j) (gpC (putPV l) gpN)) ps s = some s') : ∃ u v w, vs = [u, v, w] ∧ Sim Z E O (((σ.set i (some u)).set j (some v)).set l (some w)) H s' := by
  cases ps with
  | nil => cases e
  | cons p ps =>
    obtain ⟨s1, e1, e2⟩ := Option.bind_eq_some_iff.mp (show (putPV i p s).bind _ = some s' from e)
    cases vs with
    | nil => cases p <;> exact pd.elim
    | cons u vs =>
      obtain ⟨v, w, rfl, sm⟩ := (pd.put e1).two e2
      exact ⟨u, v, w, rfl, sm⟩
theorem s_par3 (i j l : Nat) {x y z : Str} {a b c : Expr} {px py pz pt pos : Pos} {kt k2 pt2} {m : S → Option (List PV × S)} (hc : X.calm = true) (hN : X.N.Nodup) (ha : AP X T tb [a, b, c] m) (hi : X.N[i]? = some x := by rfl) (hj : X.N[j]? = some y := by rfl) (hl : X.N[l]? = some z := by rfl) (hij : i ≠ j := by decide) (hil : i ≠ l := by decide) (hjl : j ≠ l := by decide)
    (hx : X.env.scope.names.lookup x = some .local := by rfl) (hy : X.env.scope.names.lookup y = some .local := by rfl) (hz : X.env.scope.names.lookup z = some .local := by rfl)
    (hw : swappedStores [.Tuple [.Name x px, .Name y py, .Name z pz] kt pt] (.Tuple [a, b, c] k2 pt2) X.env = pure (some [x, y, z]) := by rfl) (hs : swapsWithSole [.Tuple [.Name x px, .Name y py, .Name z pz] kt pt] (.Tuple [a, b, c] k2 pt2) pos.line X.env = pure false := by rfl) :
    PY X T tb kr (.Assign [.Tuple [.Name x px, .Name y py, .Name z pz] kt pt] (.Tuple [a, b, c] k2 pt2) pos) (parG m (gpC (putPV i) (gpC (putPV j) (gpC (putPV l) gpN)))) := imp_s (ps_par3 hc hN hi hj hl hij hil hjl hx hy hz ha hw hs) fun B σ H h => by
  obtain ⟨E, O, s, f, sm, hm, k⟩ := h
  obtain ⟨⟨ps, s1⟩, h1, hm⟩ := Option.bind_eq_some_iff.mp hm
  obtain ⟨s2, h2, hm⟩ := Option.map_eq_some_iff.mp hm
  subst hm
  refine ⟨E, O, s, ps, s1, sm, h1, fun vs H1 O1 st1 pd => ?_⟩
  obtain ⟨u, v, w, rfl, sm2⟩ := pd.three h2
  exact ⟨u, v, w, rfl, k _ H1 O1 st1 sm2⟩
theorem apN_len : ∀ s ps s', apN s = some (ps, s') → ps.length = 0 := fun s ps s' h => by cases h; rfl
theorem apI_len {a : S → Option (D × S)} {r : S → Option (List PV × S)} {n : Nat} (h : ∀ s ps s', r s = some (ps, s') → ps.length = n) : ∀ s ps s', apI a r s = some (ps, s') → ps.length = n + 1 := fun s ps s' e => by
  obtain ⟨p, _, e⟩ := Option.bind_eq_some_iff.mp e
  obtain ⟨q, h2, e⟩ := Option.map_eq_some_iff.mp e
  cases e
  rw [List.length_cons, h _ _ _ h2]
theorem apO_len {a : S → Option (List D × S)} {r : S → Option (List PV × S)} {n : Nat} (h : ∀ s ps s', r s = some (ps, s') → ps.length = n) : ∀ s ps s', apO a r s = some (ps, s') → ps.length = n + 1 := fun s ps s' e => by
  obtain ⟨p, _, e⟩ := Option.bind_eq_some_iff.mp e
  obtain ⟨q, h2, e⟩ := Option.map_eq_some_iff.mp e
  cases e
  rw [List.length_cons, h _ _ _ h2]
theorem apP_len {a : S → Option D} {r : S → Option (List PV × S)} {n : Nat} (h : ∀ s ps s', r s = some (ps, s') → ps.length = n) : ∀ s ps s', apP a r s = some (ps, s') → ps.length = n + 1 := fun s ps s' e => by
  obtain ⟨d, _, e⟩ := Option.bind_eq_some_iff.mp e
  obtain ⟨p, _, e⟩ := Option.bind_eq_some_iff.mp e
  obtain ⟨q, h2, e⟩ := Option.map_eq_some_iff.mp e
  cases e
  rw [List.length_cons, h _ _ _ h2]
end
end Y

namespace Y
open PySem PySem.Spec PyProof.Rows L2

/-! ## the plain law's steps, more -/
def Wv (m : S → Option (List PV × S)) (s : S) (Q : List PV → S → Prop) : Prop := ∃ d s', m s = some (d, s') ∧ Q d s'
section
variable {s : S} {i : Nat}
theorem wv_nil {Q : List PV → S → Prop} (h : Q [] s) : Wv apN s Q := ⟨_, _, rfl, h⟩
theorem wv_i {a : S → Option (D × S)} {r : S → Option (List PV × S)} {Q : List PV → S → Prop} (h : We a s fun d s1 => Wv r s1 fun ps s2 => Q (.i d :: ps) s2) : Wv (apI a r) s Q := by
  obtain ⟨d, s1, h1, ps, s2, h2, h3⟩ := h
  exact ⟨_, _, by unfold apI; rw [h1]; show (r s1).map _ = _; rw [h2]; rfl, h3⟩
theorem wv_o {a : S → Option (List D × S)} {r : S → Option (List PV × S)} {Q : List PV → S → Prop} (h : Wl a s fun d s1 => Wv r s1 fun ps s2 => Q (.o d :: ps) s2) : Wv (apO a r) s Q := by
  obtain ⟨d, s1, h1, ps, s2, h2, h3⟩ := h
  exact ⟨_, _, by unfold apO; rw [h1]; show (r s1).map _ = _; rw [h2]; rfl, h3⟩
theorem wv_p {a : S → Option D} {r : S → Option (List PV × S)} {Q : List PV → S → Prop} (h : Wp a s fun d => ∃ kvs, d = .dict kvs ∧ Wv r s fun ps s2 => Q (.p kvs :: ps) s2) : Wv (apP a r) s Q := by
  obtain ⟨d, h1, kvs, rfl, ps, s2, h2, h3⟩ := h
  exact ⟨_, _, by unfold apP; rw [h1]; show (r s).map _ = _; rw [h2]; rfl, h3⟩
theorem w_parG {m : S → Option (List PV × S)} {g : List PV → S → Option S} {Q : Fl → Prop} (h : Wv m s fun ps s1 => Hv (g ps s1) fun s2 => Q (.nx s2)) : Wp (parG m g) s Q := by
  obtain ⟨ps, s1, h1, s2, h2, h3⟩ := h
  exact ⟨_, by unfold parG; rw [h1]; show (g ps s1).map _ = _; rw [h2]; rfl, h3⟩
theorem hg_nil {Q : S → Prop} (h : Q s) : Hv (gpN [] s) Q := ⟨_, rfl, h⟩
theorem hg_i {d : D} {ps : List PV} {r : List PV → S → Option S} {Q : S → Prop} (hl : i < s.length) (h : Hv (r ps (s.set i (.imm d))) Q) : Hv (gpC (putPV i) r (.i d :: ps) s) Q := by
  obtain ⟨s2, h1, h2⟩ := h
  refine ⟨s2, ?_, h2⟩
  show (if i < s.length then some (s.set i (.imm d)) else none).bind (r ps) = _
  rw [if_pos hl]; exact h1
theorem hg_o {d : List D} {ps : List PV} {r : List PV → S → Option S} {Q : S → Prop} (hl : i < s.length) (h : Hv (r ps (s.set i (.ol d))) Q) : Hv (gpC (putPV i) r (.o d :: ps) s) Q := by
  obtain ⟨s2, h1, h2⟩ := h
  refine ⟨s2, ?_, h2⟩
  show (if i < s.length then some (s.set i (.ol d)) else none).bind (r ps) = _
  rw [if_pos hl]; exact h1
theorem hg_p {d : List (D × D)} {ps : List PV} {r : List PV → S → Option S} {Q : S → Prop} (hl : i < s.length) (h : Hv (r ps (s.set i (.od d))) Q) : Hv (gpC (putPV i) r (.p d :: ps) s) Q := by
  obtain ⟨s2, h1, h2⟩ := h
  refine ⟨s2, ?_, h2⟩
  show (if i < s.length then some (s.set i (.od d)) else none).bind (r ps) = _
  rw [if_pos hl]; exact h1
/-- the place that a Python index tells -/
theorem hg_ix {mi : S → Option D} {d : D} {ps : List PV} {r : List PV → S → Option S} {Q : S → Prop} {ds : List D} {k : Int} {j : Nat} (e : s[i]? = some (.ol ds)) (h : Wp mi s fun x => x = .int k) (hj : ixN ds.length k = some j) (q : Hv (r ps (s.set i (.ol (ds.set j d)))) Q) : Hv (gpC (gpIx i mi) r (.i d :: ps) s) Q := by
  obtain ⟨s2, h1, h2⟩ := q
  refine ⟨s2, ?_, h2⟩
  have e0 : olAt s i = some ds := by unfold olAt; rw [e]
  have e1 : mi s = some (.int k) := by obtain ⟨x, h3, rfl⟩ := h; exact h3
  show ((olAt s i).bind fun _ => _).bind (r ps) = _
  rw [e0]
  show ((mi s).bind fun x => _).bind (r ps) = _
  rw [e1]
  show ((ixN ds.length k).map fun j => _).bind (r ps) = _
  rw [hj]
  exact h1
theorem hg_dk {mi : S → Option D} {d x : D} {ps : List PV} {r : List PV → S → Option S} {Q : S → Prop} {kvs : List (D × D)} (e : s[i]? = some (.od kvs)) (h : Wp mi s fun y => y = x) (hk : keyOk (isT kvs) x = true) (hl : kvs.length ≤ 1000000) (q : Hv (r ps (s.set i (.od (putD kvs x d)))) Q) : Hv (gpC (gpDk i mi) r (.i d :: ps) s) Q := by
  obtain ⟨s2, h1, h2⟩ := q
  refine ⟨s2, ?_, h2⟩
  have e0 : odAt s i = some kvs := by unfold odAt; rw [e]
  have e1 : mi s = some x := by obtain ⟨y, h3, rfl⟩ := h; exact h3
  show ((odAt s i).bind fun _ => _).bind (r ps) = _
  rw [e0]
  show ((mi s).bind fun x => _).bind (r ps) = _
  rw [e1]
  show (if (keyOk (isT kvs) x && Nat.ble kvs.length 1000000) = true then some (s.set i (.od (putD kvs x d))) else none).bind (r ps) = _
  rw [if_pos (by rw [hk, Nat.ble_eq.mpr hl]; rfl)]
  exact h1
theorem w_setP {m : S → Option D} {Q : Fl → Prop} (h : Wp m s fun d => ∃ kvs, d = .dict kvs ∧ i < s.length ∧ Q (.nx (s.set i (.od kvs)))) : Wp (setP i m) s Q := by
  obtain ⟨d, h1, kvs, rfl, h2, h3⟩ := h
  exact ⟨_, by unfold setP; rw [h1]; exact if_pos h2, h3⟩
theorem w_dput {mi : S → Option D} {m : S → Option (D × S)} {Q : Fl → Prop} (h : We m s fun d s1 => ∃ kvs, s1[i]? = some (.od kvs) ∧ Wp mi s1 fun x => keyOk (isT kvs) x = true ∧ kvs.length ≤ 1000000 ∧ Q (.nx (s1.set i (.od (putD kvs x d))))) : Wp (dputS i mi m) s Q := by
  obtain ⟨d, s1, h1, kvs, h2, x, h3, h4, h5, h6⟩ := h
  refine ⟨_, ?_, h6⟩
  have e0 : odAt s1 i = some kvs := by unfold odAt; rw [h2]
  unfold dputS
  rw [h1]
  show ((odAt s1 i).bind fun _ => _) = _
  rw [e0]
  show ((mi s1).bind fun x => _) = _
  rw [h3]
  exact if_pos (by rw [h4, Nat.ble_eq.mpr h5]; rfl)
theorem we_frzD {kvs : List (D × D)} {Q : D → S → Prop} (e : s[i]? = some (.od kvs)) (h : Q (.dict kvs) (s.set i (.imm (.dict kvs)))) : We (frzD i) s Q := ⟨_, _, by unfold frzD odAt; rw [e]; rfl, h⟩
theorem wq_varD {kvs : List (D × D)} {Q : D → Prop} (e : s[i]? = some (.od kvs)) (h : Q (.dict kvs)) : Wp (varR i) s Q := ⟨_, by unfold varR; rw [e], h⟩
theorem wq_op3 {g : D → D → D → Option D} {a b c : S → Option D} {Q : D → Prop} (h : Wp a s fun x => Wp b s fun y => Wp c s fun z => Hv (g x y z) Q) : Wp (op3 g a b c) s Q := by
  obtain ⟨x, h1, y, h2, z, h3, d, h4, h5⟩ := h
  refine ⟨d, ?_, h5⟩
  unfold op3
  rw [h1]
  show ((b s).bind fun y => _) = _
  rw [h2]
  show ((c s).bind fun y => _) = _
  rw [h3]
  exact h4
theorem wq_meth {ok : D → Bool} {g : D → List D → Option D} {a : S → Option D} {r : S → Option (List D)} {Q : D → Prop} (h : Wp a s fun x => ok x = true ∧ Wp r s fun xs => Hv (g x xs) Q) : Wp (methM ok g a r) s Q := by
  obtain ⟨x, h1, h2, xs, h3, d, h4, h5⟩ := h
  refine ⟨d, ?_, h5⟩
  unfold methM
  rw [h1]
  show (if ok x = true then _ else _) = _
  rw [if_pos h2, h3]
  exact h4
theorem wq_sl {g : D → Option Int → Option Int → Option D} {a : S → Option D} {lo hi : S → Option (Option Int)} {Q : D → Prop} (h : Wp a s fun x => Wp lo s fun l => Wp hi s fun u => Hv (g x l u) Q) : Wp (slM g a lo hi) s Q := by
  obtain ⟨x, h1, l, h2, u, h3, d, h4, h5⟩ := h
  refine ⟨d, ?_, h5⟩
  unfold slM
  rw [h1]
  show ((lo s).bind fun y => _) = _
  rw [h2]
  show ((hi s).bind fun y => _) = _
  rw [h3]
  exact h4
theorem wo_none {Q : Option Int → Prop} (h : Q none) : Wp pnM s Q := ⟨_, rfl, h⟩
theorem wo_some {a : S → Option D} {Q : Option Int → Prop} (h : Wp a s fun d => ∃ k, d = .int k ∧ Q (some k)) : Wp (psM a) s Q := by
  obtain ⟨d, h1, k, rfl, h2⟩ := h
  exact ⟨_, by unfold psM; rw [h1]; rfl, h2⟩
theorem wq_rng1 {a : S → Option (List D)} {Q : List D → Prop} (h : Wp a s fun xs => ∃ j : Int, xs = [.int j] ∧ j.natAbs ≤ 1000000 ∧ Q (rngL 0 1 j.toNat)) : Wp (rng1M a) s Q := by
  obtain ⟨xs, h1, j, rfl, h2, h3⟩ := h
  exact ⟨_, by unfold rng1M; rw [h1]; exact if_pos (Nat.ble_eq.mpr h2), h3⟩
theorem wq_rng2 {a : S → Option (List D)} {Q : List D → Prop} (h : Wp a s fun xs => ∃ j k : Int, xs = [.int j, .int k] ∧ j.natAbs ≤ 1000000 ∧ k.natAbs ≤ 1000000 ∧ Q (rngL j 1 (k - j).toNat)) : Wp (rng2M a) s Q := by
  obtain ⟨xs, h1, j, k, rfl, h2, h3, h4⟩ := h
  exact ⟨_, by unfold rng2M; rw [h1]; exact if_pos (by rw [Nat.ble_eq.mpr h2, Nat.ble_eq.mpr h3]; rfl), h4⟩
theorem wq_enumT {a : S → Option D} {Q : List D → Prop} (h : Wp a s fun d => ∃ ds, d = .tuple ds ∧ Q (enumL 0 ds)) : Wp (enumTM a) s Q := by
  obtain ⟨d, h1, ds, rfl, h2⟩ := h
  exact ⟨_, by unfold enumTM; rw [h1]; rfl, h2⟩
theorem wq_enum {a : S → Option D} {Q : List D → Prop} (h : Wp a s fun d => ∃ ds, d = .list ds ∧ Q (enumL 0 ds)) : Wp (enumM a) s Q := by
  obtain ⟨d, h1, ds, rfl, h2⟩ := h
  exact ⟨_, by unfold enumM; rw [h1]; rfl, h2⟩
theorem wq_rev {a : S → Option D} {Q : List D → Prop} (h : Wp a s fun d => ∃ ds, seqD d = some ds ∧ Q ds.reverse) : Wp (revM a) s Q := by
  obtain ⟨d, h1, ds, h2, h3⟩ := h
  exact ⟨_, by unfold revM; rw [h1]; show (seqD d).map _ = _; rw [h2]; rfl, h3⟩
theorem wq_zip {a : S → Option (List D)} {Q : List D → Prop} (h : Wp a s fun xs => Hv (zip2D xs) Q) : Wp (zipM a) s Q := by
  obtain ⟨xs, h1, ds, h2, h3⟩ := h
  exact ⟨_, by unfold zipM; rw [h1]; exact h2, h3⟩
theorem wl_enumT {a : S → Option (D × S)} {Q : List D → S → Prop} (h : We a s fun d s1 => ∃ ds, d = .tuple ds ∧ Q (enumL 0 ds) s1) : Wl (enumTE a) s Q := by
  obtain ⟨d, s1, h1, ds, rfl, h2⟩ := h
  exact ⟨_, _, by unfold enumTE; rw [h1]; rfl, h2⟩
theorem wl_enum {a : S → Option (D × S)} {Q : List D → S → Prop} (h : We a s fun d s1 => ∃ ds, d = .list ds ∧ Q (enumL 0 ds) s1) : Wl (enumE a) s Q := by
  obtain ⟨d, s1, h1, ds, rfl, h2⟩ := h
  exact ⟨_, _, by unfold enumE; rw [h1]; rfl, h2⟩
theorem wl_rev {a : S → Option (D × S)} {Q : List D → S → Prop} (h : We a s fun d s1 => ∃ ds, seqD d = some ds ∧ Q ds.reverse s1) : Wl (revE a) s Q := by
  obtain ⟨d, s1, h1, ds, h2, h3⟩ := h
  exact ⟨_, _, by unfold revE; rw [h1]; show (seqD d).map _ = _; rw [h2]; rfl, h3⟩
/-! comprehensions -/
theorem lcGo_map {g : D → S → Option S} {t : S → Option Bool} {e : S → Option D} {b : D → Bool} {f : D → D} : ∀ (ds : List D), (∀ d, d ∈ ds → ∃ s1, g d s = some s1 ∧ Wp t s1 (fun c => c = b d) ∧ (b d = true → Wp e s1 fun y => y = f d)) → lcGo g t e s ds = some ((ds.filter b).map f)
  | [], _ => rfl
  | d :: ds, h => by
    obtain ⟨s1, h1, ⟨c, h2, rfl⟩, h3⟩ := h d List.mem_cons_self
    have ih := lcGo_map (g := g) (t := t) (e := e) (b := b) (f := f) ds fun x hx => h x (List.mem_cons_of_mem _ hx)
    unfold lcGo
    rw [h1]
    show ((t s1).bind fun b => _) = _
    rw [h2]
    show (if b d = true then _ else _) = _
    cases c : b d with
    | true =>
      obtain ⟨y, h4, rfl⟩ := h3 c
      rw [if_pos rfl, h4, List.filter_cons_of_pos c]
      show ((lcGo g t e s ds).bind fun r => _) = _
      rw [ih]
      rfl
    | false =>
      rw [if_neg Bool.false_ne_true, List.filter_cons_of_neg (by rw [c]; exact Bool.false_ne_true)]
      exact ih
theorem wq_lc {vs : List Nat} {src : S → Option (List D)} {g : D → S → Option S} {t : S → Option Bool} {e : S → Option D} {Q : D → Prop} (h : Wp src s fun ds => ds.length ≤ 1000000 ∧ ∃ (b : D → Bool) (f : D → D), (∀ d, d ∈ ds → ∃ s1, g d (wipeS s vs) = some s1 ∧ Wp t s1 (fun c => c = b d) ∧ (b d = true → Wp e s1 fun y => y = f d)) ∧ Q (.list ((ds.filter b).map f))) : Wp (lcM vs src g t e) s Q := by
  obtain ⟨ds, h1, h2, b, f, h3, h4⟩ := h
  exact ⟨_, by unfold lcM; rw [h1]; show (if Nat.ble ds.length 1000000 = true then _ else _) = _; rw [if_pos (Nat.ble_eq.mpr h2), lcGo_map ds h3]; rfl, h4⟩
/-- without a test -/
theorem wq_lc1 {vs : List Nat} {src : S → Option (List D)} {g : D → S → Option S} {e : S → Option D} {Q : D → Prop} (h : Wp src s fun ds => ds.length ≤ 1000000 ∧ ∃ (f : D → D), (∀ d, d ∈ ds → ∃ s1, g d (wipeS s vs) = some s1 ∧ Wp e s1 fun y => y = f d) ∧ Q (.list (ds.map f))) : Wp (lcM vs src g yesM e) s Q := by
  obtain ⟨ds, h1, h2, f, h3, h4⟩ := h
  refine wq_lc ⟨ds, h1, h2, fun _ => true, f, fun d hd => ?_, by rw [List.filter_eq_self.mpr fun _ _ => rfl]; exact h4⟩
  obtain ⟨s1, g1, g2⟩ := h3 d hd
  exact ⟨s1, g1, ⟨true, rfl, rfl⟩, fun _ => g2⟩
theorem wl_lcS {vs : List Nat} {src : S → Option (List D × S)} {g : D → S → Option S} {e : S → Option D} {Q : List D → S → Prop} (h : Wl src s fun ds s0 => ds.length ≤ 1000000 ∧ ∃ (f : D → D), (∀ d, d ∈ ds → ∃ s1, g d (wipeS s0 vs) = some s1 ∧ Wp e s1 fun y => y = f d) ∧ Q (ds.map f) s0) : Wl (lcS vs src g yesM e) s Q := by
  obtain ⟨ds, s0, h1, h2, f, h3, h4⟩ := h
  refine ⟨_, s0, ?_, h4⟩
  unfold lcS
  rw [h1]
  show (if Nat.ble ds.length 1000000 = true then _ else _) = _
  rw [if_pos (Nat.ble_eq.mpr h2), lcGo_map (b := fun _ => true) (f := f) ds fun d hd => ?_]
  · rw [List.filter_eq_self.mpr fun _ _ => rfl]; rfl
  · obtain ⟨s1, g1, g2⟩ := h3 d hd
    exact ⟨s1, g1, ⟨true, rfl, rfl⟩, fun _ => g2⟩
theorem we_lst {a : S → Option (List D × S)} {Q : D → S → Prop} (h : Wl a s fun ds s1 => Q (.list ds) s1) : We (lstV a) s Q := by
  obtain ⟨ds, s1, h1, h2⟩ := h
  exact ⟨_, _, by unfold lstV; rw [h1]; rfl, h2⟩
theorem dcGo_map {g : D → S → Option S} {ke ve : S → Option D} {k v : D → D} : ∀ (ds : List D) (acc : List (D × D)), (∀ d, d ∈ ds → ∃ s1, g d s = some s1 ∧ (Wp ke s1 fun y => y = k d) ∧ (Wp ve s1 fun y => y = v d) ∧ (flatK (k d)).isSome = true) → dcGo g yesM ke ve s ds acc = some (ds.foldl (fun acc d => putD acc (k d) (v d)) acc)
  | [], acc, _ => rfl
  | d :: ds, acc, h => by
    obtain ⟨s1, h1, ⟨x, h2, rfl⟩, ⟨y, h3, rfl⟩, h4⟩ := h d List.mem_cons_self
    unfold dcGo
    rw [h1]
    show ((ke s1).bind fun x => _) = _
    rw [h2]
    show ((ve s1).bind fun y => _) = _
    rw [h3]
    show (if (flatK (k d)).isSome = true then _ else _) = _
    rw [if_pos h4]
    exact dcGo_map ds _ fun x hx => h x (List.mem_cons_of_mem _ hx)
theorem wq_dc {vs : List Nat} {src : S → Option (List D)} {g : D → S → Option S} {ke ve : S → Option D} {Q : D → Prop} (h : Wp src s fun ds => ds.length ≤ 1000000 ∧ ∃ (k v : D → D), (∀ d, d ∈ ds → ∃ s1, g d (wipeS s vs) = some s1 ∧ (Wp ke s1 fun y => y = k d) ∧ (Wp ve s1 fun y => y = v d) ∧ (flatK (k d)).isSome = true) ∧ Q (.dict (ds.foldl (fun acc d => putD acc (k d) (v d)) []))) : Wp (dcM vs src g yesM ke ve) s Q := by
  obtain ⟨ds, h1, h2, k, v, h3, h4⟩ := h
  exact ⟨_, by unfold dcM; rw [h1]; show (if Nat.ble ds.length 1000000 = true then _ else _) = _; rw [if_pos (Nat.ble_eq.mpr h2), dcGo_map ds [] h3]; rfl, h4⟩
theorem we_popAt {m : S → Option (D × S)} {Q : D → S → Prop} {d0 : List D} (h0 : s[i]? = some (.ol d0)) (h : We m s fun x s1 => ∃ ds k j d, s1[i]? = some (.ol ds) ∧ x = .int k ∧ ixN ds.length k = some j ∧ ds[j]? = some d ∧ ds.length ≤ 1000000 ∧ Q d (s1.set i (.ol (ds.eraseIdx j)))) : We (popAtM i m) s Q := by
  obtain ⟨x, s1, h1, ds, k, j, d, h2, rfl, h3, h4, h6, h5⟩ := h
  refine ⟨_, _, ?_, h5⟩
  have e0 : olAt s i = some d0 := by unfold olAt; rw [h0]
  have e1 : olAt s1 i = some ds := by unfold olAt; rw [h2]
  unfold popAtM
  rw [e0]
  show ((m s).bind fun p => _) = _
  rw [h1]
  show ((olAt s1 i).bind fun p => _) = _
  rw [e1]
  show ((ixN ds.length k).bind fun p => _) = _
  rw [h3]
  show ((ds[j]?).bind fun p => _) = _
  rw [h4]
  exact if_pos (Nat.ble_eq.mpr h6)
end
theorem ltl {α : Type} {i : Nat} {l : List α} {P : Prop} (h : i < l.length) (p : P) : i < l.length ∧ P := ⟨h, p⟩
theorem ex_int {k : Int} {R : Int → Prop} (h : R k) : ∃ c, PyData.int k = PyData.int c ∧ R c := ⟨k, rfl, h⟩
theorem ex_tup {k : List D} {R : List D → Prop} (h : R k) : ∃ c, PyData.tuple k = PyData.tuple c ∧ R c := ⟨k, rfl, h⟩
theorem ex_lst {k : List D} {R : List D → Prop} (h : R k) : ∃ c, PyData.list k = PyData.list c ∧ R c := ⟨k, rfl, h⟩
theorem ex_dct {k : List (D × D)} {R : List (D × D) → Prop} (h : R k) : ∃ c, PyData.dict k = PyData.dict c ∧ R c := ⟨k, rfl, h⟩
/-! ## ints in tuples and lists -/
def nI (i : Nat) : D := .int (i : Nat)
def iT (l : List Int) : D := .tuple (l.map PyData.int)
def nT (l : List Nat) : D := .tuple (l.map nI)
def nnT (l : List (List Nat)) : D := .tuple (l.map nT)
theorem canLay_ints : ∀ l : List Int, PyData.canLayAll0 (l.map PyData.int) = true
  | [] => by simp [PyData.canLayAll0]
  | x :: l => by simp [PyData.canLayAll0, PyData.canLay0, canLay_ints l]
theorem nI_int (l : List Nat) : l.map nI = (l.map fun i : Nat => (i : Int)).map PyData.int := by rw [List.map_map]; rfl
theorem depth_ints : ∀ l : List Int, PyData.depthAll (l.map PyData.int) ≤ 1
  | [] => by simp [PyData.depthAll]
  | x :: l => by
    have := depth_ints l
    simp only [List.map_cons, PyData.depthAll, PyData.depth] at *
    omega
theorem shaped_ints (l : List Int) : SeqAt.shaped (.list (l.map PyData.int)) = true := by
  unfold SeqAt.shaped
  rw [Bool.and_eq_true, decide_eq_true_eq]
  refine ⟨by simp only [PyData.canLay0]; exact canLay_ints l, ?_⟩
  have := depth_ints l
  simp only [PyData.depth]
  omega
theorem eqv_int (x y : Int) : PyData.eqv (.int x) (.int y) = (x == y) := by simp [PyData.eqv]
theorem ixN_nat {n j : Nat} (h : j < n) : ixN n (j : Int) = some j := by
  unfold ixN
  rw [if_pos (by omega), if_pos (by omega)]
  rfl
theorem atI_nat' {α : Type} {ds : List α} {j : Nat} {d : α} (h : ds[j]? = some d) : atI ds (j : Int) = some d := by
  unfold atI
  rw [ixN_nat (List.getElem?_eq_some_iff.mp h).1]
  exact h
end Y

namespace Y
open PySem PySem.Spec PyProof.Rows L2

/-! ## sum, max and min of one list or tuple of ints -/
theorem walks_tup {prog : Program} {w : World} {A : Around} (hh : A.handled = none) (I ax : Addr) (hne : ax ≠ I) (items : Array Value) :
    Walks prog w A I [I, ax] [I] items.size (fun i v => items[i]? = some v) (fun i h => PyProof.Rows.IsTupIter h I ax i ∧ PyProof.Rows.IsTup h ax items) where
  sub := fun b hb => by simp at hb; simp [hb]
  frame := fun i h h' st hk => by
    obtain ⟨⟨o, h1, h2, h3⟩, o2, g1, g2⟩ := st
    exact ⟨⟨o, hk I (by simp) o h1, h2, h3⟩, o2, hk ax (by simp) o2 g1, g2⟩
  item := fun i s Q E hi st hQ => by
    refine PyProof.Rows.next_tuple_item st.1 st.2 (x := items[i]) (by simp [hi]) fun h' hit' hs' => ?_
    exact hQ _ h' s.toks (by simp [hi]) ⟨hit', st.2.extBut hs'.extBut hne⟩ fun b o hb e => hs'.extBut b o (fun h => hb (by simp [h])) e
  done := fun s Q E st hQ => PyProof.Rows.next_tuple_end hh st.1 st.2 (by simp) fun h' he' => hQ h' s.toks fun b o hb e => he' b o (fun h => hb (by simp [h])) e
  self := fun i s Q E st hQ => wpAny_pyIter_tupleiter st.1 hQ
section
variable {prog : Program} {w : World} {A : Around} {E : Value → Shared → Prop} {s : Shared} {l : Addr} {its : List Value} {ns : List Int} {Q : Value → Shared → Prop}
theorem iter_tupZ {items : Array Value} {Q : Value → Shared → Prop} (hl : PyProof.Rows.IsTup s.heap l items)
    (h : ∀ s₂ : Shared, s₂ = { s with heap := s.heap.push { cls := .type "tuple_iterator", data := .fields #[.ref l, .int 0 0] } } →
      (PyProof.Rows.IsTupIter s₂.heap s.heap.objs.size l 0 ∧ PyProof.Rows.IsTup s₂.heap l items) → (∀ b ∈ [s.heap.objs.size, l], b < s₂.heap.objs.size) → l ≠ s.heap.objs.size → Q (.ref s.heap.objs.size) s₂) :
    wpAny (model prog w) A (pyIter (.ref l)) Q E s := by
  have hlt : l < s.heap.objs.size := by obtain ⟨_, e, _⟩ := hl; exact Heap.lt_size e
  refine PyProof.Rows.iter_tuple hl (h _ rfl ⟨⟨_, Heap.get?_push_size _ rfl, rfl, rfl⟩, hl.push _⟩ (fun b hb => ?_) (Nat.ne_of_lt hlt))
  show b < (s.heap.push _).objs.size
  rw [Heap.size_push]
  rcases List.mem_cons.mp hb with rfl | hb
  · exact Nat.lt_succ_self _
  · rcases List.mem_cons.mp hb with rfl | hb
    · exact Nat.lt_succ_of_lt hlt
    · cases hb
theorem old_keptZ {h' : Heap} (hk : ∀ b o, b ∉ [s.heap.objs.size] → (s.heap.push { cls := .type "tuple_iterator", data := .fields #[.ref l, .int 0 0] }).get? b = some o → h'.get? b = some o) :
    ∀ b o, s.heap.get? b = some o → h'.get? b = some o := fun b o e => by
  refine hk b o (fun hm => ?_) (Heap.get?_push_of_some _ e)
  rcases List.mem_cons.mp hm with e1 | hm
  · exact absurd (e1 ▸ Heap.lt_size e) (Nat.lt_irrefl _)
  · cases hm
theorem sum_rawZ (hh : A.handled = none) (hl : PyProof.Rows.IsTup s.heap l its.toArray) (hi : IntsAre its ns)
    (h : ∀ h' tk t', (∀ b o, s.heap.get? b = some o → h'.get? b = some o) → Q (.int ns.sum t') { s with heap := h', toks := tk }) : wpAny (model prog w) A (call (.builtin "sum") [.ref l]) Q E s := by
  obtain ⟨xs, e⟩ := hi.allInts.items
  have hn : numsOf (intItems xs).toList = ns := by rw [← e]; exact hi.numsOf
  rw [nums_intItems] at hn
  rw [e] at hl
  refine call_sum_walkG (iter_tupZ hl fun s₂ e st hfp hlI => ?_)
  subst e
  refine ⟨_, _, _, _, _, _, numAt xs, rfl, walks_tup (A := A.in1) hh _ l hlI (intItems xs), st, hfp, (fun _ _ => intItems_at), fun h' tk t' hk => ?_⟩
  have := h h' tk t' (old_keptZ hk)
  rw [show (intItems xs).size = xs.size by simp [intItems], preSum_eq, List.take_of_length_le (by simp), hn]
  exact this
theorem max_rawZ (hh : A.handled = none) (hl : PyProof.Rows.IsTup s.heap l its.toArray) (hi : IntsAre its ns) (hne : 0 < ns.length)
    (h : ∀ h' tk M t', (∀ b o, s.heap.get? b = some o → h'.get? b = some o) → M ∈ ns → (∀ a, a ∈ ns → a ≤ M) → Q (.int M t') { s with heap := h', toks := tk }) : wpAny (model prog w) A (call (.builtin "max") [.ref l]) Q E s := by
  obtain ⟨xs, e⟩ := hi.allInts.items
  have hn : numsOf (intItems xs).toList = ns := by rw [← e]; exact hi.numsOf
  rw [nums_intItems] at hn
  subst hn
  rw [e] at hl
  have hsz : 0 < xs.size := by simpa using hne
  refine call_max_walk (iter_tupZ hl fun s₂ e st hfp hlI => ?_)
  subst e
  refine ⟨_, _, _, _, _, _, _, rfl, walks_tup (A := A.in1) hh _ l hlI (intItems xs), st, hfp, by simpa [intItems] using hsz, CmpOf.ints_gt (numAt xs) (fun _ _ => intItems_at), fun v h' tk hv hk => ?_⟩
  have hv : (intItems xs)[argBest (fun i j => decide (numAt xs i > numAt xs j)) (xs.size - 1)]? = some v := by simpa [intItems] using hv
  obtain ⟨t, rfl⟩ := intItems_at hv
  obtain ⟨h1, h2⟩ := argBest_gt (numAt xs) (xs.size - 1)
  refine h h' tk _ t (old_keptZ hk) ?_ fun a ha => ?_
  · rw [numAt_eq]; exact PySem.getD_mem (by rw [List.length_map, Array.length_toList]; omega)
  · obtain ⟨j, hj, rfl⟩ := mem_getD ha
    rw [List.length_map, Array.length_toList] at hj
    rw [← numAt_eq]; exact h2 j (by omega)
theorem min_rawZ (hh : A.handled = none) (hl : PyProof.Rows.IsTup s.heap l its.toArray) (hi : IntsAre its ns) (hne : 0 < ns.length)
    (h : ∀ h' tk M t', (∀ b o, s.heap.get? b = some o → h'.get? b = some o) → M ∈ ns → (∀ a, a ∈ ns → M ≤ a) → Q (.int M t') { s with heap := h', toks := tk }) : wpAny (model prog w) A (call (.builtin "min") [.ref l]) Q E s := by
  obtain ⟨xs, e⟩ := hi.allInts.items
  have hn : numsOf (intItems xs).toList = ns := by rw [← e]; exact hi.numsOf
  rw [nums_intItems] at hn
  subst hn
  rw [e] at hl
  have hsz : 0 < xs.size := by simpa using hne
  refine call_min_walk (iter_tupZ hl fun s₂ e st hfp hlI => ?_)
  subst e
  refine ⟨_, _, _, _, _, _, _, rfl, walks_tup (A := A.in1) hh _ l hlI (intItems xs), st, hfp, by simpa [intItems] using hsz, CmpOf.ints_lt (numAt xs) (fun _ _ => intItems_at), fun v h' tk hv hk => ?_⟩
  have hv : (intItems xs)[argBest (fun i j => decide (numAt xs i < numAt xs j)) (xs.size - 1)]? = some v := by simpa [intItems] using hv
  obtain ⟨t, rfl⟩ := intItems_at hv
  obtain ⟨h1, h2⟩ := argBest_lt (numAt xs) (xs.size - 1)
  refine h h' tk _ t (old_keptZ hk) ?_ fun a ha => ?_
  · rw [numAt_eq]; exact PySem.getD_mem (by rw [List.length_map, Array.length_toList]; omega)
  · obtain ⟨j, hj, rfl⟩ := mem_getD ha
    rw [List.length_map, Array.length_toList] at hj
    rw [← numAt_eq]; exact h2 j (by omega)
end
section
variable {X : Cx}
def rSumA (K : PySem.W.Frag) : List V → Hp → VK → Prop := fun vs H Q => ∃ (a : Addr) (ns : List Int), vs = [V.ref a] ∧ (SqL K H a (ns.map V.int) ∨ SqT K H a (ns.map V.int)) ∧ Q (.int ns.sum) H
def rMaxA (K : PySem.W.Frag) : List V → Hp → VK → Prop := fun vs H Q => ∃ (a : Addr) (ns : List Int), vs = [V.ref a] ∧ (SqL K H a (ns.map V.int) ∨ SqT K H a (ns.map V.int)) ∧ 0 < ns.length ∧ ∀ m, m ∈ ns → (∀ y, y ∈ ns → y ≤ m) → Q (.int m) H
def rMinA (K : PySem.W.Frag) : List V → Hp → VK → Prop := fun vs H Q => ∃ (a : Addr) (ns : List Int), vs = [V.ref a] ∧ (SqL K H a (ns.map V.int) ∨ SqT K H a (ns.map V.int)) ∧ 0 < ns.length ∧ ∀ m, m ∈ ns → (∀ y, y ∈ ns → m ≤ y) → Q (.int m) H
theorem cr_sumA (hc : X.calm = true) : CallR X (.builtin "sum") (rSumA X.K) := by
  intro pins s σ H vs us Q I r h
  obtain ⟨a, ns, rfl, hs, q⟩ := h
  rcases hs with hs | hs
  · exact cr_sum hc pins s σ H _ us Q I r ⟨a, ns, rfl, hs, q⟩
  · obtain ⟨its, rv, hl, _⟩ := I.tuple hs
    rw [Vals.ref1 r]
    exact sum_rawZ (I.ok.hd hc) hl rv.ints fun h' tk t' hk => ⟨.int _, H, I.kept hk, ⟨_, rfl⟩, q⟩
theorem cr_maxA (hc : X.calm = true) : CallR X (.builtin "max") (rMaxA X.K) := by
  intro pins s σ H vs us Q I r h
  obtain ⟨a, ns, rfl, hs, hne, q⟩ := h
  rcases hs with hs | hs
  · exact cr_max hc pins s σ H _ us Q I r ⟨a, ns, rfl, hs, hne, q⟩
  · obtain ⟨its, rv, hl, _⟩ := I.tuple hs
    rw [Vals.ref1 r]
    exact max_rawZ (I.ok.hd hc) hl rv.ints hne fun h' tk m t' hk h1 h2 => ⟨.int _, H, I.kept hk, ⟨_, rfl⟩, q m h1 h2⟩
theorem cr_minA (hc : X.calm = true) : CallR X (.builtin "min") (rMinA X.K) := by
  intro pins s σ H vs us Q I r h
  obtain ⟨a, ns, rfl, hs, hne, q⟩ := h
  rcases hs with hs | hs
  · exact cr_min hc pins s σ H _ us Q I r ⟨a, ns, rfl, hs, hne, q⟩
  · obtain ⟨its, rv, hl, _⟩ := I.tuple hs
    rw [Vals.ref1 r]
    exact min_rawZ (I.ok.hd hc) hl rv.ints hne fun h' tk m t' hk h1 h2 => ⟨.int _, H, I.kept hk, ⟨_, rfl⟩, q m h1 h2⟩
def seqsD : List D → Option (List D)
  | [.list ds] => some ds
  | [.tuple ds] => some ds
  | _ => none
def maxI : List Int → Int
  | [] => 0
  | [x] => x
  | x :: y :: r => max x (maxI (y :: r))
def minI : List Int → Int
  | [] => 0
  | [x] => x
  | x :: y :: r => min x (minI (y :: r))
theorem maxI_ok : ∀ {ns : List Int}, 0 < ns.length → maxI ns ∈ ns ∧ ∀ y, y ∈ ns → y ≤ maxI ns
  | [], h => by cases h
  | [x], _ => ⟨List.mem_singleton.mpr rfl, fun y h => by rw [List.mem_singleton.mp h]; exact Int.le_refl _⟩
  | x :: y :: r, _ => by
    obtain ⟨h1, h2⟩ := maxI_ok (ns := y :: r) (by simp)
    show max x (maxI (y :: r)) ∈ _ ∧ ∀ z, _ → z ≤ max x (maxI (y :: r))
    refine ⟨?_, fun z hz => ?_⟩
    · rcases Int.le_total x (maxI (y :: r)) with c | c
      · rw [Int.max_eq_right c]; exact List.mem_cons_of_mem _ h1
      · rw [Int.max_eq_left c]; exact List.mem_cons_self
    · rcases List.mem_cons.mp hz with rfl | hz
      · omega
      · have := h2 z hz; omega
theorem minI_ok : ∀ {ns : List Int}, 0 < ns.length → minI ns ∈ ns ∧ ∀ y, y ∈ ns → minI ns ≤ y
  | [], h => by cases h
  | [x], _ => ⟨List.mem_singleton.mpr rfl, fun y h => by rw [List.mem_singleton.mp h]; exact Int.le_refl _⟩
  | x :: y :: r, _ => by
    obtain ⟨h1, h2⟩ := minI_ok (ns := y :: r) (by simp)
    show min x (minI (y :: r)) ∈ _ ∧ ∀ z, _ → min x (minI (y :: r)) ≤ z
    refine ⟨?_, fun z hz => ?_⟩
    · rcases Int.le_total x (minI (y :: r)) with c | c
      · rw [Int.min_eq_left c]; exact List.mem_cons_self
      · rw [Int.min_eq_right c]; exact List.mem_cons_of_mem _ h1
    · rcases List.mem_cons.mp hz with rfl | hz
      · omega
      · have := h2 z hz; omega
def sumA : List D → Option D := fun ds => (seqsD ds).bind fun xs => (intsD xs).map fun ns => .int ns.sum
def maxA : List D → Option D := fun ds => (seqsD ds).bind fun xs => (intsD xs).bind fun ns => if ns.isEmpty = true then none else some (.int (maxI ns))
def minA : List D → Option D := fun ds => (seqsD ds).bind fun xs => (intsD xs).bind fun ns => if ns.isEmpty = true then none else some (.int (minI ns))
theorem seqs_read {K : Fg} {O : List Addr} {H : Hp} {xs : List V} {ds es : List D} {ns : List Int} (r : Rrs K O H xs ds) (e : seqsD ds = some es) (h1 : intsD es = some ns) : ∃ p, xs = [V.ref p] ∧ (SqL K H p (ns.map V.int) ∨ SqT K H p (ns.map V.int)) := by
  unfold seqsD at e
  split at e
  · cases e
    obtain ⟨x, rfl, rx⟩ := rrs1 r
    obtain ⟨p, ys, rfl, hx, ra⟩ := rx.list
    rw [intsD_some h1] at ra
    rw [rps_ints ra] at hx
    exact ⟨p, rfl, .inl (SqL.of hx)⟩
  · cases e
    obtain ⟨x, rfl, rx⟩ := rrs1 r
    obtain ⟨p, ys, rfl, hx, ra⟩ := rx.tuple
    rw [intsD_some h1] at ra
    rw [rps_ints ra] at hx
    exact ⟨p, rfl, .inr hx⟩
  · cases e
theorem cs_sumA (hc : X.calm = true) : CallS X (.builtin "sum") .i sumA := ⟨_, cr_sumA hc, fun O H xs ds d Q dom r e k => by
  unfold sumA at e
  obtain ⟨es, e1, e2⟩ := Option.bind_eq_some_iff.mp e
  obtain ⟨ns, h1, rfl⟩ := Option.map_eq_some_iff.mp e2
  obtain ⟨p, rfl, hp⟩ := seqs_read r e1 h1
  exact ⟨p, ns, rfl, hp, k _ H (Ex.refl H) (.int _)⟩⟩
theorem cs_maxA (hc : X.calm = true) : CallS X (.builtin "max") .i maxA := ⟨_, cr_maxA hc, fun O H xs ds d Q dom r e k => by
  unfold maxA at e
  obtain ⟨es, e1, e2⟩ := Option.bind_eq_some_iff.mp e
  obtain ⟨ns, h1, e3⟩ := Option.bind_eq_some_iff.mp e2
  obtain ⟨p, rfl, hp⟩ := seqs_read r e1 h1
  split at e3
  · cases e3
  · next c =>
    cases e3
    have h0 : 0 < ns.length := by cases ns <;> simp at c ⊢
    obtain ⟨m1, m2⟩ := maxI_ok h0
    refine ⟨p, ns, rfl, hp, h0, fun m q1 q2 => ?_⟩
    have : m = maxI ns := Int.le_antisymm (m2 m q1) (q2 _ m1)
    rw [this]
    exact k _ H (Ex.refl H) (.int _)⟩
theorem cs_minA (hc : X.calm = true) : CallS X (.builtin "min") .i minA := ⟨_, cr_minA hc, fun O H xs ds d Q dom r e k => by
  unfold minA at e
  obtain ⟨es, e1, e2⟩ := Option.bind_eq_some_iff.mp e
  obtain ⟨ns, h1, e3⟩ := Option.bind_eq_some_iff.mp e2
  obtain ⟨p, rfl, hp⟩ := seqs_read r e1 h1
  split at e3
  · cases e3
  · next c =>
    cases e3
    have h0 : 0 < ns.length := by cases ns <;> simp at c ⊢
    obtain ⟨m1, m2⟩ := minI_ok h0
    refine ⟨p, ns, rfl, hp, h0, fun m q1 q2 => ?_⟩
    have : m = minI ns := Int.le_antisymm (q2 _ m1) (m2 m q1)
    rw [this]
    exact k _ H (Ex.refl H) (.int _)⟩
end
end Y

namespace Y
open PySem PySem.Spec PyProof.Rows L2

/-! ## sorted of a tuple of ints -/
section
variable {prog : Program} {w : World} {A : Around} {E : Value → Shared → Prop} {s : Shared}
theorem collect_tupZ {l : Addr} {vs : List Value} {Q : List Value → Shared → Prop} (hl : PyProof.Rows.IsTup s.heap l vs.toArray)
    (h : Q vs { s with heap := (s.heap.push (seqObj "list" #[] 0)).update s.heap.objs.size (Obj.mapSeq (· ++ vs.toArray)) }) (hsz : vs.length ≤ sizeLine) :
    wpAny (model prog w) A (collect (.ref l)) Q E s := by
  obtain ⟨o, ho, hc, n, hd⟩ := id hl
  unfold collect
  refine wpAny_bind (wpAny_runValue (codeAny_builtin entry_proto_collect' ?_))
  show wpAny _ _ (do again (.builtin "list.__iadd__" ⟨[← newList [], .ref l], []⟩)) _ _ s
  refine wpAny_bind (wpAny_newList (wpAny_pure ⟨Code.quiet_builtin _ (by decide +kernel), codeAny_builtin entry_list_iadd' ?_⟩))
  show wpAny _ _ (Builtin.List.listExtendWith (.ref s.heap.objs.size) (.ref l) (.ref s.heap.objs.size)) _ _ { s with heap := s.heap.push (seqObj "list" #[] 0) }
  unfold Builtin.List.listExtendWith
  have ho' : (s.heap.push (seqObj "list" #[] 0)).get? l = some o := Heap.get?_push_of_some _ ho
  refine wpAny_bind (wpAny_typeOf (T := "tuple") ⟨o, ho', hc⟩ ?_)
  have ht : (Value.type "tuple" == Value.type "tuple") = true := by rfl
  rw [if_pos (by rw [ht]; simp)]
  refine wpAny_bind (listItems_at ho' hd ?_)
  refine wpAny_bind (listItems_at (xs := #[]) (n := 0) (Heap.get?_push_size _ rfl) rfl ?_)
  rw [if_neg (by simp)]
  refine wpAny_bind (listUpdate_at (xs := #[]) (n := 0) (Heap.get?_push_size _ rfl) rfl ?_ (Nat.zero_le _) (by show (#[] ++ vs.toArray).size ≤ sizeLine + 1; simp only [Array.size_append, List.size_toArray, List.length_nil]; omega))
  refine wpAny_pure ?_
  show wpAny (model prog w) A (do
      let o ← load s.heap.objs.size
      match o.data with
      | .seq xs _ => pure xs.toList
      | _ => unsupported "internal:collect") Q E { s with heap := (s.heap.push (seqObj "list" #[] 0)).update s.heap.objs.size (Obj.mapSeq (· ++ vs.toArray)) }
  refine wpAny_bind (wpAny_load (get?_update_seq (Heap.get?_push_size _ rfl) _) ?_)
  show wpAny _ _ (pure ((#[] : Array Value) ++ vs.toArray).toList) Q E _
  rw [show ((#[] : Array Value) ++ vs.toArray).toList = vs by simp]
  exact wpAny_pure h
theorem sorted_intsZ {l : Addr} {vs : List Value} {ns : List Int} {Q : Value → Shared → Prop} (hl : PyProof.Rows.IsTup s.heap l vs.toArray) (hI : IntsAre vs ns) (hL : vs.length ≤ sizeLine)
    (h : ∀ (out : Array Value) (ns' : List Int), IntsAre out.toList ns' → ns'.Perm ns → ns'.Pairwise (· ≤ ·) → Q (.ref (s.heap.objs.size + 1)) { s with heap := sortedAll s.heap vs out }) :
    wpAny (model prog w) A (call (.builtin "sorted") [.ref l]) Q E s := by
  refine Calls.call_function_entry kind_sorted plain_sorted entry_sorted (args_sorted1 _) ?_
  unfold Builtin.«sorted»
  refine wpAny_bind (m := checkCount "sorted" 1 1 _) (wpAny_pure ?_)
  refine wpAny_bind (collect_tupZ hl ?_ hL)
  refine wpAny_bind (wpAny_newList ?_)
  have hsz : ((s.heap.push (seqObj "list" #[] 0)).update s.heap.objs.size (Obj.mapSeq (· ++ vs.toArray))).objs.size = s.heap.objs.size + 1 := by
    rw [Heap.size_update, size_push']
  have hoL : (((s.heap.push (seqObj "list" #[] 0)).update s.heap.objs.size (Obj.mapSeq (· ++ vs.toArray))).push (seqObj "list" vs.toArray 0)).get? (s.heap.objs.size + 1) = some (seqObj "list" vs.toArray 0) := by
    rw [← hsz]; exact Heap.get?_push_size _ rfl
  show wpAny _ _ _ _ _ { s with heap := ((s.heap.push (seqObj "list" #[] 0)).update s.heap.objs.size (Obj.mapSeq (· ++ vs.toArray))).push (seqObj "list" vs.toArray 0) }
  rw [hsz]
  refine wpAny_bind (wpAny_holding (wpAny_call_entry slot_list_sort ⟨_, hoL, rfl⟩ entry_list_sort (list_sort_treeAny hoL hI hL fun out ns' a1 a2 a3 => ⟨_, rfl, ?_⟩) (args_list_sort _)))
  exact wpAny_pure ⟨_, rfl, h out ns' a1 a2 a3⟩
end
section
variable {X : Cx}
def rSortedA (K : PySem.W.Frag) : List V → Hp → VK → Prop := fun vs H Q => ∃ (a : Addr) (ns : List Int), vs = [V.ref a] ∧ (SqL K H a (ns.map V.int) ∨ SqT K H a (ns.map V.int)) ∧
  ∀ (ns' : List Int) (p : Addr), ns'.Perm ns → ns'.Pairwise (· ≤ ·) → H p = none → Q (.ref p) (upd H p (.lst (ns'.map V.int)))
theorem cr_sortedA : CallR X (.builtin "sorted") (rSortedA X.K) := by
  intro pins s σ H vs us Q I r h
  obtain ⟨a, ns, rfl, hs, q⟩ := h
  rcases hs with hs | hs
  · exact cr_sortedI pins s σ H _ us Q I r ⟨a, ns, rfl, hs, q⟩
  · obtain ⟨its, rv, hl, h64⟩ := I.tuple hs
    rw [Vals.ref1 r]
    have hi := rv.ints
    rw [List.length_map] at h64
    refine sorted_intsZ hl hi (by rw [hi.length]; exact h64) fun out ns' h1 h2 h3 => ?_
    obtain ⟨ep, he'⟩ := PyProof.Rows.sortedAll_at s.heap its out
    have hlen : (ns'.map V.int).length ≤ sizeLine := by rw [List.length_map, h2.length_eq]; exact h64
    exact ⟨.ref _, upd H (s.heap.objs.size + 1) (.lst (ns'.map V.int)), I.laid (t' := s.toks) (fun _ _ => PyProof.Rows.sortedAll_old) (Nat.le_succ _) ⟨hlen, out.toList, ep, vals_of_ints h1, he'⟩, rfl, q ns' _ h2 h3 (I.hok.fresh (Nat.le_succ _))⟩
def sortedA : List D → Option D := fun ds => (seqsD ds).bind fun xs => (intsD xs).map fun ns => .list ((sortI ns).map PyData.int)
theorem cs_sortedA : CallS X (.builtin "sorted") .o sortedA := ⟨_, cr_sortedA, fun O H xs ds d Q dom r e k => by
  unfold sortedA at e
  obtain ⟨es, e1, e2⟩ := Option.bind_eq_some_iff.mp e
  obtain ⟨ns, h1, rfl⟩ := Option.map_eq_some_iff.mp e2
  obtain ⟨a, rfl, hp⟩ := seqs_read r e1 h1
  refine ⟨a, ns, rfl, hp, fun ns' p pm srt hp => ?_⟩
  rw [sorted_uniq (pm.trans (sortI_perm ns).symm) srt (sortI_sorted ns)]
  exact k _ _ (Ex.new hp) ⟨p, _, _, rfl, rfl, hp, fun m => dom p m hp, upd_same, rps_of_ints _⟩⟩
/-- a fresh list, given away at once -/
theorem CallS.toI {f : Value} {g : List D → Option D} (h : CallS X f .o g) : CallS X f .i g := by
  obtain ⟨r, h1, h2⟩ := h
  exact ⟨r, h1, fun O H xs ds d Q dom rr e k => h2 O H xs ds d Q dom rr e fun v H' e' r' => k v H' e' r'.toI⟩
end
/-! ## a slice of an effectful value -/
def slE (g : D → Option Int → Option Int → Option D) (a : S → Option (D × S)) (lo hi : S → Option (Option Int)) : S → Option (D × S) := fun s => (a s).bind fun p => (lo p.2).bind fun l => (hi p.2).bind fun u => (g p.1 l u).map fun d => (d, p.2)
section
variable {X : Cx} {T : List (Addr × Str)} {tb : Bool}
theorem e_slice {g : D → Option Int → Option Int → Option D} (h : SlS X .i g) {e : Expr} {lo hi : Option Expr} {m : S → Option (D × S)} {l u : S → Option (Option Int)} {p2 pos : Pos} (he : EE X T tb e m) (hl : QO X T tb lo l) (hu : QO X T tb hi u) :
    EE X T tb (.Subscript e (.Slice lo hi none p2) pos) (slE g m l u) := by
  obtain ⟨r, hr, hs⟩ := h
  refine imp_e (pe_slice hr he hl hu) fun σ H Q h => ?_
  obtain ⟨E, O, s, d, s', sm, hm, q⟩ := h
  unfold slE at hm
  obtain ⟨⟨x, s1⟩, hx, hm⟩ := Option.bind_eq_some_iff.mp hm
  obtain ⟨l, hl, hm⟩ := Option.bind_eq_some_iff.mp hm
  obtain ⟨u, hu, hm⟩ := Option.bind_eq_some_iff.mp hm
  obtain ⟨z, hz, hm⟩ := Option.map_eq_some_iff.mp hm
  cases hm
  refine ⟨E, O, s, x, s1, sm, hx, fun v H1 O1 st1 sm1 r1 => ⟨E, O1, s1, l, sm1, hl, fun H2 e2 => ⟨E, O1, s1, u, sm1.ext e2, hu, fun H3 e3 => ?_⟩⟩⟩
  exact hs O1 H3 v x _ l u Q (sm1.ext (e2.trans e3)).dom (.inl (r1.ext (e2.trans e3))) hz fun w H4 e4 r4 => q w H4 O1 (st1.trans (Stp.of_ex (e2.trans (e3.trans e4)))) (sm1.ext (e2.trans (e3.trans e4))) r4
end
end Y

namespace Y
open PySem PySem.Spec PyProof.Rows L2

/-! ## isinstance(e, T), T a built-in type -/
inductive Ty where
  | int | bool | str | tup | lst | dct
def Ty.nm : Ty → String
  | .int => "int"
  | .bool => "bool"
  | .str => "str"
  | .tup => "tuple"
  | .lst => "list"
  | .dct => "dict"
def isTy : Ty → D → Bool
  | .int, .int _ => true
  | .int, .bool _ => true
  | .bool, .bool _ => true
  | .str, .str _ => true
  | .tup, .tuple _ => true
  | .lst, .list _ => true
  | .dct, .dict _ => true
  | _, _ => false
def isiM (t : Ty) (m : S → Option D) : S → Option D := fun s => (m s).map fun d => .bool (isTy t d)
def tyNm : D → String
  | .none => "NoneType"
  | .bool _ => "bool"
  | .int _ => "int"
  | .str _ => "str"
  | .list _ => "list"
  | .tuple _ => "tuple"
  | .dict _ => "dict"
theorem kB_NoneType (t : Ty) : kitB "NoneType" t.nm = some (match t with | _ => false) := by cases t <;> decide +kernel
theorem kB_bool (t : Ty) : kitB "bool" t.nm = some (match t with | .int => true | .bool => true | _ => false) := by cases t <;> decide +kernel
theorem kB_int (t : Ty) : kitB "int" t.nm = some (match t with | .int => true | _ => false) := by cases t <;> decide +kernel
theorem kB_str (t : Ty) : kitB "str" t.nm = some (match t with | .str => true | _ => false) := by cases t <;> decide +kernel
theorem kB_list (t : Ty) : kitB "list" t.nm = some (match t with | .lst => true | _ => false) := by cases t <;> decide +kernel
theorem kB_tuple (t : Ty) : kitB "tuple" t.nm = some (match t with | .tup => true | _ => false) := by cases t <;> decide +kernel
theorem kB_dict (t : Ty) : kitB "dict" t.nm = some (match t with | .dct => true | _ => false) := by cases t <;> decide +kernel
theorem kitB_ty : ∀ (d : D) (t : Ty), kitB (tyNm d) t.nm = some (isTy t d)
  | .none, t => (kB_NoneType t).trans (by cases t <;> rfl)
  | .bool _, t => (kB_bool t).trans (by cases t <;> rfl)
  | .int _, t => (kB_int t).trans (by cases t <;> rfl)
  | .str _, t => (kB_str t).trans (by cases t <;> rfl)
  | .list _, t => (kB_list t).trans (by cases t <;> rfl)
  | .tuple _, t => (kB_tuple t).trans (by cases t <;> rfl)
  | .dict _, t => (kB_dict t).trans (by cases t <;> rfl)
theorem dct_ty {K : Fg} {H : Hp} {a : Addr} {o : HO} {ks : List D} {vs : List V} (e : H a = some o) (h : DictO o ks vs) : TyX K H (.ref a) (.type "dict") := by
  cases o <;> first | exact h.elim | exact .base (.dK e) | exact .base (.dT e)
theorem rp_ty {K : Fg} {O : List Addr} {H : Hp} {v : V} {d : D} (h : Rp K O H v d) : TyX K H v (.type (tyNm d)) := by
  cases h with
  | non => exact .base .non
  | bl b => exact .base (.bl b)
  | int i => exact .base (.int i)
  | str x => exact .base (.str x)
  | lst e _ _ => exact .base (.lst e)
  | tup e _ =>
    obtain ⟨o, e, ⟨_, ob, rfl, _⟩ | ⟨_, rfl⟩⟩ := e
    · exact .fTuple e
    · exact .base (.tup e)
  | dct e h _ _ => exact dct_ty e h
theorem rr_ty {K : Fg} {O : List Addr} {H : Hp} {v : V} {d : D} (h : Rr K O H v d) : TyX K H v (.type (tyNm d)) := by
  rcases h with h | ⟨a, vs, ds, rfl, rfl, e, _⟩ | ⟨a, o, vs, kvs, rfl, rfl, e, h, _⟩
  · exact rp_ty h
  · exact .base (.lst e)
  · exact dct_ty e h
section
variable {X : Cx} {T : List (Addr × Str)} {tb : Bool}
theorem q_isi (t : Ty) {e : Expr} {k : Kd} {m : S → Option D} {y : Str} {p p2 pos : Pos} (hg : Gl X "isinstance") (hm : X.mg "isinstance" = none) (hg2 : Gl X y) (hm2 : X.mg y = none) (hv2 : bootBuiltins y = some (.type t.nm)) (he : QE X T tb k e m) (hn2 : y ≠ "__name__" := by decide) (hd2 : (y == ("__debug__" : Str)) = false := by decide)
    (hs : starEach [e, .Name y p2] X.env = (false, eval e X.env) :: starEach [.Name y p2] X.env := by rfl) (hs2 : starEach [.Name y p2] X.env = (false, eval (.Name y p2) X.env) :: starEach [] X.env := by rfl) (hpl : (backTo pos (starEach [.Name y p2] X.env)).any (·.1) = false := by rfl) :
    QE X T tb .i (.Call (.Name "isinstance" p) [e, .Name y p2] [] pos) (isiM t m) := by
  have hv : bootBuiltins "isinstance" = some (.builtin "isinstance") := by rfl
  refine imp_e (pe_callB call_isi hg hm hv (pa_cons he (pa_cons (pe_bltn (v := .ty t.nm) hg2 hm2 hv2 rfl hn2 hd2) pa_nil hs2) hs) (by decide) (by decide) hs hpl) fun σ H Q h => ?_
  obtain ⟨E, O, s, d, sm, hmm, q⟩ := h
  unfold isiM at hmm
  obtain ⟨x, hx, rfl⟩ := Option.map_eq_some_iff.mp hmm
  refine ⟨E, O, s, x, sm, hx, fun v H1 e1 r1 => ?_⟩
  exact ⟨v, .ty t.nm, .type (tyNm x), .type t.nm, isTy t x, rfl, .ty _, rr_ty r1.toR, kit_ty (kitB_ty x t), q _ H1 e1 (.bl _)⟩
end
end Y

namespace Y
open PySem PySem.Spec PyProof.Rows L2
def top (i : Nat) : Stmt := PySem.Challenge.pw_ringsandroads_k39_whole_moves_from_the_f.main.body.getD i (.Pass ⟨0, 0, 0, 0⟩)
/-! ### law_draw -/
abbrev st_law_draw : Stmt := top 29
abbrev N_law_draw : List Str := ["bag", "below", "turn", "cell", "found"]
theorem sc_law_draw : FnScope N_law_draw ["bag", "below"] (defScope st_law_draw) := ⟨rfl, rfl, rfl, by decide +kernel, rfl, by decide +kernel, by decide +kernel⟩
-- m: seqS (forS (rng1E (argCE (noSt (cM (.int 64))) argNE)) (putM 2) (seqS (ifS (noSt (orT (tvM (op2 gtD (bagC 0) (cM (.int 0)))) (bagE 0))) bkM nxM) (seqS (setS 3 (bagPop 0)) (bagSetC 0 (noSt (ifM (tvM (op2 gtD (varM 3) (op2 powD (cM (.int 10)) (cM (.int 9))))) (varM 3) (cM (.int 0)))))))) (seqS (ifS (noSt (tvM (op2 gtD (bagC 0) (cM (.int 0))))) (seqS (setS 4 (noSt (op2 modD (callM int1D (argC (bagC 0) argN)) (varM 1)))) (seqS (bagSetC 0 (noSt (op2 divD (bagC 0) (varM 1)))) (retS (noSt (varM 4))))) nxM) (seqS (bagSetX 0 (noSt (op2 modD (callM int1D (argC (op2 addD (op2 mulD (bagX 0) (cM (.int 48271))) (cM (.int 11))) argN)) (cM (.int 2147483647))))) (retS (noSt (op2 modD (op2 divD (op2 modD (callM int1D (argC (op2 mulD (bagX 0) (bagX 0)) argN)) (cM (.int 2147483629))) (cM (.int 7))) (varM 1))))))
abbrev F_law_draw := F_draw
theorem c_law_draw {P : Program} {w : World} {K : Fg} {mg : Str → Option Value} {base : Heap} {T : List (Addr × Str)} {f : Addr} {fd : FuncData} {cd : Value} (hf : mg "_law_draw" = some (.ref f)) (Fc : FunC K "_law_draw" st_law_draw f fd cd) (g_int : mg "int" = none) (g_range : mg "range" = none) : CallG P w K mg base "_law_draw" ["bag", "below"] 1 (spB K T 2 F_law_draw) :=
  have Fn := Fc.fun
  ⟨f, fd, hf, Fc.kp, Fn.binds (ps := ["bag", "below"]) (fun _ _ _ _ _ _ us hl => match us, hl with | [_, _], _ => rfl), fnB (N := N_law_draw.tail) (ps := ["below"]) Fc sc_law_draw fun A outer s H E hr gd =>
    ss_cons (s_for rfl (ei_rng1 rfl g_range (ea_cons (e_q q_int) ea_nil)) (g_name 2 sc_law_draw.nd) (ss_cons (s_if (et_q (qw_t (qw_or (qt_cmp opS_gt (q_bagC 0) q_int (by first | exact nobehind _ (by decide) (by decide) | rfl)) (qw_or1 (qt_bagE (hr.units) 0))))) (ss_one s_break) ss_nil) (ss_cons (s_set 3 sc_law_draw.nd (e_bagPop 0)) (ss_one (s_bagSetC 0 (e_q (q_if (qt_cmp opS_gt (q_var 3) (q_op opS_pow q_int q_int) (by first | exact nobehind _ (by decide) (by decide) | rfl)) (q_var 3) q_int))))))) (ss_cons (s_if (et_q (qt_cmp opS_gt (q_bagC 0) q_int (by first | exact nobehind _ (by decide) (by decide) | rfl))) (ss_cons (s_set 4 sc_law_draw.nd (e_q (q_op opS_mod (q_callTy cs_int rfl g_int rfl (a_consI (q_bagC 0) a_nil)) (q_var 1)))) (ss_cons (s_bagSetC 0 (e_q (q_op opS_div (q_bagC 0) (q_var 1)))) (ss_one (s_ret (e_q (q_var 4)))))) ss_nil) (ss_cons (s_bagSetX 0 (e_q (q_op opS_mod (q_callTy cs_int rfl g_int rfl (a_consI (q_op opS_add (q_op opS_mul (q_bagX 0) q_int) q_int) a_nil)) q_int))) (ss_one (s_ret (e_q (q_op opS_mod (q_op opS_div (q_op opS_mod (q_callTy cs_int rfl g_int rfl (a_consI (q_op opS_mul (q_bagX 0) (q_bagX 0)) a_nil)) q_int) q_int) (q_var 1)))))))⟩
/-! ### law_same -/
abbrev st_law_same : Stmt := top 32
abbrev N_law_same : List Str := ["one", "other"]
theorem sc_law_same : FnScope N_law_same ["one", "other"] (defScope st_law_same) := ⟨rfl, rfl, rfl, by decide +kernel, rfl, by decide +kernel, by decide +kernel⟩
theorem c_law_same {P : Program} {w : World} {K : Fg} {mg : Str → Option Value} {base : Heap} {T : List (Addr × Str)} {f : Addr} {fd : FuncData} {cd : Value} (hf : mg "_law_same" = some (.ref f)) (Fn : Fun K "_law_same" "_law_same" st_law_same f fd) (g_repr : mg "repr" = none) : CallG P w K mg base "_law_same" ["one", "other"] 2 (spF K false 2 sameF) :=
  have h : FnG P w K mg base 2 f fd ["one", "other"] (spF K false 2 (runF 2 m_same)) := fnFG (k := 1) (kr := false) (N := N_law_same) (ps := ["one", "other"]) (m := m_same) Fn sc_law_same fun cdv A outer s H E hr gd =>
    ss_one (s_ret (e_q (q_and (q_cmp (opS_eq (hr.units)) (q_callB (cs_repr gd (hr.units)) rfl g_repr rfl (a_consI (q_var 0) a_nil)) (q_callB (cs_repr gd (hr.units)) rfl g_repr rfl (a_consI (q_var 1) a_nil)) (by first | exact nobehind _ (by decide) (by decide) | rfl)) (q_one (q_cmp (opS_eq (hr.units)) (q_var 0) (q_var 1) (by first | exact nobehind _ (by decide) (by decide) | rfl))))))
  CallG.same ⟨f, fd, hf, Fn.kp, Fn.binds (ps := ["one", "other"]) (fun _ _ _ _ _ _ us hl => match us, hl with | [_, _], _ => rfl), h⟩
/-! ### law_told -/
abbrev st_law_told : Stmt := top 31
abbrev N_law_told : List Str := ["call", "error", "found"]
theorem sc_law_told : FnScope N_law_told ["call"] (defScope st_law_told) := ⟨rfl, rfl, rfl, by decide +kernel, rfl, by decide +kernel, by decide +kernel⟩
theorem c_law_told {P : Program} {w : World} {K : Fg} {mg : Str → Option Value} {base : Heap} {T : List (Addr × Str)} {f : Addr} {fd : FuncData} {cd : Value} (hf : mg "_law_told" = some (.ref f)) (Fn : Fun K "_law_told" "_law_told" st_law_told f fd) : ToldC P w K mg base :=
  c_told hf Fn ⟨sc_law_told, rfl, .inl rfl, ⟨_, _, _, _, _, _, _, _, _, rfl⟩⟩ (Fn.binds (ps := ["call"]) (fun _ _ _ _ _ _ us hl => match us, hl with | [_], _ => rfl))
/-! ### law_is -/
abbrev st_law_is : Stmt := top 33
abbrev N_law_is : List Str := ["due", "call", "named"]
theorem sc_law_is : FnScope N_law_is ["due", "call", "named"] (defScope st_law_is) := ⟨rfl, rfl, rfl, by decide +kernel, rfl, by decide +kernel, by decide +kernel⟩
theorem c_law_is {P : Program} {w : World} {K : Fg} {mg : Str → Option Value} {base : Heap} {T : List (Addr × Str)} {f : Addr} {fd : FuncData} {cd : Value} (hf : mg "_law_is" = some (.ref f)) (Fn : Fun K "_law_is" "_law_is" st_law_is f fd) (Ct : ToldC P w K mg base) (Cs : CallG P w K mg base "_law_same" ["one", "other"] 2 (spF K false 2 sameF)) : IsC P w K mg base :=
  c_is hf Fn ⟨sc_law_is, rfl, rfl, rfl, .inl rfl, .inl rfl, .inl rfl, rfl, rfl, ⟨_, _, _, _, _, _, _, _, _, _, _, _, _, _, _, _, _, _, rfl⟩⟩ (Fn.binds (ps := ["due", "call", "named"]) (fun _ _ _ _ _ _ us hl => match us, hl with | [_, _, _], _ => rfl)) Ct Cs
/-! ### is_integer -/
abbrev st_is_integer : Stmt := top 1
abbrev N_is_integer : List Str := ["value"]
theorem sc_is_integer : FnScope N_is_integer ["value"] (defScope st_is_integer) := ⟨rfl, rfl, rfl, by decide +kernel, rfl, by decide +kernel, by decide +kernel⟩
def m_is_integer : S → Option Fl := retS (noSt (andV (isiM .int (varM 0)) (notV (isiM .bool (varM 0)))))
def F_is_integer : List D → Option D := runF 1 m_is_integer
theorem c_is_integer {P : Program} {w : World} {K : Fg} {mg : Str → Option Value} {base : Heap} {T : List (Addr × Str)} {f : Addr} {fd : FuncData} {cd : Value} (hf : mg "is_integer" = some (.ref f)) (Fn : Fun K "is_integer" "is_integer" st_is_integer f fd) (g_bool : mg "bool" = none) (g_int : mg "int" = none) (g_isinstance : mg "isinstance" = none) : CallF P w K mg base "is_integer" st_is_integer ["value"] 1 false F_is_integer :=
  ⟨f, fd, hf, Fn, Fn.binds (ps := ["value"]) (fun _ _ _ _ _ _ us hl => match us, hl with | [_], _ => rfl), fnF Fn sc_is_integer fun cdv A outer s H E hr =>
    ss_one (s_ret (e_q (q_and (q_isi .int rfl g_isinstance rfl g_int rfl (q_var 0)) (q_one (q_not (q_isi .bool rfl g_isinstance rfl g_bool rfl (q_var 0)))))))⟩
/-! ### front_error -/
abbrev st_front_error : Stmt := top 15
abbrev N_front_error : List Str := ["n", "value", "item"]
theorem sc_front_error : FnScope N_front_error ["n", "value"] (defScope st_front_error) := ⟨rfl, rfl, rfl, by decide +kernel, rfl, by decide +kernel, by decide +kernel⟩
def m_front_error : S → Option Fl := seqS (ifS (noSt (orT (notT (tvM (isiM .tup (varM 1)))) (orT (tvM (op2 neD (callM lenD (argC (varM 1) argN)) (cM (.int 2)))) (notT (tvM (callM allD (argC (lcM [2] (seqM (varM 1)) (putM 2) yesM (callM F_is_integer (argC (varM 2) argN))) argN))))))) (retS (noSt (cM (.str "form")))) nxM) (seqS (ifS (noSt (tvM (op2 ltD (op2 ixD (varM 1) (cM (.int 0))) (cM (.int 1))))) (retS (noSt (tupM (argC (cM (.str "place")) (argC (cM (.int 0)) argN))))) nxM) (retS (noSt (ifM (tvM (chainM ltD leD (op2 ixD (varM 1) (cM (.int 0))) (op2 ixD (varM 1) (cM (.int 1))) (varM 0))) (cM .none) (tupM (argC (cM (.str "place")) (argC (cM (.int 1)) argN)))))))
def F_front_error : List D → Option D := runF 3 m_front_error
theorem c_front_error {P : Program} {w : World} {K : Fg} {mg : Str → Option Value} {base : Heap} {T : List (Addr × Str)} {f : Addr} {fd : FuncData} {cd : Value} (hf : mg "front_error" = some (.ref f)) (Fn : Fun K "front_error" "front_error" st_front_error f fd) (g_all : mg "all" = none) (g_isinstance : mg "isinstance" = none) (g_len : mg "len" = none) (g_tuple : mg "tuple" = none) (C_is_integer : CallF P w K mg base "is_integer" st_is_integer ["value"] 1 false F_is_integer) : CallF P w K mg base "front_error" st_front_error ["n", "value"] 2 false F_front_error :=
  ⟨f, fd, hf, Fn, Fn.binds (ps := ["n", "value"]) (fun _ _ _ _ _ _ us hl => match us, hl with | [_, _], _ => rfl), fnF Fn sc_front_error fun cdv A outer s H E hr =>
    ss_cons (s_if (et_q (qw_t (qw_or (qt_not (qt_val (q_isi .tup rfl g_isinstance rfl g_tuple rfl (q_var 1)))) (qw_or (qt_cmp (opS_ne (hr.units)) (q_callB cs_len rfl g_len rfl (a_consI (q_var 1) a_nil)) q_int (by first | exact nobehind _ (by decide) (by decide) | rfl)) (qw_or1 (qt_not (qt_val (q_callB (cs_all rfl) rfl g_all rfl (a_consI ((q_lc (own := [("item", 2)]) rfl sc_front_error.nd (qi_seq (q_var 1)) (blkOk_by (N := N_front_error) (sc := defScope st_front_error) (by decide +kernel)) (fun _ _ _ _ _ => g_name 2 sc_front_error.nd) (fun _ _ _ _ _ => pts_yes) (fun _ _ _ _ _ => q_call C_is_integer hr rfl (a_consI (q_var 2) a_nil) (hl := (lenC lenN))))) a_nil))))))))) (ss_one (s_ret (e_q q_str))) ss_nil) (ss_cons (s_if (et_q (qt_cmp opS_lt (q_ix ixS (q_var 1) q_int) q_int (by first | exact nobehind _ (by decide) (by decide) | rfl))) (ss_one (s_ret (e_q (q_tup (a_consI q_str (a_consI q_int a_nil)))))) ss_nil) (ss_one (s_ret (e_q (q_if (qt_chain opS_lt opS_le (q_ix ixS (q_var 1) q_int) (q_ix ixS (q_var 1) q_int) (q_var 0)) q_non (q_tup (a_consI q_str (a_consI q_int a_nil))))))))⟩
/-! ### law_are_errors -/
abbrev st_law_are_errors : Stmt := top 46
abbrev N_law_are_errors : List Str := ["bag", "n", "turn", "value", "b", "c", "due"]
theorem sc_law_are_errors : FnScope N_law_are_errors ["bag", "n"] (defScope st_law_are_errors) := ⟨rfl, rfl, rfl, by decide +kernel, rfl, by decide +kernel, by decide +kernel⟩
def m_law_are_errors : S → Option Fl := seqS (forS (rng1E (argCE (noSt (cM (.int 6))) argNE)) (putM 2) (seqS (setS 3 (tupE (argCE (op2E subD (callB 0 F_law_draw (argCE (noSt (op2 addD (varM 1) (cM (.int 3)))) argNE)) (noSt (cM (.int 1)))) (argCE (op2E subD (callB 0 F_law_draw (argCE (noSt (op2 addD (varM 1) (cM (.int 3)))) argNE)) (noSt (cM (.int 1)))) argNE)))) (seqS (asgS (tgTup 2 (tgCons (putM 4) (tgCons (putM 5) tgNil))) (noSt (varM 3))) (seqS (setS 6 (noSt (ifM (tvM (op2 ltD (varM 4) (cM (.int 1)))) (tupM (argC (cM (.str "place")) (argC (cM (.int 0)) argN))) (ifM (orT (tvM (op2 leD (varM 5) (varM 4))) (tvM (op2 gtD (varM 5) (varM 1)))) (tupM (argC (cM (.str "place")) (argC (cM (.int 1)) argN))) (cM .none))))) (ifS (notE (tvE (isM (noSt (varM 6)) (callM F_front_error (argC (varM 1) (argC (varM 3) argN))) (callM (fun ds => F_front_error (perm [1, 0] ds)) (argC (varM 3) (argC (varM 1) argN)))))) (retS (noSt (cM (.bool false)))) nxM))))) (seqS (forS (seqE (noSt (tupM (argC (cM .none) (argC (tupM (argC (cM (.int 1)) argN)) (argC (lstM (argC (cM (.int 1)) (argC (cM (.int 2)) argN))) (argC (tupM (argC (cM (.int 1)) (argC (cM (.int 2)) (argC (cM (.int 3)) argN)))) (argC (tupM (argC (cM (.bool true)) (argC (cM (.int 2)) argN))) (argC (tupM (argC (cM (.int 1)) (argC (cM .none) argN))) argN))))))))) (putM 3) (ifS (notE (tvE (isM (noSt (cM (.str "form"))) (callM F_front_error (argC (varM 1) (argC (varM 3) argN))) (callM (fun ds => F_front_error (perm [1, 0] ds)) (argC (varM 3) (argC (varM 1) argN)))))) (retS (noSt (cM (.bool false)))) nxM)) (retS (noSt (cM (.bool true)))))
def F_law_are_errors : Bag → List D → Option (D × Bag) := runB 7 m_law_are_errors
theorem c_law_are_errors {P : Program} {w : World} {K : Fg} {mg : Str → Option Value} {base : Heap} {T : List (Addr × Str)} {f : Addr} {fd : FuncData} {cd : Value} (hf : mg "_law_are_errors" = some (.ref f)) (Fc : FunC K "_law_are_errors" st_law_are_errors f fd cd) (g_range : mg "range" = none) (C_law_draw : CallG P w K mg base "_law_draw" ["bag", "below"] 1 (spB K T 2 F_law_draw)) (C_front_error : CallF P w K mg base "front_error" st_front_error ["n", "value"] 2 false F_front_error) (C_is : IsC P w K mg base) (TO : TabOk base mg T cd ((("_law_are_errors" : Str) ++ ".<locals>.") ++ "<lambda>")) : CallG P w K mg base "_law_are_errors" ["bag", "n"] 6 (spB K T 2 F_law_are_errors) :=
  have Fn := Fc.fun
  ⟨f, fd, hf, Fc.kp, Fn.binds (ps := ["bag", "n"]) (fun _ _ _ _ _ _ us hl => match us, hl with | [_, _], _ => rfl), fnB (N := N_law_are_errors.tail) (ps := ["n"]) Fc sc_law_are_errors fun A outer s H E hr gd =>
    ss_cons (s_for rfl (ei_rng1 rfl g_range (ea_cons (e_q q_int) ea_nil)) (g_name 2 sc_law_are_errors.nd) (ss_cons (s_set 3 sc_law_are_errors.nd (e_tup (ea_cons (e_op opS_sub (e_bag 0 C_law_draw hr gd rfl (ea_cons (e_q (q_op opS_add (q_var 1) q_int)) ea_nil) (lenBE (lenCE lenNE))) (e_q q_int)) (ea_cons (e_op opS_sub (e_bag 0 C_law_draw hr gd rfl (ea_cons (e_q (q_op opS_add (q_var 1) q_int)) ea_nil) (lenBE (lenCE lenNE))) (e_q q_int)) ea_nil)))) (ss_cons (s_asg (e_q (q_var 3)) (g_tup rfl (gs_cons (g_name 4 sc_law_are_errors.nd) (gs_cons (g_name 5 sc_law_are_errors.nd) gs_nil)))) (ss_cons (s_set 6 sc_law_are_errors.nd (e_q (q_if (qt_cmp opS_lt (q_var 4) q_int (by first | exact nobehind _ (by decide) (by decide) | rfl)) (q_tup (a_consI q_str (a_consI q_int a_nil))) (q_if (qw_t (qw_or (qt_cmp opS_le (q_var 5) (q_var 4) (by first | exact nobehind _ (by decide) (by decide) | rfl)) (qw_or1 (qt_cmp opS_gt (q_var 5) (q_var 1) (by first | exact nobehind _ (by decide) (by decide) | rfl))))) (q_tup (a_consI q_str (a_consI q_int a_nil))) q_non)))) (ss_one (s_if (et_not (et_val (e_is (k := 2) C_is TO hr gd rfl (e_q (q_var 6)) (by exact ⟨⟨_, _, _, _, _, rfl, by decide, LamX.lamS_by (sc := defScope st_law_are_errors) (by decide +kernel), rfl, fun _ _ _ _ _ => rfl, fun A outer s H f c' hr gd => q_call C_front_error hr rfl (a_consI (q_var 1) (a_consI (q_var 3) a_nil)) (hl := (lenC (lenC lenN)))⟩⟩) (by exact ⟨⟨_, _, _, _, _, rfl, by decide, LamX.lamS_by (sc := defScope st_law_are_errors) (by decide +kernel), rfl, fun _ _ _ _ _ => rfl, fun A outer s H f c' hr gd => q_callK (ks := ["value", "n"]) (π := [1, 0]) C_front_error (fun _ _ _ _ _ _ ws hl => match ws, hl with | [_, _], _ => rfl) hr rfl (k_cons (q_var 3) (k_cons (q_var 1) k_nil)) (hl := (lenC (lenC lenN))) (hp := lenP (lenC (lenC lenN)) (fun ds h => match ds, h with | [_, _], _ => rfl))⟩⟩)))) (ss_one (s_ret (e_q q_bl))) ss_nil)))))) (ss_cons (s_for rfl (ei_seq (e_q (q_tup (a_consI q_non (a_consI (q_tup (a_consI q_int a_nil)) (a_consI (q_lst (a_consI q_int (a_consI q_int a_nil))) (a_consI (q_tup (a_consI q_int (a_consI q_int (a_consI q_int a_nil)))) (a_consI (q_tup (a_consI q_bl (a_consI q_int a_nil))) (a_consI (q_tup (a_consI q_int (a_consI q_non a_nil))) a_nil))))))))) (g_name 3 sc_law_are_errors.nd) (ss_one (s_if (et_not (et_val (e_is (k := 2) C_is TO hr gd rfl (e_q q_str) (by exact ⟨⟨_, _, _, _, _, rfl, by decide, LamX.lamS_by (sc := defScope st_law_are_errors) (by decide +kernel), rfl, fun _ _ _ _ _ => rfl, fun A outer s H f c' hr gd => q_call C_front_error hr rfl (a_consI (q_var 1) (a_consI (q_var 3) a_nil)) (hl := (lenC (lenC lenN)))⟩⟩) (by exact ⟨⟨_, _, _, _, _, rfl, by decide, LamX.lamS_by (sc := defScope st_law_are_errors) (by decide +kernel), rfl, fun _ _ _ _ _ => rfl, fun A outer s H f c' hr gd => q_callK (ks := ["value", "n"]) (π := [1, 0]) C_front_error (fun _ _ _ _ _ _ ws hl => match ws, hl with | [_, _], _ => rfl) hr rfl (k_cons (q_var 3) (k_cons (q_var 1) k_nil)) (hl := (lenC (lenC lenN))) (hp := lenP (lenC (lenC lenN)) (fun ds h => match ds, h with | [_, _], _ => rfl))⟩⟩)))) (ss_one (s_ret (e_q q_bl))) ss_nil))) (ss_one (s_ret (e_q q_bl))))⟩
/-! ### law_fronted -/
abbrev st_law_fronted : Stmt := top 39
abbrev N_law_fronted : List Str := ["row", "front", "b", "c"]
theorem sc_law_fronted : FnScope N_law_fronted ["row", "front"] (defScope st_law_fronted) := ⟨rfl, rfl, rfl, by decide +kernel, rfl, by decide +kernel, by decide +kernel⟩
def m_law_fronted : S → Option Fl := seqS (asgS (tgTup 2 (tgCons (putM 2) (tgCons (putM 3) tgNil))) (noSt (varM 1))) (retS (noSt (op2 addD (op2 addD (slM slD (varM 0) (psM (varM 2)) (psM (varM 3))) (slM slD (varM 0) pnM (psM (varM 2)))) (slM slD (varM 0) (psM (varM 3)) pnM))))
def F_law_fronted : List D → Option D := runF 4 m_law_fronted
theorem c_law_fronted {P : Program} {w : World} {K : Fg} {mg : Str → Option Value} {base : Heap} {T : List (Addr × Str)} {f : Addr} {fd : FuncData} {cd : Value} (hf : mg "_law_fronted" = some (.ref f)) (Fn : Fun K "_law_fronted" "_law_fronted" st_law_fronted f fd) : CallF P w K mg base "_law_fronted" st_law_fronted ["row", "front"] 1 false F_law_fronted :=
  ⟨f, fd, hf, Fn, Fn.binds (ps := ["row", "front"]) (fun _ _ _ _ _ _ us hl => match us, hl with | [_, _], _ => rfl), fnF Fn sc_law_fronted fun cdv A outer s H E hr =>
    ss_cons (s_asg (e_q (q_var 1)) (g_tup rfl (gs_cons (g_name 2 sc_law_fronted.nd) (gs_cons (g_name 3 sc_law_fronted.nd) gs_nil)))) (ss_one (s_ret (e_q (q_op opS_add (q_op opS_add (q_slice slS (q_var 0) (o_some (q_var 2)) (o_some (q_var 3))) (q_slice slS (q_var 0) o_none (o_some (q_var 2)))) (q_slice slS (q_var 0) (o_some (q_var 3)) o_none)))))⟩
/-! ### law_fronts -/
abbrev st_law_fronts : Stmt := top 42
abbrev N_law_fronts : List Str := ["n", "found", "b", "c"]
theorem sc_law_fronts : FnScope N_law_fronts ["n"] (defScope st_law_fronts) := ⟨rfl, rfl, rfl, by decide +kernel, rfl, by decide +kernel, by decide +kernel⟩
def m_law_fronts : S → Option Fl := seqS (setO 1 (ownM (lstM argN))) (seqS (forS (rng2E (argCE (noSt (cM (.int 1))) (argCE (noSt (varM 0)) argNE))) (putM 2) (extS 1 (noSt (lcM [3] (rng2M (argC (op2 addD (varM 2) (cM (.int 1))) (argC (op2 addD (varM 0) (cM (.int 1))) argN))) (putM 3) yesM (tupM (argC (varM 2) (argC (varM 3) argN))))))) (retS (noSt (callM tupleD (argC (varR 1) argN)))))
def F_law_fronts : List D → Option D := runF 4 m_law_fronts
theorem c_law_fronts {P : Program} {w : World} {K : Fg} {mg : Str → Option Value} {base : Heap} {T : List (Addr × Str)} {f : Addr} {fd : FuncData} {cd : Value} (hf : mg "_law_fronts" = some (.ref f)) (Fn : Fun K "_law_fronts" "_law_fronts" st_law_fronts f fd) (g_range : mg "range" = none) (g_tuple : mg "tuple" = none) : CallF P w K mg base "_law_fronts" st_law_fronts ["n"] 1 false F_law_fronts :=
  ⟨f, fd, hf, Fn, Fn.binds (ps := ["n"]) (fun _ _ _ _ _ _ us hl => match us, hl with | [_], _ => rfl), fnF Fn sc_law_fronts fun cdv A outer s H E hr =>
    ss_cons (s_setO 1 sc_law_fronts.nd (eo_q (q_lst a_nil))) (ss_cons (s_for rfl (ei_rng2 rfl g_range (ea_cons (e_q q_int) (ea_cons (e_q (q_var 0)) ea_nil))) (g_name 2 sc_law_fronts.nd) (ss_one (s_extend 1 (e_q ((q_lc (own := [("c", 3)]) rfl sc_law_fronts.nd (qi_rng2 rfl g_range (a_consI (q_op opS_add (q_var 2) q_int) (a_consI (q_op opS_add (q_var 0) q_int) a_nil))) (blkOk_by (N := N_law_fronts) (sc := defScope st_law_fronts) (by decide +kernel)) (fun _ _ _ _ _ => g_name 3 sc_law_fronts.nd) (fun _ _ _ _ _ => pts_yes) (fun _ _ _ _ _ => q_tup (a_consI (q_var 2) (a_consI (q_var 3) a_nil))))))))) (ss_one (s_ret (e_q (q_callTy cs_tuple rfl g_tuple rfl (a_consR (q_varR 1) a_nil))))))⟩
/-! ### law_leads -/
abbrev st_law_leads : Stmt := top 36
abbrev N_law_leads : List Str := ["row", "whole", "i"]
theorem sc_law_leads : FnScope N_law_leads ["row"] (defScope st_law_leads) := ⟨rfl, rfl, rfl, by decide +kernel, rfl, by decide +kernel, by decide +kernel⟩
def m_law_leads : S → Option Fl := seqS (setS 1 (noSt (op2 addD (op2 addD (tupM (argC (cM (.int 0)) argN)) (varM 0)) (tupM (argC (op2 addD (callM lenD (argC (varM 0) argN)) (cM (.int 1))) argN))))) (retS (noSt (callM tupleD (argC (lcM [2] (rng1M (argC (op2 addD (callM lenD (argC (varM 0) argN)) (cM (.int 1))) argN)) (putM 2) yesM (op2 subD (methM (isSeq true) idxA (varM 1) (argC (op2 addD (op2 ixD (varM 1) (varM 2)) (cM (.int 1))) argN)) (cM (.int 1)))) argN))))
def F_law_leads : List D → Option D := runF 3 m_law_leads
theorem c_law_leads {P : Program} {w : World} {K : Fg} {mg : Str → Option Value} {base : Heap} {T : List (Addr × Str)} {f : Addr} {fd : FuncData} {cd : Value} (hf : mg "_law_leads" = some (.ref f)) (Fn : Fun K "_law_leads" "_law_leads" st_law_leads f fd) (g_len : mg "len" = none) (g_range : mg "range" = none) (g_tuple : mg "tuple" = none) : CallF P w K mg base "_law_leads" st_law_leads ["row"] 1 false F_law_leads :=
  ⟨f, fd, hf, Fn, Fn.binds (ps := ["row"]) (fun _ _ _ _ _ _ us hl => match us, hl with | [_], _ => rfl), fnF Fn sc_law_leads fun cdv A outer s H E hr =>
    ss_cons (s_set 1 sc_law_leads.nd (e_q (q_op opS_add (q_op opS_add (q_tup (a_consI q_int a_nil)) (q_var 0)) (q_tup (a_consI (q_op opS_add (q_callB cs_len rfl g_len rfl (a_consI (q_var 0) a_nil)) q_int) a_nil))))) (ss_one (s_ret (e_q (q_callTy cs_tuple rfl g_tuple rfl (a_consI ((q_lc (own := [("i", 2)]) rfl sc_law_leads.nd (qi_rng1 rfl g_range (a_consI (q_op opS_add (q_callB cs_len rfl g_len rfl (a_consI (q_var 0) a_nil)) q_int) a_nil)) (blkOk_by (N := N_law_leads) (sc := defScope st_law_leads) (by decide +kernel)) (fun _ _ _ _ _ => g_name 2 sc_law_leads.nd) (fun _ _ _ _ _ => pts_yes) (fun _ _ _ _ _ => q_op opS_sub (q_indexA rfl (units65 hr) (q_var 1) (a_consI (q_op opS_add (q_ix ixS (q_var 1) (q_var 2)) q_int) a_nil)) q_int))) a_nil)))))⟩
/-! ### law_open -/
abbrev st_law_open : Stmt := top 41
abbrev N_law_open : List Str := ["row", "i", "x"]
theorem sc_law_open : FnScope N_law_open ["row"] (defScope st_law_open) := ⟨rfl, rfl, rfl, by decide +kernel, rfl, by decide +kernel, by decide +kernel⟩
def m_law_open : S → Option Fl := retS (noSt (callM tupleD (argC (lcM [1, 2] (enumTM (callM F_law_leads (argC (varM 0) argN))) (tgTup 2 (tgCons (putM 1) (tgCons (putM 2) tgNil))) (tvM (op2 neD (varM 2) (varM 1))) (varM 1)) argN)))
def F_law_open : List D → Option D := runF 3 m_law_open
theorem c_law_open {P : Program} {w : World} {K : Fg} {mg : Str → Option Value} {base : Heap} {T : List (Addr × Str)} {f : Addr} {fd : FuncData} {cd : Value} (hf : mg "_law_open" = some (.ref f)) (Fn : Fun K "_law_open" "_law_open" st_law_open f fd) (g_enumerate : mg "enumerate" = none) (g_tuple : mg "tuple" = none) (C_law_leads : CallF P w K mg base "_law_leads" st_law_leads ["row"] 1 false F_law_leads) : CallF P w K mg base "_law_open" st_law_open ["row"] 2 false F_law_open :=
  ⟨f, fd, hf, Fn, Fn.binds (ps := ["row"]) (fun _ _ _ _ _ _ us hl => match us, hl with | [_], _ => rfl), fnF Fn sc_law_open fun cdv A outer s H E hr =>
    ss_one (s_ret (e_q (q_callTy cs_tuple rfl g_tuple rfl (a_consI ((q_lc (own := [("i", 1), ("x", 2)]) rfl sc_law_open.nd (qi_enumT rfl g_enumerate (q_call C_law_leads hr rfl (a_consI (q_var 0) a_nil) (hl := (lenC lenN)))) (blkOk_by (N := N_law_open) (sc := defScope st_law_open) (by decide +kernel)) (fun _ _ _ _ _ => g_tup rfl (gs_cons (g_name 1 sc_law_open.nd) (gs_cons (g_name 2 sc_law_open.nd) gs_nil))) (fun _ _ _ _ _ => pts_q (qt_cmp (opS_ne (hr.units)) (q_var 2) (q_var 1) (by first | exact nobehind _ (by decide) (by decide) | rfl))) (fun _ _ _ _ _ => q_var 1))) a_nil))))⟩
/-! ### law_pick -/
abbrev st_law_pick : Stmt := top 30
abbrev N_law_pick : List Str := ["bag", "some"]
theorem sc_law_pick : FnScope N_law_pick ["bag", "some"] (defScope st_law_pick) := ⟨rfl, rfl, rfl, by decide +kernel, rfl, by decide +kernel, by decide +kernel⟩
def m_law_pick : S → Option Fl := retS (op2E ixD (noSt (varM 1)) (callB 0 F_law_draw (argCE (noSt (callM lenD (argC (varM 1) argN))) argNE)))
def F_law_pick : Bag → List D → Option (D × Bag) := runB 2 m_law_pick
theorem c_law_pick {P : Program} {w : World} {K : Fg} {mg : Str → Option Value} {base : Heap} {T : List (Addr × Str)} {f : Addr} {fd : FuncData} {cd : Value} (hf : mg "_law_pick" = some (.ref f)) (Fc : FunC K "_law_pick" st_law_pick f fd cd) (g_len : mg "len" = none) (C_law_draw : CallG P w K mg base "_law_draw" ["bag", "below"] 1 (spB K T 2 F_law_draw)) : CallG P w K mg base "_law_pick" ["bag", "some"] 2 (spB K T 2 F_law_pick) :=
  have Fn := Fc.fun
  ⟨f, fd, hf, Fc.kp, Fn.binds (ps := ["bag", "some"]) (fun _ _ _ _ _ _ us hl => match us, hl with | [_, _], _ => rfl), fnB (N := N_law_pick.tail) (ps := ["some"]) Fc sc_law_pick fun A outer s H E hr gd =>
    ss_one (s_ret (e_ix ixS (e_q (q_var 1)) (e_bag 0 C_law_draw hr gd rfl (ea_cons (e_q (q_callB cs_len rfl g_len rfl (a_consI (q_var 1) a_nil))) ea_nil) (lenBE (lenCE lenNE)))))⟩
/-! ### law_rounds -/
abbrev st_law_rounds : Stmt := top 37
abbrev N_law_rounds : List Str := ["leads", "found", "used", "begin", "line", "now", "turn"]
theorem sc_law_rounds : FnScope N_law_rounds ["leads"] (defScope st_law_rounds) := ⟨rfl, rfl, rfl, by decide +kernel, rfl, by decide +kernel, by decide +kernel⟩
def m_law_rounds : S → Option Fl := seqS (parG (apO (ownM (lstM argN)) (apP (cM (.dict [])) apN)) (gpC (putPV 1) (gpC (putPV 2) gpN))) (seqS (forS (rng1E (argCE (noSt (callM lenD (argC (varM 0) argN))) argNE)) (putM 3) (ifS (noSt (tvM (op2 (dinD true) (varM 3) (varR 2)))) (seqS (parG (apO (ownM (lstM argN)) (apI (noSt (varM 3)) apN)) (gpC (putPV 4) (gpC (putPV 5) gpN))) (seqS (forS (rng1E (argCE (noSt (callM lenD (argC (varM 0) argN))) argNE)) (putM 6) (seqS (appS 4 (noSt (varM 5))) (seqS (dputS 2 (varM 5) (noSt (cM (.bool true)))) (seqS (setS 5 (noSt (op2 ixD (varM 0) (varM 5)))) (ifS (noSt (tvM (op2 eqD (varM 5) (varM 3)))) bkM nxM))))) (appS 1 (noSt (callM tupleD (argC (varR 4) argN)))))) nxM)) (retS (noSt (callM tupleD (argC (varR 1) argN)))))
def F_law_rounds : List D → Option D := runF 7 m_law_rounds
theorem c_law_rounds {P : Program} {w : World} {K : Fg} {mg : Str → Option Value} {base : Heap} {T : List (Addr × Str)} {f : Addr} {fd : FuncData} {cd : Value} (hf : mg "_law_rounds" = some (.ref f)) (Fn : Fun K "_law_rounds" "_law_rounds" st_law_rounds f fd) (g_len : mg "len" = none) (g_range : mg "range" = none) (g_tuple : mg "tuple" = none) : CallF P w K mg base "_law_rounds" st_law_rounds ["leads"] 1 false F_law_rounds :=
  ⟨f, fd, hf, Fn, Fn.binds (ps := ["leads"]) (fun _ _ _ _ _ _ us hl => match us, hl with | [_], _ => rfl), fnF Fn sc_law_rounds fun cdv A outer s H E hr =>
    ss_cons (s_par2 1 2 rfl sc_law_rounds.nd (ap_o (eo_q (q_lst a_nil)) (ap_p q_dnewK ap_nil))) (ss_cons (s_for rfl (ei_rng1 rfl g_range (ea_cons (e_q (q_callB cs_len rfl g_len rfl (a_consI (q_var 0) a_nil))) ea_nil)) (g_name 3 sc_law_rounds.nd) (ss_one (s_if (et_q (qt_dnotin (units1 hr) (q_var 3) (q_varR 2))) (ss_cons (s_par2 4 5 rfl sc_law_rounds.nd (ap_o (eo_q (q_lst a_nil)) (ap_i (e_q (q_var 3)) ap_nil))) (ss_cons (s_for rfl (ei_rng1 rfl g_range (ea_cons (e_q (q_callB cs_len rfl g_len rfl (a_consI (q_var 0) a_nil))) ea_nil)) (g_name 6 sc_law_rounds.nd) (ss_cons (s_append 4 (e_q (q_var 5))) (ss_cons (s_dput (units1 hr) 2 (e_q q_bl) (q_var 5)) (ss_cons (s_set 5 sc_law_rounds.nd (e_q (q_ix ixS (q_var 0) (q_var 5)))) (ss_one (s_if (et_q (qt_cmp (opS_eq (hr.units)) (q_var 5) (q_var 3) (by first | exact nobehind _ (by decide) (by decide) | rfl))) (ss_one s_break) ss_nil)))))) (ss_one (s_append 1 (e_q (q_callTy cs_tuple rfl g_tuple rfl (a_consR (q_varR 4) a_nil))))))) ss_nil))) (ss_one (s_ret (e_q (q_callTy cs_tuple rfl g_tuple rfl (a_consR (q_varR 1) a_nil))))))⟩
/-! ### all_fronts -/
abbrev st_all_fronts : Stmt := top 17
abbrev N_all_fronts : List Str := ["n", "found", "b", "c"]
theorem sc_all_fronts : FnScope N_all_fronts ["n"] (defScope st_all_fronts) := ⟨rfl, rfl, rfl, by decide +kernel, rfl, by decide +kernel, by decide +kernel⟩
def m_all_fronts : S → Option Fl := seqS (setO 1 (ownM (lstM argN))) (seqS (forS (rng2E (argCE (noSt (cM (.int 1))) (argCE (noSt (varM 0)) argNE))) (putM 2) (extS 1 (noSt (lcM [3] (rng2M (argC (op2 addD (varM 2) (cM (.int 1))) (argC (op2 addD (varM 0) (cM (.int 1))) argN))) (putM 3) yesM (tupM (argC (varM 2) (argC (varM 3) argN))))))) (retS (noSt (callM tupleD (argC (varR 1) argN)))))
def F_all_fronts : List D → Option D := runF 4 m_all_fronts
theorem c_all_fronts {P : Program} {w : World} {K : Fg} {mg : Str → Option Value} {base : Heap} {T : List (Addr × Str)} {f : Addr} {fd : FuncData} {cd : Value} (hf : mg "all_fronts" = some (.ref f)) (Fn : Fun K "all_fronts" "all_fronts" st_all_fronts f fd) (g_range : mg "range" = none) (g_tuple : mg "tuple" = none) : CallF P w K mg base "all_fronts" st_all_fronts ["n"] 1 false F_all_fronts :=
  ⟨f, fd, hf, Fn, Fn.binds (ps := ["n"]) (fun _ _ _ _ _ _ us hl => match us, hl with | [_], _ => rfl), fnF Fn sc_all_fronts fun cdv A outer s H E hr =>
    ss_cons (s_setO 1 sc_all_fronts.nd (eo_q (q_lst a_nil))) (ss_cons (s_for rfl (ei_rng2 rfl g_range (ea_cons (e_q q_int) (ea_cons (e_q (q_var 0)) ea_nil))) (g_name 2 sc_all_fronts.nd) (ss_one (s_extend 1 (e_q ((q_lc (own := [("c", 3)]) rfl sc_all_fronts.nd (qi_rng2 rfl g_range (a_consI (q_op opS_add (q_var 2) q_int) (a_consI (q_op opS_add (q_var 0) q_int) a_nil))) (blkOk_by (N := N_all_fronts) (sc := defScope st_all_fronts) (by decide +kernel)) (fun _ _ _ _ _ => g_name 3 sc_all_fronts.nd) (fun _ _ _ _ _ => pts_yes) (fun _ _ _ _ _ => q_tup (a_consI (q_var 2) (a_consI (q_var 3) a_nil))))))))) (ss_one (s_ret (e_q (q_callTy cs_tuple rfl g_tuple rfl (a_consR (q_varR 1) a_nil))))))⟩
/-! ### gap_leads -/
abbrev st_gap_leads : Stmt := top 11
abbrev N_gap_leads : List Str := ["row", "places", "place", "item"]
theorem sc_gap_leads : FnScope N_gap_leads ["row"] (defScope st_gap_leads) := ⟨rfl, rfl, rfl, by decide +kernel, rfl, by decide +kernel, by decide +kernel⟩
def m_gap_leads : S → Option Fl := seqS (setS 1 (noSt (dcM [2, 3] (enumTM (op2 addD (op2 addD (tupM (argC (cM (.int 0)) argN)) (varM 0)) (tupM (argC (op2 addD (callM lenD (argC (varM 0) argN)) (cM (.int 1))) argN)))) (tgTup 2 (tgCons (putM 2) (tgCons (putM 3) tgNil))) yesM (varM 3) (varM 2)))) (retS (noSt (callM tupleD (argC (lcM [3] (seqM (op2 addD (tupM (argC (cM (.int 0)) argN)) (varM 0))) (putM 3) yesM (op2 subD (op2 dgetD (varM 1) (op2 addD (varM 3) (cM (.int 1)))) (cM (.int 1)))) argN))))
def F_gap_leads : List D → Option D := runF 4 m_gap_leads
theorem c_gap_leads {P : Program} {w : World} {K : Fg} {mg : Str → Option Value} {base : Heap} {T : List (Addr × Str)} {f : Addr} {fd : FuncData} {cd : Value} (hf : mg "gap_leads" = some (.ref f)) (Fn : Fun K "gap_leads" "gap_leads" st_gap_leads f fd) (g_enumerate : mg "enumerate" = none) (g_len : mg "len" = none) (g_tuple : mg "tuple" = none) : CallF P w K mg base "gap_leads" st_gap_leads ["row"] 1 false F_gap_leads :=
  ⟨f, fd, hf, Fn, Fn.binds (ps := ["row"]) (fun _ _ _ _ _ _ us hl => match us, hl with | [_], _ => rfl), fnF Fn sc_gap_leads fun cdv A outer s H E hr =>
    ss_cons (s_set 1 sc_gap_leads.nd (e_q ((q_dc (own := [("place", 2), ("item", 3)]) rfl sc_gap_leads.nd (qi_enumT rfl g_enumerate (q_op opS_add (q_op opS_add (q_tup (a_consI q_int a_nil)) (q_var 0)) (q_tup (a_consI (q_op opS_add (q_callB cs_len rfl g_len rfl (a_consI (q_var 0) a_nil)) q_int) a_nil)))) (blkOk_by (N := N_gap_leads) (sc := defScope st_gap_leads) (by decide +kernel)) (fun _ _ _ _ _ => g_tup rfl (gs_cons (g_name 2 sc_gap_leads.nd) (gs_cons (g_name 3 sc_gap_leads.nd) gs_nil))) (fun _ _ _ _ _ => pts_yes) (fun _ _ _ _ _ => q_var 3) (fun _ _ _ _ _ => q_var 2))))) (ss_one (s_ret (e_q (q_callTy cs_tuple rfl g_tuple rfl (a_consI ((q_lc (own := [("item", 3)]) rfl sc_gap_leads.nd (qi_seq (q_op opS_add (q_tup (a_consI q_int a_nil)) (q_var 0))) (blkOk_by (N := N_gap_leads) (sc := defScope st_gap_leads) (by decide +kernel)) (fun _ _ _ _ _ => g_name 3 sc_gap_leads.nd) (fun _ _ _ _ _ => pts_yes) (fun _ _ _ _ _ => q_op opS_sub (q_dget (units1 hr) (q_var 1) (q_op opS_add (q_var 3) q_int)) q_int))) a_nil)))))⟩
/-! ### front_gaps -/
abbrev st_front_gaps : Stmt := top 19
abbrev N_front_gaps : List Str := ["row", "gap", "lead"]
theorem sc_front_gaps : FnScope N_front_gaps ["row"] (defScope st_front_gaps) := ⟨rfl, rfl, rfl, by decide +kernel, rfl, by decide +kernel, by decide +kernel⟩
def m_front_gaps : S → Option Fl := retS (noSt (callM tupleD (argC (lcM [1, 2] (enumTM (callM F_gap_leads (argC (varM 0) argN))) (tgTup 2 (tgCons (putM 1) (tgCons (putM 2) tgNil))) (andT (tvM (op2 gtD (varM 1) (cM (.int 0)))) (tvM (op2 neD (varM 2) (varM 1)))) (varM 1)) argN)))
def F_front_gaps : List D → Option D := runF 3 m_front_gaps
theorem c_front_gaps {P : Program} {w : World} {K : Fg} {mg : Str → Option Value} {base : Heap} {T : List (Addr × Str)} {f : Addr} {fd : FuncData} {cd : Value} (hf : mg "front_gaps" = some (.ref f)) (Fn : Fun K "front_gaps" "front_gaps" st_front_gaps f fd) (g_enumerate : mg "enumerate" = none) (g_tuple : mg "tuple" = none) (C_gap_leads : CallF P w K mg base "gap_leads" st_gap_leads ["row"] 1 false F_gap_leads) : CallF P w K mg base "front_gaps" st_front_gaps ["row"] 2 false F_front_gaps :=
  ⟨f, fd, hf, Fn, Fn.binds (ps := ["row"]) (fun _ _ _ _ _ _ us hl => match us, hl with | [_], _ => rfl), fnF Fn sc_front_gaps fun cdv A outer s H E hr =>
    ss_one (s_ret (e_q (q_callTy cs_tuple rfl g_tuple rfl (a_consI ((q_lc (own := [("gap", 1), ("lead", 2)]) rfl sc_front_gaps.nd (qi_enumT rfl g_enumerate (q_call C_gap_leads hr rfl (a_consI (q_var 0) a_nil) (hl := (lenC lenN)))) (blkOk_by (N := N_front_gaps) (sc := defScope st_front_gaps) (by decide +kernel)) (fun _ _ _ _ _ => g_tup rfl (gs_cons (g_name 1 sc_front_gaps.nd) (gs_cons (g_name 2 sc_front_gaps.nd) gs_nil))) (fun _ _ _ _ _ => pts_q (qw_t (qw_and (qt_cmp opS_gt (q_var 1) q_int (by first | exact nobehind _ (by decide) (by decide) | rfl)) (qw_and1 (qt_cmp (opS_ne (hr.units)) (q_var 2) (q_var 1) (by first | exact nobehind _ (by decide) (by decide) | rfl)))))) (fun _ _ _ _ _ => q_var 1))) a_nil))))⟩
/-! ### front_moved -/
abbrev st_front_moved : Stmt := top 16
abbrev N_front_moved : List Str := ["row", "front", "b", "c"]
theorem sc_front_moved : FnScope N_front_moved ["row", "front"] (defScope st_front_moved) := ⟨rfl, rfl, rfl, by decide +kernel, rfl, by decide +kernel, by decide +kernel⟩
def m_front_moved : S → Option Fl := seqS (asgS (tgTup 2 (tgCons (putM 2) (tgCons (putM 3) tgNil))) (noSt (varM 1))) (retS (noSt (op2 addD (op2 addD (slM slD (varM 0) (psM (varM 2)) (psM (varM 3))) (slM slD (varM 0) pnM (psM (varM 2)))) (slM slD (varM 0) (psM (varM 3)) pnM))))
def F_front_moved : List D → Option D := runF 4 m_front_moved
theorem c_front_moved {P : Program} {w : World} {K : Fg} {mg : Str → Option Value} {base : Heap} {T : List (Addr × Str)} {f : Addr} {fd : FuncData} {cd : Value} (hf : mg "front_moved" = some (.ref f)) (Fn : Fun K "front_moved" "front_moved" st_front_moved f fd) : CallF P w K mg base "front_moved" st_front_moved ["row", "front"] 1 false F_front_moved :=
  ⟨f, fd, hf, Fn, Fn.binds (ps := ["row", "front"]) (fun _ _ _ _ _ _ us hl => match us, hl with | [_, _], _ => rfl), fnF Fn sc_front_moved fun cdv A outer s H E hr =>
    ss_cons (s_asg (e_q (q_var 1)) (g_tup rfl (gs_cons (g_name 2 sc_front_moved.nd) (gs_cons (g_name 3 sc_front_moved.nd) gs_nil)))) (ss_one (s_ret (e_q (q_op opS_add (q_op opS_add (q_slice slS (q_var 0) (o_some (q_var 2)) (o_some (q_var 3))) (q_slice slS (q_var 0) o_none (o_some (q_var 2)))) (q_slice slS (q_var 0) (o_some (q_var 3)) o_none)))))⟩
/-! ### closed_in_front -/
abbrev st_closed_in_front : Stmt := top 21
abbrev N_closed_in_front : List Str := ["row", "front"]
theorem sc_closed_in_front : FnScope N_closed_in_front ["row", "front"] (defScope st_closed_in_front) := ⟨rfl, rfl, rfl, by decide +kernel, rfl, by decide +kernel, by decide +kernel⟩
def m_closed_in_front : S → Option Fl := retS (noSt (op2 subD (callM lenD (argC (callM F_front_gaps (argC (varM 0) argN)) argN)) (callM lenD (argC (callM F_front_gaps (argC (callM F_front_moved (argC (varM 0) (argC (varM 1) argN))) argN)) argN))))
def F_closed_in_front : List D → Option D := runF 2 m_closed_in_front
theorem c_closed_in_front {P : Program} {w : World} {K : Fg} {mg : Str → Option Value} {base : Heap} {T : List (Addr × Str)} {f : Addr} {fd : FuncData} {cd : Value} (hf : mg "closed_in_front" = some (.ref f)) (Fn : Fun K "closed_in_front" "closed_in_front" st_closed_in_front f fd) (g_len : mg "len" = none) (C_front_gaps : CallF P w K mg base "front_gaps" st_front_gaps ["row"] 2 false F_front_gaps) (C_front_moved : CallF P w K mg base "front_moved" st_front_moved ["row", "front"] 1 false F_front_moved) : CallF P w K mg base "closed_in_front" st_closed_in_front ["row", "front"] 3 false F_closed_in_front :=
  ⟨f, fd, hf, Fn, Fn.binds (ps := ["row", "front"]) (fun _ _ _ _ _ _ us hl => match us, hl with | [_, _], _ => rfl), fnF Fn sc_closed_in_front fun cdv A outer s H E hr =>
    ss_one (s_ret (e_q (q_op opS_sub (q_callB cs_len rfl g_len rfl (a_consI (q_call C_front_gaps hr rfl (a_consI (q_var 0) a_nil) (hl := (lenC lenN))) a_nil)) (q_callB cs_len rfl g_len rfl (a_consI (q_call C_front_gaps hr rfl (a_consI (q_call C_front_moved hr rfl (a_consI (q_var 0) (a_consI (q_var 1) a_nil)) (hl := (lenC (lenC lenN)))) a_nil) (hl := (lenC lenN))) a_nil)))))⟩
/-! ### front_back -/
abbrev st_front_back : Stmt := top 18
abbrev N_front_back : List Str := ["front"]
theorem sc_front_back : FnScope N_front_back ["front"] (defScope st_front_back) := ⟨rfl, rfl, rfl, by decide +kernel, rfl, by decide +kernel, by decide +kernel⟩
def m_front_back : S → Option Fl := retS (noSt (tupM (argC (op2 subD (op2 ixD (varM 0) (cM (.int 1))) (op2 ixD (varM 0) (cM (.int 0)))) (argC (op2 ixD (varM 0) (cM (.int 1))) argN))))
def F_front_back : List D → Option D := runF 1 m_front_back
theorem c_front_back {P : Program} {w : World} {K : Fg} {mg : Str → Option Value} {base : Heap} {T : List (Addr × Str)} {f : Addr} {fd : FuncData} {cd : Value} (hf : mg "front_back" = some (.ref f)) (Fn : Fun K "front_back" "front_back" st_front_back f fd) : CallF P w K mg base "front_back" st_front_back ["front"] 1 false F_front_back :=
  ⟨f, fd, hf, Fn, Fn.binds (ps := ["front"]) (fun _ _ _ _ _ _ us hl => match us, hl with | [_], _ => rfl), fnF Fn sc_front_back fun cdv A outer s H E hr =>
    ss_one (s_ret (e_q (q_tup (a_consI (q_op opS_sub (q_ix ixS (q_var 0) q_int) (q_ix ixS (q_var 0) q_int)) (a_consI (q_ix ixS (q_var 0) q_int) a_nil)))))⟩
/-! ### rounds -/
abbrev st_rounds : Stmt := top 9
abbrev N_rounds : List Str := ["order", "found", "known", "thing", "way"]
theorem sc_rounds : FnScope N_rounds ["order"] (defScope st_rounds) := ⟨rfl, rfl, rfl, by decide +kernel, rfl, by decide +kernel, by decide +kernel⟩
def m_rounds : S → Option Fl := seqS (parG (apO (ownM (lstM argN)) (apP (cM (.dict [])) apN)) (gpC (putPV 1) (gpC (putPV 2) gpN))) (seqS (forS (rng1E (argCE (noSt (callM lenD (argC (varM 0) argN))) argNE)) (putM 3) (seqS (setO 4 (ownM (lstM argN))) (seqS (whGo (noSt (tvM (op2 (dinD true) (varM 3) (varR 2)))) (seqS (dputS 2 (varM 3) (noSt (cM (.bool true)))) (seqS (appS 4 (noSt (varM 3))) (setS 3 (noSt (op2 ixD (varM 0) (varM 3)))))) 1000) (ifS (noSt (tvM (op2 neD (varR 4) (lstM argN)))) (appS 1 (noSt (callM tupleD (argC (varR 4) argN)))) nxM)))) (retS (noSt (callM tupleD (argC (varR 1) argN)))))
def F_rounds : List D → Option D := runF 5 m_rounds
theorem c_rounds {P : Program} {w : World} {K : Fg} {mg : Str → Option Value} {base : Heap} {T : List (Addr × Str)} {f : Addr} {fd : FuncData} {cd : Value} (hf : mg "rounds" = some (.ref f)) (Fn : Fun K "rounds" "rounds" st_rounds f fd) (g_len : mg "len" = none) (g_range : mg "range" = none) (g_tuple : mg "tuple" = none) : CallF P w K mg base "rounds" st_rounds ["order"] 1 false F_rounds :=
  ⟨f, fd, hf, Fn, Fn.binds (ps := ["order"]) (fun _ _ _ _ _ _ us hl => match us, hl with | [_], _ => rfl), fnF Fn sc_rounds fun cdv A outer s H E hr =>
    ss_cons (s_par2 1 2 rfl sc_rounds.nd (ap_o (eo_q (q_lst a_nil)) (ap_p q_dnewK ap_nil))) (ss_cons (s_for rfl (ei_rng1 rfl g_range (ea_cons (e_q (q_callB cs_len rfl g_len rfl (a_consI (q_var 0) a_nil))) ea_nil)) (g_name 3 sc_rounds.nd) (ss_cons (s_setO 4 sc_rounds.nd (eo_q (q_lst a_nil))) (ss_cons (s_while 1000 (et_q (qt_dnotin (units1 hr) (q_var 3) (q_varR 2))) (ss_cons (s_dput (units1 hr) 2 (e_q q_bl) (q_var 3)) (ss_cons (s_append 4 (e_q (q_var 3))) (ss_one (s_set 3 sc_rounds.nd (e_q (q_ix ixS (q_var 0) (q_var 3)))))))) (ss_one (s_if (et_q (qt_cmp (opS_ne (hr.units)) (q_varR 4) (q_lst a_nil) (by first | exact nobehind _ (by decide) (by decide) | rfl))) (ss_one (s_append 1 (e_q (q_callTy cs_tuple rfl g_tuple rfl (a_consR (q_varR 4) a_nil))))) ss_nil))))) (ss_one (s_ret (e_q (q_callTy cs_tuple rfl g_tuple rfl (a_consR (q_varR 1) a_nil))))))⟩
/-! ### row_rounds -/
abbrev st_row_rounds : Stmt := top 12
abbrev N_row_rounds : List Str := ["row"]
theorem sc_row_rounds : FnScope N_row_rounds ["row"] (defScope st_row_rounds) := ⟨rfl, rfl, rfl, by decide +kernel, rfl, by decide +kernel, by decide +kernel⟩
def m_row_rounds : S → Option Fl := retS (noSt (callM F_rounds (argC (callM F_gap_leads (argC (varM 0) argN)) argN)))
def F_row_rounds : List D → Option D := runF 1 m_row_rounds
theorem c_row_rounds {P : Program} {w : World} {K : Fg} {mg : Str → Option Value} {base : Heap} {T : List (Addr × Str)} {f : Addr} {fd : FuncData} {cd : Value} (hf : mg "row_rounds" = some (.ref f)) (Fn : Fun K "row_rounds" "row_rounds" st_row_rounds f fd) (C_gap_leads : CallF P w K mg base "gap_leads" st_gap_leads ["row"] 1 false F_gap_leads) (C_rounds : CallF P w K mg base "rounds" st_rounds ["order"] 1 false F_rounds) : CallF P w K mg base "row_rounds" st_row_rounds ["row"] 2 false F_row_rounds :=
  ⟨f, fd, hf, Fn, Fn.binds (ps := ["row"]) (fun _ _ _ _ _ _ us hl => match us, hl with | [_], _ => rfl), fnF Fn sc_row_rounds fun cdv A outer s H E hr =>
    ss_one (s_ret (e_q (q_call C_rounds hr rfl (a_consI (q_call C_gap_leads hr rfl (a_consI (q_var 0) a_nil) (hl := (lenC lenN))) a_nil) (hl := (lenC lenN)))))⟩
/-! ### odd_rounds -/
abbrev st_odd_rounds : Stmt := top 13
abbrev N_odd_rounds : List Str := ["row", "own"]
theorem sc_odd_rounds : FnScope N_odd_rounds ["row"] (defScope st_odd_rounds) := ⟨rfl, rfl, rfl, by decide +kernel, rfl, by decide +kernel, by decide +kernel⟩
def m_odd_rounds : S → Option Fl := retS (noSt (callM lenD (argC (lcM [1] (seqM (callM F_row_rounds (argC (varM 0) argN))) (putM 1) (tvM (op2 eqD (op2 modD (callM lenD (argC (varM 1) argN)) (cM (.int 2))) (cM (.int 1)))) (cM (.int 1))) argN)))
def F_odd_rounds : List D → Option D := runF 2 m_odd_rounds
theorem c_odd_rounds {P : Program} {w : World} {K : Fg} {mg : Str → Option Value} {base : Heap} {T : List (Addr × Str)} {f : Addr} {fd : FuncData} {cd : Value} (hf : mg "odd_rounds" = some (.ref f)) (Fn : Fun K "odd_rounds" "odd_rounds" st_odd_rounds f fd) (g_len : mg "len" = none) (C_row_rounds : CallF P w K mg base "row_rounds" st_row_rounds ["row"] 2 false F_row_rounds) : CallF P w K mg base "odd_rounds" st_odd_rounds ["row"] 3 false F_odd_rounds :=
  ⟨f, fd, hf, Fn, Fn.binds (ps := ["row"]) (fun _ _ _ _ _ _ us hl => match us, hl with | [_], _ => rfl), fnF Fn sc_odd_rounds fun cdv A outer s H E hr =>
    ss_one (s_ret (e_q (q_callB cs_len rfl g_len rfl (a_consI ((q_lc (own := [("own", 1)]) rfl sc_odd_rounds.nd (qi_seq (q_call C_row_rounds hr rfl (a_consI (q_var 0) a_nil) (hl := (lenC lenN)))) (blkOk_by (N := N_odd_rounds) (sc := defScope st_odd_rounds) (by decide +kernel)) (fun _ _ _ _ _ => g_name 1 sc_odd_rounds.nd) (fun _ _ _ _ _ => pts_q (qt_cmp (opS_eq (hr.units)) (q_op opS_mod (q_callB cs_len rfl g_len rfl (a_consI (q_var 1) a_nil)) q_int) q_int (by first | exact nobehind _ (by decide) (by decide) | rfl))) (fun _ _ _ _ _ => q_int))) a_nil))))⟩
/-! ### plain_row -/
abbrev st_plain_row : Stmt := top 3
abbrev N_plain_row : List Str := ["n"]
theorem sc_plain_row : FnScope N_plain_row ["n"] (defScope st_plain_row) := ⟨rfl, rfl, rfl, by decide +kernel, rfl, by decide +kernel, by decide +kernel⟩
def m_plain_row : S → Option Fl := retS (noSt (rgT2 (cM (.int 1)) (op2 addD (varM 0) (cM (.int 1)))))
def F_plain_row : List D → Option D := runF 1 m_plain_row
theorem c_plain_row {P : Program} {w : World} {K : Fg} {mg : Str → Option Value} {base : Heap} {T : List (Addr × Str)} {f : Addr} {fd : FuncData} {cd : Value} (hf : mg "plain_row" = some (.ref f)) (Fn : Fun K "plain_row" "plain_row" st_plain_row f fd) (g_range : mg "range" = none) (g_tuple : mg "tuple" = none) : CallF P w K mg base "plain_row" st_plain_row ["n"] 1 false F_plain_row :=
  ⟨f, fd, hf, Fn, Fn.binds (ps := ["n"]) (fun _ _ _ _ _ _ us hl => match us, hl with | [_], _ => rfl), fnF Fn sc_plain_row fun cdv A outer s H E hr =>
    ss_one (s_ret (e_q (q_rgT2 rfl rfl g_tuple rfl g_range q_int (q_op opS_add (q_var 0) q_int))))⟩
/-! ### front_bounds -/
abbrev st_front_bounds : Stmt := top 20
abbrev N_front_bounds : List Str := ["row", "gaps", "least"]
theorem sc_front_bounds : FnScope N_front_bounds ["row"] (defScope st_front_bounds) := ⟨rfl, rfl, rfl, by decide +kernel, rfl, by decide +kernel, by decide +kernel⟩
def m_front_bounds : S → Option Fl := seqS (setS 1 (noSt (callM lenD (argC (callM F_front_gaps (argC (varM 0) argN)) argN)))) (seqS (setS 2 (noSt (callM max2D (argC (op2 divD (op2 addD (varM 1) (cM (.int 1))) (cM (.int 2))) (argC (op2 divD (op2 subD (op2 addD (callM lenD (argC (varM 0) argN)) (cM (.int 1))) (callM F_odd_rounds (argC (varM 0) argN))) (cM (.int 2))) argN))))) (retS (noSt (tupM (argC (varM 2) (argC (ifM (tvM (op2 eqD (varM 0) (callM F_plain_row (argC (callM lenD (argC (varM 0) argN)) argN)))) (cM (.int 0)) (op2 subD (varM 1) (cM (.int 1)))) argN))))))
def F_front_bounds : List D → Option D := runF 3 m_front_bounds
theorem c_front_bounds {P : Program} {w : World} {K : Fg} {mg : Str → Option Value} {base : Heap} {T : List (Addr × Str)} {f : Addr} {fd : FuncData} {cd : Value} (hf : mg "front_bounds" = some (.ref f)) (Fn : Fun K "front_bounds" "front_bounds" st_front_bounds f fd) (g_len : mg "len" = none) (g_max : mg "max" = none) (C_front_gaps : CallF P w K mg base "front_gaps" st_front_gaps ["row"] 2 false F_front_gaps) (C_odd_rounds : CallF P w K mg base "odd_rounds" st_odd_rounds ["row"] 3 false F_odd_rounds) (C_plain_row : CallF P w K mg base "plain_row" st_plain_row ["n"] 1 false F_plain_row) : CallF P w K mg base "front_bounds" st_front_bounds ["row"] 4 false F_front_bounds :=
  ⟨f, fd, hf, Fn, Fn.binds (ps := ["row"]) (fun _ _ _ _ _ _ us hl => match us, hl with | [_], _ => rfl), fnF Fn sc_front_bounds fun cdv A outer s H E hr =>
    ss_cons (s_set 1 sc_front_bounds.nd (e_q (q_callB cs_len rfl g_len rfl (a_consI (q_call C_front_gaps hr rfl (a_consI (q_var 0) a_nil) (hl := (lenC lenN))) a_nil)))) (ss_cons (s_set 2 sc_front_bounds.nd (e_q (q_callB (cs_max2 rfl) rfl g_max rfl (a_consI (q_op opS_div (q_op opS_add (q_var 1) q_int) q_int) (a_consI (q_op opS_div (q_op opS_sub (q_op opS_add (q_callB cs_len rfl g_len rfl (a_consI (q_var 0) a_nil)) q_int) (q_call C_odd_rounds hr rfl (a_consI (q_var 0) a_nil) (hl := (lenC lenN)))) q_int) a_nil))))) (ss_one (s_ret (e_q (q_tup (a_consI (q_var 2) (a_consI (q_if (qt_cmp (opS_eq (hr.units)) (q_var 0) (q_call C_plain_row hr rfl (a_consI (q_callB cs_len rfl g_len rfl (a_consI (q_var 0) a_nil)) a_nil) (hl := (lenC lenN))) (by first | exact nobehind _ (by decide) (by decide) | rfl)) q_int (q_op opS_sub (q_var 1) q_int)) a_nil)))))))⟩
/-! ### open_gaps -/
abbrev st_open_gaps : Stmt := top 26
abbrev N_open_gaps : List Str := ["row", "gap", "goal"]
theorem sc_open_gaps : FnScope N_open_gaps ["row"] (defScope st_open_gaps) := ⟨rfl, rfl, rfl, by decide +kernel, rfl, by decide +kernel, by decide +kernel⟩
def m_open_gaps : S → Option Fl := retS (noSt (callM tupleD (argC (lcM [1, 2] (enumTM (callM F_gap_leads (argC (varM 0) argN))) (tgTup 2 (tgCons (putM 1) (tgCons (putM 2) tgNil))) (tvM (op2 neD (varM 2) (varM 1))) (varM 1)) argN)))
def F_open_gaps : List D → Option D := runF 3 m_open_gaps
theorem c_open_gaps {P : Program} {w : World} {K : Fg} {mg : Str → Option Value} {base : Heap} {T : List (Addr × Str)} {f : Addr} {fd : FuncData} {cd : Value} (hf : mg "open_gaps" = some (.ref f)) (Fn : Fun K "open_gaps" "open_gaps" st_open_gaps f fd) (g_enumerate : mg "enumerate" = none) (g_tuple : mg "tuple" = none) (C_gap_leads : CallF P w K mg base "gap_leads" st_gap_leads ["row"] 1 false F_gap_leads) : CallF P w K mg base "open_gaps" st_open_gaps ["row"] 2 false F_open_gaps :=
  ⟨f, fd, hf, Fn, Fn.binds (ps := ["row"]) (fun _ _ _ _ _ _ us hl => match us, hl with | [_], _ => rfl), fnF Fn sc_open_gaps fun cdv A outer s H E hr =>
    ss_one (s_ret (e_q (q_callTy cs_tuple rfl g_tuple rfl (a_consI ((q_lc (own := [("gap", 1), ("goal", 2)]) rfl sc_open_gaps.nd (qi_enumT rfl g_enumerate (q_call C_gap_leads hr rfl (a_consI (q_var 0) a_nil) (hl := (lenC lenN)))) (blkOk_by (N := N_open_gaps) (sc := defScope st_open_gaps) (by decide +kernel)) (fun _ _ _ _ _ => g_tup rfl (gs_cons (g_name 1 sc_open_gaps.nd) (gs_cons (g_name 2 sc_open_gaps.nd) gs_nil))) (fun _ _ _ _ _ => pts_q (qt_cmp (opS_ne (hr.units)) (q_var 2) (q_var 1) (by first | exact nobehind _ (by decide) (by decide) | rfl))) (fun _ _ _ _ _ => q_var 1))) a_nil))))⟩
/-! ### law_are_fronts -/
abbrev st_law_are_fronts : Stmt := top 43
abbrev N_law_are_fronts : List Str := ["bag", "row", "n", "fronts", "gaps", "i", "odd", "own", "due", "turn", "front", "new", "b", "c", "back"]
theorem sc_law_are_fronts : FnScope N_law_are_fronts ["bag", "row"] (defScope st_law_are_fronts) := ⟨rfl, rfl, rfl, by decide +kernel, rfl, by decide +kernel, by decide +kernel⟩
def m_law_are_fronts : S → Option Fl := seqS (asgS (tgTup 2 (tgCons (putM 2) (tgCons (putM 3) tgNil))) (noSt (tupM (argC (callM lenD (argC (varM 1) argN)) (argC (callM F_law_fronts (argC (callM lenD (argC (varM 1) argN)) argN)) argN))))) (seqS (setS 4 (noSt (callM tupleD (argC (lcM [5] (seqM (callM F_law_open (argC (varM 1) argN))) (putM 5) (tvM (op2 gtD (varM 5) (cM (.int 0)))) (varM 5)) argN)))) (seqS (ifS (orE (notE (tvE (isM (noSt (varM 3)) (callM F_all_fronts (argC (varM 2) argN)) (callM (fun ds => F_all_fronts (perm [0] ds)) (argC (varM 2) argN))))) (noSt (tvM (op2 neD (callM lenD (argC (varM 3) argN)) (op2 divD (op2 mulD (varM 2) (op2 subD (varM 2) (cM (.int 1)))) (cM (.int 2))))))) (retS (noSt (cM (.bool false)))) nxM) (seqS (ifS (notE (tvE (isM (noSt (varM 4)) (callM F_front_gaps (argC (varM 1) argN)) (callM (fun ds => F_front_gaps (perm [0] ds)) (argC (varM 1) argN))))) (retS (noSt (cM (.bool false)))) nxM) (seqS (ifS (noSt (orT (tvM (op2 neD (varM 4) (callM tupleD (argC (lcM [5] (seqM (callM F_open_gaps (argC (varM 1) argN))) (putM 5) (tvM (op2 gtD (varM 5) (cM (.int 0)))) (varM 5)) argN)))) (tvM (op2 eqD (callM lenD (argC (varM 4) argN)) (cM (.int 1)))))) (retS (noSt (cM (.bool false)))) nxM) (seqS (ifS (noSt (tvM (op2 neD (op2 eqD (varM 4) (tupM argN)) (op2 eqD (varM 1) (rgT2 (cM (.int 1)) (op2 addD (varM 2) (cM (.int 1)))))))) (retS (noSt (cM (.bool false)))) nxM) (seqS (setS 6 (noSt (callM lenD (argC (lcM [7] (seqM (callM F_law_rounds (argC (callM F_law_leads (argC (varM 1) argN)) argN))) (putM 7) (tvM (op2 eqD (op2 modD (callM lenD (argC (varM 7) argN)) (cM (.int 2))) (cM (.int 1)))) (varM 7)) argN)))) (seqS (setS 8 (noSt (tupM (argC (callM max2D (argC (op2 divD (op2 addD (callM lenD (argC (varM 4) argN)) (cM (.int 1))) (cM (.int 2))) (argC (op2 divD (op2 subD (op2 addD (varM 2) (cM (.int 1))) (varM 6)) (cM (.int 2))) argN))) (argC (ifM (tvM (op2 neD (varM 4) (tupM argN))) (op2 subD (callM lenD (argC (varM 4) argN)) (cM (.int 1))) (cM (.int 0))) argN))))) (seqS (ifS (orE (notE (tvE (isM (noSt (varM 8)) (callM F_front_bounds (argC (varM 1) argN)) (callM (fun ds => F_front_bounds (perm [0] ds)) (argC (varM 1) argN))))) (noSt (tvM (op2 neD (callM F_odd_rounds (argC (varM 1) argN)) (varM 6))))) (retS (noSt (cM (.bool false)))) nxM) (seqS (forS (rng1E (argCE (noSt (ifM (tvM (op2 neD (varM 3) (tupM argN))) (cM (.int 4)) (cM (.int 0)))) argNE)) (putM 9) (seqS (setS 10 (callB 0 F_law_pick (argCE (noSt (callM listD (argC (varM 3) argN))) argNE))) (seqS (setS 11 (noSt (callM F_law_fronted (argC (varM 1) (argC (varM 10) argN))))) (seqS (ifS (notE (tvE (isM (noSt (varM 11)) (callM F_front_moved (argC (varM 1) (argC (varM 10) argN))) (callM (fun ds => F_front_moved (perm [1, 0] ds)) (argC (varM 10) (argC (varM 1) argN)))))) (retS (noSt (cM (.bool false)))) nxM) (seqS (asgS (tgTup 2 (tgCons (putM 12) (tgCons (putM 13) tgNil))) (noSt (varM 10))) (seqS (setS 14 (noSt (tupM (argC (op2 subD (varM 13) (varM 12)) (argC (varM 13) argN))))) (seqS (ifS (orE (notE (tvE (isM (noSt (varM 14)) (callM F_front_back (argC (varM 10) argN)) (callM (fun ds => F_front_back (perm [0] ds)) (argC (varM 10) argN))))) (noSt (tvM (op2 neD (callM F_front_moved (argC (varM 11) (argC (varM 14) argN))) (varM 1))))) (retS (noSt (cM (.bool false)))) nxM) (seqS (setS 8 (noSt (op2 subD (callM lenD (argC (varM 4) argN)) (callM lenD (argC (lcM [5] (seqM (callM F_law_open (argC (varM 11) argN))) (putM 5) (tvM (op2 gtD (varM 5) (cM (.int 0)))) (varM 5)) argN))))) (ifS (orE (notE (tvE (isM (noSt (varM 8)) (callM F_closed_in_front (argC (varM 1) (argC (varM 10) argN))) (callM (fun ds => F_closed_in_front (perm [1, 0] ds)) (argC (varM 10) (argC (varM 1) argN)))))) (noSt (tvM (op2 gtD (callM absD (argC (varM 8) argN)) (cM (.int 2)))))) (retS (noSt (cM (.bool false)))) nxM))))))))) (retS (noSt (cM (.bool true)))))))))))))
def F_law_are_fronts : Bag → List D → Option (D × Bag) := runB 15 m_law_are_fronts
theorem c_law_are_fronts {P : Program} {w : World} {K : Fg} {mg : Str → Option Value} {base : Heap} {T : List (Addr × Str)} {f : Addr} {fd : FuncData} {cd : Value} (hf : mg "_law_are_fronts" = some (.ref f)) (Fc : FunC K "_law_are_fronts" st_law_are_fronts f fd cd) (g_abs : mg "abs" = none) (g_len : mg "len" = none) (g_list : mg "list" = none) (g_max : mg "max" = none) (g_range : mg "range" = none) (g_tuple : mg "tuple" = none) (C_law_fronted : CallF P w K mg base "_law_fronted" st_law_fronted ["row", "front"] 1 false F_law_fronted) (C_law_fronts : CallF P w K mg base "_law_fronts" st_law_fronts ["n"] 1 false F_law_fronts) (C_law_leads : CallF P w K mg base "_law_leads" st_law_leads ["row"] 1 false F_law_leads) (C_law_open : CallF P w K mg base "_law_open" st_law_open ["row"] 2 false F_law_open) (C_law_pick : CallG P w K mg base "_law_pick" ["bag", "some"] 2 (spB K T 2 F_law_pick)) (C_law_rounds : CallF P w K mg base "_law_rounds" st_law_rounds ["leads"] 1 false F_law_rounds) (C_all_fronts : CallF P w K mg base "all_fronts" st_all_fronts ["n"] 1 false F_all_fronts) (C_closed_in_front : CallF P w K mg base "closed_in_front" st_closed_in_front ["row", "front"] 3 false F_closed_in_front) (C_front_back : CallF P w K mg base "front_back" st_front_back ["front"] 1 false F_front_back) (C_front_bounds : CallF P w K mg base "front_bounds" st_front_bounds ["row"] 4 false F_front_bounds) (C_front_gaps : CallF P w K mg base "front_gaps" st_front_gaps ["row"] 2 false F_front_gaps) (C_front_moved : CallF P w K mg base "front_moved" st_front_moved ["row", "front"] 1 false F_front_moved) (C_odd_rounds : CallF P w K mg base "odd_rounds" st_odd_rounds ["row"] 3 false F_odd_rounds) (C_open_gaps : CallF P w K mg base "open_gaps" st_open_gaps ["row"] 2 false F_open_gaps) (C_is : IsC P w K mg base) (TO : TabOk base mg T cd ((("_law_are_fronts" : Str) ++ ".<locals>.") ++ "<lambda>")) : CallG P w K mg base "_law_are_fronts" ["bag", "row"] 8 (spB K T 2 F_law_are_fronts) :=
  have Fn := Fc.fun
  ⟨f, fd, hf, Fc.kp, Fn.binds (ps := ["bag", "row"]) (fun _ _ _ _ _ _ us hl => match us, hl with | [_, _], _ => rfl), fnB (N := N_law_are_fronts.tail) (ps := ["row"]) Fc sc_law_are_fronts fun A outer s H E hr gd =>
    ss_cons (s_asg (e_q (q_tup (a_consI (q_callB cs_len rfl g_len rfl (a_consI (q_var 1) a_nil)) (a_consI (q_call C_law_fronts hr rfl (a_consI (q_callB cs_len rfl g_len rfl (a_consI (q_var 1) a_nil)) a_nil) (hl := (lenC lenN))) a_nil)))) (g_tup rfl (gs_cons (g_name 2 sc_law_are_fronts.nd) (gs_cons (g_name 3 sc_law_are_fronts.nd) gs_nil)))) (ss_cons (s_set 4 sc_law_are_fronts.nd (e_q (q_callTy cs_tuple rfl g_tuple rfl (a_consI ((q_lc (own := [("i", 5)]) rfl sc_law_are_fronts.nd (qi_seq (q_call C_law_open hr rfl (a_consI (q_var 1) a_nil) (hl := (lenC lenN)))) (blkOk_by (N := N_law_are_fronts) (sc := defScope st_law_are_fronts) (by decide +kernel)) (fun _ _ _ _ _ => g_name 5 sc_law_are_fronts.nd) (fun _ _ _ _ _ => pts_q (qt_cmp opS_gt (q_var 5) q_int (by first | exact nobehind _ (by decide) (by decide) | rfl))) (fun _ _ _ _ _ => q_var 5))) a_nil)))) (ss_cons (s_if (ew_t (ew_or (et_not (et_val (e_is (k := 1) C_is TO hr gd rfl (e_q (q_var 3)) (by exact ⟨⟨_, _, _, _, _, rfl, by decide, LamX.lamS_by (sc := defScope st_law_are_fronts) (by decide +kernel), rfl, fun _ _ _ _ _ => rfl, fun A outer s H f c' hr gd => q_call C_all_fronts hr rfl (a_consI (q_var 2) a_nil) (hl := (lenC lenN))⟩⟩) (by exact ⟨⟨_, _, _, _, _, rfl, by decide, LamX.lamS_by (sc := defScope st_law_are_fronts) (by decide +kernel), rfl, fun _ _ _ _ _ => rfl, fun A outer s H f c' hr gd => q_callK (ks := ["n"]) (π := [0]) C_all_fronts (fun _ _ _ _ _ _ ws hl => match ws, hl with | [_], _ => rfl) hr rfl (k_cons (q_var 2) k_nil) (hl := (lenC lenN)) (hp := lenP (lenC lenN) (fun ds h => match ds, h with | [_], _ => rfl))⟩⟩)))) (ew_or1 (et_q (qt_cmp (opS_ne (hr.units)) (q_callB cs_len rfl g_len rfl (a_consI (q_var 3) a_nil)) (q_op opS_div (q_op opS_mul (q_var 2) (q_op opS_sub (q_var 2) q_int)) q_int) (by first | exact nobehind _ (by decide) (by decide) | rfl)))))) (ss_one (s_ret (e_q q_bl))) ss_nil) (ss_cons (s_if (et_not (et_val (e_is (k := 2) C_is TO hr gd rfl (e_q (q_var 4)) (by exact ⟨⟨_, _, _, _, _, rfl, by decide, LamX.lamS_by (sc := defScope st_law_are_fronts) (by decide +kernel), rfl, fun _ _ _ _ _ => rfl, fun A outer s H f c' hr gd => q_call C_front_gaps hr rfl (a_consI (q_var 1) a_nil) (hl := (lenC lenN))⟩⟩) (by exact ⟨⟨_, _, _, _, _, rfl, by decide, LamX.lamS_by (sc := defScope st_law_are_fronts) (by decide +kernel), rfl, fun _ _ _ _ _ => rfl, fun A outer s H f c' hr gd => q_callK (ks := ["row"]) (π := [0]) C_front_gaps (fun _ _ _ _ _ _ ws hl => match ws, hl with | [_], _ => rfl) hr rfl (k_cons (q_var 1) k_nil) (hl := (lenC lenN)) (hp := lenP (lenC lenN) (fun ds h => match ds, h with | [_], _ => rfl))⟩⟩)))) (ss_one (s_ret (e_q q_bl))) ss_nil) (ss_cons (s_if (et_q (qw_t (qw_or (qt_cmp (opS_ne (hr.units)) (q_var 4) (q_callTy cs_tuple rfl g_tuple rfl (a_consI ((q_lc (own := [("i", 5)]) rfl sc_law_are_fronts.nd (qi_seq (q_call C_open_gaps hr rfl (a_consI (q_var 1) a_nil) (hl := (lenC lenN)))) (blkOk_by (N := N_law_are_fronts) (sc := defScope st_law_are_fronts) (by decide +kernel)) (fun _ _ _ _ _ => g_name 5 sc_law_are_fronts.nd) (fun _ _ _ _ _ => pts_q (qt_cmp opS_gt (q_var 5) q_int (by first | exact nobehind _ (by decide) (by decide) | rfl))) (fun _ _ _ _ _ => q_var 5))) a_nil)) (by first | exact nobehind _ (by decide) (by decide) | rfl)) (qw_or1 (qt_cmp (opS_eq (hr.units)) (q_callB cs_len rfl g_len rfl (a_consI (q_var 4) a_nil)) q_int (by first | exact nobehind _ (by decide) (by decide) | rfl)))))) (ss_one (s_ret (e_q q_bl))) ss_nil) (ss_cons (s_if (et_q (qt_cmp (opS_ne (hr.units)) (q_cmp (opS_eq (hr.units)) (q_var 4) (q_tup a_nil) (by first | exact nobehind _ (by decide) (by decide) | rfl)) (q_cmp (opS_eq (hr.units)) (q_var 1) (q_rgT2 rfl rfl g_tuple rfl g_range q_int (q_op opS_add (q_var 2) q_int)) (by first | exact nobehind _ (by decide) (by decide) | rfl)) (by first | exact nobehind _ (by decide) (by decide) | rfl))) (ss_one (s_ret (e_q q_bl))) ss_nil) (ss_cons (s_set 6 sc_law_are_fronts.nd (e_q (q_callB cs_len rfl g_len rfl (a_consI ((q_lc (own := [("own", 7)]) rfl sc_law_are_fronts.nd (qi_seq (q_call C_law_rounds hr rfl (a_consI (q_call C_law_leads hr rfl (a_consI (q_var 1) a_nil) (hl := (lenC lenN))) a_nil) (hl := (lenC lenN)))) (blkOk_by (N := N_law_are_fronts) (sc := defScope st_law_are_fronts) (by decide +kernel)) (fun _ _ _ _ _ => g_name 7 sc_law_are_fronts.nd) (fun _ _ _ _ _ => pts_q (qt_cmp (opS_eq (hr.units)) (q_op opS_mod (q_callB cs_len rfl g_len rfl (a_consI (q_var 7) a_nil)) q_int) q_int (by first | exact nobehind _ (by decide) (by decide) | rfl))) (fun _ _ _ _ _ => q_var 7))) a_nil)))) (ss_cons (s_set 8 sc_law_are_fronts.nd (e_q (q_tup (a_consI (q_callB (cs_max2 rfl) rfl g_max rfl (a_consI (q_op opS_div (q_op opS_add (q_callB cs_len rfl g_len rfl (a_consI (q_var 4) a_nil)) q_int) q_int) (a_consI (q_op opS_div (q_op opS_sub (q_op opS_add (q_var 2) q_int) (q_var 6)) q_int) a_nil))) (a_consI (q_if (qt_cmp (opS_ne (hr.units)) (q_var 4) (q_tup a_nil) (by first | exact nobehind _ (by decide) (by decide) | rfl)) (q_op opS_sub (q_callB cs_len rfl g_len rfl (a_consI (q_var 4) a_nil)) q_int) q_int) a_nil))))) (ss_cons (s_if (ew_t (ew_or (et_not (et_val (e_is (k := 4) C_is TO hr gd rfl (e_q (q_var 8)) (by exact ⟨⟨_, _, _, _, _, rfl, by decide, LamX.lamS_by (sc := defScope st_law_are_fronts) (by decide +kernel), rfl, fun _ _ _ _ _ => rfl, fun A outer s H f c' hr gd => q_call C_front_bounds hr rfl (a_consI (q_var 1) a_nil) (hl := (lenC lenN))⟩⟩) (by exact ⟨⟨_, _, _, _, _, rfl, by decide, LamX.lamS_by (sc := defScope st_law_are_fronts) (by decide +kernel), rfl, fun _ _ _ _ _ => rfl, fun A outer s H f c' hr gd => q_callK (ks := ["row"]) (π := [0]) C_front_bounds (fun _ _ _ _ _ _ ws hl => match ws, hl with | [_], _ => rfl) hr rfl (k_cons (q_var 1) k_nil) (hl := (lenC lenN)) (hp := lenP (lenC lenN) (fun ds h => match ds, h with | [_], _ => rfl))⟩⟩)))) (ew_or1 (et_q (qt_cmp (opS_ne (hr.units)) (q_call C_odd_rounds hr rfl (a_consI (q_var 1) a_nil) (hl := (lenC lenN))) (q_var 6) (by first | exact nobehind _ (by decide) (by decide) | rfl)))))) (ss_one (s_ret (e_q q_bl))) ss_nil) (ss_cons (s_for rfl (ei_rng1 rfl g_range (ea_cons (e_q (q_if (qt_cmp (opS_ne (hr.units)) (q_var 3) (q_tup a_nil) (by first | exact nobehind _ (by decide) (by decide) | rfl)) q_int q_int)) ea_nil)) (g_name 9 sc_law_are_fronts.nd) (ss_cons (s_set 10 sc_law_are_fronts.nd (e_bag 0 C_law_pick hr gd rfl (ea_cons (e_q (q_callTy cs_list rfl g_list rfl (a_consI (q_var 3) a_nil))) ea_nil) (lenBE (lenCE lenNE)))) (ss_cons (s_set 11 sc_law_are_fronts.nd (e_q (q_call C_law_fronted hr rfl (a_consI (q_var 1) (a_consI (q_var 10) a_nil)) (hl := (lenC (lenC lenN)))))) (ss_cons (s_if (et_not (et_val (e_is (k := 1) C_is TO hr gd rfl (e_q (q_var 11)) (by exact ⟨⟨_, _, _, _, _, rfl, by decide, LamX.lamS_by (sc := defScope st_law_are_fronts) (by decide +kernel), rfl, fun _ _ _ _ _ => rfl, fun A outer s H f c' hr gd => q_call C_front_moved hr rfl (a_consI (q_var 1) (a_consI (q_var 10) a_nil)) (hl := (lenC (lenC lenN)))⟩⟩) (by exact ⟨⟨_, _, _, _, _, rfl, by decide, LamX.lamS_by (sc := defScope st_law_are_fronts) (by decide +kernel), rfl, fun _ _ _ _ _ => rfl, fun A outer s H f c' hr gd => q_callK (ks := ["front", "row"]) (π := [1, 0]) C_front_moved (fun _ _ _ _ _ _ ws hl => match ws, hl with | [_, _], _ => rfl) hr rfl (k_cons (q_var 10) (k_cons (q_var 1) k_nil)) (hl := (lenC (lenC lenN))) (hp := lenP (lenC (lenC lenN)) (fun ds h => match ds, h with | [_, _], _ => rfl))⟩⟩)))) (ss_one (s_ret (e_q q_bl))) ss_nil) (ss_cons (s_asg (e_q (q_var 10)) (g_tup rfl (gs_cons (g_name 12 sc_law_are_fronts.nd) (gs_cons (g_name 13 sc_law_are_fronts.nd) gs_nil)))) (ss_cons (s_set 14 sc_law_are_fronts.nd (e_q (q_tup (a_consI (q_op opS_sub (q_var 13) (q_var 12)) (a_consI (q_var 13) a_nil))))) (ss_cons (s_if (ew_t (ew_or (et_not (et_val (e_is (k := 1) C_is TO hr gd rfl (e_q (q_var 14)) (by exact ⟨⟨_, _, _, _, _, rfl, by decide, LamX.lamS_by (sc := defScope st_law_are_fronts) (by decide +kernel), rfl, fun _ _ _ _ _ => rfl, fun A outer s H f c' hr gd => q_call C_front_back hr rfl (a_consI (q_var 10) a_nil) (hl := (lenC lenN))⟩⟩) (by exact ⟨⟨_, _, _, _, _, rfl, by decide, LamX.lamS_by (sc := defScope st_law_are_fronts) (by decide +kernel), rfl, fun _ _ _ _ _ => rfl, fun A outer s H f c' hr gd => q_callK (ks := ["front"]) (π := [0]) C_front_back (fun _ _ _ _ _ _ ws hl => match ws, hl with | [_], _ => rfl) hr rfl (k_cons (q_var 10) k_nil) (hl := (lenC lenN)) (hp := lenP (lenC lenN) (fun ds h => match ds, h with | [_], _ => rfl))⟩⟩)))) (ew_or1 (et_q (qt_cmp (opS_ne (hr.units)) (q_call C_front_moved hr rfl (a_consI (q_var 11) (a_consI (q_var 14) a_nil)) (hl := (lenC (lenC lenN)))) (q_var 1) (by first | exact nobehind _ (by decide) (by decide) | rfl)))))) (ss_one (s_ret (e_q q_bl))) ss_nil) (ss_cons (s_set 8 sc_law_are_fronts.nd (e_q (q_op opS_sub (q_callB cs_len rfl g_len rfl (a_consI (q_var 4) a_nil)) (q_callB cs_len rfl g_len rfl (a_consI ((q_lc (own := [("i", 5)]) rfl sc_law_are_fronts.nd (qi_seq (q_call C_law_open hr rfl (a_consI (q_var 11) a_nil) (hl := (lenC lenN)))) (blkOk_by (N := N_law_are_fronts) (sc := defScope st_law_are_fronts) (by decide +kernel)) (fun _ _ _ _ _ => g_name 5 sc_law_are_fronts.nd) (fun _ _ _ _ _ => pts_q (qt_cmp opS_gt (q_var 5) q_int (by first | exact nobehind _ (by decide) (by decide) | rfl))) (fun _ _ _ _ _ => q_var 5))) a_nil))))) (ss_one (s_if (ew_t (ew_or (et_not (et_val (e_is (k := 3) C_is TO hr gd rfl (e_q (q_var 8)) (by exact ⟨⟨_, _, _, _, _, rfl, by decide, LamX.lamS_by (sc := defScope st_law_are_fronts) (by decide +kernel), rfl, fun _ _ _ _ _ => rfl, fun A outer s H f c' hr gd => q_call C_closed_in_front hr rfl (a_consI (q_var 1) (a_consI (q_var 10) a_nil)) (hl := (lenC (lenC lenN)))⟩⟩) (by exact ⟨⟨_, _, _, _, _, rfl, by decide, LamX.lamS_by (sc := defScope st_law_are_fronts) (by decide +kernel), rfl, fun _ _ _ _ _ => rfl, fun A outer s H f c' hr gd => q_callK (ks := ["front", "row"]) (π := [1, 0]) C_closed_in_front (fun _ _ _ _ _ _ ws hl => match ws, hl with | [_, _], _ => rfl) hr rfl (k_cons (q_var 10) (k_cons (q_var 1) k_nil)) (hl := (lenC (lenC lenN))) (hp := lenP (lenC (lenC lenN)) (fun ds h => match ds, h with | [_, _], _ => rfl))⟩⟩)))) (ew_or1 (et_q (qt_cmp opS_gt (q_callB cs_abs rfl g_abs rfl (a_consI (q_var 8) a_nil)) q_int (by first | exact nobehind _ (by decide) (by decide) | rfl)))))) (ss_one (s_ret (e_q q_bl))) ss_nil)))))))))) (ss_one (s_ret (e_q q_bl))))))))))))⟩
/-! ### law_mirrored -/
abbrev st_law_mirrored : Stmt := top 38
abbrev N_law_mirrored : List Str := ["row", "x"]
theorem sc_law_mirrored : FnScope N_law_mirrored ["row"] (defScope st_law_mirrored) := ⟨rfl, rfl, rfl, by decide +kernel, rfl, by decide +kernel, by decide +kernel⟩
def m_law_mirrored : S → Option Fl := retS (noSt (callM tupleD (argC (lcM [1] (revM (callM listD (argC (varM 0) argN))) (putM 1) yesM (op2 subD (op2 addD (callM lenD (argC (varM 0) argN)) (cM (.int 1))) (varM 1))) argN)))
def F_law_mirrored : List D → Option D := runF 2 m_law_mirrored
theorem c_law_mirrored {P : Program} {w : World} {K : Fg} {mg : Str → Option Value} {base : Heap} {T : List (Addr × Str)} {f : Addr} {fd : FuncData} {cd : Value} (hf : mg "_law_mirrored" = some (.ref f)) (Fn : Fun K "_law_mirrored" "_law_mirrored" st_law_mirrored f fd) (g_len : mg "len" = none) (g_list : mg "list" = none) (g_reversed : mg "reversed" = none) (g_tuple : mg "tuple" = none) : CallF P w K mg base "_law_mirrored" st_law_mirrored ["row"] 1 false F_law_mirrored :=
  ⟨f, fd, hf, Fn, Fn.binds (ps := ["row"]) (fun _ _ _ _ _ _ us hl => match us, hl with | [_], _ => rfl), fnF Fn sc_law_mirrored fun cdv A outer s H E hr =>
    ss_one (s_ret (e_q (q_callTy cs_tuple rfl g_tuple rfl (a_consI ((q_lc (own := [("x", 1)]) rfl sc_law_mirrored.nd (qi_rev rfl g_reversed (q_callTy cs_list rfl g_list rfl (a_consI (q_var 0) a_nil))) (blkOk_by (N := N_law_mirrored) (sc := defScope st_law_mirrored) (by decide +kernel)) (fun _ _ _ _ _ => g_name 1 sc_law_mirrored.nd) (fun _ _ _ _ _ => pts_yes) (fun _ _ _ _ _ => q_op opS_sub (q_op opS_add (q_callB cs_len rfl g_len rfl (a_consI (q_var 0) a_nil)) q_int) (q_var 1)))) a_nil))))⟩
/-! ### law_moved -/
abbrev st_law_moved : Stmt := top 40
abbrev N_law_moved : List Str := ["row", "move", "a", "b", "c"]
theorem sc_law_moved : FnScope N_law_moved ["row", "move"] (defScope st_law_moved) := ⟨rfl, rfl, rfl, by decide +kernel, rfl, by decide +kernel, by decide +kernel⟩
def m_law_moved : S → Option Fl := seqS (asgS (tgTup 3 (tgCons (putM 2) (tgCons (putM 3) (tgCons (putM 4) tgNil)))) (noSt (varM 1))) (retS (noSt (op2 addD (op2 addD (op2 addD (slM slD (varM 0) pnM (psM (varM 2))) (slM slD (varM 0) (psM (varM 3)) (psM (varM 4)))) (slM slD (varM 0) (psM (varM 2)) (psM (varM 3)))) (slM slD (varM 0) (psM (varM 4)) pnM))))
def F_law_moved : List D → Option D := runF 5 m_law_moved
theorem c_law_moved {P : Program} {w : World} {K : Fg} {mg : Str → Option Value} {base : Heap} {T : List (Addr × Str)} {f : Addr} {fd : FuncData} {cd : Value} (hf : mg "_law_moved" = some (.ref f)) (Fn : Fun K "_law_moved" "_law_moved" st_law_moved f fd) : CallF P w K mg base "_law_moved" st_law_moved ["row", "move"] 1 false F_law_moved :=
  ⟨f, fd, hf, Fn, Fn.binds (ps := ["row", "move"]) (fun _ _ _ _ _ _ us hl => match us, hl with | [_, _], _ => rfl), fnF Fn sc_law_moved fun cdv A outer s H E hr =>
    ss_cons (s_asg (e_q (q_var 1)) (g_tup rfl (gs_cons (g_name 2 sc_law_moved.nd) (gs_cons (g_name 3 sc_law_moved.nd) (gs_cons (g_name 4 sc_law_moved.nd) gs_nil))))) (ss_one (s_ret (e_q (q_op opS_add (q_op opS_add (q_op opS_add (q_slice slS (q_var 0) o_none (o_some (q_var 2))) (q_slice slS (q_var 0) (o_some (q_var 3)) (o_some (q_var 4)))) (q_slice slS (q_var 0) (o_some (q_var 2)) (o_some (q_var 3)))) (q_slice slS (q_var 0) (o_some (q_var 4)) o_none)))))⟩
/-! ### law_order -/
abbrev st_law_order : Stmt := top 34
abbrev N_law_order : List Str := ["bag", "n", "found", "rest", "turn"]
theorem sc_law_order : FnScope N_law_order ["bag", "n"] (defScope st_law_order) := ⟨rfl, rfl, rfl, by decide +kernel, rfl, by decide +kernel, by decide +kernel⟩
def m_law_order : S → Option Fl := seqS (parG (apO (ownM (lstM argN)) (apO (ownM (rgL1 (varM 1))) apN)) (gpC (putPV 2) (gpC (putPV 3) gpN))) (seqS (forS (rng1E (argCE (noSt (varM 1)) argNE)) (putM 4) (appS 2 (popAtM 3 (callB 0 F_law_draw (argCE (noSt (callM lenD (argC (varR 3) argN))) argNE))))) (retS (noSt (callM tupleD (argC (varR 2) argN)))))
def F_law_order : Bag → List D → Option (D × Bag) := runB 5 m_law_order
theorem c_law_order {P : Program} {w : World} {K : Fg} {mg : Str → Option Value} {base : Heap} {T : List (Addr × Str)} {f : Addr} {fd : FuncData} {cd : Value} (hf : mg "_law_order" = some (.ref f)) (Fc : FunC K "_law_order" st_law_order f fd cd) (g_len : mg "len" = none) (g_list : mg "list" = none) (g_range : mg "range" = none) (g_tuple : mg "tuple" = none) (C_law_draw : CallG P w K mg base "_law_draw" ["bag", "below"] 1 (spB K T 2 F_law_draw)) : CallG P w K mg base "_law_order" ["bag", "n"] 2 (spB K T 2 F_law_order) :=
  have Fn := Fc.fun
  ⟨f, fd, hf, Fc.kp, Fn.binds (ps := ["bag", "n"]) (fun _ _ _ _ _ _ us hl => match us, hl with | [_, _], _ => rfl), fnB (N := N_law_order.tail) (ps := ["n"]) Fc sc_law_order fun A outer s H E hr gd =>
    ss_cons (s_par2 2 3 rfl sc_law_order.nd (ap_o (eo_q (q_lst a_nil)) (ap_o (eo_q (q_rgL1 rfl rfl g_list rfl g_range (q_var 1))) ap_nil))) (ss_cons (s_for rfl (ei_rng1 rfl g_range (ea_cons (e_q (q_var 1)) ea_nil)) (g_name 4 sc_law_order.nd) (ss_one (s_append 2 (e_popAt 3 (e_bag 0 C_law_draw hr gd rfl (ea_cons (e_q (q_callB cs_len rfl g_len rfl (a_consR (q_varR 3) a_nil))) ea_nil) (lenBE (lenCE lenNE))))))) (ss_one (s_ret (e_q (q_callTy cs_tuple rfl g_tuple rfl (a_consR (q_varR 2) a_nil))))))⟩
/-! ### fronts_for -/
abbrev st_fronts_for : Stmt := top 23
abbrev N_fronts_for : List Str := ["move", "a", "b", "c"]
theorem sc_fronts_for : FnScope N_fronts_for ["move"] (defScope st_fronts_for) := ⟨rfl, rfl, rfl, by decide +kernel, rfl, by decide +kernel, by decide +kernel⟩
def m_fronts_for : S → Option Fl := seqS (asgS (tgTup 3 (tgCons (putM 1) (tgCons (putM 2) (tgCons (putM 3) tgNil)))) (noSt (varM 0))) (retS (noSt (ifM (tvM (op2 eqD (varM 1) (cM (.int 0)))) (tupM (argC (tupM (argC (varM 2) (argC (varM 3) argN))) argN)) (tupM (argC (tupM (argC (varM 2) (argC (varM 3) argN))) (argC (tupM (argC (op2 subD (varM 3) (varM 2)) (argC (op2 addD (op2 subD (varM 3) (varM 2)) (varM 1)) argN))) argN))))))
def F_fronts_for : List D → Option D := runF 4 m_fronts_for
theorem c_fronts_for {P : Program} {w : World} {K : Fg} {mg : Str → Option Value} {base : Heap} {T : List (Addr × Str)} {f : Addr} {fd : FuncData} {cd : Value} (hf : mg "fronts_for" = some (.ref f)) (Fn : Fun K "fronts_for" "fronts_for" st_fronts_for f fd) : CallF P w K mg base "fronts_for" st_fronts_for ["move"] 1 false F_fronts_for :=
  ⟨f, fd, hf, Fn, Fn.binds (ps := ["move"]) (fun _ _ _ _ _ _ us hl => match us, hl with | [_], _ => rfl), fnF Fn sc_fronts_for fun cdv A outer s H E hr =>
    ss_cons (s_asg (e_q (q_var 0)) (g_tup rfl (gs_cons (g_name 1 sc_fronts_for.nd) (gs_cons (g_name 2 sc_fronts_for.nd) (gs_cons (g_name 3 sc_fronts_for.nd) gs_nil))))) (ss_one (s_ret (e_q (q_if (qt_cmp (opS_eq (hr.units)) (q_var 1) q_int (by first | exact nobehind _ (by decide) (by decide) | rfl)) (q_tup (a_consI (q_tup (a_consI (q_var 2) (a_consI (q_var 3) a_nil))) a_nil)) (q_tup (a_consI (q_tup (a_consI (q_var 2) (a_consI (q_var 3) a_nil))) (a_consI (q_tup (a_consI (q_op opS_sub (q_var 3) (q_var 2)) (a_consI (q_op opS_add (q_op opS_sub (q_var 3) (q_var 2)) (q_var 1)) a_nil))) a_nil)))))))⟩
/-! ### moved -/
abbrev st_moved : Stmt := top 25
abbrev N_moved : List Str := ["row", "move", "a", "b", "c"]
theorem sc_moved : FnScope N_moved ["row", "move"] (defScope st_moved) := ⟨rfl, rfl, rfl, by decide +kernel, rfl, by decide +kernel, by decide +kernel⟩
def m_moved : S → Option Fl := seqS (asgS (tgTup 3 (tgCons (putM 2) (tgCons (putM 3) (tgCons (putM 4) tgNil)))) (noSt (varM 1))) (retS (noSt (op2 addD (op2 addD (op2 addD (slM slD (varM 0) pnM (psM (varM 2))) (slM slD (varM 0) (psM (varM 3)) (psM (varM 4)))) (slM slD (varM 0) (psM (varM 2)) (psM (varM 3)))) (slM slD (varM 0) (psM (varM 4)) pnM))))
def F_moved : List D → Option D := runF 5 m_moved
theorem c_moved {P : Program} {w : World} {K : Fg} {mg : Str → Option Value} {base : Heap} {T : List (Addr × Str)} {f : Addr} {fd : FuncData} {cd : Value} (hf : mg "moved" = some (.ref f)) (Fn : Fun K "moved" "moved" st_moved f fd) : CallF P w K mg base "moved" st_moved ["row", "move"] 1 false F_moved :=
  ⟨f, fd, hf, Fn, Fn.binds (ps := ["row", "move"]) (fun _ _ _ _ _ _ us hl => match us, hl with | [_, _], _ => rfl), fnF Fn sc_moved fun cdv A outer s H E hr =>
    ss_cons (s_asg (e_q (q_var 1)) (g_tup rfl (gs_cons (g_name 2 sc_moved.nd) (gs_cons (g_name 3 sc_moved.nd) (gs_cons (g_name 4 sc_moved.nd) gs_nil))))) (ss_one (s_ret (e_q (q_op opS_add (q_op opS_add (q_op opS_add (q_slice slS (q_var 0) o_none (o_some (q_var 2))) (q_slice slS (q_var 0) (o_some (q_var 3)) (o_some (q_var 4)))) (q_slice slS (q_var 0) (o_some (q_var 2)) (o_some (q_var 3)))) (q_slice slS (q_var 0) (o_some (q_var 4)) o_none)))))⟩
/-! ### law_are_moves -/
abbrev st_law_are_moves : Stmt := top 45
abbrev N_law_are_moves : List Str := ["bag", "row", "n", "move", "a", "b", "c", "due", "now", "front", "one", "end"]
theorem sc_law_are_moves : FnScope N_law_are_moves ["bag", "row"] (defScope st_law_are_moves) := ⟨rfl, rfl, rfl, by decide +kernel, rfl, by decide +kernel, by decide +kernel⟩
def m_law_are_moves : S → Option Fl := seqS (setS 2 (noSt (callM lenD (argC (varM 1) argN)))) (seqS (ifS (noSt (tvM (op2 ltD (varM 2) (cM (.int 2))))) (retS (noSt (cM (.bool true)))) nxM) (seqS (setS 3 (callE tupleD (argCE (callE sortedA (argCE (slE slD (callB 0 F_law_order (argCE (noSt (op2 addD (varM 2) (cM (.int 1)))) argNE)) pnM (psM (cM (.int 3)))) argNE)) argNE))) (seqS (asgS (tgTup 3 (tgCons (putM 4) (tgCons (putM 5) (tgCons (putM 6) tgNil)))) (noSt (varM 3))) (seqS (setS 7 (noSt (ifM (tvM (op2 eqD (varM 4) (cM (.int 0)))) (tupM (argC (tupM (argC (varM 5) (argC (varM 6) argN))) argN)) (tupM (argC (tupM (argC (varM 5) (argC (varM 6) argN))) (argC (tupM (argC (op2 subD (varM 6) (varM 5)) (argC (op2 addD (op2 subD (varM 6) (varM 5)) (varM 4)) argN))) argN)))))) (seqS (ifS (notE (tvE (isM (noSt (varM 7)) (callM F_fronts_for (argC (varM 3) argN)) (callM (fun ds => F_fronts_for (perm [0] ds)) (argC (varM 3) argN))))) (retS (noSt (cM (.bool false)))) nxM) (seqS (setS 8 (noSt (varM 1))) (seqS (forS (seqE (noSt (varM 7))) (putM 9) (setS 8 (noSt (callM F_front_moved (argC (varM 8) (argC (varM 9) argN)))))) (seqS (ifS (noSt (orT (tvM (op2 neD (varM 8) (callM F_law_moved (argC (varM 1) (argC (varM 3) argN))))) (tvM (op2 neD (callM F_moved (argC (varM 1) (argC (varM 3) argN))) (varM 8))))) (retS (noSt (cM (.bool false)))) nxM) (seqS (setS 9 (callB 0 F_law_pick (argCE (noSt (callM listD (argC (callM F_law_fronts (argC (varM 2) argN)) argN))) argNE))) (seqS (setS 10 (noSt (callM F_law_mirrored (argC (callM F_law_fronted (argC (varM 1) (argC (varM 9) argN))) argN)))) (seqS (setS 11 (noSt (tupM (argC (op2 subD (varM 2) (op2 ixD (varM 9) (cM (.int 1)))) (argC (op2 subD (varM 2) (op2 ixD (varM 9) (cM (.int 0)))) (argC (varM 2) argN)))))) (retS (noSt (op2 eqD (callM F_law_moved (argC (callM F_law_mirrored (argC (varM 1) argN)) (argC (varM 11) argN))) (varM 10)))))))))))))))
def F_law_are_moves : Bag → List D → Option (D × Bag) := runB 12 m_law_are_moves
theorem c_law_are_moves {P : Program} {w : World} {K : Fg} {mg : Str → Option Value} {base : Heap} {T : List (Addr × Str)} {f : Addr} {fd : FuncData} {cd : Value} (hf : mg "_law_are_moves" = some (.ref f)) (Fc : FunC K "_law_are_moves" st_law_are_moves f fd cd) (g_len : mg "len" = none) (g_list : mg "list" = none) (g_sorted : mg "sorted" = none) (g_tuple : mg "tuple" = none) (C_law_fronted : CallF P w K mg base "_law_fronted" st_law_fronted ["row", "front"] 1 false F_law_fronted) (C_law_fronts : CallF P w K mg base "_law_fronts" st_law_fronts ["n"] 1 false F_law_fronts) (C_law_mirrored : CallF P w K mg base "_law_mirrored" st_law_mirrored ["row"] 1 false F_law_mirrored) (C_law_moved : CallF P w K mg base "_law_moved" st_law_moved ["row", "move"] 1 false F_law_moved) (C_law_order : CallG P w K mg base "_law_order" ["bag", "n"] 2 (spB K T 2 F_law_order)) (C_law_pick : CallG P w K mg base "_law_pick" ["bag", "some"] 2 (spB K T 2 F_law_pick)) (C_front_moved : CallF P w K mg base "front_moved" st_front_moved ["row", "front"] 1 false F_front_moved) (C_fronts_for : CallF P w K mg base "fronts_for" st_fronts_for ["move"] 1 false F_fronts_for) (C_moved : CallF P w K mg base "moved" st_moved ["row", "move"] 1 false F_moved) (C_is : IsC P w K mg base) (TO : TabOk base mg T cd ((("_law_are_moves" : Str) ++ ".<locals>.") ++ "<lambda>")) : CallG P w K mg base "_law_are_moves" ["bag", "row"] 5 (spB K T 2 F_law_are_moves) :=
  have Fn := Fc.fun
  ⟨f, fd, hf, Fc.kp, Fn.binds (ps := ["bag", "row"]) (fun _ _ _ _ _ _ us hl => match us, hl with | [_, _], _ => rfl), fnB (N := N_law_are_moves.tail) (ps := ["row"]) Fc sc_law_are_moves fun A outer s H E hr gd =>
    ss_cons (s_set 2 sc_law_are_moves.nd (e_q (q_callB cs_len rfl g_len rfl (a_consI (q_var 1) a_nil)))) (ss_cons (s_if (et_q (qt_cmp opS_lt (q_var 2) q_int (by first | exact nobehind _ (by decide) (by decide) | rfl))) (ss_one (s_ret (e_q q_bl))) ss_nil) (ss_cons (s_set 3 sc_law_are_moves.nd (e_callTy cs_tuple (by decide) rfl g_tuple rfl (ea_cons (e_callB (CallS.toI cs_sortedA) rfl g_sorted rfl (ea_cons (e_slice slS (e_bag 0 C_law_order hr gd rfl (ea_cons (e_q (q_op opS_add (q_var 2) q_int)) ea_nil) (lenBE (lenCE lenNE))) o_none (o_some q_int)) ea_nil)) ea_nil))) (ss_cons (s_asg (e_q (q_var 3)) (g_tup rfl (gs_cons (g_name 4 sc_law_are_moves.nd) (gs_cons (g_name 5 sc_law_are_moves.nd) (gs_cons (g_name 6 sc_law_are_moves.nd) gs_nil))))) (ss_cons (s_set 7 sc_law_are_moves.nd (e_q (q_if (qt_cmp (opS_eq (hr.units)) (q_var 4) q_int (by first | exact nobehind _ (by decide) (by decide) | rfl)) (q_tup (a_consI (q_tup (a_consI (q_var 5) (a_consI (q_var 6) a_nil))) a_nil)) (q_tup (a_consI (q_tup (a_consI (q_var 5) (a_consI (q_var 6) a_nil))) (a_consI (q_tup (a_consI (q_op opS_sub (q_var 6) (q_var 5)) (a_consI (q_op opS_add (q_op opS_sub (q_var 6) (q_var 5)) (q_var 4)) a_nil))) a_nil)))))) (ss_cons (s_if (et_not (et_val (e_is (k := 1) C_is TO hr gd rfl (e_q (q_var 7)) (by exact ⟨⟨_, _, _, _, _, rfl, by decide, LamX.lamS_by (sc := defScope st_law_are_moves) (by decide +kernel), rfl, fun _ _ _ _ _ => rfl, fun A outer s H f c' hr gd => q_call C_fronts_for hr rfl (a_consI (q_var 3) a_nil) (hl := (lenC lenN))⟩⟩) (by exact ⟨⟨_, _, _, _, _, rfl, by decide, LamX.lamS_by (sc := defScope st_law_are_moves) (by decide +kernel), rfl, fun _ _ _ _ _ => rfl, fun A outer s H f c' hr gd => q_callK (ks := ["move"]) (π := [0]) C_fronts_for (fun _ _ _ _ _ _ ws hl => match ws, hl with | [_], _ => rfl) hr rfl (k_cons (q_var 3) k_nil) (hl := (lenC lenN)) (hp := lenP (lenC lenN) (fun ds h => match ds, h with | [_], _ => rfl))⟩⟩)))) (ss_one (s_ret (e_q q_bl))) ss_nil) (ss_cons (s_set 8 sc_law_are_moves.nd (e_q (q_var 1))) (ss_cons (s_for rfl (ei_seq (e_q (q_var 7))) (g_name 9 sc_law_are_moves.nd) (ss_one (s_set 8 sc_law_are_moves.nd (e_q (q_call C_front_moved hr rfl (a_consI (q_var 8) (a_consI (q_var 9) a_nil)) (hl := (lenC (lenC lenN)))))))) (ss_cons (s_if (et_q (qw_t (qw_or (qt_cmp (opS_ne (hr.units)) (q_var 8) (q_call C_law_moved hr rfl (a_consI (q_var 1) (a_consI (q_var 3) a_nil)) (hl := (lenC (lenC lenN)))) (by first | exact nobehind _ (by decide) (by decide) | rfl)) (qw_or1 (qt_cmp (opS_ne (hr.units)) (q_call C_moved hr rfl (a_consI (q_var 1) (a_consI (q_var 3) a_nil)) (hl := (lenC (lenC lenN)))) (q_var 8) (by first | exact nobehind _ (by decide) (by decide) | rfl)))))) (ss_one (s_ret (e_q q_bl))) ss_nil) (ss_cons (s_set 9 sc_law_are_moves.nd (e_bag 0 C_law_pick hr gd rfl (ea_cons (e_q (q_callTy cs_list rfl g_list rfl (a_consI (q_call C_law_fronts hr rfl (a_consI (q_var 2) a_nil) (hl := (lenC lenN))) a_nil))) ea_nil) (lenBE (lenCE lenNE)))) (ss_cons (s_set 10 sc_law_are_moves.nd (e_q (q_call C_law_mirrored hr rfl (a_consI (q_call C_law_fronted hr rfl (a_consI (q_var 1) (a_consI (q_var 9) a_nil)) (hl := (lenC (lenC lenN)))) a_nil) (hl := (lenC lenN))))) (ss_cons (s_set 11 sc_law_are_moves.nd (e_q (q_tup (a_consI (q_op opS_sub (q_var 2) (q_ix ixS (q_var 9) q_int)) (a_consI (q_op opS_sub (q_var 2) (q_ix ixS (q_var 9) q_int)) (a_consI (q_var 2) a_nil)))))) (ss_one (s_ret (e_q (q_cmp (opS_eq (hr.units)) (q_call C_law_moved hr rfl (a_consI (q_call C_law_mirrored hr rfl (a_consI (q_var 1) a_nil) (hl := (lenC lenN))) (a_consI (q_var 11) a_nil)) (hl := (lenC (lenC lenN)))) (q_var 10) (by first | exact nobehind _ (by decide) (by decide) | rfl))))))))))))))))⟩
/-! ### easy_front_way -/
abbrev st_easy_front_way : Stmt := top 22
abbrev N_easy_front_way : List Str := ["row", "found", "n", "b", "c"]
theorem sc_easy_front_way : FnScope N_easy_front_way ["row"] (defScope st_easy_front_way) := ⟨rfl, rfl, rfl, by decide +kernel, rfl, by decide +kernel, by decide +kernel⟩
def m_easy_front_way : S → Option Fl := seqS (parG (apO (ownM (lstM argN)) (apI (noSt (callM lenD (argC (varM 0) argN))) apN)) (gpC (putPV 1) (gpC (putPV 2) gpN))) (seqS (whGo (noSt (tvM (op2 neD (varM 0) (callM F_plain_row (argC (varM 2) argN))))) (seqS (setS 3 (noSt (op2 ixD (callM F_front_gaps (argC (varM 0) argN)) (cM (.int 0))))) (seqS (setS 4 (noSt (ifM (tvM (op2 eqD (op2 ixD (varM 0) (op2 subD (varM 3) (cM (.int 1)))) (varM 2))) (varM 2) (methM (isSeq true) idxA (varM 0) (argC (op2 addD (op2 ixD (varM 0) (op2 subD (varM 3) (cM (.int 1)))) (cM (.int 1))) argN))))) (seqS (appS 1 (noSt (tupM (argC (varM 3) (argC (varM 4) argN))))) (setS 0 (noSt (callM F_front_moved (argC (varM 0) (argC (tupM (argC (varM 3) (argC (varM 4) argN))) argN)))))))) 1000) (retS (noSt (callM tupleD (argC (varR 1) argN)))))
def F_easy_front_way : List D → Option D := runF 5 m_easy_front_way
theorem c_easy_front_way {P : Program} {w : World} {K : Fg} {mg : Str → Option Value} {base : Heap} {T : List (Addr × Str)} {f : Addr} {fd : FuncData} {cd : Value} (hf : mg "easy_front_way" = some (.ref f)) (Fn : Fun K "easy_front_way" "easy_front_way" st_easy_front_way f fd) (g_len : mg "len" = none) (g_tuple : mg "tuple" = none) (C_front_gaps : CallF P w K mg base "front_gaps" st_front_gaps ["row"] 2 false F_front_gaps) (C_front_moved : CallF P w K mg base "front_moved" st_front_moved ["row", "front"] 1 false F_front_moved) (C_plain_row : CallF P w K mg base "plain_row" st_plain_row ["n"] 1 false F_plain_row) : CallF P w K mg base "easy_front_way" st_easy_front_way ["row"] 3 false F_easy_front_way :=
  ⟨f, fd, hf, Fn, Fn.binds (ps := ["row"]) (fun _ _ _ _ _ _ us hl => match us, hl with | [_], _ => rfl), fnF Fn sc_easy_front_way fun cdv A outer s H E hr =>
    ss_cons (s_par2 1 2 rfl sc_easy_front_way.nd (ap_o (eo_q (q_lst a_nil)) (ap_i (e_q (q_callB cs_len rfl g_len rfl (a_consI (q_var 0) a_nil))) ap_nil))) (ss_cons (s_while 1000 (et_q (qt_cmp (opS_ne (hr.units)) (q_var 0) (q_call C_plain_row hr rfl (a_consI (q_var 2) a_nil) (hl := (lenC lenN))) (by first | exact nobehind _ (by decide) (by decide) | rfl))) (ss_cons (s_set 3 sc_easy_front_way.nd (e_q (q_ix ixS (q_call C_front_gaps hr rfl (a_consI (q_var 0) a_nil) (hl := (lenC lenN))) q_int))) (ss_cons (s_set 4 sc_easy_front_way.nd (e_q (q_if (qt_cmp (opS_eq (hr.units)) (q_ix ixS (q_var 0) (q_op opS_sub (q_var 3) q_int)) (q_var 2) (by first | exact nobehind _ (by decide) (by decide) | rfl)) (q_var 2) (q_indexA rfl (units65 hr) (q_var 0) (a_consI (q_op opS_add (q_ix ixS (q_var 0) (q_op opS_sub (q_var 3) q_int)) q_int) a_nil))))) (ss_cons (s_append 1 (e_q (q_tup (a_consI (q_var 3) (a_consI (q_var 4) a_nil))))) (ss_one (s_set 0 sc_easy_front_way.nd (e_q (q_call C_front_moved hr rfl (a_consI (q_var 0) (a_consI (q_tup (a_consI (q_var 3) (a_consI (q_var 4) a_nil))) a_nil)) (hl := (lenC (lenC lenN))))))))))) (ss_one (s_ret (e_q (q_callTy cs_tuple rfl g_tuple rfl (a_consR (q_varR 1) a_nil))))))⟩
/-! ### law_is_easy -/
abbrev st_law_is_easy : Stmt := top 44
abbrev N_law_is_easy : List Str := ["row", "n", "found", "now", "turn", "gaps", "i", "b", "x", "front", "new"]
theorem sc_law_is_easy : FnScope N_law_is_easy ["row"] (defScope st_law_is_easy) := ⟨rfl, rfl, rfl, by decide +kernel, rfl, by decide +kernel, by decide +kernel⟩
def m_law_is_easy : S → Option Fl := seqS (parG (apI (noSt (callM lenD (argC (varM 0) argN))) (apO (ownM (lstM argN)) (apI (noSt (varM 0)) apN))) (gpC (putPV 1) (gpC (putPV 2) (gpC (putPV 3) gpN)))) (seqS (forS (rng1E (argCE (noSt (op2 mulD (cM (.int 2)) (varM 1))) argNE)) (putM 4) (seqS (setS 5 (noSt (lcM [6] (seqM (callM F_law_open (argC (varM 3) argN))) (putM 6) (tvM (op2 gtD (varM 6) (cM (.int 0)))) (varM 6)))) (seqS (ifS (noSt (tvM (op2 eqD (varM 5) (lstM argN)))) bkM nxM) (seqS (parS 7 8 (argCE (noSt (op2 ixD (varM 5) (cM (.int 0)))) (argCE (noSt (op2 ixD (varM 3) (op2 subD (op2 ixD (varM 5) (cM (.int 0))) (cM (.int 1))))) argNE))) (seqS (setS 9 (noSt (tupM (argC (varM 7) (argC (ifM (tvM (op2 eqD (varM 8) (varM 1))) (varM 1) (methM (isSeq true) idxA (varM 3) (argC (op2 addD (varM 8) (cM (.int 1))) argN))) argN))))) (seqS (appS 2 (noSt (varM 9))) (seqS (setS 10 (noSt (callM F_law_fronted (argC (varM 3) (argC (varM 9) argN))))) (seqS (ifS (noSt (tvM (op2 (inD true) (callM lenD (argC (lcM [6] (seqM (callM F_law_open (argC (varM 10) argN))) (putM 6) (tvM (op2 gtD (varM 6) (cM (.int 0)))) (varM 6)) argN)) (tupM (argC (op2 subD (callM lenD (argC (varM 5) argN)) (cM (.int 1))) (argC (op2 subD (callM lenD (argC (varM 5) argN)) (cM (.int 2))) argN)))))) (retS (noSt (cM (.bool false)))) nxM) (setS 3 (noSt (varM 10))))))))))) (seqS (ifS (noSt (tvM (op2 gtD (callM lenD (argC (varR 2) argN)) (op2 ixD (callM F_front_bounds (argC (varM 0) argN)) (cM (.int 1)))))) (retS (noSt (cM (.bool false)))) nxM) (retS (isM (noSt (callM tupleD (argC (varR 2) argN))) (callM F_easy_front_way (argC (varM 0) argN)) (callM (fun ds => F_easy_front_way (perm [0] ds)) (argC (varM 0) argN))))))
def F_law_is_easy : List D → Option D := runT 11 m_law_is_easy
theorem c_law_is_easy {P : Program} {w : World} {K : Fg} {mg : Str → Option Value} {base : Heap} {T : List (Addr × Str)} {f : Addr} {fd : FuncData} {cd : Value} (hf : mg "_law_is_easy" = some (.ref f)) (Fc : FunC K "_law_is_easy" st_law_is_easy f fd cd) (g_len : mg "len" = none) (g_range : mg "range" = none) (g_tuple : mg "tuple" = none) (C_law_fronted : CallF P w K mg base "_law_fronted" st_law_fronted ["row", "front"] 1 false F_law_fronted) (C_law_open : CallF P w K mg base "_law_open" st_law_open ["row"] 2 false F_law_open) (C_easy_front_way : CallF P w K mg base "easy_front_way" st_easy_front_way ["row"] 3 false F_easy_front_way) (C_front_bounds : CallF P w K mg base "front_bounds" st_front_bounds ["row"] 4 false F_front_bounds) (C_is : IsC P w K mg base) (TO : TabOk base mg T cd ((("_law_is_easy" : Str) ++ ".<locals>.") ++ "<lambda>")) : CallG P w K mg base "_law_is_easy" ["row"] 7 (spT K T 1 F_law_is_easy) :=
  have Fn := Fc.fun
  ⟨f, fd, hf, Fc.kp, Fn.binds (ps := ["row"]) (fun _ _ _ _ _ _ us hl => match us, hl with | [_], _ => rfl), fnT Fc sc_law_is_easy fun A outer s H E hr gd =>
    ss_cons (s_par3 1 2 3 rfl sc_law_is_easy.nd (ap_i (e_q (q_callB cs_len rfl g_len rfl (a_consI (q_var 0) a_nil))) (ap_o (eo_q (q_lst a_nil)) (ap_i (e_q (q_var 0)) ap_nil)))) (ss_cons (s_for rfl (ei_rng1 rfl g_range (ea_cons (e_q (q_op opS_mul q_int (q_var 1))) ea_nil)) (g_name 4 sc_law_is_easy.nd) (ss_cons ((s_setLc 5 (own := [("i", 6)]) rfl sc_law_is_easy.nd (qi_seq (q_call C_law_open hr rfl (a_consI (q_var 3) a_nil) (hl := (lenC lenN)))) (blkOk_by (N := N_law_is_easy) (sc := defScope st_law_is_easy) (by decide +kernel)) (fun _ _ _ _ _ => g_name 6 sc_law_is_easy.nd) (fun _ _ _ _ _ => pts_q (qt_cmp opS_gt (q_var 6) q_int (by first | exact nobehind _ (by decide) (by decide) | rfl))) (fun _ _ _ _ _ => q_var 6))) (ss_cons (s_if (et_q (qt_cmp (opS_eq (hr.units)) (q_var 5) (q_lst a_nil) (by first | exact nobehind _ (by decide) (by decide) | rfl))) (ss_one s_break) ss_nil) (ss_cons (s_par 7 8 rfl sc_law_is_easy.nd (ea_cons (e_q (q_ix ixS (q_var 5) q_int)) (ea_cons (e_q (q_ix ixS (q_var 3) (q_op opS_sub (q_ix ixS (q_var 5) q_int) q_int))) ea_nil))) (ss_cons (s_set 9 sc_law_is_easy.nd (e_q (q_tup (a_consI (q_var 7) (a_consI (q_if (qt_cmp (opS_eq (hr.units)) (q_var 8) (q_var 1) (by first | exact nobehind _ (by decide) (by decide) | rfl)) (q_var 1) (q_indexA rfl (units65 hr) (q_var 3) (a_consI (q_op opS_add (q_var 8) q_int) a_nil))) a_nil))))) (ss_cons (s_append 2 (e_q (q_var 9))) (ss_cons (s_set 10 sc_law_is_easy.nd (e_q (q_call C_law_fronted hr rfl (a_consI (q_var 3) (a_consI (q_var 9) a_nil)) (hl := (lenC (lenC lenN)))))) (ss_cons (s_if (et_q (qt_cmp (opS_notIn (units65 hr)) (q_callB cs_len rfl g_len rfl (a_consI ((q_lc (own := [("i", 6)]) rfl sc_law_is_easy.nd (qi_seq (q_call C_law_open hr rfl (a_consI (q_var 10) a_nil) (hl := (lenC lenN)))) (blkOk_by (N := N_law_is_easy) (sc := defScope st_law_is_easy) (by decide +kernel)) (fun _ _ _ _ _ => g_name 6 sc_law_is_easy.nd) (fun _ _ _ _ _ => pts_q (qt_cmp opS_gt (q_var 6) q_int (by first | exact nobehind _ (by decide) (by decide) | rfl))) (fun _ _ _ _ _ => q_var 6))) a_nil)) (q_tup (a_consI (q_op opS_sub (q_callB cs_len rfl g_len rfl (a_consI (q_var 5) a_nil)) q_int) (a_consI (q_op opS_sub (q_callB cs_len rfl g_len rfl (a_consI (q_var 5) a_nil)) q_int) a_nil))) (by first | exact nobehind _ (by decide) (by decide) | rfl))) (ss_one (s_ret (e_q q_bl))) ss_nil) (ss_one (s_set 3 sc_law_is_easy.nd (e_q (q_var 10)))))))))))) (ss_cons (s_if (et_q (qt_cmp opS_gt (q_callB cs_len rfl g_len rfl (a_consR (q_varR 2) a_nil)) (q_ix ixS (q_call C_front_bounds hr rfl (a_consI (q_var 0) a_nil) (hl := (lenC lenN))) q_int) (by first | exact nobehind _ (by decide) (by decide) | rfl))) (ss_one (s_ret (e_q q_bl))) ss_nil) (ss_one (s_ret (e_is (k := 3) C_is TO hr gd rfl (e_q (q_callTy cs_tuple rfl g_tuple rfl (a_consR (q_varR 2) a_nil))) (by exact ⟨⟨_, _, _, _, _, rfl, by decide, LamX.lamS_by (sc := defScope st_law_is_easy) (by decide +kernel), rfl, fun _ _ _ _ _ => rfl, fun A outer s H f c' hr gd => q_call C_easy_front_way hr rfl (a_consI (q_var 0) a_nil) (hl := (lenC lenN))⟩⟩) (by exact ⟨⟨_, _, _, _, _, rfl, by decide, LamX.lamS_by (sc := defScope st_law_is_easy) (by decide +kernel), rfl, fun _ _ _ _ _ => rfl, fun A outer s H f c' hr gd => q_callK (ks := ["row"]) (π := [0]) C_easy_front_way (fun _ _ _ _ _ _ ws hl => match ws, hl with | [_], _ => rfl) hr rfl (k_cons (q_var 0) k_nil) (hl := (lenC lenN)) (hp := lenP (lenC lenN) (fun ds h => match ds, h with | [_], _ => rfl))⟩⟩))))))⟩
/-! ### law_own_bag -/
abbrev st_law_own_bag : Stmt := top 28
abbrev N_law_own_bag : List Str := ["script", "cells", "cell", "mixed"]
theorem sc_law_own_bag : FnScope N_law_own_bag ["script"] (defScope st_law_own_bag) := ⟨rfl, rfl, rfl, by decide +kernel, rfl, by decide +kernel, by decide +kernel⟩
-- m: seqS (setS 1 (noSt (lcM [2] (seqM (scrM 0 63)) (putM 2) yesM (op2 modD (callM absD (argC (callM int1D (argC (varM 2) argN)) argN)) (op2 powD (cM (.int 10)) (cM (.int 64))))))) (seqS (setS 3 (noSt (op2 addD (cM (.int 1752)) (callM lenD (argC (varM 1) argN))))) (seqS (forS (seqE (noSt (varM 1))) (putM 2) (setS 3 (noSt (op2 modD (callM int1D (argC (op2 addD (op2 addD (op2 mulD (varM 3) (cM (.int 48271))) (op2 modD (callM int1D (argC (varM 2) argN)) (cM (.int 2147483629)))) (cM (.int 7))) argN)) (cM (.int 2147483647)))))) (retO (ownM (lstM (argC (op1 revD (callM listD (argC (varM 1) argN))) (argC (cM (.int 0)) (argC (varM 3) argN))))))))
theorem c_law_own_bag {P : Program} {w : World} {K : Fg} {mg : Str → Option Value} {base : Heap} {T : List (Addr × Str)} {f : Addr} {fd : FuncData} {cd : Value} (hf : mg "_law_own_bag" = some (.ref f)) (Fn : Fun K "_law_own_bag" "_law_own_bag" st_law_own_bag f fd) (g_abs : mg "abs" = none) (g_int : mg "int" = none) (g_len : mg "len" = none) (g_list : mg "list" = none) (g_reversed : mg "reversed" = none) : CallG P w K mg base "_law_own_bag" ["script"] 2 (spO K) :=
  ⟨f, fd, hf, Fn.kp, Fn.binds (ps := ["script"]) (fun _ _ _ _ _ _ us hl => match us, hl with | [_], _ => rfl), fnO (k := 1) (n := 1752) (N := N_law_own_bag) (by decide) (by decide) Fn sc_law_own_bag rfl fun cdv A outer s H E hr =>
    ss_cons ((s_setLc 1 (own := [("cell", 2)]) rfl sc_law_own_bag.nd (qi_seq (q_scr 0 (j := 63))) (blkOk_by (N := N_law_own_bag) (sc := defScope st_law_own_bag) (by decide +kernel)) (fun _ _ _ _ _ => g_name 2 sc_law_own_bag.nd) (fun _ _ _ _ _ => pts_yes) (fun _ _ _ _ _ => q_op opS_mod (q_callB cs_abs rfl g_abs rfl (a_consI (q_callTy cs_int rfl g_int rfl (a_consI (q_var 2) a_nil)) a_nil)) (q_op opS_pow q_int q_int)))) (ss_cons (s_set 3 sc_law_own_bag.nd (e_q (q_op opS_add q_int (q_callB cs_len rfl g_len rfl (a_consI (q_var 1) a_nil))))) (ss_cons (s_for rfl (ei_seq (e_q (q_var 1))) (g_name 2 sc_law_own_bag.nd) (ss_one (s_set 3 sc_law_own_bag.nd (e_q (q_op opS_mod (q_callTy cs_int rfl g_int rfl (a_consI (q_op opS_add (q_op opS_add (q_op opS_mul (q_var 3) q_int) (q_op opS_mod (q_callTy cs_int rfl g_int rfl (a_consI (q_var 2) a_nil)) q_int)) q_int) a_nil)) q_int))))) (ss_one (s_retO (eo_q (q_lst (a_consI (q_lstRev rfl rfl g_list rfl g_reversed (q_callTy cs_list rfl g_list rfl (a_consI (q_var 1) a_nil))) (a_consI q_int (a_consI (q_var 3) a_nil)))))))))⟩
/-! ### law_plain_row -/
abbrev st_law_plain_row : Stmt := top 35
abbrev N_law_plain_row : List Str := ["bag", "n", "x", "row", "turn", "a", "b"]
theorem sc_law_plain_row : FnScope N_law_plain_row ["bag", "n"] (defScope st_law_plain_row) := ⟨rfl, rfl, rfl, by decide +kernel, rfl, by decide +kernel, by decide +kernel⟩
def m_law_plain_row : S → Option Fl := seqS (ifS (tvE (op2E eqD (callB 0 F_law_draw (argCE (noSt (cM (.int 2))) argNE)) (noSt (cM (.int 0))))) (retS (callE tupleD (argCE (lstV (lcS [2] (seqE (callB 0 F_law_order (argCE (noSt (varM 1)) argNE))) (putM 2) yesM (op2 addD (varM 2) (cM (.int 1))))) argNE))) nxM) (seqS (setO 3 (ownM (rgL2 (cM (.int 1)) (op2 addD (varM 1) (cM (.int 1)))))) (seqS (forS (rng1E (argCE (callB 0 F_law_draw (argCE (noSt (cM (.int 4))) argNE)) argNE)) (putM 4) (seqS (parS 5 6 (argCE (callB 0 F_law_draw (argCE (noSt (varM 1)) argNE)) (argCE (callB 0 F_law_draw (argCE (noSt (varM 1)) argNE)) argNE))) (parG (apI (noSt (op2 ixD (varR 3) (varM 6))) (apI (noSt (op2 ixD (varR 3) (varM 5))) apN)) (gpC (gpIx 3 (varM 5)) (gpC (gpIx 3 (varM 6)) gpN))))) (retS (noSt (callM tupleD (argC (varR 3) argN))))))
def F_law_plain_row : Bag → List D → Option (D × Bag) := runB 7 m_law_plain_row
theorem c_law_plain_row {P : Program} {w : World} {K : Fg} {mg : Str → Option Value} {base : Heap} {T : List (Addr × Str)} {f : Addr} {fd : FuncData} {cd : Value} (hf : mg "_law_plain_row" = some (.ref f)) (Fc : FunC K "_law_plain_row" st_law_plain_row f fd cd) (g_list : mg "list" = none) (g_range : mg "range" = none) (g_tuple : mg "tuple" = none) (C_law_draw : CallG P w K mg base "_law_draw" ["bag", "below"] 1 (spB K T 2 F_law_draw)) (C_law_order : CallG P w K mg base "_law_order" ["bag", "n"] 2 (spB K T 2 F_law_order)) : CallG P w K mg base "_law_plain_row" ["bag", "n"] 3 (spB K T 2 F_law_plain_row) :=
  have Fn := Fc.fun
  ⟨f, fd, hf, Fc.kp, Fn.binds (ps := ["bag", "n"]) (fun _ _ _ _ _ _ us hl => match us, hl with | [_, _], _ => rfl), fnB (N := N_law_plain_row.tail) (ps := ["n"]) Fc sc_law_plain_row fun A outer s H E hr gd =>
    ss_cons (s_if (et_cmp (opS_eq (hr.units)) (e_bag 0 C_law_draw hr gd rfl (ea_cons (e_q q_int) ea_nil) (lenBE (lenCE lenNE))) (e_q q_int) (by first | exact nobehind _ (by decide) (by decide) | rfl)) (ss_one (s_ret (e_callTy cs_tuple (by decide) rfl g_tuple rfl (ea_cons (e_eo ((eo_lcS (own := [("x", 2)]) rfl sc_law_plain_row.nd (ei_seq (e_bag 0 C_law_order hr gd rfl (ea_cons (e_q (q_var 1)) ea_nil) (lenBE (lenCE lenNE)))) (blkOk_by (N := N_law_plain_row) (sc := defScope st_law_plain_row) (by decide +kernel)) (fun _ _ _ _ _ => g_name 2 sc_law_plain_row.nd) (fun _ _ _ _ _ => pts_yes) (fun _ _ _ _ _ => q_op opS_add (q_var 2) q_int)))) ea_nil)))) ss_nil) (ss_cons (s_setO 3 sc_law_plain_row.nd (eo_q (q_rgL2 rfl rfl g_list rfl g_range q_int (q_op opS_add (q_var 1) q_int)))) (ss_cons (s_for rfl (ei_rng1 rfl g_range (ea_cons (e_bag 0 C_law_draw hr gd rfl (ea_cons (e_q q_int) ea_nil) (lenBE (lenCE lenNE))) ea_nil)) (g_name 4 sc_law_plain_row.nd) (ss_cons (s_par 5 6 rfl sc_law_plain_row.nd (ea_cons (e_bag 0 C_law_draw hr gd rfl (ea_cons (e_q (q_var 1)) ea_nil) (lenBE (lenCE lenNE))) (ea_cons (e_bag 0 C_law_draw hr gd rfl (ea_cons (e_q (q_var 1)) ea_nil) (lenBE (lenCE lenNE))) ea_nil))) (ss_one (s_parT rfl (ap_i (e_q (q_ix ixS (q_varR 3) (q_var 6))) (ap_i (e_q (q_ix ixS (q_varR 3) (q_var 5))) ap_nil)) (gp_cons (gp_ix 3 (q_var 5)) (gp_cons (gp_ix 3 (q_var 6)) gp_nil)) (apI_len (apI_len apN_len)))))) (ss_one (s_ret (e_q (q_callTy cs_tuple rfl g_tuple rfl (a_consR (q_varR 3) a_nil)))))))⟩
/-! ### law -/
abbrev st_law : Stmt := top 47
abbrev N_law : List Str := ["script", "bag", "turn", "row", "kept"]
theorem sc_law : FnScope N_law ["script"] (defScope st_law) := ⟨rfl, rfl, rfl, by decide +kernel, rfl, by decide +kernel, by decide +kernel⟩
def m_law : S → Option Fl := seqS (forS (rng1E (argCE (noSt (cM (.int 3))) argNE)) (putM 2) (seqS (setS 3 (callB 1 F_law_plain_row (argCE (op2E addD (noSt (cM (.int 1))) (callB 1 F_law_draw (argCE (noSt (cM (.int 8))) argNE))) argNE))) (seqS (setS 4 (noSt (callM reprD (argC (varM 3) argN)))) (seqS (ifS (orE (notE (tvE (callB 1 F_law_are_fronts (argCE (noSt (varM 3)) argNE)))) (orE (notE (tvE (callT F_law_is_easy (argCE (noSt (varM 3)) argNE)))) (notE (tvE (callB 1 F_law_are_moves (argCE (noSt (varM 3)) argNE)))))) (retS (noSt (cM (.bool false)))) nxM) (ifS (orE (notE (tvE (callB 1 F_law_are_errors (argCE (noSt (callM lenD (argC (varM 3) argN))) argNE)))) (noSt (tvM (op2 neD (callM reprD (argC (varM 3) argN)) (varM 4))))) (retS (noSt (cM (.bool false)))) nxM))))) (retS (noSt (cM (.bool true))))
theorem f_law {P : Program} {w : World} {K : Fg} {mg : Str → Option Value} {base : Heap} {T : List (Addr × Str)} {f : Addr} {fd : FuncData} {cd : Value} (Fc : FunC K "law" st_law f fd cd) (CO : CallG P w K mg base "_law_own_bag" ["script"] 2 (spO K)) (g_len : mg "len" = none) (g_range : mg "range" = none) (g_repr : mg "repr" = none) (C_law_are_errors : CallG P w K mg base "_law_are_errors" ["bag", "n"] 6 (spB K T 2 F_law_are_errors)) (C_law_are_fronts : CallG P w K mg base "_law_are_fronts" ["bag", "row"] 8 (spB K T 2 F_law_are_fronts)) (C_law_are_moves : CallG P w K mg base "_law_are_moves" ["bag", "row"] 5 (spB K T 2 F_law_are_moves)) (C_law_draw : CallG P w K mg base "_law_draw" ["bag", "below"] 1 (spB K T 2 F_law_draw)) (C_law_is_easy : CallG P w K mg base "_law_is_easy" ["row"] 7 (spT K T 1 F_law_is_easy)) (C_law_plain_row : CallG P w K mg base "_law_plain_row" ["bag", "n"] 3 (spB K T 2 F_law_plain_row)) (ok : ∀ b : Bag, OkB b → ∃ s', m_law (.un :: .bag b :: List.replicate 3 .un) = some (.rt (.bool true) s')) : FnG P w K mg base 9 f fd ["script"] (spL K T) :=
  fnL (k := 6) (n := 3) (N := N_law.tail.tail) Fc sc_law rfl rfl CO (fun A outer s H E hr gd =>
    ss_cons (s_for rfl (ei_rng1 rfl g_range (ea_cons (e_q q_int) ea_nil)) (g_name 2 sc_law.nd) (ss_cons (s_set 3 sc_law.nd (e_bag 1 C_law_plain_row hr gd rfl (ea_cons (e_op opS_add (e_q q_int) (e_bag 1 C_law_draw hr gd rfl (ea_cons (e_q q_int) ea_nil) (lenBE (lenCE lenNE)))) ea_nil) (lenBE (lenCE lenNE)))) (ss_cons (s_set 4 sc_law.nd (e_q (q_callB (cs_repr gd (hr.units)) rfl g_repr rfl (a_consI (q_var 3) a_nil)))) (ss_cons (s_if (ew_t (ew_or (et_not (et_val (e_bag 1 C_law_are_fronts hr gd rfl (ea_cons (e_q (q_var 3)) ea_nil) (lenBE (lenCE lenNE))))) (ew_or (et_not (et_val (e_callT C_law_is_easy hr gd rfl (ea_cons (e_q (q_var 3)) ea_nil) (lenCE lenNE)))) (ew_or1 (et_not (et_val (e_bag 1 C_law_are_moves hr gd rfl (ea_cons (e_q (q_var 3)) ea_nil) (lenBE (lenCE lenNE))))))))) (ss_one (s_ret (e_q q_bl))) ss_nil) (ss_one (s_if (ew_t (ew_or (et_not (et_val (e_bag 1 C_law_are_errors hr gd rfl (ea_cons (e_q (q_callB cs_len rfl g_len rfl (a_consI (q_var 3) a_nil))) ea_nil) (lenBE (lenCE lenNE))))) (ew_or1 (et_q (qt_cmp (opS_ne (hr.units)) (q_callB (cs_repr gd (hr.units)) rfl g_repr rfl (a_consI (q_var 3) a_nil)) (q_var 4) (by first | exact nobehind _ (by decide) (by decide) | rfl)))))) (ss_one (s_ret (e_q q_bl))) ss_nil)))))) (ss_one (s_ret (e_q q_bl)))) rfl (.inl rfl) (.inl rfl) ok
end Y

namespace Y
/-! ## iterates, orbits -/
def itr (f : Nat → Nat) : Nat → Nat → Nat
  | 0, x => x
  | k + 1, x => itr f k (f x)
theorem itr_add (f : Nat → Nat) : ∀ (j k x : Nat), itr f (j + k) x = itr f k (itr f j x)
  | 0, k, x => by rw [Nat.zero_add]; rfl
  | j + 1, k, x => by rw [Nat.succ_add]; exact itr_add f j k (f x)
theorem itr_succ (f : Nat → Nat) (k x : Nat) : itr f (k + 1) x = f (itr f k x) := itr_add f k 1 x
/-- a permutation of the numbers of a list -/
structure PermOn (L : List Nat) (f : Nat → Nat) : Prop where
  nd : L.Nodup
  mem : ∀ x, x ∈ L → f x ∈ L
  inj : ∀ x y, x ∈ L → y ∈ L → f x = f y → x = y
theorem nodup_le {l : List Nat} : ∀ {L : List Nat}, l.Nodup → (∀ x, x ∈ l → x ∈ L) → l.length ≤ L.length := by
  induction l with
  | nil => intro L _ _; exact Nat.zero_le _
  | cons a l ih =>
    intro L nd h
    have nd' := List.nodup_cons.mp nd
    have ha : a ∈ L := h a List.mem_cons_self
    have := ih (L := L.erase a) nd'.2 fun x hx => (List.mem_erase_of_ne fun z => nd'.1 (by rw [← z]; exact hx)).mpr (h x (List.mem_cons_of_mem _ hx))
    rw [List.length_erase_of_mem ha] at this
    have : 0 < L.length := List.length_pos_of_mem ha
    rw [List.length_cons]
    omega
section
variable {L : List Nat} {f : Nat → Nat} (P : PermOn L f)
include P
theorem itr_mem {x : Nat} (hx : x ∈ L) : ∀ k, itr f k x ∈ L
  | 0 => hx
  | k + 1 => by rw [itr_succ]; exact P.mem _ (itr_mem hx k)
theorem itr_inj {x y : Nat} (hx : x ∈ L) (hy : y ∈ L) : ∀ k, itr f k x = itr f k y → x = y
  | 0, h => h
  | k + 1, h => by
    rw [itr_succ, itr_succ] at h
    exact itr_inj hx hy k (P.inj _ _ (itr_mem P hx k) (itr_mem P hy k) h)
theorem period {x : Nat} (hx : x ∈ L) : ∃ p, 0 < p ∧ itr f p x = x := by
  apply Classical.byContradiction
  intro no
  have nd : ∀ n, ((List.range n).map fun k => itr f k x).Nodup := by
    intro n
    induction n with
    | zero => exact List.nodup_nil
    | succ n ih =>
      rw [List.range_succ, List.map_append, List.map_cons, List.map_nil]
      rw [List.nodup_append]
      refine ⟨ih, by simp, fun a ha b hb => ?_⟩
      obtain ⟨j, hj, rfl⟩ := List.mem_map.mp ha
      rw [List.mem_singleton.mp hb]
      have hj := List.mem_range.mp hj
      intro e
      refine no ⟨n - j, by omega, ?_⟩
      have : itr f j (itr f (n - j) x) = itr f j x := by rw [← itr_add, show n - j + j = n by omega]; exact e.symm
      exact itr_inj P (itr_mem P hx _) hx j this
  have := nodup_le (nd (L.length + 1)) (L := L) fun y hy => by
    obtain ⟨k, _, rfl⟩ := List.mem_map.mp hy
    exact itr_mem P hx k
  rw [List.length_map, List.length_range] at this
  omega
theorem period_mul {x p : Nat} (h : itr f p x = x) : ∀ m, itr f (p * m) x = x
  | 0 => rfl
  | m + 1 => by rw [Nat.mul_succ, itr_add, period_mul h m, h]
end
/-- in one round -/
def Eqv (f : Nat → Nat) (x y : Nat) : Prop := ∃ j k, itr f j x = itr f k y
theorem Eqv.refl (f : Nat → Nat) (x : Nat) : Eqv f x x := ⟨0, 0, rfl⟩
theorem Eqv.symm {f : Nat → Nat} {x y : Nat} (h : Eqv f x y) : Eqv f y x := let ⟨j, k, e⟩ := h; ⟨k, j, e.symm⟩
theorem Eqv.trans {f : Nat → Nat} {x y z : Nat} (h : Eqv f x y) (g : Eqv f y z) : Eqv f x z := by
  obtain ⟨j, k, e⟩ := h
  obtain ⟨l, m, e2⟩ := g
  exact ⟨j + l, m + k, by rw [itr_add, e, ← itr_add, Nat.add_comm, itr_add, e2, ← itr_add]⟩
theorem Eqv.step (f : Nat → Nat) (x : Nat) : Eqv f x (f x) := ⟨1, 0, rfl⟩
theorem Eqv.reach {L : List Nat} {f : Nat → Nat} (P : PermOn L f) {x y : Nat} (hy : y ∈ L) (h : Eqv f x y) : ∃ k, itr f k x = y := by
  obtain ⟨i, j, e⟩ := h
  obtain ⟨p, p0, hp⟩ := period P hy
  refine ⟨i + (p * j - j), ?_⟩
  have : j ≤ p * j := Nat.le_mul_of_pos_left j p0
  rw [itr_add, e, ← itr_add, show j + (p * j - j) = p * j by omega]
  exact period_mul P hp j
theorem least {Q : Nat → Prop} {k : Nat} (h : Q k) : ∃ k, Q k ∧ ∀ j, j < k → ¬ Q j := by
  have : ∀ n, ∀ k, k ≤ n → Q k → ∃ k, Q k ∧ ∀ j, j < k → ¬ Q j := by
    intro n
    induction n with
    | zero => intro k hk q; exact ⟨k, q, fun j hj => by omega⟩
    | succ n ih =>
      intro k hk q
      by_cases c : ∃ j, j < k ∧ Q j
      · obtain ⟨j, hj, qj⟩ := c
        exact ih j (by omega) qj
      · exact ⟨k, q, fun j hj qj => c ⟨j, hj, qj⟩⟩
  exact this k k (Nat.le_refl _) h
/-- one of each round -/
structure Trv (L : List Nat) (f : Nat → Nat) (T : List Nat) : Prop where
  nd : T.Nodup
  sub : ∀ t, t ∈ T → t ∈ L
  all : ∀ x, x ∈ L → ∃ t, t ∈ T ∧ Eqv f x t
  one : ∀ t u, t ∈ T → u ∈ T → Eqv f t u → t = u
theorem map_nodup {g : Nat → Nat} : ∀ {l : List Nat}, l.Nodup → (∀ x y, x ∈ l → y ∈ l → g x = g y → x = y) → (l.map g).Nodup
  | [], _, _ => List.nodup_nil
  | a :: l, h, i => by
    have h' := List.nodup_cons.mp h
    rw [List.map_cons, List.nodup_cons]
    refine ⟨fun m => ?_, map_nodup h'.2 fun x y hx hy => i x y (List.mem_cons_of_mem _ hx) (List.mem_cons_of_mem _ hy)⟩
    obtain ⟨b, hb, e⟩ := List.mem_map.mp m
    exact h'.1 (i b a (List.mem_cons_of_mem _ hb) List.mem_cons_self e ▸ hb)
theorem Trv.le {L : List Nat} {f : Nat → Nat} {T U : List Nat} (t : Trv L f T) (u : Trv L f U) : T.length ≤ U.length := by
  have ch : ∀ x, ∃ y, x ∈ T → y ∈ U ∧ Eqv f x y := fun x => by
    by_cases h : x ∈ T
    · obtain ⟨y, h1, h2⟩ := u.all x (t.sub x h)
      exact ⟨y, fun _ => ⟨h1, h2⟩⟩
    · exact ⟨0, fun z => absurd z h⟩
  let g := fun x => Classical.choose (ch x)
  have hg : ∀ x, x ∈ T → g x ∈ U ∧ Eqv f x (g x) := fun x => Classical.choose_spec (ch x)
  have := nodup_le (l := T.map g) (L := U) (map_nodup t.nd fun x y hx hy e => t.one x y hx hy ((hg x hx).2.trans (by rw [e]; exact (hg y hy).2.symm))) fun y hy => by
    obtain ⟨x, hx, rfl⟩ := List.mem_map.mp hy
    exact (hg x hx).1
  rwa [List.length_map] at this
theorem Trv.len {L : List Nat} {f : Nat → Nat} {T U : List Nat} (t : Trv L f T) (u : Trv L f U) : T.length = U.length := Nat.le_antisymm (t.le u) (u.le t)
theorem Trv.ex (f : Nat → Nat) : ∀ (L : List Nat), L.Nodup → ∃ T, Trv L f T
  | [], _ => ⟨[], List.nodup_nil, fun t h => (by cases h), fun x h => (by cases h), fun t u h => (by cases h)⟩
  | a :: L, h => by
    have h' := List.nodup_cons.mp h
    obtain ⟨T, t⟩ := Trv.ex f L h'.2
    by_cases c : ∃ u, u ∈ T ∧ Eqv f a u
    · obtain ⟨u, hu, e⟩ := c
      refine ⟨T, t.nd, fun x hx => List.mem_cons_of_mem _ (t.sub x hx), fun x hx => ?_, t.one⟩
      rcases List.mem_cons.mp hx with rfl | hx
      · exact ⟨u, hu, e⟩
      · exact t.all x hx
    · refine ⟨a :: T, List.nodup_cons.mpr ⟨fun z => c ⟨a, z, Eqv.refl f a⟩, t.nd⟩, fun x hx => ?_, fun x hx => ?_, fun x y hx hy e => ?_⟩
      · rcases List.mem_cons.mp hx with rfl | hx
        · exact List.mem_cons_self
        · exact List.mem_cons_of_mem _ (t.sub x hx)
      · rcases List.mem_cons.mp hx with rfl | hx
        · exact ⟨x, List.mem_cons_self, Eqv.refl f x⟩
        · obtain ⟨u, hu, e⟩ := t.all x hx
          exact ⟨u, List.mem_cons_of_mem _ hu, e⟩
      · rcases List.mem_cons.mp hx with zx | zx
        · rcases List.mem_cons.mp hy with zy | zy
          · rw [zx, zy]
          · exact absurd ⟨y, zy, zx ▸ e⟩ c
        · rcases List.mem_cons.mp hy with zy | zy
          · exact absurd ⟨x, zx, (zy ▸ e).symm⟩ c
          · exact t.one x y zx zy e
/-- how many rounds: any number that some choice has -/
def Rnd (L : List Nat) (f : Nat → Nat) (c : Nat) : Prop := ∃ T, Trv L f T ∧ T.length = c
theorem Rnd.uniq {L : List Nat} {f : Nat → Nat} {c d : Nat} (h : Rnd L f c) (g : Rnd L f d) : c = d := by
  obtain ⟨T, t, rfl⟩ := h
  obtain ⟨U, u, rfl⟩ := g
  exact t.len u
theorem Rnd.ex {L : List Nat} (f : Nat → Nat) (h : L.Nodup) : ∃ c, Rnd L f c := let ⟨T, t⟩ := Trv.ex f L h; ⟨T.length, T, t, rfl⟩
/-- two maps that are the same but for the names -/
theorem Rnd.led {L M : List Nat} {f g : Nat → Nat} {φ : Nat → Nat} {c : Nat} (h : Rnd L f c) (hm : ∀ x, x ∈ L → φ x ∈ M) (hi : ∀ x y, x ∈ L → y ∈ L → φ x = φ y → x = y) (hs : ∀ y, y ∈ M → ∃ x, x ∈ L ∧ φ x = y) (hf : ∀ x, x ∈ L → f x ∈ L) (e : ∀ x, x ∈ L → g (φ x) = φ (f x)) : Rnd M g c := by
  obtain ⟨T, t, rfl⟩ := h
  have it : ∀ k x, x ∈ L → itr g k (φ x) = φ (itr f k x) ∧ itr f k x ∈ L := by
    intro k
    induction k with
    | zero => intro x hx; exact ⟨rfl, hx⟩
    | succ k ih =>
      intro x hx
      have := ih (f x) (hf x hx)
      exact ⟨by show itr g k (g (φ x)) = φ (itr f k (f x)); rw [e x hx]; exact this.1, this.2⟩
  refine ⟨T.map φ, ⟨map_nodup t.nd fun x y hx hy => hi x y (t.sub x hx) (t.sub y hy), fun y hy => ?_, fun y hy => ?_, fun y z hy hz q => ?_⟩, List.length_map _⟩
  · obtain ⟨x, hx, rfl⟩ := List.mem_map.mp hy
    exact hm x (t.sub x hx)
  · obtain ⟨x, hx, rfl⟩ := hs y hy
    obtain ⟨u, hu, j, k, q⟩ := t.all x hx
    exact ⟨φ u, List.mem_map_of_mem hu, j, k, by rw [(it j x hx).1, (it k u (t.sub u hu)).1, q]⟩
  · obtain ⟨x, hx, rfl⟩ := List.mem_map.mp hy
    obtain ⟨u, hu, rfl⟩ := List.mem_map.mp hz
    obtain ⟨j, k, q⟩ := q
    rw [(it j x (t.sub x hx)).1, (it k u (t.sub u hu)).1] at q
    rw [t.one x u hx hu ⟨j, k, hi _ _ (it j x (t.sub x hx)).2 (it k u (t.sub u hu)).2 q⟩]
theorem Rnd.congr {L : List Nat} {f g : Nat → Nat} {c : Nat} (h : Rnd L f c) (hf : ∀ x, x ∈ L → f x ∈ L) (e : ∀ x, x ∈ L → g x = f x) : Rnd L g c :=
  h.led (φ := id) (fun _ h => h) (fun _ _ _ _ h => h) (fun y h => ⟨y, h, rfl⟩) hf e
theorem Rnd.id {L : List Nat} {f : Nat → Nat} (h : L.Nodup) (e : ∀ x, x ∈ L → f x = x) : Rnd L f L.length := by
  have it : ∀ k x, x ∈ L → itr f k x = x := by
    intro k
    induction k with
    | zero => intro x _; rfl
    | succ k ih => intro x hx; show itr f k (f x) = x; rw [e x hx]; exact ih x hx
  exact ⟨L, ⟨h, fun _ h => h, fun x hx => ⟨x, hx, Eqv.refl f x⟩, fun x y hx hy ⟨j, k, q⟩ => by rw [it j x hx, it k y hy] at q; exact q⟩, rfl⟩
/-! ## two values exchanged -/
def swp (f : Nat → Nat) (a b : Nat) : Nat → Nat := fun x => if x = a then f b else if x = b then f a else f x
theorem swp_a (f : Nat → Nat) (a b : Nat) : swp f a b a = f b := if_pos rfl
theorem swp_b (f : Nat → Nat) {a b : Nat} (h : a ≠ b) : swp f a b b = f a := by unfold swp; rw [if_neg (Ne.symm h), if_pos rfl]
theorem swp_ne (f : Nat → Nat) {a b x : Nat} (h : x ≠ a) (h' : x ≠ b) : swp f a b x = f x := by unfold swp; rw [if_neg h, if_neg h']
section
variable {L : List Nat} {f : Nat → Nat} {a b : Nat}
theorem swp_perm (P : PermOn L f) (ha : a ∈ L) (hb : b ∈ L) (n : a ≠ b) : PermOn L (swp f a b) := by
  refine ⟨P.nd, fun x hx => ?_, fun x y hx hy e => ?_⟩
  · unfold swp
    split
    · exact P.mem b hb
    · split
      · exact P.mem a ha
      · exact P.mem x hx
  · by_cases xa : x = a
    · subst xa
      rw [swp_a] at e
      by_cases ya : y = x
      · exact ya.symm
      · by_cases yb : y = b
        · subst yb
          rw [swp_b f n] at e
          exact (P.inj _ _ hb ha e).symm
        · rw [swp_ne f ya yb] at e
          exact absurd (P.inj _ _ hb hy e).symm yb
    · by_cases xb : x = b
      · subst xb
        rw [swp_b f n] at e
        by_cases ya : y = a
        · subst ya
          rw [swp_a] at e
          exact (P.inj _ _ ha hb e).symm
        · by_cases yb : y = x
          · exact yb.symm
          · rw [swp_ne f ya yb] at e
            exact absurd (P.inj _ _ ha hy e).symm ya
      · rw [swp_ne f xa xb] at e
        by_cases ya : y = a
        · subst ya
          rw [swp_a] at e
          exact absurd (P.inj _ _ hx hb e) xb
        · by_cases yb : y = b
          · subst yb
            rw [swp_b f n] at e
            exact absurd (P.inj _ _ hx ha e) xa
          · rw [swp_ne f ya yb] at e
            exact P.inj _ _ hx hy e
theorem swp_swp (n : a ≠ b) : swp (swp f a b) a b = f := by
  funext x
  by_cases xa : x = a
  · subst xa; rw [swp_a, swp_b f n]
  · by_cases xb : x = b
    · subst xb; rw [swp_b _ n, swp_a]
    · rw [swp_ne _ xa xb, swp_ne _ xa xb]
/-- as long as neither is met, both go alike -/
theorem swp_itr {x : Nat} : ∀ k, (∀ j, j < k → itr f j x ≠ a ∧ itr f j x ≠ b) → itr (swp f a b) k x = itr f k x
  | 0, _ => rfl
  | k + 1, h => by
    rw [itr_succ, itr_succ, swp_itr k fun j hj => h j (by omega)]
    exact swp_ne f (h k (Nat.lt_succ_self k)).1 (h k (Nat.lt_succ_self k)).2
theorem swp_out {x : Nat} (xa : ¬ Eqv f x a) (xb : ¬ Eqv f x b) (k : Nat) : itr (swp f a b) k x = itr f k x :=
  swp_itr k fun j _ => ⟨fun z => xa ⟨j, 0, z⟩, fun z => xb ⟨j, 0, z⟩⟩
/-- two rounds become one -/
theorem Trv.join (P : PermOn L f) (ha : a ∈ L) (hb : b ∈ L) (n : ¬ Eqv f a b) {T : List Nat} (t : Trv L f T) (ta : a ∈ T) (tb : b ∈ T) : Trv L (swp f a b) (T.erase b) := by
  have nab : a ≠ b := fun z => n (z ▸ Eqv.refl f a)
  have toa : ∀ y, Eqv f y a → Eqv (swp f a b) y a := fun y h => by
    obtain ⟨k, hk, hl⟩ := least (Q := fun k => itr f k y = a) (k := (h.reach P ha).choose) (h.reach P ha).choose_spec
    refine ⟨k, 0, ?_⟩
    exact (swp_itr (f := f) (a := a) (b := b) k fun j hj => ⟨hl j hj, fun z => n (h.symm.trans ⟨j, 0, z⟩)⟩).trans hk
  have tob : ∀ y, Eqv f y b → Eqv (swp f a b) y b := fun y h => by
    obtain ⟨k, hk, hl⟩ := least (Q := fun k => itr f k y = b) (k := (h.reach P hb).choose) (h.reach P hb).choose_spec
    refine ⟨k, 0, ?_⟩
    exact (swp_itr (f := f) (a := a) (b := b) k fun j hj => ⟨fun z => n (Eqv.trans ⟨0, j, z.symm⟩ h), hl j hj⟩).trans hk
  have ab : Eqv (swp f a b) b a := by
    have h1 : Eqv (swp f a b) b (f a) := ⟨1, 0, swp_b f nab⟩
    exact h1.trans (toa (f a) (Eqv.step f a).symm)
  have mem : ∀ {x}, x ∈ T.erase b ↔ x ≠ b ∧ x ∈ T := fun {x} => t.nd.mem_erase_iff
  refine ⟨t.nd.erase b, fun x hx => t.sub x (mem.mp hx).2, fun x hx => ?_, fun x y hx hy e => ?_⟩
  · by_cases xa : Eqv f x a
    · exact ⟨a, mem.mpr ⟨nab, ta⟩, toa x xa⟩
    · by_cases xb : Eqv f x b
      · exact ⟨a, mem.mpr ⟨nab, ta⟩, (tob x xb).trans ab⟩
      · obtain ⟨u, hu, j, k, q⟩ := t.all x hx
        have ua : ¬ Eqv f u a := fun z => xa (Eqv.trans ⟨j, k, q⟩ z)
        have ub : ¬ Eqv f u b := fun z => xb (Eqv.trans ⟨j, k, q⟩ z)
        exact ⟨u, mem.mpr ⟨fun z => ub (z ▸ Eqv.refl f u), hu⟩, j, k, by rw [swp_out xa xb, swp_out ua ub, q]⟩
  · obtain ⟨xb, xT⟩ := mem.mp hx
    obtain ⟨yb, yT⟩ := mem.mp hy
    have out : ∀ z, z ∈ T → z ≠ a → z ≠ b → ¬ Eqv f z a ∧ ¬ Eqv f z b := fun z zT za zb => ⟨fun q => za (t.one z a zT ta q), fun q => zb (t.one z b zT tb q)⟩
    have stay : ∀ k x, Eqv f x a ∨ Eqv f x b → Eqv f (itr (swp f a b) k x) a ∨ Eqv f (itr (swp f a b) k x) b := by
      intro k
      induction k with
      | zero => intro x h; exact h
      | succ k ih =>
        intro x h
        refine ih (swp f a b x) ?_
        unfold swp
        split
        · exact .inr (Eqv.step f b).symm
        · split
          · exact .inl (Eqv.step f a).symm
          · exact h.elim (fun q => .inl ((Eqv.step f x).symm.trans q)) fun q => .inr ((Eqv.step f x).symm.trans q)
    obtain ⟨j, k, q⟩ := e
    by_cases xa : x = a
    · by_cases ya : y = a
      · rw [xa, ya]
      · obtain ⟨o1, o2⟩ := out y yT ya yb
        rw [swp_out o1 o2] at q
        rcases stay j x (.inl (xa ▸ Eqv.refl f x)) with z | z <;> rw [q] at z
        · exact absurd (Eqv.trans ⟨k, 0, rfl⟩ z) o1
        · exact absurd (Eqv.trans ⟨k, 0, rfl⟩ z) o2
    · obtain ⟨o1, o2⟩ := out x xT xa xb
      rw [swp_out o1 o2] at q
      by_cases ya : y = a
      · rcases stay k y (.inl (ya ▸ Eqv.refl f y)) with z | z <;> rw [← q] at z
        · exact absurd (Eqv.trans ⟨j, 0, rfl⟩ z) o1
        · exact absurd (Eqv.trans ⟨j, 0, rfl⟩ z) o2
      · obtain ⟨o3, o4⟩ := out y yT ya yb
        rw [swp_out o3 o4] at q
        exact t.one x y xT yT ⟨j, k, q⟩
/-- of one round two -/
theorem swp_part (P : PermOn L f) (ha : a ∈ L) (hb : b ∈ L) (n : a ≠ b) (h : Eqv f a b) : ¬ Eqv (swp f a b) a b := by
  have P' := swp_perm P ha hb n
  obtain ⟨k, hk, hl⟩ := least (Q := fun k => itr f k a = b) (k := (h.reach P hb).choose) (h.reach P hb).choose_spec
  have k0 : k ≠ 0 := fun z => n (by rw [z] at hk; exact hk)
  obtain ⟨m, rfl⟩ : ∃ m, k = m + 1 := ⟨k - 1, by omega⟩
  have na : ∀ j, 0 < j → j ≤ m → itr f j a ≠ a := fun j h0 h1 z => by
    have e : itr f (m + 1 - j) a = b := by
      have := itr_add f j (m + 1 - j) a
      rw [z, show j + (m + 1 - j) = m + 1 by omega] at this
      rw [← this]; exact hk
    exact hl (m + 1 - j) (by omega) e
  -- from b on: f a, .., back at b
  have go : ∀ j, j ≤ m → itr (swp f a b) j (f a) = itr f (j + 1) a := fun j hj => swp_itr j fun i hi => ⟨na (i + 1) (by omega) (by omega), hl (i + 1) (by omega)⟩
  have cyc : ∀ i, itr (swp f a b) i b = b ∨ ∃ j, 0 < j ∧ j ≤ m ∧ itr (swp f a b) i b = itr f j a := by
    intro i
    induction i with
    | zero => exact .inl rfl
    | succ i ih =>
      rw [itr_succ]
      rcases ih with ih | ⟨j, j0, jm, ih⟩
      · rw [ih, swp_b f n]
        by_cases c : m = 0
        · subst c; exact .inl hk
        · exact .inr ⟨1, by omega, by omega, rfl⟩
      · rw [ih, swp_ne f (na j j0 jm) (hl j (by omega)), ← itr_succ f j a]
        by_cases c : j = m
        · subst c; exact .inl hk
        · exact .inr ⟨j + 1, by omega, by omega, rfl⟩
  intro e
  obtain ⟨i, hi⟩ := e.symm.reach P' ha
  rcases cyc i with z | ⟨j, j0, jm, z⟩
  · rw [hi] at z; exact n z
  · rw [hi] at z; exact na j j0 jm z.symm
theorem trv_two (P : PermOn L f) (ha : a ∈ L) (hb : b ∈ L) (n : ¬ Eqv f a b) : ∃ T, Trv L f T ∧ a ∈ T ∧ b ∈ T := by
  have nab : a ≠ b := fun z => n (z ▸ Eqv.refl f a)
  have fresh : ∀ M : List Nat, M.Nodup → (∀ x, x ∈ M → x ∈ L) → ∃ T : List Nat, T.Nodup ∧ (∀ x, x ∈ T → x ∈ L) ∧ a ∈ T ∧ b ∈ T ∧ (∀ x, x ∈ M → ∃ u, u ∈ T ∧ Eqv f x u) ∧ ∀ x y, x ∈ T → y ∈ T → Eqv f x y → x = y := by
    intro M
    induction M with
    | nil =>
      intro _ _
      have two : ∀ x, x ∈ [a, b] → x = a ∨ x = b := fun x hx => by simpa using hx
      refine ⟨[a, b], by simp [nab], fun x hx => ?_, by simp, by simp, fun x hx => (by cases hx), fun x y hx hy e => ?_⟩
      · rcases two x hx with z | z <;> rw [z] <;> assumption
      · rcases two x hx with zx | zx <;> rcases two y hy with zy | zy
        · rw [zx, zy]
        · rw [zx, zy] at e; exact absurd e n
        · rw [zx, zy] at e; exact absurd e.symm n
        · rw [zx, zy]
    | cons c M ih =>
      intro nd sub
      obtain ⟨T, h1, h2, h3, h4, h5, h6⟩ := ih (List.nodup_cons.mp nd).2 fun x hx => sub x (List.mem_cons_of_mem _ hx)
      by_cases q : ∃ u, u ∈ T ∧ Eqv f c u
      · refine ⟨T, h1, h2, h3, h4, fun x hx => ?_, h6⟩
        rcases List.mem_cons.mp hx with rfl | hx
        · exact q
        · exact h5 x hx
      · refine ⟨c :: T, List.nodup_cons.mpr ⟨fun z => q ⟨c, z, Eqv.refl f c⟩, h1⟩, fun x hx => ?_, List.mem_cons_of_mem _ h3, List.mem_cons_of_mem _ h4, fun x hx => ?_, fun x y hx hy e => ?_⟩
        · rcases List.mem_cons.mp hx with rfl | hx
          · exact sub _ List.mem_cons_self
          · exact h2 x hx
        · rcases List.mem_cons.mp hx with rfl | hx
          · exact ⟨x, List.mem_cons_self, Eqv.refl f x⟩
          · obtain ⟨u, hu, e⟩ := h5 x hx
            exact ⟨u, List.mem_cons_of_mem _ hu, e⟩
        · rcases List.mem_cons.mp hx with zx | zx
          · rcases List.mem_cons.mp hy with zy | zy
            · rw [zx, zy]
            · exact absurd ⟨y, zy, zx ▸ e⟩ q
          · rcases List.mem_cons.mp hy with zy | zy
            · exact absurd ⟨x, zx, (zy ▸ e).symm⟩ q
            · exact h6 x y zx zy e
  obtain ⟨T, h1, h2, h3, h4, h5, h6⟩ := fresh L P.nd fun x h => h
  exact ⟨T, ⟨h1, h2, h5, h6⟩, h3, h4⟩
/-- two values exchanged: a round more or one less -/
theorem Rnd.swp (P : PermOn L f) (ha : a ∈ L) (hb : b ∈ L) (n : a ≠ b) {c d : Nat} (h : Rnd L f c) (g : Rnd L (swp f a b) d) : c = d + 1 ∨ d = c + 1 := by
  by_cases e : Eqv f a b
  · refine .inr ?_
    have P' := swp_perm P ha hb n
    obtain ⟨T, t, ta, tb⟩ := trv_two P' ha hb (swp_part P ha hb n e)
    have j := Trv.join P' ha hb (swp_part P ha hb n e) t ta tb
    rw [swp_swp n] at j
    rw [g.uniq ⟨T, t, rfl⟩, h.uniq ⟨_, j, rfl⟩, List.length_erase_of_mem tb]
    have : 0 < T.length := List.length_pos_of_mem tb
    omega
  · refine .inl ?_
    obtain ⟨T, t, ta, tb⟩ := trv_two P ha hb e
    have j := Trv.join P ha hb e t ta tb
    rw [h.uniq ⟨T, t, rfl⟩, g.uniq ⟨_, j, rfl⟩, List.length_erase_of_mem tb]
    have : 0 < T.length := List.length_pos_of_mem tb
    omega
end
end Y

namespace Y
/-! ## rounds gone along, by a list of what is known -/
def pw (f : Nat → Nat) : Nat → List Nat → List Nat → Nat → List Nat × List Nat
  | 0, K, w, _ => (K, w)
  | n + 1, K, w, x => if x ∈ K then (K, w) else pw f n (K ++ [x]) (w ++ [x]) (f x)
def putN (K : List Nat) (x : Nat) : List Nat := if x ∈ K then K else K ++ [x]
def lw (f : Nat → Nat) (b : Nat) : Nat → List Nat → List Nat → Nat → List Nat × List Nat
  | 0, K, w, _ => (K, w)
  | n + 1, K, w, x => if f x = b then (putN K x, w ++ [x]) else lw f b n (putN K x) (w ++ [x]) (f x)
/-- it comes to what is known in less than n steps -/
def Stops (f : Nat → Nat) : Nat → List Nat → Nat → Prop
  | 0, _, _ => False
  | n + 1, K, x => x ∈ K ∨ Stops f n (K ++ [x]) (f x)
theorem Stops.mono {f : Nat → Nat} : ∀ {n m : Nat} {K : List Nat} {x : Nat}, n ≤ m → Stops f n K x → Stops f m K x
  | 0, _, _, _, _, h => h.elim
  | n + 1, 0, _, _, h, _ => by omega
  | n + 1, m + 1, _, _, h, .inl q => .inl q
  | n + 1, m + 1, _, _, h, .inr q => .inr (Stops.mono (by omega) q)
structure Clo (D : List Nat) (f : Nat → Nat) (K : List Nat) : Prop where
  sub : ∀ x, x ∈ K → x ∈ D
  fwd : ∀ x, x ∈ K → f x ∈ K
  bwd : ∀ x, x ∈ D → f x ∈ K → x ∈ K
theorem Clo.eqv {D : List Nat} {f : Nat → Nat} {K : List Nat} (P : PermOn D f) (c : Clo D f K) {x y : Nat} (hx : x ∈ D) (hy : y ∈ K) (e : Eqv f x y) : x ∈ K := by
  obtain ⟨j, k, q⟩ := e
  have fw : ∀ k y, y ∈ K → itr f k y ∈ K := by
    intro k
    induction k with
    | zero => intro y h; exact h
    | succ k ih => intro y h; exact ih (f y) (c.fwd y h)
  have bw : ∀ k x, x ∈ D → itr f k x ∈ K → x ∈ K := by
    intro k
    induction k with
    | zero => intro x _ h; exact h
    | succ k ih => intro x hx h; exact c.bwd x hx (ih (f x) (P.mem x hx) h)
  exact bw j x hx (by rw [q]; exact fw k y hy)
structure WInv (D : List Nat) (f : Nat → Nat) (K : List Nat) (b : Nat) (w : List Nat) (x : Nat) : Prop where
  hb : b ∈ w ++ [x]
  pre : ∀ z, z ∈ w ++ [x] → z = b ∨ ∃ y, y ∈ w ∧ f y = z
  nd : (w ++ [x]).Nodup
  sub : ∀ z, z ∈ w ++ [x] → z ∈ D
  out : ∀ z, z ∈ w ++ [x] → z ∉ K
  eqv : ∀ z, z ∈ w ++ [x] → Eqv f z b
  nxt : ∀ z, z ∈ w → f z ∈ w ++ [x]
structure WFin (D : List Nat) (f : Nat → Nat) (K : List Nat) (b : Nat) (w : List Nat) : Prop where
  hb : b ∈ w
  nd : w.Nodup
  out : ∀ z, z ∈ w → z ∉ K
  eqv : ∀ z, z ∈ w → Eqv f z b
  clo : Clo D f (K ++ w)
theorem walk_go {D : List Nat} {f : Nat → Nat} {K : List Nat} {b : Nat} (P : PermOn D f) (c : Clo D f K) : ∀ (m : Nat) (w : List Nat) (x : Nat), WInv D f K b w x → D.length ≤ w.length + m →
    ∃ w', (∀ n, m + 1 ≤ n → pw f n (K ++ w) w x = (K ++ w', w')) ∧ lw f b m (K ++ w) w x = (K ++ w', w') ∧ WFin D f K b w' ∧ Stops f (m + 1) (K ++ w) x
  | 0, w, x, I, h => by
    have := nodup_le I.nd I.sub
    rw [List.length_append, List.length_singleton] at this
    omega
  | m + 1, w, x, I, h => by
    have xm : x ∈ w ++ [x] := List.mem_append_right _ (List.mem_singleton.mpr rfl)
    have xw : x ∉ w := fun z => by
      have := (List.nodup_append.mp I.nd).2.2 x z x (List.mem_singleton.mpr rfl)
      exact this rfl
    have xK : x ∉ K ++ w := fun z => (List.mem_append.mp z).elim (I.out x xm) xw
    have xD := I.sub x xm
    have pn : putN (K ++ w) x = K ++ w ++ [x] := if_neg xK
    by_cases e : f x = b
    · refine ⟨w ++ [x], fun n hn => ?_, ?_, ⟨I.hb, I.nd, I.out, I.eqv, ?_⟩, ?_⟩
      · obtain ⟨n, rfl⟩ : ∃ k, n = k + 2 := ⟨n - 2, by omega⟩
        unfold pw
        rw [if_neg xK]
        unfold pw
        rw [e, if_pos (by rw [List.append_assoc]; exact List.mem_append_right _ I.hb), List.append_assoc]
      · unfold lw
        rw [if_pos e, pn, List.append_assoc]
      · refine ⟨fun z hz => (List.mem_append.mp hz).elim (c.sub z) (I.sub z), fun z hz => ?_, fun z hz hf => ?_⟩
        · rcases List.mem_append.mp hz with q | q
          · exact List.mem_append_left _ (c.fwd z q)
          · rcases List.mem_append.mp q with q | q
            · exact List.mem_append_right _ (I.nxt z q)
            · rw [List.mem_singleton.mp q, e]; exact List.mem_append_right _ I.hb
        · rcases List.mem_append.mp hf with q | q
          · exact List.mem_append_left _ (c.bwd z hz q)
          · by_cases zb : f z = b
            · have : z = x := P.inj z x hz xD (zb.trans e.symm)
              rw [this]; exact List.mem_append_right _ xm
            · rcases I.pre _ q with z1 | ⟨y, hy, ey⟩
              · exact absurd z1 zb
              · have : y = z := P.inj y z (I.sub y (List.mem_append_left _ hy)) hz ey
                rw [← this]; exact List.mem_append_right _ (List.mem_append_left _ hy)
      · exact .inr (.inl (by rw [e, List.append_assoc]; exact List.mem_append_right _ I.hb))
    · have fK : f x ∉ K := fun z => I.out x xm (c.bwd x xD z)
      have fw : f x ∉ w ++ [x] := fun z => by
        rcases I.pre _ z with q | ⟨y, hy, ey⟩
        · exact e q
        · have : y = x := P.inj y x (I.sub y (List.mem_append_left _ hy)) xD ey
          exact xw (this ▸ hy)
      have I' : WInv D f K b (w ++ [x]) (f x) := by
        refine ⟨List.mem_append_left _ I.hb, fun z hz => ?_, ?_, fun z hz => ?_, fun z hz => ?_, fun z hz => ?_, fun z hz => ?_⟩
        · rcases List.mem_append.mp hz with q | q
          · rcases I.pre z q with r | ⟨y, hy, ey⟩
            · exact .inl r
            · exact .inr ⟨y, List.mem_append_left _ hy, ey⟩
          · exact .inr ⟨x, xm, (List.mem_singleton.mp q).symm⟩
        · rw [List.nodup_append]
          exact ⟨I.nd, by simp, fun a ha d hd z => fw (by rw [← List.mem_singleton.mp hd, ← z]; exact ha)⟩
        · rcases List.mem_append.mp hz with q | q
          · exact I.sub z q
          · rw [List.mem_singleton.mp q]; exact P.mem x xD
        · rcases List.mem_append.mp hz with q | q
          · exact I.out z q
          · rw [List.mem_singleton.mp q]; exact fK
        · rcases List.mem_append.mp hz with q | q
          · exact I.eqv z q
          · rw [List.mem_singleton.mp q]; exact (Eqv.step f x).symm.trans (I.eqv x xm)
        · rcases List.mem_append.mp hz with q | q
          · exact List.mem_append_left _ (I.nxt z q)
          · rw [List.mem_singleton.mp q]; exact List.mem_append_right _ (List.mem_singleton.mpr rfl)
      obtain ⟨w', h1, h2, h3, h4⟩ := walk_go P c m (w ++ [x]) (f x) I' (by rw [List.length_append, List.length_singleton]; omega)
      refine ⟨w', fun n hn => ?_, ?_, h3, .inr (by rw [List.append_assoc]; exact h4)⟩
      · obtain ⟨n, rfl⟩ : ∃ k, n = k + 1 := ⟨n - 1, by omega⟩
        unfold pw
        rw [if_neg xK, List.append_assoc]
        exact h1 n (by omega)
      · unfold lw
        rw [if_neg e, pn, List.append_assoc]
        exact h2
theorem walk_ok {D : List Nat} {f : Nat → Nat} {K : List Nat} {b : Nat} (P : PermOn D f) (c : Clo D f K) (hb : b ∈ D) (nb : b ∉ K) : ∃ w, (∀ n, D.length + 1 ≤ n → pw f n K [] b = (K ++ w, w)) ∧ lw f b D.length K [] b = (K ++ w, w) ∧ WFin D f K b w ∧ Stops f (D.length + 1) K b := by
  have one : ∀ z, z ∈ ([] : List Nat) ++ [b] → z = b := fun z h => by simpa using h
  obtain ⟨w, h1, h2, h3, h4⟩ := walk_go P c D.length [] b ⟨by simp, fun z h => .inl (one z h), by simp, fun z h => by rw [one z h]; exact hb, fun z h => by rw [one z h]; exact nb, fun z h => by rw [one z h]; exact Eqv.refl f b, fun z h => by cases h⟩ (by simp)
  rw [List.append_nil] at h1 h2 h4
  exact ⟨w, h1, h2, h3, h4⟩
/-! ### all rounds -/
def rds (f : Nat → Nat) (n : Nat) : List Nat → List Nat → List (List Nat) → List (List Nat)
  | [], _, F => F
  | b :: bs, K, F => rds f n bs (pw f n K [] b).1 (if (pw f n K [] b).2 = [] then F else F ++ [(pw f n K [] b).2])
def lds (f : Nat → Nat) (m : Nat) : List Nat → List Nat → List (List Nat) → List (List Nat)
  | [], _, F => F
  | b :: bs, K, F => if b ∈ K then lds f m bs K F else lds f m bs (lw f b m K [] b).1 (F ++ [(lw f b m K [] b).2])
structure RInv (D : List Nat) (f : Nat → Nat) (K : List Nat) (F : List (List Nat)) (T : List Nat) : Prop where
  clo : Clo D f K
  len : T.length = F.length
  nd : T.Nodup
  sub : ∀ t, t ∈ T → t ∈ K
  all : ∀ x, x ∈ K → ∃ t, t ∈ T ∧ Eqv f x t
  one : ∀ t u, t ∈ T → u ∈ T → Eqv f t u → t = u
  small : ∀ w, w ∈ F → w.Nodup ∧ ∀ x, x ∈ w → x ∈ D
theorem RInv.nil (D : List Nat) (f : Nat → Nat) : RInv D f [] [] [] := ⟨⟨fun x h => (by cases h), fun x h => (by cases h), fun x _ h => (by cases h)⟩, rfl, List.nodup_nil, fun t h => (by cases h), fun x h => (by cases h), fun t u h => (by cases h), fun w h => (by cases h)⟩
theorem pw_known {f : Nat → Nat} {n b : Nat} {K : List Nat} (h : b ∈ K) : pw f n K [] b = (K, []) := by
  cases n with
  | zero => rfl
  | succ n => unfold pw; rw [if_pos h]
theorem RInv.add {D : List Nat} {f : Nat → Nat} {K : List Nat} {F : List (List Nat)} {T w : List Nat} {b : Nat} (P : PermOn D f) (I : RInv D f K F T) (hb : b ∈ D) (nb : b ∉ K) (h3 : WFin D f K b w) : RInv D f (K ++ w) (F ++ [w]) (T ++ [b]) := by
    refine ⟨h3.clo, by simp [I.len], ?_, fun t ht => ?_, fun x hx => ?_, fun t u ht hu e => ?_, fun v hv => ?_⟩
    · rw [List.nodup_append]
      exact ⟨I.nd, by simp, fun a ha d hd z => nb (by rw [← List.mem_singleton.mp hd, ← z]; exact I.sub a ha)⟩
    · rcases List.mem_append.mp ht with q | q
      · exact List.mem_append_left _ (I.sub t q)
      · rw [List.mem_singleton.mp q]; exact List.mem_append_right _ h3.hb
    · rcases List.mem_append.mp hx with q | q
      · obtain ⟨t, ht, e⟩ := I.all x q
        exact ⟨t, List.mem_append_left _ ht, e⟩
      · exact ⟨b, List.mem_append_right _ (List.mem_singleton.mpr rfl), h3.eqv x q⟩
    · rcases List.mem_append.mp ht with q | q <;> rcases List.mem_append.mp hu with r | r
      · exact I.one t u q r e
      · rw [List.mem_singleton.mp r] at e
        exact absurd (I.clo.eqv P hb (I.sub t q) e.symm) nb
      · rw [List.mem_singleton.mp q] at e
        exact absurd (I.clo.eqv P hb (I.sub u r) e) nb
      · rw [List.mem_singleton.mp q, List.mem_singleton.mp r]
    · rcases List.mem_append.mp hv with q | q
      · exact I.small v q
      · rw [List.mem_singleton.mp q]
        exact ⟨h3.nd, fun x hx => h3.clo.sub x (List.mem_append_right _ hx)⟩
theorem rds_ok {D : List Nat} {f : Nat → Nat} (P : PermOn D f) {n : Nat} (hn : D.length + 1 ≤ n) : ∀ (bs K : List Nat) (F : List (List Nat)) (T : List Nat), (∀ b, b ∈ bs → b ∈ D) → RInv D f K F T → lds f D.length bs K F = rds f n bs K F ∧ ∃ K' T', RInv D f K' (rds f n bs K F) T' ∧ (∀ x, x ∈ K → x ∈ K') ∧ ∀ b, b ∈ bs → b ∈ K'
  | [], K, F, T, _, I => ⟨rfl, K, T, I, fun _ h => h, fun b h => by cases h⟩
  | b :: bs, K, F, T, hb, I => by
    by_cases c : b ∈ K
    · unfold lds rds
      rw [pw_known c, if_pos c, if_pos rfl]
      obtain ⟨h1, K', T', h2, h3, h4⟩ := rds_ok P hn bs K F T (fun x hx => hb x (List.mem_cons_of_mem _ hx)) I
      refine ⟨h1, K', T', h2, h3, fun x hx => ?_⟩
      rcases List.mem_cons.mp hx with rfl | hx
      · exact h3 _ c
      · exact h4 x hx
    · obtain ⟨w, h1, h2, h3, _⟩ := walk_ok P I.clo (hb b List.mem_cons_self) c
      have wn : w ≠ [] := fun z => by have := h3.hb; rw [z] at this; cases this
      have I' := I.add P (hb b List.mem_cons_self) c h3
      obtain ⟨g1, K', T', g2, g3, g4⟩ := rds_ok P hn bs (K ++ w) (F ++ [w]) (T ++ [b]) (fun x hx => hb x (List.mem_cons_of_mem _ hx)) I'
      unfold lds rds
      rw [if_neg c, h1 n hn, h2]
      dsimp only
      rw [if_neg wn]
      refine ⟨g1, K', T', g2, fun x hx => g3 x (List.mem_append_left _ hx), fun x hx => ?_⟩
      rcases List.mem_cons.mp hx with rfl | hx
      · exact g3 _ (List.mem_append_right _ h3.hb)
      · exact g4 x hx
theorem rds_rnd {D : List Nat} {f : Nat → Nat} (P : PermOn D f) {n : Nat} (hn : D.length + 1 ≤ n) : lds f D.length D [] [] = rds f n D [] [] ∧ Rnd D f (rds f n D [] []).length ∧ ∀ w, w ∈ rds f n D [] [] → w.Nodup ∧ ∀ x, x ∈ w → x ∈ D := by
  have I0 : RInv D f [] [] [] := ⟨⟨fun x h => (by cases h), fun x h => (by cases h), fun x _ h => (by cases h)⟩, rfl, List.nodup_nil, fun t h => (by cases h), fun x h => (by cases h), fun t u h => (by cases h), fun w h => (by cases h)⟩
  obtain ⟨h1, K', T', h2, _, h4⟩ := rds_ok P hn D [] [] [] (fun _ h => h) I0
  exact ⟨h1, ⟨T', ⟨h2.nd, fun t ht => h2.clo.sub t (h2.sub t ht), fun x hx => h2.all x (h4 x hx), h2.one⟩, h2.len⟩, h2.small⟩
/-! ## rows -/
/-- what stands just ahead of x in p :: l -/
def prv : Nat → List Nat → Nat → Nat
  | p, [], _ => p
  | p, y :: ys, x => if x = y then p else prv y ys x
def lastD : Nat → List Nat → Nat
  | p, [] => p
  | _, y :: ys => lastD y ys
theorem prv_out : ∀ (l m : List Nat) (p x : Nat), x ∉ l → prv p (l ++ m) x = prv (lastD p l) m x
  | [], m, p, x, _ => rfl
  | y :: l, m, p, x, h => by
    have h1 : x ≠ y := fun z => h (z ▸ List.mem_cons_self)
    show (if x = y then p else prv y (l ++ m) x) = prv (lastD y l) m x
    rw [if_neg h1]
    exact prv_out l m y x fun z => h (List.mem_cons_of_mem _ z)
theorem prv_in : ∀ (l m : List Nat) (p x : Nat), x ∈ l → prv p (l ++ m) x = prv p l x
  | [], m, p, x, h => by cases h
  | y :: l, m, p, x, h => by
    show (if x = y then p else prv y (l ++ m) x) = if x = y then p else prv y l x
    by_cases c : x = y
    · rw [if_pos c, if_pos c]
    · rw [if_neg c, if_neg c]
      exact prv_in l m y x ((List.mem_cons.mp h).resolve_left c)
theorem prv_mem : ∀ (l : List Nat) (p x : Nat), prv p l x ∈ p :: l
  | [], p, x => List.mem_cons_self
  | y :: l, p, x => by
    show (if x = y then p else prv y l x) ∈ _
    split
    · exact List.mem_cons_self
    · exact List.mem_cons_of_mem _ (prv_mem l y x)
/-- not the last one -/
theorem prv_mem' : ∀ (l : List Nat) (p x z : Nat), x ∈ l ++ [z] → prv p (l ++ [z]) x ∈ p :: l
  | [], p, x, z, h => by
    have : x = z := by simpa using h
    show (if x = z then p else prv z [] x) ∈ _
    rw [if_pos this]; exact List.mem_cons_self
  | y :: l, p, x, z, h => by
    show (if x = y then p else prv y (l ++ [z]) x) ∈ _
    split
    · exact List.mem_cons_self
    · next c => exact List.mem_cons_of_mem _ (prv_mem' l y x z ((List.mem_cons.mp h).resolve_left c))
theorem prv_inj : ∀ (l : List Nat) (p x y : Nat), (p :: l).Nodup → x ∈ l → y ∈ l → prv p l x = prv p l y → x = y
  | [], _, _, _, _, h, _, _ => by cases h
  | z :: l, p, x, y, nd, hx, hy, e => by
    have nd' := List.nodup_cons.mp nd
    have e : (if x = z then p else prv z l x) = if y = z then p else prv z l y := e
    by_cases cx : x = z
    · by_cases cy : y = z
      · rw [cx, cy]
      · rw [if_pos cx, if_neg cy] at e
        exact absurd (e ▸ prv_mem l z y) nd'.1
    · by_cases cy : y = z
      · rw [if_neg cx, if_pos cy] at e
        exact absurd (e ▸ prv_mem l z x) nd'.1
      · rw [if_neg cx, if_neg cy] at e
        exact prv_inj l z x y nd'.2 ((List.mem_cons.mp hx).resolve_left cx) ((List.mem_cons.mp hy).resolve_left cy) e
/-- the blocks of a row: one more than what stands just ahead -/
def blk (q : List Nat) (N x : Nat) : Nat := prv 0 (q ++ [N]) x + 1
structure Dom (D q : List Nat) (N : Nat) : Prop where
  nd : (0 :: (q ++ [N])).Nodup
  ndD : D.Nodup
  iff : ∀ x, x ∈ D ↔ x ∈ q ++ [N]
  suc : ∀ x, x ∈ 0 :: q → x + 1 ∈ D
theorem Dom.perm {D q : List Nat} {N : Nat} (d : Dom D q N) : PermOn D (blk q N) :=
  ⟨d.ndD, fun x hx => d.suc _ (prv_mem' q 0 x N ((d.iff x).mp hx)), fun x y hx hy e => prv_inj _ 0 x y d.nd ((d.iff x).mp hx) ((d.iff y).mp hy) (Nat.succ.inj e)⟩
theorem Dom.of_perm {D q q' : List Nat} {N : Nat} (d : Dom D q N) (h : q.Perm q') : Dom D q' N :=
  ⟨(((h.append_right [N]).cons 0).nodup_iff).mp d.nd, d.ndD, fun x => (d.iff x).trans (h.append_right [N]).mem_iff, fun x hx => d.suc x ((h.cons 0).mem_iff.mpr hx)⟩
theorem blk_swap {D pre suf : List Nat} {x y N : Nat} (d : Dom D (pre ++ y :: x :: suf) N) : ∃ s, s ∈ D ∧ x ∈ D ∧ y ∈ D ∧ x ≠ y ∧ y ≠ s ∧ ∀ z, z ∈ D → blk (pre ++ x :: y :: suf) N z = swp (swp (blk (pre ++ y :: x :: suf) N) x y) y s z := by
  obtain ⟨s, t, hs⟩ : ∃ s t, suf ++ [N] = s :: t := by
    cases suf with
    | nil => exact ⟨N, [], rfl⟩
    | cons a b => exact ⟨a, b ++ [N], rfl⟩
  have e1 : (pre ++ y :: x :: suf) ++ [N] = pre ++ y :: x :: s :: t := by simp [← hs]
  have e2 : (pre ++ x :: y :: suf) ++ [N] = pre ++ x :: y :: s :: t := by simp [← hs]
  have nd := (List.nodup_cons.mp d.nd).2
  rw [e1] at nd
  obtain ⟨_, nd2, nd3⟩ := List.nodup_append.mp nd
  obtain ⟨a1, nd2⟩ := List.nodup_cons.mp nd2
  obtain ⟨a2, nd2⟩ := List.nodup_cons.mp nd2
  obtain ⟨a3, _⟩ := List.nodup_cons.mp nd2
  have yx : y ≠ x := fun z => a1 (z ▸ List.mem_cons_self)
  have ys : y ≠ s := fun z => a1 (z ▸ List.mem_cons_of_mem _ List.mem_cons_self)
  have xs : x ≠ s := fun z => a2 (z ▸ List.mem_cons_self)
  have py : y ∉ pre := fun z => nd3 y z y List.mem_cons_self rfl
  have px : x ∉ pre := fun z => nd3 x z x (List.mem_cons_of_mem _ List.mem_cons_self) rfl
  have ps : s ∉ pre := fun z => nd3 s z s (List.mem_cons_of_mem _ (List.mem_cons_of_mem _ List.mem_cons_self)) rfl
  have inD : ∀ z, z ∈ pre ++ y :: x :: s :: t → z ∈ D := fun z hz => (d.iff z).mpr (by rw [e1]; exact hz)
  have B1 : ∀ z, z ∉ pre → blk (pre ++ y :: x :: suf) N z = (if z = y then lastD 0 pre else if z = x then y else if z = s then x else prv s t z) + 1 := fun z hz => by
    unfold blk
    rw [e1, prv_out pre _ 0 z hz]
    rfl
  have B2 : ∀ z, z ∉ pre → blk (pre ++ x :: y :: suf) N z = (if z = x then lastD 0 pre else if z = y then x else if z = s then y else prv s t z) + 1 := fun z hz => by
    unfold blk
    rw [e2, prv_out pre _ 0 z hz]
    rfl
  refine ⟨s, inD s (by simp), inD x (by simp), inD y (by simp), Ne.symm yx, ys, fun z hz => ?_⟩
  by_cases zp : z ∈ pre
  · have zx : z ≠ x := fun q => px (q ▸ zp)
    have zy : z ≠ y := fun q => py (q ▸ zp)
    have zs : z ≠ s := fun q => ps (q ▸ zp)
    rw [swp_ne _ zy zs, swp_ne _ zx zy]
    unfold blk
    rw [e1, e2, prv_in _ _ _ _ zp, prv_in _ _ _ _ zp]
  · by_cases zy : z = y
    · subst zy
      rw [swp_a, swp_ne _ (Ne.symm xs) (Ne.symm ys), B2 _ zp, B1 _ ps, if_neg yx, if_pos rfl, if_neg (Ne.symm ys), if_neg (Ne.symm xs), if_pos rfl]
    · by_cases zs : z = s
      · subst zs
        rw [swp_b _ ys, swp_b _ (Ne.symm yx), B2 _ zp, B1 _ px, if_neg (Ne.symm xs), if_neg (Ne.symm ys), if_pos rfl, if_neg (Ne.symm yx), if_pos rfl]
      · rw [swp_ne _ zy zs]
        by_cases zx : z = x
        · subst zx
          rw [swp_a, B2 _ zp, B1 _ py, if_pos rfl, if_pos rfl]
        · rw [swp_ne _ zx zy, B2 _ zp, B1 _ zp, if_neg zx, if_neg zy, if_neg zs, if_neg zy, if_neg zx, if_neg zs]
theorem par_perm {D : List Nat} {N : Nat} {l l' : List Nat} (h : l.Perm l') : ∀ (pre : List Nat) (c c' : Nat), Dom D (pre ++ l) N → Rnd D (blk (pre ++ l) N) c → Rnd D (blk (pre ++ l') N) c' → c % 2 = c' % 2 := by
  induction h with
  | nil => intro pre c c' _ r r'; rw [r.uniq r']
  | cons a _ ih =>
    intro pre c c' d r r'
    have e : ∀ l : List Nat, pre ++ a :: l = (pre ++ [a]) ++ l := fun l => by simp
    rw [e] at d r r'
    exact ih (pre ++ [a]) c c' d r r'
  | swap x y suf =>
    intro pre c c' d r r'
    obtain ⟨s, sD, xD, yD, xy, ys, e⟩ := blk_swap d
    have P := d.perm
    have P1 := swp_perm P xD yD xy
    have P2 := swp_perm P1 yD sD ys
    obtain ⟨c1, r1⟩ := Rnd.ex (swp (blk (pre ++ y :: x :: suf) N) x y) d.ndD
    have r2 : Rnd D (swp (swp (blk (pre ++ y :: x :: suf) N) x y) y s) c' := r'.congr (fun z hz => (e z hz).symm ▸ P2.mem z hz) fun z hz => (e z hz).symm
    have q1 := Rnd.swp P xD yD xy r r1
    have q2 := Rnd.swp P1 yD sD ys r1 r2
    omega
  | trans h1 h2 ih1 ih2 =>
    intro pre c c' d r r'
    obtain ⟨c1, r1⟩ := Rnd.ex (blk (pre ++ _) N) d.ndD
    rw [ih1 pre c c1 d r r1]
    exact ih2 pre c1 c' (d.of_perm (h1.append_left pre)) r1 r'
end Y

namespace Y
open PySem PySem.Spec PyProof.Rows L2
local macro_rules
  | `(tactic| bv_omega) => `(tactic| first
    | with_reducible refine w_seq ?_ | with_reducible refine sq_nx ?_ | with_reducible refine sq_rt ?_ | with_reducible refine sq_bk ?_ | with_reducible refine sq_ct ?_ | with_reducible refine lp_nx ?_ | with_reducible refine lp_ct ?_ | with_reducible refine lp_bk ?_ | with_reducible refine lp_rt ?_
    | with_reducible refine w_nx ?_ | with_reducible refine w_bk ?_ | with_reducible refine w_ct ?_ | with_reducible refine w_if ?_ | with_reducible refine w_ret ?_ | with_reducible refine w_retO ?_ | with_reducible refine w_set ?_ | with_reducible refine w_setO ?_ | with_reducible refine w_setP ?_
    | with_reducible refine w_asg ?_ | with_reducible refine w_drop ?_ | with_reducible refine w_par ?_ | with_reducible refine w_parG ?_ | with_reducible refine w_dput ?_ | with_reducible refine w_setix ?_
    | with_reducible refine wv_nil ?_ | with_reducible refine wv_i ?_ | with_reducible refine wv_o ?_ | with_reducible refine wv_p ?_
    | with_reducible refine hg_nil ?_ | with_reducible refine hg_i (by simp) ?_ | with_reducible refine hg_o (by simp) ?_ | with_reducible refine hg_p (by simp) ?_
    | with_reducible refine we_q ?_ | with_reducible refine wt_q ?_ | with_reducible refine wl_own ?_ | with_reducible refine we_op2 ?_ | with_reducible refine wl_nil ?_ | with_reducible refine wl_cons ?_ | with_reducible refine we_tup ?_ | with_reducible refine wl_lst ?_ | with_reducible refine we_call ?_ | with_reducible refine we_callT ?_ | with_reducible refine we_lst ?_
    | with_reducible refine wt_v ?_ | with_reducible refine wt_not ?_ | with_reducible refine wt_and ?_ | with_reducible refine wt_or ?_ | with_reducible refine we_if ?_ | with_reducible refine we_is ?_
    | with_reducible refine wl_seq ?_ | with_reducible refine wl_rng1 ?_ | with_reducible refine wl_rng2 ?_ | with_reducible refine wl_enumT ?_ | with_reducible refine wl_enum ?_ | with_reducible refine wl_rev ?_
    | with_reducible refine wq_c ?_ | with_reducible refine wq_op1 ?_ | with_reducible refine wq_op2 ?_ | with_reducible refine wq_op3 ?_ | with_reducible refine wq_nil ?_ | with_reducible refine wq_cons ?_ | with_reducible refine wq_tup ?_ | with_reducible refine wq_lst ?_ | with_reducible refine wq_if ?_ | with_reducible refine wq_tv ?_ | with_reducible refine wq_notT ?_ | with_reducible refine wq_andT ?_ | with_reducible refine wq_orT ?_ | with_reducible refine wq_call ?_ | with_reducible refine wq_seq ?_ | with_reducible refine wq_meth ?_ | with_reducible refine wq_sl ?_ | with_reducible refine wo_none ?_ | with_reducible refine wo_some ?_
    | with_reducible refine wq_rng1 ?_ | with_reducible refine wq_rng2 ?_ | with_reducible refine wq_enumT ?_ | with_reducible refine wq_enum ?_ | with_reducible refine wq_rev ?_ | with_reducible refine wq_zip ?_
    | ((with_reducible refine' wq_var ?wpv ?_); (case wpv => rfl)) | ((with_reducible refine' wq_varO ?wpv ?_); (case wpv => rfl)) | ((with_reducible refine' wq_varD ?wpv ?_); (case wpv => rfl)) | ((with_reducible refine' wq_varI ?wpv ?_); (case wpv => rfl))
    | ((with_reducible refine' we_frzO ?wpv ?_); (case wpv => rfl)) | ((with_reducible refine' we_frzD ?wpv ?_); (case wpv => rfl)) | ((with_reducible refine' we_frzI ?wpv ?_); (case wpv => rfl)) | ((with_reducible refine' w_retV ?wpv ?_); (case wpv => rfl))
    | ((with_reducible refine' w_app ?wpv ?_); (case wpv => rfl)) | ((with_reducible refine' w_ext ?wpv ?_); (case wpv => rfl))
    | with_reducible refine wq_andV ?_ | with_reducible refine wq_orV ?_ | with_reducible refine wq_notV ?_ | with_reducible refine wq_chain ?_
    | with_reducible refine hv_some ?_ | with_reducible refine hv_add ?_ | with_reducible refine hv_sub ?_ | with_reducible refine hv_eq ?_ | with_reducible refine hv_ne ?_ | with_reducible refine hv_lt ?_ | with_reducible refine hv_le ?_ | with_reducible refine hv_gt ?_ | with_reducible refine hv_ge ?_ | with_reducible refine ex_bool ?_ | with_reducible refine ex_int ?_ | with_reducible refine ex_tup ?_ | with_reducible refine ex_lst ?_ | with_reducible refine ex_dct ?_ | with_reducible refine ltl (by simp) ?_ | with_reducible refine len10 (by simp) ?_)
/-! ## what is known, as a dict -/
def kn (K : List Nat) : List (D × D) := K.map fun x => (nI x, .bool true)
theorem isT_kn (K : List Nat) : isT (kn K) = false := by cases K <;> rfl
theorem key_nI (x : Nat) : keyOk false (nI x) = true := rfl
theorem deq_nI (x y : Nat) : deq (nI x) (nI y) = decide (x = y) := by
  show ((x : Int) == (y : Int)) = _
  by_cases h : x = y
  · subst h; simp
  · rw [decide_eq_false h]
    exact beq_eq_false_iff_ne.mpr fun z => h (by omega)
theorem find_kn (K : List Nat) (x : Nat) : (findK (kn K) (nI x)).isSome = decide (x ∈ K) := by
  induction K with
  | nil => rfl
  | cons y K ih =>
    unfold kn findK at *
    rw [List.map_cons, List.find?_cons]
    rw [show deq (nI y, PyData.bool true).1 (nI x) = decide (y = x) from deq_nI y x]
    by_cases h : y = x
    · subst h; simp
    · rw [decide_eq_false h]
      have : x ≠ y := fun z => h z.symm
      simp only [List.mem_cons, this, false_or]
      exact ih
theorem din_kn (n : Bool) (K : List Nat) (x : Nat) : dinD n (nI x) (.dict (kn K)) = some (.bool (xor n (decide (x ∈ K)))) := by
  show (if keyOk (isT (kn K)) (nI x) = true then some (PyData.bool (xor n (findK (kn K) (nI x)).isSome)) else none) = _
  rw [isT_kn, key_nI, if_pos rfl, find_kn]
theorem put_kn (K : List Nat) (x : Nat) : putD (kn K) (nI x) (.bool true) = kn (putN K x) := by
  have e : ((kn K).any fun kv => deq kv.1 (nI x)) = decide (x ∈ K) := by
    unfold kn
    rw [List.any_map]
    induction K with
    | nil => rfl
    | cons y K ih =>
      rw [List.any_cons, ih]
      show (deq (nI y) (nI x) || _) = _
      rw [deq_nI]
      by_cases h : y = x
      · subst h; simp
      · have : x ≠ y := fun z => h z.symm
        simp [h, this]
  unfold putD putN
  rw [e]
  by_cases h : x ∈ K
  · rw [if_pos (by simpa using h), if_pos h]
    unfold kn
    rw [List.map_map]
    apply List.map_congr_left
    intro y _
    show (if deq (nI y) (nI x) = true then (nI y, PyData.bool true) else (nI y, PyData.bool true)) = _
    split <;> rfl
  · rw [if_neg (by simpa using h), if_neg h]
    unfold kn
    rw [List.map_append]; rfl
theorem kn_len (K : List Nat) : (kn K).length = K.length := List.length_map _
theorem ix_nT {g : List Nat} {x : Nat} (h : x < g.length) : ixD (nT g) (nI x) = some (nI (g.getD x 0)) := by
  show atI (g.map nI) (x : Int) = _
  apply atI_nat'
  rw [List.getElem?_map, List.getElem?_eq_getElem h]
  simp [List.getD, List.getElem?_eq_getElem h]
theorem len_nT (g : List Nat) : lenD [nT g] = some (.int (g.length : Nat)) := by
  show some (PyData.int ((g.map nI).length : Nat)) = _
  rw [List.length_map]
theorem ne_nil (w : List Nat) : neD (.list (w.map nI)) (.list []) = some (.bool (decide (w ≠ []))) := by
  show (if (SeqAt.shaped (.list (w.map nI)) && SeqAt.shaped (.list [])) = true then some (PyData.bool (!PyData.eqv (.list (w.map nI)) (.list []))) else none) = _
  rw [if_pos (by rw [nI_int, shaped_ints]; rfl)]
  cases w with
  | nil => rfl
  | cons a w => rfl
/-! ## rounds of an order -/
def stR (g : List Nat) (F : List (List Nat)) (K : List Nat) (a b : M) : S := [.imm (nT g), .ol (F.map nT), .od (kn K), a, b]
theorem rounds_spec {g : List Nat} {N : Nat} (hl : g.length = N) (hN : N ≤ 900) (P : PermOn (List.range N) fun x => g.getD x 0) : F_rounds [nT g] = some (nnT (rds (fun x => g.getD x 0) 1000 (List.range N) [] [])) := by
  have lr : (List.range N).length = N := List.length_range
  suffices h : Wp m_rounds [.imm (nT g), .un, .un, .un, .un] fun f => ∃ s, f = .rt (nnT (rds (fun x => g.getD x 0) 1000 (List.range N) [] [])) s by
    obtain ⟨f, h1, s, rfl⟩ := h
    show outF (m_rounds [.imm (nT g), .un, .un, .un, .un]) = _
    rw [h1]; rfl
  unfold m_rounds
  repeat' bv_omega
  refine w_for ?_
  repeat' bv_omega
  refine hv_of (len_nT g) ?_
  rw [hl]
  repeat' bv_omega
  refine ex_rng1 (by omega) ⟨fun i s => ∃ K F T z a, i ≤ N ∧ s = [.imm (nT g), .ol (F.map nT), .od (kn K), z, a] ∧ rds (fun x => g.getD x 0) 1000 ((List.range N).drop i) K F = rds (fun x => g.getD x 0) 1000 (List.range N) [] [] ∧ RInv (List.range N) (fun x => g.getD x 0) K F T ∧ K.length ≤ 1000 * i ∧ F.length ≤ i, ⟨[], [], [], _, _, Nat.zero_le _, rfl, rfl, RInv.nil _ _, Nat.zero_le _, Nat.zero_le _⟩, ?_, ?_⟩
  · rintro i d s hi ⟨K, F, T, z, a, hi2, rfl, hr, inv, kl, fl⟩
    obtain ⟨hi3, rfl⟩ := rngL_at _ _ _ _ _ hi
    have hi3 : i < N := by omega
    have e : (0 : Int) + (i : Int) * 1 = i := by omega
    rw [e]
    refine hv_of rfl ?_
    have iD : i ∈ List.range N := List.mem_range.mpr hi3
    have hd : (List.range N).drop i = i :: (List.range N).drop (i + 1) := by
      rw [List.drop_eq_getElem_cons (by rw [lr]; exact hi3)]; simp
    rw [hd] at hr
    rw [rds.eq_2] at hr
    obtain ⟨Kf, wf, hpw, stp, inv'⟩ : ∃ Kf wf, pw (fun x => g.getD x 0) 1000 K [] i = (Kf, wf) ∧ Stops (fun x => g.getD x 0) 1000 K i ∧ ∃ T', RInv (List.range N) (fun x => g.getD x 0) Kf (if wf = [] then F else F ++ [wf]) T' := by
      by_cases c : i ∈ K
      · exact ⟨K, [], pw_known c, .inl c, T, inv⟩
      · obtain ⟨w, h1, h2, h3, h4⟩ := walk_ok P inv.clo iD c
        have wn : w ≠ [] := fun z => by have := h3.hb; rw [z] at this; cases this
        exact ⟨K ++ w, w, h1 1000 (by rw [lr]; omega), h4.mono (by rw [lr]; omega), T ++ [i], by rw [if_neg wn]; exact inv.add P iD c h3⟩
    rw [hpw] at hr
    dsimp only at hr
    repeat' bv_omega
    refine w_while (fun k s => ∃ K' w x, s = [.imm (nT g), .ol (F.map nT), .od (kn K'), .imm (nI x), .ol (w.map nI)] ∧ Stops (fun x => g.getD x 0) k K' x ∧ pw (fun x => g.getD x 0) k K' w x = (Kf, wf) ∧ K'.length + k ≤ K.length + 1000 ∧ w.length + k ≤ 1000 ∧ x < N) 1000 _ ⟨K, [], i, rfl, stp, hpw, by omega, by simp, hi3⟩ ?_ ?_
    · rintro k s ⟨K', w, x, rfl, st, hp, b1, b2, xN⟩
      repeat' bv_omega
      refine hv_of (din_kn true K' x) ?_
      repeat' bv_omega
      refine ⟨fun c => ?_, fun c => ?_⟩
      · have c : x ∉ K' := by simpa using c
        repeat' bv_omega
        refine ⟨_, rfl, ?_⟩
        repeat' bv_omega
        refine ⟨by rw [isT_kn]; rfl, by rw [kn_len]; omega, ?_⟩
        repeat' bv_omega
        refine ⟨_, rfl, by rw [List.length_map]; omega, ?_⟩
        repeat' bv_omega
        refine hv_of (ix_nT (by rw [hl]; exact xN)) ?_
        repeat' bv_omega
        rw [put_kn]
        have st : Stops (fun x => g.getD x 0) k (K' ++ [x]) (g.getD x 0) := st.elim (fun z => (c z).elim) fun z => z
        have hp : pw (fun x => g.getD x 0) k (K' ++ [x]) (w ++ [x]) (g.getD x 0) = (Kf, wf) := by
          unfold pw at hp; rw [if_neg c] at hp; exact hp
        have e : putN K' x = K' ++ [x] := if_neg c
        refine ⟨K' ++ [x], w ++ [x], g.getD x 0, ?_, st, hp, by rw [List.length_append, List.length_singleton]; omega, by rw [List.length_append, List.length_singleton]; omega, List.mem_range.mp (P.mem x (List.mem_range.mpr xN))⟩
        rw [e, List.map_append]
        rfl
      · have c : x ∈ K' := by simpa using c
        have hp : (K', w) = (Kf, wf) := by
          unfold pw at hp; rw [if_pos c] at hp; exact hp
        obtain ⟨rfl, rfl⟩ := Prod.mk.inj hp
        repeat' bv_omega
        refine hv_of (ne_nil w) ?_
        repeat' bv_omega
        obtain ⟨T', inv'⟩ := inv'
        refine ⟨fun wn => ?_, fun wn => ?_⟩
        · have wn : w ≠ [] := by simpa using wn
          rw [if_neg wn] at inv' hr
          repeat' bv_omega
          refine hv_of rfl ?_
          repeat' bv_omega
          refine ⟨_, rfl, by rw [List.length_map]; omega, ?_⟩
          repeat' bv_omega
          exact ⟨K', F ++ [w], T', _, _, by omega, by rw [List.map_append]; rfl, hr, inv', by omega, by rw [List.length_append, List.length_singleton]; omega⟩
        · have wn : w = [] := by simpa using wn
          rw [if_pos wn] at inv' hr
          repeat' bv_omega
          exact ⟨K', F, T', _, _, by omega, rfl, hr, inv', by omega, by omega⟩
    · rintro s ⟨K', w, x, rfl, st, _⟩
      exact st
  · rintro s ⟨K, F, T, z, a, hi2, rfl, hr, inv, kl, fl⟩
    rw [rngL_length, Int.toNat_natCast, List.drop_of_length_le (by rw [lr]; exact Nat.le_refl _)] at hr
    repeat' bv_omega
    refine hv_of rfl ?_
    have hr : F = _ := hr
    repeat' bv_omega
    rw [← hr]
    exact ⟨_, rfl⟩
end Y

namespace Y
open PySem PySem.Spec PyProof.Rows L2
local macro_rules
  | `(tactic| bv_omega) => `(tactic| first
    | with_reducible refine w_seq ?_ | with_reducible refine sq_nx ?_ | with_reducible refine sq_rt ?_ | with_reducible refine sq_bk ?_ | with_reducible refine sq_ct ?_ | with_reducible refine lp_nx ?_ | with_reducible refine lp_ct ?_ | with_reducible refine lp_bk ?_ | with_reducible refine lp_rt ?_
    | with_reducible refine w_nx ?_ | with_reducible refine w_bk ?_ | with_reducible refine w_ct ?_ | with_reducible refine w_if ?_ | with_reducible refine w_ret ?_ | with_reducible refine w_retO ?_ | with_reducible refine w_set ?_ | with_reducible refine w_setO ?_ | with_reducible refine w_setP ?_
    | with_reducible refine w_asg ?_ | with_reducible refine w_drop ?_ | with_reducible refine w_par ?_ | with_reducible refine w_parG ?_ | with_reducible refine w_dput ?_ | with_reducible refine w_setix ?_
    | with_reducible refine wv_nil ?_ | with_reducible refine wv_i ?_ | with_reducible refine wv_o ?_ | with_reducible refine wv_p ?_
    | with_reducible refine hg_nil ?_ | with_reducible refine hg_i (by simp) ?_ | with_reducible refine hg_o (by simp) ?_ | with_reducible refine hg_p (by simp) ?_
    | with_reducible refine we_q ?_ | with_reducible refine wt_q ?_ | with_reducible refine wl_own ?_ | with_reducible refine we_op2 ?_ | with_reducible refine wl_nil ?_ | with_reducible refine wl_cons ?_ | with_reducible refine we_tup ?_ | with_reducible refine wl_lst ?_ | with_reducible refine we_call ?_ | with_reducible refine we_callT ?_ | with_reducible refine we_lst ?_
    | with_reducible refine wt_v ?_ | with_reducible refine wt_not ?_ | with_reducible refine wt_and ?_ | with_reducible refine wt_or ?_ | with_reducible refine we_if ?_ | with_reducible refine we_is ?_
    | with_reducible refine wl_seq ?_ | with_reducible refine wl_rng1 ?_ | with_reducible refine wl_rng2 ?_ | with_reducible refine wl_enumT ?_ | with_reducible refine wl_enum ?_ | with_reducible refine wl_rev ?_
    | with_reducible refine wq_c ?_ | with_reducible refine wq_op1 ?_ | with_reducible refine wq_op2 ?_ | with_reducible refine wq_op3 ?_ | with_reducible refine wq_nil ?_ | with_reducible refine wq_cons ?_ | with_reducible refine wq_tup ?_ | with_reducible refine wq_lst ?_ | with_reducible refine wq_if ?_ | with_reducible refine wq_tv ?_ | with_reducible refine wq_notT ?_ | with_reducible refine wq_andT ?_ | with_reducible refine wq_orT ?_ | with_reducible refine wq_call ?_ | with_reducible refine wq_seq ?_ | with_reducible refine wq_meth ?_ | with_reducible refine wq_sl ?_ | with_reducible refine wo_none ?_ | with_reducible refine wo_some ?_
    | with_reducible refine wq_rng1 ?_ | with_reducible refine wq_rng2 ?_ | with_reducible refine wq_enumT ?_ | with_reducible refine wq_enum ?_ | with_reducible refine wq_rev ?_ | with_reducible refine wq_zip ?_
    | ((with_reducible refine' wq_var ?wpv ?_); (case wpv => rfl)) | ((with_reducible refine' wq_varO ?wpv ?_); (case wpv => rfl)) | ((with_reducible refine' wq_varD ?wpv ?_); (case wpv => rfl)) | ((with_reducible refine' wq_varI ?wpv ?_); (case wpv => rfl))
    | ((with_reducible refine' we_frzO ?wpv ?_); (case wpv => rfl)) | ((with_reducible refine' we_frzD ?wpv ?_); (case wpv => rfl)) | ((with_reducible refine' we_frzI ?wpv ?_); (case wpv => rfl)) | ((with_reducible refine' w_retV ?wpv ?_); (case wpv => rfl))
    | ((with_reducible refine' w_app ?wpv ?_); (case wpv => rfl)) | ((with_reducible refine' w_ext ?wpv ?_); (case wpv => rfl))
    | with_reducible refine wq_andV ?_ | with_reducible refine wq_orV ?_ | with_reducible refine wq_notV ?_ | with_reducible refine wq_chain ?_
    | with_reducible refine hv_some ?_ | with_reducible refine hv_add ?_ | with_reducible refine hv_sub ?_ | with_reducible refine hv_eq ?_ | with_reducible refine hv_ne ?_ | with_reducible refine hv_lt ?_ | with_reducible refine hv_le ?_ | with_reducible refine hv_gt ?_ | with_reducible refine hv_ge ?_ | with_reducible refine ex_bool ?_ | with_reducible refine ex_int ?_ | with_reducible refine ex_tup ?_ | with_reducible refine ex_lst ?_ | with_reducible refine ex_dct ?_ | with_reducible refine ltl (by simp) ?_ | with_reducible refine len10 (by simp) ?_)
/-! ## numbers with their places, and dicts of numbers -/
def eN : Nat → List Nat → List (Nat × Nat)
  | _, [] => []
  | i, x :: l => (i, x) :: eN (i + 1) l
theorem enum_nI : ∀ (l : List Nat) (i : Nat), enumL i (l.map nI) = (eN i l).map fun p => pairD (nI p.1) (nI p.2)
  | [], _ => rfl
  | x :: l, i => by
    show pairD (.int (i : Nat)) (nI x) :: enumL (i + 1) (l.map nI) = _
    rw [enum_nI l (i + 1)]; rfl
theorem eN_len : ∀ (l : List Nat) (i : Nat), (eN i l).length = l.length
  | [], _ => rfl
  | _ :: l, i => by show (eN (i + 1) l).length + 1 = l.length + 1; rw [eN_len l]
theorem eN_snd : ∀ (l : List Nat) (i : Nat), (eN i l).map (·.2) = l
  | [], _ => rfl
  | x :: l, i => by show x :: (eN (i + 1) l).map (·.2) = _; rw [eN_snd l]
def dN (ps : List (Nat × Nat)) : List (D × D) := ps.map fun p => (nI p.1, nI p.2)
theorem isT_dN (ps : List (Nat × Nat)) : isT (dN ps) = false := by cases ps <;> rfl
theorem put_dN (ps : List (Nat × Nat)) (x y : Nat) (h : x ∉ ps.map (·.1)) : putD (dN ps) (nI x) (nI y) = dN (ps ++ [(x, y)]) := by
  have e : ((dN ps).any fun kv => deq kv.1 (nI x)) = false := by
    unfold dN
    rw [List.any_map, List.any_eq_false]
    intro p hp
    show ¬ deq (nI p.1) (nI x) = true
    rw [deq_nI, decide_eq_true_eq]
    exact fun z => h (List.mem_map.mpr ⟨p, hp, z⟩)
  unfold putD
  rw [e]
  show dN ps ++ [(nI x, nI y)] = _
  unfold dN
  rw [List.map_append]; rfl
theorem fold_dN' (k v : D → D) : ∀ (ds : List D) (ps acc : List (Nat × Nat)), ds.map (fun d => (k d, v d)) = dN ps → ((acc ++ ps).map (·.1)).Nodup → ds.foldl (fun acc d => putD acc (k d) (v d)) (dN acc) = dN (acc ++ ps)
  | [], [], acc, _, _ => by rw [List.append_nil]; rfl
  | [], _ :: _, _, h, _ => by cases h
  | _ :: _, [], _, h, _ => by cases h
  | d :: ds, p :: ps, acc, h, nd => by
    obtain ⟨h1, h2⟩ := List.cons.inj h
    obtain ⟨h3, h4⟩ := Prod.mk.inj h1
    rw [List.foldl_cons]
    show ds.foldl _ (putD (dN acc) (k d) (v d)) = _
    rw [h3, h4, put_dN acc p.1 p.2, fold_dN' k v ds ps _ h2, List.append_assoc]
    · rfl
    · rw [List.append_assoc]; exact nd
    · intro hm
      rw [List.map_append, List.nodup_append] at nd
      exact nd.2.2 _ hm _ List.mem_cons_self rfl
theorem fold_dN {ds : List D} {k v : D → D} {ps : List (Nat × Nat)} (h : ds.map (fun d => (k d, v d)) = dN ps) (nd : (ps.map (·.1)).Nodup) : ds.foldl (fun acc d => putD acc (k d) (v d)) [] = dN ps := fold_dN' k v ds ps [] h nd
theorem find_dN (ps : List (Nat × Nat)) (x : Nat) : findK (dN ps) (nI x) = (ps.find? fun p => p.1 == x).map fun p => nI p.2 := by
  unfold findK dN
  rw [List.find?_map]
  cases h : (ps.find? fun p => p.1 == x) with
  | none =>
    have : List.find? ((fun p : D × D => deq p.1 (nI x)) ∘ fun p : Nat × Nat => (nI p.1, nI p.2)) ps = none := by
      rw [← h]; congr 1; funext p; show deq (nI p.1) (nI x) = _; rw [deq_nI]; rfl
    rw [this]; rfl
  | some q =>
    have : List.find? ((fun p : D × D => deq p.1 (nI x)) ∘ fun p : Nat × Nat => (nI p.1, nI p.2)) ps = some q := by
      rw [← h]; congr 1; funext p; show deq (nI p.1) (nI x) = _; rw [deq_nI]; rfl
    rw [this]; rfl
theorem get_dN {ps : List (Nat × Nat)} {x y : Nat} (h : (ps.find? fun p => p.1 == x) = some (x, y)) : dgetD (.dict (dN ps)) (nI x) = some (nI y) := by
  show (if keyOk (isT (dN ps)) (nI x) = true then findK (dN ps) (nI x) else none) = _
  rw [isT_dN, if_pos (key_nI x), find_dN, h]; rfl
/-- what leads stand for -/
def asc : Nat → List Nat → List (Nat × Nat)
  | _, [] => []
  | p, y :: l => (y, p + 1) :: asc y l
theorem asc_fst : ∀ (l : List Nat) (p : Nat), (asc p l).map (·.1) = l
  | [], _ => rfl
  | y :: l, p => by show y :: (asc y l).map (·.1) = _; rw [asc_fst l]
theorem asc_find : ∀ (l : List Nat) (p x : Nat), x ∈ l → ((asc p l).find? fun q => q.1 == x) = some (x, prv p l x + 1)
  | [], _, _, h => by cases h
  | y :: l, p, x, h => by
    show (List.find? _ ((y, p + 1) :: asc y l)) = some (x, (if x = y then p else prv y l x) + 1)
    rw [List.find?_cons]
    by_cases c : x = y
    · subst c; simp
    · have : ((y, p + 1).1 == x) = false := beq_eq_false_iff_ne.mpr fun z => c z.symm
      rw [this, if_neg c]
      exact asc_find l y x ((List.mem_cons.mp h).resolve_left c)
theorem asc_eN (W : List Nat) : ∀ (l : List Nat) (k p : Nat), W.drop k = p :: l → (eN k l).map (fun q => (q.2, W.getD q.1 0 + 1)) = asc p l
  | [], _, _, _ => rfl
  | y :: l, k, p, h => by
    show (y, W.getD k 0 + 1) :: (eN (k + 1) l).map _ = (y, p + 1) :: asc y l
    have h1 : W[k]? = some p := by
      have := congrArg (fun z => z[0]?) h
      simpa [List.getElem?_drop] using this
    have h2 : W.drop (k + 1) = y :: l := by
      have : W.drop (k + 1) = (W.drop k).drop 1 := by rw [List.drop_drop]
      rw [this, h]; rfl
    rw [asc_eN W l (k + 1) y h2, List.getD_eq_getElem?_getD, h1]; rfl
/-- where a number lies -/
def spt : Nat → List Nat → Nat → Nat
  | k, [], _ => k
  | k, y :: l, x => if x = y then k else spt (k + 1) l x
theorem spt_find : ∀ (l : List Nat) (k x : Nat), x ∈ l → (((eN k l).map fun q => (q.2, q.1)).find? fun q => q.1 == x) = some (x, spt k l x)
  | [], _, _, h => by cases h
  | y :: l, k, x, h => by
    show (List.find? _ ((y, k) :: (eN (k + 1) l).map fun q => (q.2, q.1))) = some (x, if x = y then k else spt (k + 1) l x)
    rw [List.find?_cons]
    by_cases c : x = y
    · subst c; simp
    · have : ((y, k).1 == x) = false := beq_eq_false_iff_ne.mpr fun z => c z.symm
      rw [this, if_neg c]
      exact spt_find l (k + 1) x ((List.mem_cons.mp h).resolve_left c)
theorem spt_add : ∀ (l : List Nat) (k x : Nat), spt k l x = k + spt 0 l x
  | [], k, x => rfl
  | y :: l, k, x => by
    show (if x = y then k else spt (k + 1) l x) = k + if x = y then 0 else spt 1 l x
    split
    · rfl
    · rw [spt_add l (k + 1), spt_add l 1]; omega
theorem spt_lt : ∀ (l : List Nat) (x : Nat), x ∈ l → spt 0 l x < l.length
  | [], _, h => by cases h
  | y :: l, x, h => by
    show (if x = y then 0 else spt 1 l x) < l.length + 1
    split
    · exact Nat.zero_lt_succ _
    · next c =>
      rw [spt_add l 1]
      have := spt_lt l x ((List.mem_cons.mp h).resolve_left c)
      omega
theorem spt_prv : ∀ (l : List Nat) (p x : Nat), x ∈ l → (p :: l)[spt 0 l x]? = some (prv p l x)
  | [], _, _, h => by cases h
  | y :: l, p, x, h => by
    show (p :: y :: l)[if x = y then 0 else spt 1 l x]? = some (if x = y then p else prv y l x)
    by_cases c : x = y
    · rw [if_pos c, if_pos c]; rfl
    · rw [if_neg c, if_neg c, spt_add l 1, Nat.add_comm, List.getElem?_cons_succ]
      exact spt_prv l y x ((List.mem_cons.mp h).resolve_left c)
theorem add_nT {a b : List Nat} (h : a.length + b.length ≤ 1000000) : addD (nT a) (nT b) = some (nT (a ++ b)) := by
  show (if tooLong (a.map nI) (b.map nI) = true then some (PyData.tuple (a.map nI ++ b.map nI)) else none) = _
  unfold tooLong
  rw [List.length_map, List.length_map, if_pos (Nat.ble_eq.mpr h), ← List.map_append]; rfl
end Y

namespace Y
open PySem PySem.Spec PyProof.Rows L2
local macro_rules
  | `(tactic| bv_omega) => `(tactic| first
    | with_reducible refine w_seq ?_ | with_reducible refine sq_nx ?_ | with_reducible refine sq_rt ?_ | with_reducible refine sq_bk ?_ | with_reducible refine sq_ct ?_ | with_reducible refine lp_nx ?_ | with_reducible refine lp_ct ?_ | with_reducible refine lp_bk ?_ | with_reducible refine lp_rt ?_
    | with_reducible refine w_nx ?_ | with_reducible refine w_bk ?_ | with_reducible refine w_ct ?_ | with_reducible refine w_if ?_ | with_reducible refine w_ret ?_ | with_reducible refine w_retO ?_ | with_reducible refine w_set ?_ | with_reducible refine w_setO ?_ | with_reducible refine w_setP ?_
    | with_reducible refine w_asg ?_ | with_reducible refine w_drop ?_ | with_reducible refine w_par ?_ | with_reducible refine w_parG ?_ | with_reducible refine w_dput ?_ | with_reducible refine w_setix ?_
    | with_reducible refine wv_nil ?_ | with_reducible refine wv_i ?_ | with_reducible refine wv_o ?_ | with_reducible refine wv_p ?_
    | with_reducible refine hg_nil ?_ | with_reducible refine hg_i (by simp) ?_ | with_reducible refine hg_o (by simp) ?_ | with_reducible refine hg_p (by simp) ?_
    | with_reducible refine we_q ?_ | with_reducible refine wt_q ?_ | with_reducible refine wl_own ?_ | with_reducible refine we_op2 ?_ | with_reducible refine wl_nil ?_ | with_reducible refine wl_cons ?_ | with_reducible refine we_tup ?_ | with_reducible refine wl_lst ?_ | with_reducible refine we_call ?_ | with_reducible refine we_callT ?_ | with_reducible refine we_lst ?_
    | with_reducible refine wt_v ?_ | with_reducible refine wt_not ?_ | with_reducible refine wt_and ?_ | with_reducible refine wt_or ?_ | with_reducible refine we_if ?_ | with_reducible refine we_is ?_
    | with_reducible refine wl_seq ?_ | with_reducible refine wl_rng1 ?_ | with_reducible refine wl_rng2 ?_ | with_reducible refine wl_enumT ?_ | with_reducible refine wl_enum ?_ | with_reducible refine wl_rev ?_
    | with_reducible refine wq_c ?_ | with_reducible refine wq_op1 ?_ | with_reducible refine wq_op2 ?_ | with_reducible refine wq_op3 ?_ | with_reducible refine wq_nil ?_ | with_reducible refine wq_cons ?_ | with_reducible refine wq_tup ?_ | with_reducible refine wq_lst ?_ | with_reducible refine wq_if ?_ | with_reducible refine wq_tv ?_ | with_reducible refine wq_notT ?_ | with_reducible refine wq_andT ?_ | with_reducible refine wq_orT ?_ | with_reducible refine wq_call ?_ | with_reducible refine wq_seq ?_ | with_reducible refine wq_meth ?_ | with_reducible refine wq_sl ?_ | with_reducible refine wo_none ?_ | with_reducible refine wo_some ?_
    | with_reducible refine wq_rng1 ?_ | with_reducible refine wq_rng2 ?_ | with_reducible refine wq_enumT ?_ | with_reducible refine wq_enum ?_ | with_reducible refine wq_rev ?_ | with_reducible refine wq_zip ?_
    | ((with_reducible refine' wq_var ?wpv ?_); (case wpv => rfl)) | ((with_reducible refine' wq_varO ?wpv ?_); (case wpv => rfl)) | ((with_reducible refine' wq_varD ?wpv ?_); (case wpv => rfl)) | ((with_reducible refine' wq_varI ?wpv ?_); (case wpv => rfl))
    | ((with_reducible refine' we_frzO ?wpv ?_); (case wpv => rfl)) | ((with_reducible refine' we_frzD ?wpv ?_); (case wpv => rfl)) | ((with_reducible refine' we_frzI ?wpv ?_); (case wpv => rfl)) | ((with_reducible refine' w_retV ?wpv ?_); (case wpv => rfl))
    | ((with_reducible refine' w_app ?wpv ?_); (case wpv => rfl)) | ((with_reducible refine' w_ext ?wpv ?_); (case wpv => rfl))
    | with_reducible refine wq_andV ?_ | with_reducible refine wq_orV ?_ | with_reducible refine wq_notV ?_ | with_reducible refine wq_chain ?_
    | with_reducible refine hv_some ?_ | with_reducible refine hv_add ?_ | with_reducible refine hv_sub ?_ | with_reducible refine hv_eq ?_ | with_reducible refine hv_ne ?_ | with_reducible refine hv_lt ?_ | with_reducible refine hv_le ?_ | with_reducible refine hv_gt ?_ | with_reducible refine hv_ge ?_ | with_reducible refine ex_bool ?_ | with_reducible refine ex_int ?_ | with_reducible refine ex_tup ?_ | with_reducible refine ex_lst ?_ | with_reducible refine ex_dct ?_ | with_reducible refine ltl (by simp) ?_ | with_reducible refine len10 (by simp) ?_)
def pA : D → D
  | .dict [(_, x), _] => x
  | d => d
def pB : D → D
  | .dict [_, (_, y)] => y
  | d => d
def toN : D → Nat
  | .int i => i.toNat
  | _ => 0
theorem toN_nI (x : Nat) : toN (nI x) = x := Int.toNat_natCast x
theorem whole_nT {r : List Nat} {n : Nat} (h : r.length = n) (hN : n ≤ 900) {Q : D → Prop} (q : Q (nT (0 :: (r ++ [n + 1])))) {s : S} (e : s[0]? = some (.imm (nT r))) : Wp (op2 addD (op2 addD (tupM (argC (cM (.int 0)) argN)) (varM 0)) (tupM (argC (op2 addD (callM lenD (argC (varM 0) argN)) (cM (.int 1))) argN))) s Q := by
  refine wq_op2 (wq_op2 ?_)
  repeat' bv_omega
  refine wq_var e ?_
  refine hv_of (add_nT (a := [0]) (b := r) (by rw [h]; show 1 + n ≤ _; omega)) ?_
  repeat' bv_omega
  refine wq_var e ?_
  repeat' bv_omega
  refine hv_of (len_nT r) ?_
  repeat' bv_omega
  rw [h]
  refine hv_of (add_nT (a := [0] ++ r) (b := [n + 1]) (by rw [List.length_append, h]; show 1 + n + 1 ≤ _; omega)) ?_
  rw [show [0] ++ r ++ [n + 1] = 0 :: (r ++ [n + 1]) by simp]
  exact q
/-- the leads of gaps, told by numbers -/
def gld (r : List Nat) (n : Nat) : List Nat := (0 :: r).map fun x => spt 0 (r ++ [n + 1]) (x + 1)
theorem gap_leads_spec {r : List Nat} {n : Nat} (h : r.length = n) (hN : n ≤ 900) (nd : (0 :: (r ++ [n + 1])).Nodup) (hs : ∀ x, x ∈ 0 :: r → x + 1 ∈ r ++ [n + 1]) : F_gap_leads [nT r] = some (nT (gld r n)) := by
  suffices h : Wp m_gap_leads [.imm (nT r), .un, .un, .un] fun f => ∃ s, f = .rt (nT (gld r n)) s by
    obtain ⟨f, h1, s, rfl⟩ := h
    show outF (m_gap_leads [.imm (nT r), .un, .un, .un]) = _
    rw [h1]; rfl
  unfold m_gap_leads
  repeat' bv_omega
  refine wq_dc (wq_enumT (whole_nT h hN ?_ rfl))
  refine ⟨(0 :: (r ++ [n + 1])).map nI, rfl, by rw [enumL_length, List.length_map, List.length_cons, List.length_append, h]; show n + 1 + 1 ≤ _; omega, pB, pA, ?_, ?_⟩
  · intro d hd
    rw [enum_nI] at hd
    obtain ⟨p, _, rfl⟩ := List.mem_map.mp hd
    exact ⟨_, rfl, ⟨_, rfl, rfl⟩, ⟨_, rfl, rfl⟩, rfl⟩
  · rw [fold_dN (ps := (eN 0 (0 :: (r ++ [n + 1]))).map fun q => (q.2, q.1)) (by rw [enum_nI, List.map_map]; unfold dN; rw [List.map_map]; rfl) (by rw [List.map_map]; show ((eN 0 (0 :: (r ++ [n + 1]))).map (·.2)).Nodup; rw [eN_snd]; exact nd)]
    repeat' bv_omega
    refine wq_lc1 ?_
    repeat' bv_omega
    refine hv_of (add_nT (a := [0]) (b := r) (by rw [h]; show 1 + n ≤ _; omega)) ?_
    repeat' bv_omega
    refine hv_of rfl ?_
    refine ⟨by rw [List.length_map, List.length_append, h]; show 1 + n ≤ _; omega, fun d => nI (spt 0 (r ++ [n + 1]) (toN d + 1)), ?_, ?_⟩
    · intro d hd
      obtain ⟨x, hx, rfl⟩ := List.mem_map.mp hd
      refine ⟨_, rfl, ?_⟩
      repeat' bv_omega
      have hm : x + 1 ∈ 0 :: (r ++ [n + 1]) := List.mem_cons_of_mem _ (hs x hx)
      refine hv_of (show addD (nI x) (.int 1) = some (nI (x + 1)) from rfl) ?_
      refine hv_of (get_dN (x := x + 1) (spt_find _ 0 _ hm)) ?_
      have e : spt 0 (0 :: (r ++ [n + 1])) (x + 1) = 1 + spt 0 (r ++ [n + 1]) (x + 1) := by
        rw [← spt_add]; exact if_neg (Nat.succ_ne_zero x)
      rw [e]
      refine hv_of rfl (hv_of rfl ?_)
      dsimp only
      rw [toN_nI]
      show PyData.int _ = PyData.int _
      congr 1
      show ((1 + spt 0 (r ++ [n + 1]) (x + 1) : Nat) : Int) - 1 = _
      omega
    · repeat' bv_omega
      refine hv_of rfl ?_
      rw [List.map_map]
      have e : ((fun d => nI (spt 0 (r ++ [n + 1]) (toN d + 1))) ∘ nI) = nI ∘ fun x => spt 0 (r ++ [n + 1]) (x + 1) := by
        funext x
        show nI (spt 0 (r ++ [n + 1]) (toN (nI x) + 1)) = _
        rw [toN_nI]; rfl
      rw [e, ← List.map_map]
      exact ⟨_, rfl⟩
/-! ## rounds of blocks -/
end Y

namespace Y
open PySem PySem.Spec PyProof.Rows L2
local macro_rules
  | `(tactic| bv_omega) => `(tactic| first
    | with_reducible refine w_seq ?_ | with_reducible refine sq_nx ?_ | with_reducible refine sq_rt ?_ | with_reducible refine sq_bk ?_ | with_reducible refine sq_ct ?_ | with_reducible refine lp_nx ?_ | with_reducible refine lp_ct ?_ | with_reducible refine lp_bk ?_ | with_reducible refine lp_rt ?_
    | with_reducible refine w_nx ?_ | with_reducible refine w_bk ?_ | with_reducible refine w_ct ?_ | with_reducible refine w_if ?_ | with_reducible refine w_ret ?_ | with_reducible refine w_retO ?_ | with_reducible refine w_set ?_ | with_reducible refine w_setO ?_ | with_reducible refine w_setP ?_
    | with_reducible refine w_asg ?_ | with_reducible refine w_drop ?_ | with_reducible refine w_par ?_ | with_reducible refine w_parG ?_ | with_reducible refine w_dput ?_ | with_reducible refine w_setix ?_
    | with_reducible refine wv_nil ?_ | with_reducible refine wv_i ?_ | with_reducible refine wv_o ?_ | with_reducible refine wv_p ?_
    | with_reducible refine hg_nil ?_ | with_reducible refine hg_i (by simp) ?_ | with_reducible refine hg_o (by simp) ?_ | with_reducible refine hg_p (by simp) ?_
    | with_reducible refine we_q ?_ | with_reducible refine wt_q ?_ | with_reducible refine wl_own ?_ | with_reducible refine we_op2 ?_ | with_reducible refine wl_nil ?_ | with_reducible refine wl_cons ?_ | with_reducible refine we_tup ?_ | with_reducible refine wl_lst ?_ | with_reducible refine we_call ?_ | with_reducible refine we_callT ?_ | with_reducible refine we_lst ?_
    | with_reducible refine wt_v ?_ | with_reducible refine wt_not ?_ | with_reducible refine wt_and ?_ | with_reducible refine wt_or ?_ | with_reducible refine we_if ?_ | with_reducible refine we_is ?_
    | with_reducible refine wl_seq ?_ | with_reducible refine wl_rng1 ?_ | with_reducible refine wl_rng2 ?_ | with_reducible refine wl_enumT ?_ | with_reducible refine wl_enum ?_ | with_reducible refine wl_rev ?_
    | with_reducible refine wq_c ?_ | with_reducible refine wq_op1 ?_ | with_reducible refine wq_op2 ?_ | with_reducible refine wq_op3 ?_ | with_reducible refine wq_nil ?_ | with_reducible refine wq_cons ?_ | with_reducible refine wq_tup ?_ | with_reducible refine wq_lst ?_ | with_reducible refine wq_if ?_ | with_reducible refine wq_tv ?_ | with_reducible refine wq_notT ?_ | with_reducible refine wq_andT ?_ | with_reducible refine wq_orT ?_ | with_reducible refine wq_call ?_ | with_reducible refine wq_seq ?_ | with_reducible refine wq_meth ?_ | with_reducible refine wq_sl ?_ | with_reducible refine wo_none ?_ | with_reducible refine wo_some ?_
    | with_reducible refine wq_rng1 ?_ | with_reducible refine wq_rng2 ?_ | with_reducible refine wq_enumT ?_ | with_reducible refine wq_enum ?_ | with_reducible refine wq_rev ?_ | with_reducible refine wq_zip ?_
    | ((with_reducible refine' wq_var ?wpv ?_); (case wpv => rfl)) | ((with_reducible refine' wq_varO ?wpv ?_); (case wpv => rfl)) | ((with_reducible refine' wq_varD ?wpv ?_); (case wpv => rfl)) | ((with_reducible refine' wq_varI ?wpv ?_); (case wpv => rfl))
    | ((with_reducible refine' we_frzO ?wpv ?_); (case wpv => rfl)) | ((with_reducible refine' we_frzD ?wpv ?_); (case wpv => rfl)) | ((with_reducible refine' we_frzI ?wpv ?_); (case wpv => rfl)) | ((with_reducible refine' w_retV ?wpv ?_); (case wpv => rfl))
    | ((with_reducible refine' w_app ?wpv ?_); (case wpv => rfl)) | ((with_reducible refine' w_ext ?wpv ?_); (case wpv => rfl))
    | with_reducible refine wq_andV ?_ | with_reducible refine wq_orV ?_ | with_reducible refine wq_notV ?_ | with_reducible refine wq_chain ?_
    | with_reducible refine hv_some ?_ | with_reducible refine hv_add ?_ | with_reducible refine hv_sub ?_ | with_reducible refine hv_eq ?_ | with_reducible refine hv_ne ?_ | with_reducible refine hv_lt ?_ | with_reducible refine hv_le ?_ | with_reducible refine hv_gt ?_ | with_reducible refine hv_ge ?_ | with_reducible refine ex_bool ?_ | with_reducible refine ex_int ?_ | with_reducible refine ex_tup ?_ | with_reducible refine ex_lst ?_ | with_reducible refine ex_dct ?_ | with_reducible refine ltl (by simp) ?_ | with_reducible refine len10 (by simp) ?_)
def one (N : Nat) : List Nat := (List.range N).map (· + 1)
theorem one_len (N : Nat) : (one N).length = N := by rw [one, List.length_map, List.length_range]
theorem one_drop {N i : Nat} (h : i < N) : (one N).drop i = (i + 1) :: (one N).drop (i + 1) := by
  rw [List.drop_eq_getElem_cons (by rw [one_len]; exact h)]
  simp [one]
theorem one_mem {N x : Nat} : x ∈ one N ↔ 0 < x ∧ x ≤ N := by
  unfold one
  rw [List.mem_map]
  constructor
  · rintro ⟨a, h, rfl⟩
    have := List.mem_range.mp h
    omega
  · intro h
    exact ⟨x - 1, List.mem_range.mpr (by omega), by omega⟩
theorem eN_lt : ∀ (l : List Nat) (k : Nat) (p : Nat × Nat), p ∈ eN k l → p.1 < k + l.length
  | [], _, _, h => by cases h
  | x :: l, k, p, h => by
    rw [List.length_cons]
    rcases List.mem_cons.mp h with rfl | h
    · show k < _; omega
    · have := eN_lt l (k + 1) p h; omega
theorem cut1 (l : List Nat) : slD (nT (0 :: l)) (some 1) none = some (nT l) := by
  show some (PyData.tuple (cutD ((0 :: l).map nI) (some 1) none)) = _
  unfold cutD
  rw [show (some (1 : Int)) = some ((1 : Nat) : Int) from rfl, HT.sIx_nat, HT.sIx_none, List.length_map, List.length_cons, Nat.min_eq_left (by omega)]
  show some (PyData.tuple ((l.map nI).take _)) = _
  rw [List.take_of_length_le (by rw [List.length_map]; omega)]; rfl
theorem shaped_nI (x : Nat) : SeqAt.shaped (nI x) = true := rfl
theorem findIdx_nI : ∀ (l : List Nat) (x k : Nat), x ∈ l → (l.map nI).findIdx? (fun z => PyData.eqv z (nI x)) = some (spt 0 l x)
  | [], _, _, h => by cases h
  | y :: l, x, k, h => by
    rw [List.map_cons, List.findIdx?_cons]
    show (if PyData.eqv (nI y) (nI x) = true then some 0 else _) = some (if x = y then 0 else spt 1 l x)
    by_cases c : x = y
    · subst c; rw [if_pos rfl, if_pos (by show PyData.eqv (.int _) (.int _) = true; rw [eqv_int]; simp)]
    · rw [if_neg c, if_neg (by show ¬ PyData.eqv (.int _) (.int _) = true; rw [eqv_int]; simp; omega), findIdx_nI l x k ((List.mem_cons.mp h).resolve_left c), spt_add l 1]
      show some (spt 0 l x + 1) = _
      rw [Nat.add_comm]
theorem idx_nT {l : List Nat} {x : Nat} (h : x ∈ l) : idxA (nT l) [nI x] = some (nI (spt 0 l x)) := by
  show (if (SeqAt.shaped (.list (l.map nI)) && SeqAt.shaped (nI x)) = true then ((l.map nI).findIdx? fun z => PyData.eqv z (nI x)).map fun j => PyData.int (j : Nat) else none) = _
  rw [if_pos (by rw [nI_int, shaped_ints]; rfl), findIdx_nI l x 0 h]; rfl
theorem putN_len (K : List Nat) (x : Nat) : (putN K x).length ≤ K.length + 1 := by
  unfold putN; split
  · omega
  · rw [List.length_append]; exact Nat.le_refl _
theorem one_nd (n : Nat) : (one n).Nodup := by
  unfold one
  exact map_nodup List.nodup_range fun x y _ _ e => by omega
theorem one_succ (n : Nat) : one (n + 1) = one n ++ [n + 1] := by
  unfold one
  rw [List.range_succ, List.map_append]; rfl
theorem dom_one (n : Nat) : Dom (one (n + 1)) (one n) (n + 1) where
  nd := by
    rw [← one_succ, List.nodup_cons]
    exact ⟨fun h => absurd (one_mem.mp h).1 (by omega), one_nd _⟩
  ndD := one_nd _
  iff := fun x => by rw [one_succ]
  suc := fun x hx => by
    rcases List.mem_cons.mp hx with rfl | h
    · exact one_mem.mpr (by omega)
    · have := one_mem.mp h
      exact one_mem.mpr (by omega)
theorem dom_of {n : Nat} {r : List Nat} (h : (one n).Perm r) : Dom (one (n + 1)) r (n + 1) := (dom_one n).of_perm h
theorem blk_plain : ∀ (l : List Nat) (p x : Nat), (∀ i (h : i < l.length), l[i] = p + 1 + i) → x ∈ l → prv p l x + 1 = x
  | [], _, _, _, h => by cases h
  | y :: l, p, x, h, hx => by
    have hy : y = p + 1 := h 0 (by simp)
    show (if x = y then p else prv y l x) + 1 = x
    by_cases c : x = y
    · rw [if_pos c]; omega
    · rw [if_neg c]
      refine blk_plain l y x (fun i hi => ?_) ((List.mem_cons.mp hx).resolve_left c)
      have := h (i + 1) (by simpa using hi)
      rw [List.getElem_cons_succ] at this
      omega
theorem rnd_plain (n : Nat) : Rnd (one (n + 1)) (blk (one n) (n + 1)) (n + 1) := by
  have e : ∀ x, x ∈ one (n + 1) → blk (one n) (n + 1) x = x := fun x hx => by
    unfold blk
    rw [← one_succ]
    exact blk_plain _ 0 x (fun i h => by simp [one]; omega) hx
  have := Rnd.id (f := blk (one n) (n + 1)) (one_nd (n + 1)) e
  rw [one_len] at this
  exact this
/-- the number of rounds is odd behind as many things -/
theorem rnd_odd {n c : Nat} {r : List Nat} (h : (one n).Perm r) (g : Rnd (one (n + 1)) (blk r (n + 1)) c) : (n + 1) % 2 = c % 2 :=
  par_perm h [] (n + 1) c (dom_one n) (rnd_plain n) g
/-- gaps and blocks have as many rounds -/
theorem gld_perm {n : Nat} {r : List Nat} (hp : (one n).Perm r) : PermOn (List.range (n + 1)) (fun x => (gld r n).getD x 0) ∧ ∀ c, Rnd (List.range (n + 1)) (fun x => (gld r n).getD x 0) c → Rnd (one (n + 1)) (blk r (n + 1)) c := by
  have dm := dom_of hp
  have hl : r.length = n := by rw [← hp.length_eq, one_len]
  have gl : ∀ i (h : i < n + 1), ∃ x, (0 :: r)[i]? = some x ∧ x + 1 ∈ r ++ [n + 1] ∧ (gld r n).getD i 0 = spt 0 (r ++ [n + 1]) (x + 1) := fun i h => by
    have hi : i < (0 :: r).length := by rw [List.length_cons, hl]; exact h
    refine ⟨(0 :: r)[i], List.getElem?_eq_getElem hi, (dm.iff _).mp (dm.suc _ (List.getElem_mem hi)), ?_⟩
    unfold gld
    rw [List.getD_eq_getElem?_getD, List.getElem?_map, List.getElem?_eq_getElem hi]; rfl
  have nd0 : (0 :: r).Nodup := by
    have := dm.nd
    rw [show 0 :: (r ++ [n + 1]) = (0 :: r) ++ [n + 1] by simp, List.nodup_append] at this
    exact this.1
  have ndx : ∀ {i j x : Nat}, (0 :: r)[i]? = some x → (0 :: r)[j]? = some x → i = j := fun {i j x} hi hj => by
    obtain ⟨h1, h2⟩ := List.getElem?_eq_some_iff.mp hi
    obtain ⟨h3, h4⟩ := List.getElem?_eq_some_iff.mp hj
    exact (List.getElem_inj nd0).mp (h2.trans h4.symm)
  have gv : ∀ i (h : i < n + 1), ∃ x, (0 :: r)[i]? = some x ∧ x + 1 ∈ r ++ [n + 1] ∧ (gld r n).getD i 0 < n + 1 ∧ (0 :: r)[(gld r n).getD i 0]? = some (prv 0 (r ++ [n + 1]) (x + 1)) := fun i h => by
    obtain ⟨x, h1, h2, h3⟩ := gl i h
    have lt := spt_lt _ _ h2
    rw [List.length_append, hl, List.length_singleton] at lt
    refine ⟨x, h1, h2, by rw [h3]; exact lt, ?_⟩
    have := spt_prv (r ++ [n + 1]) 0 (x + 1) h2
    rw [h3, ← this, show 0 :: (r ++ [n + 1]) = (0 :: r) ++ [n + 1] by simp, List.getElem?_append_left (by rw [List.length_cons, hl]; exact lt)]
  have mem : ∀ x, x ∈ List.range (n + 1) → (gld r n).getD x 0 ∈ List.range (n + 1) := fun x hx => by
    obtain ⟨_, _, _, h, _⟩ := gv x (List.mem_range.mp hx)
    exact List.mem_range.mpr h
  refine ⟨⟨List.nodup_range, mem, fun i j hi hj e => ?_⟩, fun c g => ?_⟩
  · obtain ⟨x, h1, h2, h3, h4⟩ := gv i (List.mem_range.mp hi)
    obtain ⟨y, g1, g2, g3, g4⟩ := gv j (List.mem_range.mp hj)
    have e : (gld r n).getD i 0 = (gld r n).getD j 0 := e
    rw [e, g4] at h4
    have := prv_inj _ 0 _ _ dm.nd g2 h2 (Option.some.inj h4)
    have : y = x := Nat.succ.inj this
    subst this
    exact ndx h1 g1
  · refine g.led (φ := fun i => (0 :: r).getD i 0 + 1) (fun i hi => ?_) (fun i j hi hj e => ?_) (fun y hy => ?_) mem fun i hi => ?_
    · obtain ⟨x, h1, h2, _⟩ := gv i (List.mem_range.mp hi)
      show (0 :: r).getD i 0 + 1 ∈ _
      rw [List.getD_eq_getElem?_getD, h1]
      exact (dm.iff _).mpr h2
    · obtain ⟨x, h1, _⟩ := gv i (List.mem_range.mp hi)
      obtain ⟨y, g1, _⟩ := gv j (List.mem_range.mp hj)
      have e : (0 :: r).getD i 0 + 1 = (0 :: r).getD j 0 + 1 := e
      rw [List.getD_eq_getElem?_getD, List.getD_eq_getElem?_getD, h1, g1] at e
      have : x = y := Nat.succ.inj e
      subst this
      exact ndx h1 g1
    · have hy := one_mem.mp hy
      have : y - 1 ∈ 0 :: r := by
        by_cases c : y = 1
        · subst c; exact List.mem_cons_self
        · exact List.mem_cons_of_mem _ (hp.mem_iff.mp (one_mem.mpr (by omega)))
      obtain ⟨i, hi, e⟩ := List.getElem_of_mem this
      refine ⟨i, List.mem_range.mpr (by rw [List.length_cons, hl] at hi; exact hi), ?_⟩
      show (0 :: r).getD i 0 + 1 = y
      rw [List.getD_eq_getElem?_getD, List.getElem?_eq_getElem hi, e]
      show y - 1 + 1 = y
      omega
    · obtain ⟨x, h1, h2, h3, h4⟩ := gv i (List.mem_range.mp hi)
      show blk r (n + 1) ((0 :: r).getD i 0 + 1) = (0 :: r).getD ((gld r n).getD i 0) 0 + 1
      rw [List.getD_eq_getElem?_getD, List.getD_eq_getElem?_getD (l := 0 :: r), h1, h4]
      rfl
theorem rng_nI (n : Nat) : rngD 0 (n : Int) = (List.range n).map nI := by
  unfold rngD
  rw [show ((n : Int) - 0).toNat = n by omega]
  apply List.map_congr_left
  intro i _
  show PyData.int (0 + (i : Nat)) = _
  rw [Int.zero_add]; rfl
theorem wq_rgL1 {a : S → Option D} {s : S} {Q : D → Prop} (h : Wp a s fun d => ∃ n : Nat, d = nI n ∧ n ≤ 1000000 ∧ Q (.list ((List.range n).map nI))) : Wp (rgL1 a) s Q := by
  obtain ⟨d, h1, n, rfl, h2, h3⟩ := h
  refine ⟨_, ?_, h3⟩
  unfold rgL1
  rw [h1]
  show (if rgOk 0 (n : Int) = true then some (PyData.list (rngD 0 (n : Int))) else none) = _
  rw [if_pos (by unfold rgOk; rw [Bool.and_eq_true, Nat.ble_eq, Nat.ble_eq]; omega), rng_nI]
theorem erase_map {α β : Type} (f : α → β) : ∀ (l : List α) (j : Nat), (l.map f).eraseIdx j = (l.eraseIdx j).map f
  | [], _ => rfl
  | _ :: _, 0 => rfl
  | x :: l, j + 1 => by
    show f x :: (l.map f).eraseIdx j = f x :: (l.eraseIdx j).map f
    rw [erase_map f l j]
theorem perm_erase : ∀ (l : List Nat) (j : Nat) (h : j < l.length), l.Perm (l[j] :: l.eraseIdx j)
  | x :: l, 0, _ => List.Perm.refl _
  | x :: l, j + 1, h => by
    have := perm_erase l j (by simpa using h)
    exact (this.cons x).trans (List.Perm.swap _ _ _)
theorem law_order_spec {b : Bag} {n : Nat} (ok : OkB b) (hn : n ≤ 900) : ∃ o b', F_law_order b [nI n] = some (nT o, b') ∧ OkB b' ∧ (List.range n).Perm o := by
  suffices h : Wp m_law_order [.bag b, .imm (nI n), .un, .un, .un] fun f => ∃ (o : List Nat) (b' : Bag) (x : S), f = .rt (nT o) (.bag b' :: x) ∧ OkB b' ∧ (List.range n).Perm o by
    obtain ⟨f, h1, o, b', x, rfl, h2, h3⟩ := h
    refine ⟨o, b', ?_, h2, h3⟩
    show runB 5 m_law_order b [nI n] = _
    unfold runB
    have e : bagF 5 b [nI n] = [.bag b, .imm (nI n), .un, .un, .un] := rfl
    rw [e, h1]
    rfl
  unfold m_law_order
  repeat' bv_omega
  refine wq_rgL1 ?_
  repeat' bv_omega
  refine ⟨n, rfl, by omega, ?_⟩
  repeat' bv_omega
  refine w_for ?_
  repeat' bv_omega
  refine ex_rng1 (by show (n : Int).natAbs ≤ _; omega) ⟨fun i s => ∃ b o rest z, i ≤ n ∧ s = [.bag b, .imm (nI n), .ol (o.map nI), .ol (rest.map nI), z] ∧ OkB b ∧ (List.range n).Perm (o ++ rest) ∧ rest.length + i = n, ⟨b, [], List.range n, _, Nat.zero_le _, rfl, ok, List.Perm.refl _, by simp⟩, ?_, ?_⟩
  · rintro i d s hi ⟨b, o, rest, z, hi2, rfl, ok, pm, hl⟩
    obtain ⟨hi3, rfl⟩ := rngL_at _ _ _ _ _ hi
    have hi3 : i < n := by omega
    refine hv_of rfl ?_
    have po : o.length ≤ n := by
      have := pm.length_eq
      rw [List.length_range, List.length_append] at this
      omega
    repeat' bv_omega
    refine we_popAt (d0 := rest.map nI) rfl ?_
    refine we_callB rfl ?_
    repeat' bv_omega
    refine hv_of rfl ?_
    repeat' bv_omega
    refine ⟨b, rfl, ?_⟩
    rw [List.length_map]
    refine draw_hv ok (by omega) (by omega) fun v b' v0 v1 ok' => ?_
    have jl : v.toNat < rest.length := by omega
    refine ⟨rest.map nI, v, v.toNat, nI rest[v.toNat], rfl, rfl, ?_, ?_, by rw [List.length_map]; omega, ?_⟩
    · rw [List.length_map, show v = ((v.toNat : Nat) : Int) by omega]
      exact ixN_nat jl
    · rw [List.getElem?_map, List.getElem?_eq_getElem jl]; rfl
    · refine ⟨_, rfl, by rw [List.length_map]; omega, ?_⟩
      repeat' bv_omega
      refine ⟨b', o ++ [rest[v.toNat]], rest.eraseIdx v.toNat, _, by omega, by rw [List.map_append, ← erase_map]; rfl, ok', ?_, ?_⟩
      · refine pm.trans ?_
        rw [List.append_assoc]
        exact (perm_erase rest _ jl).append_left o
      · rw [List.length_eraseIdx_of_lt jl]; omega
  · rintro s ⟨b, o, rest, z, hi2, rfl, ok, pm, hl⟩
    rw [rngL_length] at hl
    have : rest = [] := List.length_eq_zero_iff.mp (by omega)
    subst this
    rw [List.append_nil] at pm
    repeat' bv_omega
    refine hv_of rfl ?_
    repeat' bv_omega
    exact ⟨o, b, _, rfl, ok, pm⟩
theorem cost_nI {x : Nat} (h : x ≤ 1000) : shCost (nI x) = 1930 := by
  unfold nI shCost
  rw [if_pos]
  rw [Int.natAbs_natCast]
  have : x.log2 ≤ x := Nat.log2_le_self x
  omega
theorem costs_nI : ∀ (w : List Nat), (∀ x, x ∈ w → x ≤ 1000) → shCosts (w.map nI) = 1932 * w.length
  | [], _ => rfl
  | x :: w, h => by
    have ih := costs_nI w fun y hy => h y (List.mem_cons_of_mem _ hy)
    have hx := cost_nI (h x List.mem_cons_self)
    rw [List.map_cons, shCosts, ih, hx, List.length_cons]; omega
theorem costs_nT : ∀ (R : List (List Nat)), (∀ w, w ∈ R → w.length ≤ 10 ∧ ∀ x, x ∈ w → x ≤ 1000) → shCosts (R.map nT) ≤ 19325 * R.length
  | [], _ => Nat.le_refl _
  | w :: R, h => by
    have ih := costs_nT R fun y hy => h y (List.mem_cons_of_mem _ hy)
    obtain ⟨h1, h2⟩ := h w List.mem_cons_self
    have hw : shCost (nT w) = 1932 * w.length + 3 := by unfold nT; rw [shCost, costs_nI w h2]
    rw [List.map_cons, shCosts, hw, List.length_cons]; omega
theorem noD_nI : ∀ (w : List Nat), noDicts (w.map nI) = true
  | [] => rfl
  | x :: w => by rw [List.map_cons, noDicts, noD_nI w]; rfl
theorem noD_nT : ∀ (R : List (List Nat)), noDicts (R.map nT) = true
  | [] => rfl
  | w :: R => by rw [List.map_cons, noDicts, noD_nT R]; unfold nT; rw [noDict, noD_nI]; rfl
theorem depth_nI (w : List Nat) : PyData.depthAll (w.map nI) ≤ 1 := by rw [nI_int]; exact depth_ints _
theorem depth_nT : ∀ (R : List (List Nat)), PyData.depthAll (R.map nT) ≤ 3
  | [] => by simp [PyData.depthAll]
  | w :: R => by
    have ih := depth_nT R
    have := depth_nI w
    rw [List.map_cons, PyData.depthAll]
    have : PyData.depth (nT w) ≤ 3 := by unfold nT; rw [PyData.depth]; omega
    omega
theorem isOk_nnT {R : List (List Nat)} (hl : R.length ≤ 10) (h : ∀ w, w ∈ R → w.length ≤ 10 ∧ ∀ x, x ∈ w → x ≤ 1000) : isOk (nnT R) (nnT R) (nnT R) = true := by
  have nd : noDict (nnT R) = true := by unfold nnT; rw [noDict, noD_nT]
  have c : shCost (nnT R) ≤ 193253 := by
    have := costs_nT R h
    unfold nnT; rw [shCost]; omega
  have dp : PyData.depth (nnT R) ≤ 5 := by
    have := depth_nT R
    unfold nnT; rw [PyData.depth]; omega
  unfold isOk
  rw [deq_refl _ nd, nd]
  simp only [Bool.true_and, Bool.and_true]
  unfold okShow toldD
  rw [Bool.and_eq_true, Nat.ble_eq, Nat.ble_eq]
  have st : shCost (.str "told") = 42 := by decide
  constructor
  · simp only [shCost, shCosts] at st ⊢
    omega
  · simp only [PyData.depth, PyData.depthAll]
    omega
theorem runW {n : Nat} {m : S → Option Fl} {ds : List D} {d : D} (h : Wp m (slots n ds) fun f => ∃ s, f = .rt d s) : runF n m ds = some d := by
  obtain ⟨f, h1, s, rfl⟩ := h
  unfold runF
  rw [h1]; rfl
theorem runB_of {n : Nat} {m : S → Option Fl} {b : Bag} {ds : List D} {d : D} {R : Bag → Prop} (h : Wp m (bagF n b ds) fun f => ∃ (b' : Bag) (x : S), f = .rt d (.bag b' :: x) ∧ R b') : ∃ b', runB n m b ds = some (d, b') ∧ R b' := by
  obtain ⟨f, h1, b', x, rfl, h2⟩ := h
  refine ⟨b', ?_, h2⟩
  unfold runB
  rw [h1]; rfl
theorem big_few {n : Nat} (h : n < 1024) : big n = true := by
  unfold big
  rw [Nat.blt_eq]
  exact Nat.lt_of_lt_of_le h (show 2 ^ 10 ≤ 2 ^ 6000 from Nat.pow_le_pow_right (by omega) (by omega))
def smallN (z : Int) : Bool := Nat.blt z.natAbs (2 ^ 1000)
theorem smallN_log {z : Int} (h : smallN z = true) : z.natAbs.log2 < 1920 := by
  unfold smallN at h
  rw [Nat.blt_eq] at h
  by_cases h0 : z.natAbs = 0
  · rw [h0]; decide
  · have := (Nat.log2_lt h0).mpr h
    omega
theorem isOk_int {z : Int} (h : smallN z = true) : isOk (.int z) (.int z) (.int z) = true := by
  have c : shCost (.int z) = 1930 := by unfold shCost; exact if_pos (smallN_log h)
  have t : shCost (toldD (.int z)) = 3 + (42 + 2) + (1930 + 2) := by
    unfold toldD
    simp only [shCost, shCosts, c] at *
    rw [c]
    rfl
  unfold isOk
  simp only [deq, beq_self_eq_true, noDict, Bool.true_and, Bool.and_true]
  unfold okShow
  simp only [shCost, shCosts, t]
  simp only [PyData.depth, PyData.depthAll, toldD]
  decide
end Y

namespace Y
open PySem PySem.Spec PyProof.Rows L2
/-! ## breaks -/
def brk (p y : Nat) : Nat := if y = p + 1 then 0 else 1
theorem brk_le (p y : Nat) : brk p y ≤ 1 := by unfold brk; split <;> omega
def cntb : Nat → List Nat → Nat
  | _, [] => 0
  | p, y :: l => brk p y + cntb y l
theorem cntb_app : ∀ (l m : List Nat) (p : Nat), cntb p (l ++ m) = cntb p l + cntb (lastD p l) m
  | [], m, p => by rw [List.nil_append]; show cntb p m = 0 + cntb p m; omega
  | y :: l, m, p => by
    show brk p y + cntb y (l ++ m) = brk p y + cntb y l + cntb (lastD y l) m
    rw [cntb_app l m y]; omega
def gapsL : Nat → Nat → List Nat → List Nat
  | _, _, [] => []
  | k, p, y :: l => if y = p + 1 then gapsL (k + 1) y l else k :: gapsL (k + 1) y l
theorem gapsL_len : ∀ (l : List Nat) (k p : Nat), (gapsL k p l).length = cntb p l
  | [], _, _ => rfl
  | y :: l, k, p => by
    show (if y = p + 1 then gapsL (k + 1) y l else k :: gapsL (k + 1) y l).length = (if y = p + 1 then 0 else 1) + cntb y l
    split
    · rw [gapsL_len l]; omega
    · rw [List.length_cons, gapsL_len l]; omega
theorem gapsL_ge : ∀ (l : List Nat) (k p i : Nat), i ∈ gapsL k p l → k ≤ i ∧ i < k + l.length
  | [], _, _, _, h => by cases h
  | y :: l, k, p, i, h => by
    unfold gapsL at h
    rw [List.length_cons]
    split at h
    · have := gapsL_ge l (k + 1) y i h; omega
    · rcases List.mem_cons.mp h with rfl | h
      · omega
      · have := gapsL_ge l (k + 1) y i h; omega
/-- the first break -/
theorem gapsL_first : ∀ (l : List Nat) (k p b : Nat) (rest : List Nat), gapsL k p l = b :: rest → ∃ A z m, l = A ++ z :: m ∧ b = k + A.length ∧ cntb p A = 0 ∧ z ≠ lastD p A + 1
  | [], _, _, _, _, h => by cases h
  | y :: l, k, p, b, rest, h => by
    unfold gapsL at h
    split at h
    · next c =>
      obtain ⟨A, z, m, h1, h2, h3, h4⟩ := gapsL_first l (k + 1) y b rest h
      refine ⟨y :: A, z, m, by rw [h1]; rfl, by rw [List.length_cons]; omega, ?_, h4⟩
      show brk p y + cntb y A = 0
      rw [h3]; unfold brk; rw [if_pos c]
    · next c =>
      obtain ⟨rfl, _⟩ := List.cons.inj h
      exact ⟨[], y, l, rfl, rfl, rfl, c⟩
/-- no break: rising by one -/
theorem rise : ∀ (l : List Nat) (p : Nat), cntb p l = 0 → (∀ i (h : i < l.length), l[i] = p + 1 + i) ∧ lastD p l = p + l.length
  | [], _, _ => ⟨fun i h => by simp at h, rfl⟩
  | y :: l, p, h => by
    have h : brk p y + cntb y l = 0 := h
    have c : y = p + 1 := by
      have : brk p y = 0 := by omega
      unfold brk at this
      split at this
      · assumption
      · omega
    obtain ⟨h1, h2⟩ := rise l y (by omega)
    refine ⟨fun i hi => ?_, ?_⟩
    · cases i with
      | zero => exact c
      | succ i => rw [List.getElem_cons_succ, h1]; omega
    · show lastD y l = _
      rw [h2, List.length_cons]; omega
theorem rise_le {l : List Nat} {p x : Nat} (h : cntb p l = 0) (hx : x ∈ p :: l) : x ≤ lastD p l := by
  obtain ⟨h1, h2⟩ := rise l p h
  rw [h2]
  rcases List.mem_cons.mp hx with rfl | hx
  · omega
  · obtain ⟨i, hi, rfl⟩ := List.getElem_of_mem hx
    rw [h1]; omega
/-! ### leads and breaks -/
theorem spt_get : ∀ (l : List Nat) (x : Nat), x ∈ l → l[spt 0 l x]? = some x
  | [], _, h => by cases h
  | y :: l, x, h => by
    show (y :: l)[if x = y then 0 else spt 1 l x]? = some x
    by_cases c : x = y
    · rw [if_pos c, c]; rfl
    · rw [if_neg c, spt_add l 1, Nat.add_comm, List.getElem?_cons_succ]
      exact spt_get l x ((List.mem_cons.mp h).resolve_left c)
theorem spt_out : ∀ (l : List Nat) (x : Nat), x ∉ l → spt 0 l x = l.length
  | [], _, _ => rfl
  | y :: l, x, h => by
    show (if x = y then 0 else spt 1 l x) = _
    rw [if_neg (show ¬ x = y from fun z => h (by rw [z]; exact List.mem_cons_self)), spt_add l 1, spt_out l x fun z => h (List.mem_cons_of_mem _ z), List.length_cons, Nat.add_comm]
theorem spt_at : ∀ (pre : List Nat) (y : Nat) (l : List Nat), y ∉ pre → spt 0 (pre ++ y :: l) y = pre.length
  | [], y, l, _ => if_pos rfl
  | z :: pre, y, l, h => by
    show (if y = z then 0 else spt 1 (pre ++ y :: l) y) = _
    rw [if_neg (show ¬ y = z from fun e => h (by rw [e]; exact List.mem_cons_self)), spt_add _ 1, spt_at pre y l fun e => h (List.mem_cons_of_mem _ e), List.length_cons, Nat.add_comm]
def gmap (q : List Nat) : Nat → List Nat → List Nat
  | _, [] => []
  | p, y :: l => spt 0 q (p + 1) :: gmap q y l
theorem gmap_eq (q : List Nat) (z : Nat) : ∀ (l : List Nat) (p : Nat), (p :: l).map (fun x => spt 0 q (x + 1)) = gmap q p (l ++ [z])
  | [], p => rfl
  | y :: l, p => by
    rw [List.map_cons, gmap_eq q z l y]; rfl
theorem gld_gmap (r : List Nat) (n : Nat) : gld r n = gmap (r ++ [n + 1]) 0 (r ++ [n + 1]) := gmap_eq _ _ _ _
theorem gmap_gaps {q : List Nat} (nd : q.Nodup) : ∀ (l pre : List Nat) (p : Nat), q = pre ++ l → ((eN pre.length (gmap q p l)).filter fun e => decide (e.2 ≠ e.1)).map (·.1) = gapsL pre.length p l
  | [], _, _, _ => rfl
  | y :: l, pre, p, h => by
    have ih := gmap_gaps nd l (pre ++ [y]) y (by rw [h]; simp)
    rw [List.length_append, List.length_singleton] at ih
    show (((pre.length, spt 0 q (p + 1)) :: eN (pre.length + 1) (gmap q y l)).filter _).map _ = if y = p + 1 then gapsL (pre.length + 1) y l else pre.length :: gapsL (pre.length + 1) y l
    have yp : y ∉ pre := fun m => by
      rw [h, List.nodup_append] at nd
      exact nd.2.2 y m y List.mem_cons_self rfl
    by_cases c : y = p + 1
    · have e : spt 0 q (p + 1) = pre.length := by rw [h, ← c]; exact spt_at pre y l yp
      rw [if_pos c, List.filter_cons_of_neg (by simp [e]), ih]
    · have e : spt 0 q (p + 1) ≠ pre.length := fun e => by
        by_cases m : p + 1 ∈ q
        · have h1 := spt_get q (p + 1) m
          rw [e, h, List.getElem?_append_right (Nat.le_refl _), Nat.sub_self] at h1
          exact c (Option.some.inj h1)
        · have h1 := spt_out q (p + 1) m
          rw [h, List.length_append, List.length_cons] at h1
          rw [h] at e
          omega
      rw [if_neg c, List.filter_cons_of_pos (by simp [e]), List.map_cons, ih]
/-- the open gaps behind the first item -/
def pg : List Nat → Nat → List Nat
  | [], _ => []
  | x :: r, n => gapsL 1 x (r ++ [n + 1])
theorem pg_filter (r : List Nat) (n : Nat) : (gapsL 0 0 (r ++ [n + 1])).filter (fun i => decide (0 < i)) = pg r n := by
  cases r with
  | nil =>
    show (if n + 1 = 0 + 1 then gapsL 1 (n + 1) [] else 0 :: gapsL 1 (n + 1) []).filter _ = []
    split <;> rfl
  | cons x r =>
    have all : (gapsL 1 x (r ++ [n + 1])).filter (fun i => decide (0 < i)) = gapsL 1 x (r ++ [n + 1]) := List.filter_eq_self.mpr fun i hi => by
      have := gapsL_ge _ _ _ _ hi
      exact decide_eq_true (by omega)
    show (if x = 0 + 1 then gapsL 1 x (r ++ [n + 1]) else 0 :: gapsL 1 x (r ++ [n + 1])).filter _ = gapsL 1 x (r ++ [n + 1])
    split
    · exact all
    · rw [List.filter_cons_of_neg (by simp)]; exact all
/-! ### moves from the front -/
def front (r : List Nat) (b c : Nat) : List Nat := (r.drop b).take (c - b) ++ r.take b ++ r.drop c
theorem split3 {r : List Nat} {b c : Nat} (h1 : 1 ≤ b) (h2 : b < c) (h3 : c ≤ r.length) : ∃ a A z B C, r = a :: A ++ z :: B ++ C ∧ b = A.length + 1 ∧ c = A.length + 1 + (B.length + 1) := by
  have e1 : r = r.take b ++ ((r.drop b).take (c - b) ++ r.drop c) := by
    have : r.drop c = (r.drop b).drop (c - b) := by rw [List.drop_drop]; congr 1; omega
    rw [this, List.take_append_drop, List.take_append_drop]
  have l1 : (r.take b).length = b := by rw [List.length_take]; omega
  have l2 : ((r.drop b).take (c - b)).length = c - b := by rw [List.length_take, List.length_drop]; omega
  cases h4 : r.take b with
  | nil => rw [h4] at l1; simp at l1; omega
  | cons a A =>
    cases h5 : (r.drop b).take (c - b) with
    | nil => rw [h5] at l2; simp at l2; omega
    | cons z B =>
      rw [h4] at l1
      rw [h5] at l2
      rw [List.length_cons] at l1 l2
      refine ⟨a, A, z, B, r.drop c, ?_, by omega, by omega⟩
      rw [h4, h5] at e1
      rw [List.append_assoc]
      exact e1
theorem front_parts (A B C : List Nat) : front (A ++ B ++ C) A.length (A.length + B.length) = B ++ A ++ C := by
  have h1 : (A ++ B ++ C).drop A.length = B ++ C := by rw [List.append_assoc, List.drop_left' rfl]
  have h2 : (A ++ B ++ C).take A.length = A := by rw [List.append_assoc, List.take_left' rfl]
  have h3 : (A ++ B ++ C).drop (A.length + B.length) = C := List.drop_left' (by rw [List.length_append])
  unfold front
  rw [h1, h2, h3, Nat.add_sub_cancel_left, List.take_left' rfl]
theorem front_perm {r : List Nat} {b c : Nat} (h2 : b ≤ c) : r.Perm (front r b c) := by
  have e1 : r = r.take b ++ ((r.drop b).take (c - b) ++ r.drop c) := by
    have : r.drop c = (r.drop b).drop (c - b) := by rw [List.drop_drop]; congr 1; omega
    rw [this, List.take_append_drop, List.take_append_drop]
  unfold front
  conv => lhs; rw [e1]
  rw [← List.append_assoc]
  exact (List.perm_append_comm).append_right _
theorem cnt3 (a : Nat) (A : List Nat) (z : Nat) (B : List Nat) (w : Nat) (C : List Nat) : cntb a (A ++ z :: (B ++ w :: C)) = cntb a A + brk (lastD a A) z + cntb z B + brk (lastD z B) w + cntb w C := by
  rw [cntb_app]
  show cntb a A + (brk (lastD a A) z + cntb z (B ++ w :: C)) = _
  rw [cntb_app]
  show cntb a A + (brk (lastD a A) z + (cntb z B + (brk (lastD z B) w + cntb w C))) = _
  omega
theorem tail_ne (C : List Nat) (N : Nat) : ∃ w D, C ++ [N] = w :: D := by
  cases C with
  | nil => exact ⟨N, [], rfl⟩
  | cons w C => exact ⟨w, C ++ [N], rfl⟩
theorem pg_len (a : Nat) (A : List Nat) (z : Nat) (B C : List Nat) (n : Nat) : (pg (a :: A ++ z :: B ++ C) n).length = cntb a (A ++ z :: (B ++ (C ++ [n + 1]))) := by
  show (gapsL 1 a ((A ++ z :: B ++ C) ++ [n + 1])).length = _
  rw [gapsL_len]
  congr 1
  simp
theorem front_diff {r : List Nat} {b c n : Nat} (h1 : 1 ≤ b) (h2 : b < c) (h3 : c ≤ r.length) : (pg (front r b c) n).length ≤ (pg r n).length + 2 ∧ (pg r n).length ≤ (pg (front r b c) n).length + 2 := by
  obtain ⟨a, A, z, B, C, rfl, rfl, rfl⟩ := split3 h1 h2 h3
  obtain ⟨w, D, e⟩ := tail_ne C (n + 1)
  have ef : front (a :: A ++ z :: B ++ C) (A.length + 1) (A.length + 1 + (B.length + 1)) = z :: B ++ a :: A ++ C := front_parts (a :: A) (z :: B) C
  rw [ef, pg_len, pg_len, e, cnt3, cnt3]
  have b1 := brk_le (lastD a A) z
  have b2 := brk_le (lastD z B) w
  have b3 := brk_le (lastD z B) a
  have b4 := brk_le (lastD a A) w
  omega
end Y

namespace Y
open PySem PySem.Spec PyProof.Rows L2
theorem lastD_app : ∀ (l m : List Nat) (p : Nat), lastD p (l ++ m) = lastD (lastD p l) m
  | [], _, _ => rfl
  | y :: l, m, p => lastD_app l m y
theorem lastD_mem : ∀ (l : List Nat) (p : Nat), lastD p l ∈ p :: l
  | [], p => List.mem_cons_self
  | y :: l, p => List.mem_cons_of_mem _ (lastD_mem l y)
theorem lastD_get : ∀ (l : List Nat) (p : Nat) (m : List Nat), (p :: l ++ m)[l.length]? = some (lastD p l)
  | [], p, m => rfl
  | y :: l, p, m => lastD_get l y m
theorem pg_nil {r : List Nat} {n : Nat} (hl : r.length = n) (h : pg r n = []) : r = one n := by
  cases r with
  | nil => subst hl; rfl
  | cons x r =>
    have h0 : cntb x (r ++ [n + 1]) = 0 := by
      rw [← gapsL_len _ 1]
      show (pg (x :: r) n).length = 0
      rw [h]; rfl
    obtain ⟨h1, h2⟩ := rise _ _ h0
    rw [lastD_app, List.length_append, List.length_singleton] at h2
    have h2 : n + 1 = x + (r.length + 1) := h2
    rw [List.length_cons] at hl
    have hx : x = 1 := by omega
    apply List.ext_getElem
    · rw [one_len, List.length_cons, hl]
    · intro i hi hj
      have e : (one n)[i] = i + 1 := by simp [one]
      rw [e]
      cases i with
      | zero => exact hx
      | succ i =>
        rw [List.getElem_cons_succ]
        have hi' : i < r.length := by simpa using hi
        have := h1 i (by rw [List.length_append]; omega)
        rw [List.getElem_append_left hi'] at this
        omega
theorem cntb_rise : ∀ (l : List Nat) (p : Nat), (∀ i (h : i < l.length), l[i] = p + 1 + i) → cntb p l = 0
  | [], _, _ => rfl
  | y :: l, p, h => by
    have c : y = p + 1 := h 0 (by simp)
    show brk p y + cntb y l = 0
    rw [cntb_rise l y fun i hi => by
      have := h (i + 1) (by simpa using hi)
      rw [List.getElem_cons_succ] at this
      omega]
    unfold brk; rw [if_pos c]
theorem pg_one (n : Nat) : pg (one n) n = [] := by
  cases h : one n with
  | nil => rfl
  | cons x r =>
    show gapsL 1 x (r ++ [n + 1]) = []
    apply List.length_eq_zero_iff.mp
    rw [gapsL_len]
    have e : one (n + 1) = x :: (r ++ [n + 1]) := by rw [one_succ, h]; rfl
    have g : ∀ i (hi : i < (one (n + 1)).length), (one (n + 1))[i] = i + 1 := fun i hi => by simp [one]
    apply cntb_rise
    intro i hi
    have h1 := g 0 (by rw [e]; simp)
    have h2 := g (i + 1) (by rw [e]; simpa using hi)
    simp only [e, List.getElem_cons_succ, List.getElem_cons_zero] at h1 h2
    omega
theorem split_at {l : List Nat} {x : Nat} (h : x ∈ l) : ∃ B C, l = B ++ x :: C ∧ x ∉ B := by
  induction l with
  | nil => cases h
  | cons y l ih =>
    by_cases c : x = y
    · exact ⟨[], l, by rw [c]; rfl, fun z => by cases z⟩
    · obtain ⟨B, C, h1, h2⟩ := ih ((List.mem_cons.mp h).resolve_left c)
      exact ⟨y :: B, C, by rw [h1]; rfl, fun z => (List.mem_cons.mp z).elim c h2⟩
theorem snoc_split {X Y m : List Nat} {N : Nat} (h : X ++ [N] = Y ++ m) (hm : m ≠ []) : ∃ m', m = m' ++ [N] ∧ X = Y ++ m' := by
  rcases List.eq_nil_or_concat m with e | ⟨L, b, e⟩
  · exact (hm e).elim
  · rw [List.concat_eq_append] at e
    rw [e] at h
    rw [← List.append_assoc] at h
    obtain ⟨h1, h2⟩ := List.append_inj' h rfl
    obtain ⟨rfl, _⟩ := List.cons.inj h2
    exact ⟨L, e, h1⟩
theorem easy_step {r : List Nat} {n b : Nat} {rest : List Nat} (hp : (one n).Perm r) (h : pg r n = b :: rest) : ∃ c x, r[b - 1]? = some x ∧ 1 ≤ b ∧ b < c ∧ c ≤ n ∧ c = (if x = n then n else spt 0 r (x + 1)) ∧ (x ≠ n → x + 1 ∈ r) ∧ ((pg r n).length = (pg (front r b c) n).length + 1 ∨ (pg r n).length = (pg (front r b c) n).length + 2) ∧ 2 ≤ (pg r n).length := by
  have hl : r.length = n := by rw [← hp.length_eq, one_len]
  have dm := dom_of hp
  have nd : r.Nodup := hp.nodup_iff.mp (one_nd n)
  cases r with
  | nil => cases h
  | cons a r' =>
    have h' : gapsL 1 a (r' ++ [n + 1]) = b :: rest := h
    obtain ⟨A, z, m, h1, h2, h3, h4⟩ := gapsL_first _ _ _ _ _ h'
    -- what stands ahead of the gap
    have xr : lastD a A ∈ a :: A := lastD_mem A a
    -- the item behind it stands behind the gap
    have big : ∀ y, y ∈ a :: A → y ≤ lastD a A := fun y hy => rise_le h3 hy
    have whole : (a :: r') ++ [n + 1] = a :: A ++ z :: m := by
      show a :: (r' ++ [n + 1]) = _
      rw [h1]; rfl
    have Ar : ∃ m', z :: m = m' ++ [n + 1] ∧ a :: r' = a :: A ++ m' := by
      exact snoc_split whole (fun e => by cases e)
    obtain ⟨m', hm1, hm2⟩ := Ar
    have xin : lastD a A ∈ a :: r' := by rw [hm2]; exact List.mem_append_left _ xr
    have xle := one_mem.mp (hp.mem_iff.mpr xin)
    have x1 : lastD a A + 1 ∈ z :: m := by
      have : lastD a A + 1 ∈ (a :: r') ++ [n + 1] := by
        rw [← dm.iff]
        exact one_mem.mpr (by omega)
      rw [whole] at this
      rcases List.mem_append.mp this with q | q
      · have := big _ q; omega
      · exact q
    obtain ⟨B, C, hB, hn⟩ := split_at ((List.mem_cons.mp x1).resolve_left (fun e => h4 e.symm))
    subst hB
    -- the row in three parts
    have rows : ∃ C', a :: r' = a :: A ++ z :: B ++ C' ∧ C' ++ [n + 1] = (lastD a A + 1) :: C := by
      have e : m' ++ [n + 1] = (z :: B) ++ ((lastD a A + 1) :: C) := by rw [← hm1]; rfl
      obtain ⟨C', c1, c2⟩ := snoc_split e.symm.symm (fun e => by cases e)
      exact ⟨C', by rw [hm2, c2, ← List.append_assoc], c1.symm⟩
    obtain ⟨C', hr, hC⟩ := rows
    have hlen : A.length + 1 + (B.length + 1) ≤ n := by
      have := congrArg List.length hr
      rw [hl] at this
      simp only [List.length_append, List.length_cons] at this
      omega
    refine ⟨A.length + 1 + (B.length + 1), lastD a A, ?_, by omega, by omega, hlen, ?_, ?_, ?_, ?_⟩
    · rw [show b - 1 = A.length by omega, hr, List.append_assoc]
      exact lastD_get A a _
    · by_cases c : lastD a A = n
      · rw [if_pos c]
        have : C' = [] := by
          cases C' with
          | nil => rfl
          | cons w C' =>
            obtain ⟨e, _⟩ := List.cons.inj hC
            have : w ∈ a :: r' := by rw [hr]; exact List.mem_append_right _ List.mem_cons_self
            have := one_mem.mp (hp.mem_iff.mpr this)
            omega
        have := congrArg List.length hr
        rw [hl, ‹C' = []›] at this
        simp only [List.length_append, List.length_cons, List.length_nil] at this
        omega
      · rw [if_neg c]
        cases C' with
        | nil =>
          obtain ⟨e, _⟩ := List.cons.inj hC
          omega
        | cons w C' =>
          obtain ⟨e, _⟩ := List.cons.inj hC
          rw [hr, e, spt_at]
          · simp only [List.length_append, List.length_cons]
          · intro q
            rcases List.mem_append.mp q with q | q
            · have := big _ q; omega
            · rcases List.mem_cons.mp q with q | q
              · exact h4 q.symm
              · exact hn q
    · intro c
      cases C' with
      | nil =>
        obtain ⟨e, _⟩ := List.cons.inj hC
        omega
      | cons w C' =>
        obtain ⟨e, _⟩ := List.cons.inj hC
        rw [← e, hr]
        exact List.mem_append_right _ List.mem_cons_self
    all_goals
      have ef : front (a :: A ++ z :: B ++ C') (A.length + 1) (A.length + 1 + (B.length + 1)) = z :: B ++ a :: A ++ C' := front_parts (a :: A) (z :: B) C'
      have b1 : brk (lastD a A) z = 1 := if_neg h4
      have b2 : brk (lastD z B) (lastD a A + 1) = 1 := by
        unfold brk
        rw [if_neg]
        intro e
        have e : lastD z B = lastD a A := by omega
        rw [hr, List.append_assoc, List.nodup_append] at nd
        exact nd.2.2 _ xr _ (List.mem_append_left _ (lastD_mem B z)) e.symm
      have b3 := brk_le (lastD z B) a
      have b4 : brk (lastD a A) (lastD a A + 1) = 0 := if_pos rfl
      have bb : b = A.length + 1 := by omega
    · rw [bb, hr, ef, pg_len, pg_len, hC, cnt3, cnt3, b1, b2, b4]
      omega
    · rw [hr, pg_len, hC, cnt3, b1, b2]
      omega
end Y

namespace Y
open PySem PySem.Spec PyProof.Rows L2
local macro_rules
  | `(tactic| bv_omega) => `(tactic| first
    | with_reducible refine w_seq ?_ | with_reducible refine sq_nx ?_ | with_reducible refine sq_rt ?_ | with_reducible refine sq_bk ?_ | with_reducible refine sq_ct ?_ | with_reducible refine lp_nx ?_ | with_reducible refine lp_ct ?_ | with_reducible refine lp_bk ?_ | with_reducible refine lp_rt ?_
    | with_reducible refine w_nx ?_ | with_reducible refine w_bk ?_ | with_reducible refine w_ct ?_ | with_reducible refine w_if ?_ | with_reducible refine w_ret ?_ | with_reducible refine w_retO ?_ | with_reducible refine w_set ?_ | with_reducible refine w_setO ?_ | with_reducible refine w_setP ?_
    | with_reducible refine w_asg ?_ | with_reducible refine w_drop ?_ | with_reducible refine w_par ?_ | with_reducible refine w_parG ?_ | with_reducible refine w_dput ?_ | with_reducible refine w_setix ?_
    | with_reducible refine wv_nil ?_ | with_reducible refine wv_i ?_ | with_reducible refine wv_o ?_ | with_reducible refine wv_p ?_
    | with_reducible refine hg_nil ?_ | with_reducible refine hg_i (by simp) ?_ | with_reducible refine hg_o (by simp) ?_ | with_reducible refine hg_p (by simp) ?_
    | with_reducible refine we_q ?_ | with_reducible refine wt_q ?_ | with_reducible refine wl_own ?_ | with_reducible refine we_op2 ?_ | with_reducible refine wl_nil ?_ | with_reducible refine wl_cons ?_ | with_reducible refine we_tup ?_ | with_reducible refine wl_lst ?_ | with_reducible refine we_call ?_ | with_reducible refine we_callT ?_ | with_reducible refine we_lst ?_
    | with_reducible refine wt_v ?_ | with_reducible refine wt_not ?_ | with_reducible refine wt_and ?_ | with_reducible refine wt_or ?_ | with_reducible refine we_if ?_ | with_reducible refine we_is ?_
    | with_reducible refine wl_seq ?_ | with_reducible refine wl_rng1 ?_ | with_reducible refine wl_rng2 ?_ | with_reducible refine wl_enumT ?_ | with_reducible refine wl_enum ?_ | with_reducible refine wl_rev ?_
    | with_reducible refine wq_c ?_ | with_reducible refine wq_op1 ?_ | with_reducible refine wq_op2 ?_ | with_reducible refine wq_op3 ?_ | with_reducible refine wq_nil ?_ | with_reducible refine wq_cons ?_ | with_reducible refine wq_tup ?_ | with_reducible refine wq_lst ?_ | with_reducible refine wq_if ?_ | with_reducible refine wq_tv ?_ | with_reducible refine wq_notT ?_ | with_reducible refine wq_andT ?_ | with_reducible refine wq_orT ?_ | with_reducible refine wq_call ?_ | with_reducible refine wq_seq ?_ | with_reducible refine wq_meth ?_ | with_reducible refine wq_sl ?_ | with_reducible refine wo_none ?_ | with_reducible refine wo_some ?_
    | with_reducible refine wq_rng1 ?_ | with_reducible refine wq_rng2 ?_ | with_reducible refine wq_enumT ?_ | with_reducible refine wq_enum ?_ | with_reducible refine wq_rev ?_ | with_reducible refine wq_zip ?_
    | ((with_reducible refine' wq_var ?wpv ?_); (case wpv => rfl)) | ((with_reducible refine' wq_varO ?wpv ?_); (case wpv => rfl)) | ((with_reducible refine' wq_varD ?wpv ?_); (case wpv => rfl)) | ((with_reducible refine' wq_varI ?wpv ?_); (case wpv => rfl))
    | ((with_reducible refine' we_frzO ?wpv ?_); (case wpv => rfl)) | ((with_reducible refine' we_frzD ?wpv ?_); (case wpv => rfl)) | ((with_reducible refine' we_frzI ?wpv ?_); (case wpv => rfl)) | ((with_reducible refine' w_retV ?wpv ?_); (case wpv => rfl))
    | ((with_reducible refine' w_app ?wpv ?_); (case wpv => rfl)) | ((with_reducible refine' w_ext ?wpv ?_); (case wpv => rfl))
    | with_reducible refine wq_andV ?_ | with_reducible refine wq_orV ?_ | with_reducible refine wq_notV ?_ | with_reducible refine wq_chain ?_
    | with_reducible refine hv_some ?_ | with_reducible refine hv_add ?_ | with_reducible refine hv_sub ?_ | with_reducible refine hv_eq ?_ | with_reducible refine hv_ne ?_ | with_reducible refine hv_lt ?_ | with_reducible refine hv_le ?_ | with_reducible refine hv_gt ?_ | with_reducible refine hv_ge ?_ | with_reducible refine ex_bool ?_ | with_reducible refine ex_int ?_ | with_reducible refine ex_tup ?_ | with_reducible refine ex_lst ?_ | with_reducible refine ex_dct ?_ | with_reducible refine ltl (by simp) ?_ | with_reducible refine len10 (by simp) ?_)
theorem eqvAll_nI : ∀ (a b : List Nat), PyData.eqvAll (a.map nI) (b.map nI) = decide (a = b)
  | [], [] => by simp [PyData.eqvAll]
  | [], _ :: _ => by simp [PyData.eqvAll]
  | _ :: _, [] => by simp [PyData.eqvAll]
  | x :: a, y :: b => by
    have e : PyData.eqv (nI x) (nI y) = decide (x = y) := by
      show PyData.eqv (.int _) (.int _) = _
      rw [eqv_int]
      by_cases h : x = y
      · subst h; simp
      · rw [decide_eq_false h]; exact beq_eq_false_iff_ne.mpr fun z => h (by omega)
    rw [List.map_cons, List.map_cons, PyData.eqvAll, e, eqvAll_nI a b]
    by_cases h : x = y <;> simp [h]
theorem shaped_nT (a : List Nat) : SeqAt.shaped (nT a) = true := by
  unfold nT SeqAt.shaped
  rw [Bool.and_eq_true, decide_eq_true_eq]
  have := depth_nI a
  refine ⟨by simp only [PyData.canLay0]; rw [nI_int]; exact canLay_ints _, ?_⟩
  simp only [PyData.depth]
  omega
theorem eqD_nT (a b : List Nat) : eqD (nT a) (nT b) = some (.bool (decide (a = b))) := by
  show (if (SeqAt.shaped (nT a) && SeqAt.shaped (nT b)) = true then some (PyData.bool (PyData.eqv (nT a) (nT b))) else none) = _
  rw [shaped_nT, shaped_nT, if_pos (show (true && true) = true from rfl)]
  unfold nT
  rw [PyData.eqv, eqvAll_nI]
theorem neD_nT (a b : List Nat) : neD (nT a) (nT b) = some (.bool (decide (a ≠ b))) := by
  show (if (SeqAt.shaped (nT a) && SeqAt.shaped (nT b)) = true then some (PyData.bool (!PyData.eqv (nT a) (nT b))) else none) = _
  rw [shaped_nT, shaped_nT, if_pos (show (true && true) = true from rfl)]
  unfold nT
  rw [PyData.eqv, eqvAll_nI]
  simp
/-- a list of numbers by places -/
theorem ix_int {g : List Nat} {k : Int} (h0 : 0 ≤ k) (h1 : k < g.length) : ixD (nT g) (.int k) = some (nI (g.getD k.toNat 0)) := by
  obtain ⟨j, rfl⟩ := Int.eq_ofNat_of_zero_le h0
  exact ix_nT (by omega)
def pr (b c : Nat) : D := .tuple [nI b, nI c]
theorem cut_nT {r : List Nat} {b c : Nat} (hb : b ≤ r.length) (hc : c ≤ r.length) : slD (nT r) (some (b : Int)) (some (c : Int)) = some (nT ((r.drop b).take (c - b))) := by
  show some (PyData.tuple (cutD (r.map nI) (some (b : Int)) (some (c : Int)))) = _
  unfold cutD
  rw [HT.sIx_nat, HT.sIx_nat, List.length_map, Nat.min_eq_left hb, Nat.min_eq_left hc, ← List.map_drop, ← List.map_take]; rfl
theorem cut_to {r : List Nat} {c : Nat} (hc : c ≤ r.length) : slD (nT r) none (some (c : Int)) = some (nT (r.take c)) := by
  show some (PyData.tuple (cutD (r.map nI) none (some (c : Int)))) = _
  unfold cutD
  rw [HT.sIx_nat, HT.sIx_none, List.length_map, Nat.min_eq_left hc, List.drop_zero, Nat.sub_zero, ← List.map_take]; rfl
theorem cut_from {r : List Nat} {c : Nat} (hc : c ≤ r.length) : slD (nT r) (some (c : Int)) none = some (nT (r.drop c)) := by
  show some (PyData.tuple (cutD (r.map nI) (some (c : Int)) none)) = _
  unfold cutD
  rw [HT.sIx_nat, HT.sIx_none, List.length_map, Nat.min_eq_left hc, ← List.map_drop, List.take_of_length_le (by rw [List.length_map, List.length_drop]; exact Nat.le_refl _)]; rfl
theorem ex_nI {x : Nat} {R : Int → Prop} (h : R (x : Int)) : ∃ k, nI x = .int k ∧ R k := ⟨_, rfl, h⟩
theorem len_int (l : List Int) : lenD [iT l] = some (.int (l.length : Nat)) := by
  show some (PyData.int ((l.map PyData.int).length : Nat)) = _
  rw [List.length_map]
theorem tup_nT (l : List Nat) : tupleD [nT l] = some (nT l) := rfl
theorem tupL_nI (l : List Nat) : tupleD [.list (l.map nI)] = some (nT l) := rfl
theorem eq_nI (x y : Nat) : eqD (nI x) (nI y) = some (.bool (decide (x = y))) := by
  show some (PyData.bool (((x : Nat) : Int) == ((y : Nat) : Int))) = _
  congr 2
  by_cases c : x = y
  · rw [c]; simp
  · rw [decide_eq_false c]; exact beq_eq_false_iff_ne.mpr fun z => c (by omega)
theorem ne_nI (x y : Nat) : neD (nI x) (nI y) = some (.bool (decide (x ≠ y))) := by
  show some (PyData.bool (!(((x : Nat) : Int) == ((y : Nat) : Int)))) = _
  congr 2
  by_cases c : x = y
  · rw [c]; simp
  · rw [decide_eq_true c]; simp; omega
theorem add_nI1 (x : Nat) : addD (nI x) (.int 1) = some (nI (x + 1)) := rfl
theorem sub_nI (x y : Nat) : subD (nI x) (nI y) = some (.int ((x : Int) - (y : Int))) := rfl
theorem gt_nI0 (x : Nat) : gtD (nI x) (.int 0) = some (.bool (decide (0 < x))) := by
  show some (PyData.bool (decide ((0 : Int) < (x : Nat)))) = _
  congr 2
  by_cases c : 0 < x
  · rw [decide_eq_true c]; exact decide_eq_true (by omega)
  · rw [decide_eq_false c]; exact decide_eq_false (by omega)
theorem seq_nT (l : List Nat) : seqD (nT l) = some (l.map nI) := rfl
theorem seqL_nI (l : List Nat) : seqD (.list (l.map nI)) = some (l.map nI) := rfl
local macro_rules
  | `(tactic| bv_omega) => `(tactic| first
    | with_reducible refine ex_nI ?_ | with_reducible refine hv_of (len_nT _) ?_ | with_reducible refine hv_of (len_int _) ?_ | with_reducible refine hv_of (eqD_nT _ _) ?_ | with_reducible refine hv_of (neD_nT _ _) ?_ | with_reducible refine hv_of (tup_nT _) ?_ | with_reducible refine hv_of (tupL_nI _) ?_ | with_reducible refine hv_of (eq_nI _ _) ?_ | with_reducible refine hv_of (ne_nI _ _) ?_ | with_reducible refine hv_of (add_nI1 _) ?_ | with_reducible refine hv_of (sub_nI _ _) ?_ | with_reducible refine hv_of (gt_nI0 _) ?_ | with_reducible refine hv_of (seq_nT _) ?_ | with_reducible refine hv_of (seqL_nI _) ?_)
theorem fronted_spec {r : List Nat} {b c : Nat} (hb : b ≤ c) (hc : c ≤ r.length) (hr : r.length ≤ 1000) : F_law_fronted [nT r, pr b c] = some (nT (front r b c)) := by
  refine runW (n := 4) (m := m_law_fronted) ?_
  show Wp m_law_fronted [.imm (nT r), .imm (pr b c), .un, .un] _
  unfold m_law_fronted
  repeat' bv_omega
  refine hv_of rfl ?_
  repeat' bv_omega
  refine hv_of (cut_nT (by omega) hc) ?_
  repeat' bv_omega
  refine hv_of (cut_to (by omega)) ?_
  refine hv_of (add_nT (by rw [List.length_take, List.length_drop, List.length_take]; omega)) ?_
  repeat' bv_omega
  refine hv_of (cut_from hc) ?_
  refine hv_of (add_nT (by rw [List.length_append, List.length_take, List.length_drop, List.length_take, List.length_drop]; omega)) ?_
  exact ⟨_, rfl⟩
theorem front_moved_spec {r : List Nat} {b c : Nat} (hb : b ≤ c) (hc : c ≤ r.length) (hr : r.length ≤ 1000) : F_front_moved [nT r, pr b c] = some (nT (front r b c)) := by
  refine runW (n := 4) (m := m_front_moved) ?_
  show Wp m_front_moved [.imm (nT r), .imm (pr b c), .un, .un] _
  unfold m_front_moved
  repeat' bv_omega
  refine hv_of rfl ?_
  repeat' bv_omega
  refine hv_of (cut_nT (by omega) hc) ?_
  repeat' bv_omega
  refine hv_of (cut_to (by omega)) ?_
  refine hv_of (add_nT (by rw [List.length_take, List.length_drop, List.length_take]; omega)) ?_
  repeat' bv_omega
  refine hv_of (cut_from hc) ?_
  refine hv_of (add_nT (by rw [List.length_append, List.length_take, List.length_drop, List.length_take, List.length_drop]; omega)) ?_
  exact ⟨_, rfl⟩
theorem rngD1 (n : Nat) : rngD 1 ((n : Int) + 1) = (one n).map nI := by
  unfold rngD one
  rw [show ((n : Int) + 1 - 1).toNat = n by omega, List.map_map]
  apply List.map_congr_left
  intro i _
  show PyData.int (1 + (i : Nat)) = PyData.int ((i + 1 : Nat) : Int)
  congr 1; omega
theorem wq_rgT2 {a b : S → Option D} {s : S} {Q : D → Prop} (h : Wp a s fun x => x = .int 1 ∧ Wp b s fun y => ∃ n : Nat, y = .int ((n : Int) + 1) ∧ n ≤ 100000 ∧ Q (nT (one n))) : Wp (rgT2 a b) s Q := by
  obtain ⟨x, h1, rfl, y, h2, n, rfl, h3, h4⟩ := h
  refine ⟨_, ?_, h4⟩
  unfold rgT2
  rw [h1]
  show ((b s).bind fun y => _) = _
  rw [h2]
  show (if rgOk 1 ((n : Int) + 1) = true then some (PyData.tuple (rngD 1 ((n : Int) + 1))) else none) = _
  rw [if_pos (by unfold rgOk; rw [Bool.and_eq_true, Nat.ble_eq, Nat.ble_eq]; omega), rngD1]; rfl
theorem wq_rgL2 {a b : S → Option D} {s : S} {Q : D → Prop} (h : Wp a s fun x => x = .int 1 ∧ Wp b s fun y => ∃ n : Nat, y = .int ((n : Int) + 1) ∧ n ≤ 100000 ∧ Q (.list ((one n).map nI))) : Wp (rgL2 a b) s Q := by
  obtain ⟨x, h1, rfl, y, h2, n, rfl, h3, h4⟩ := h
  refine ⟨_, ?_, h4⟩
  unfold rgL2
  rw [h1]
  show ((b s).bind fun y => _) = _
  rw [h2]
  show (if rgOk 1 ((n : Int) + 1) = true then some (PyData.list (rngD 1 ((n : Int) + 1))) else none) = _
  rw [if_pos (by unfold rgOk; rw [Bool.and_eq_true, Nat.ble_eq, Nat.ble_eq]; omega), rngD1]
theorem plain_row_spec (n : Nat) (h : n ≤ 1000) : F_plain_row [nI n] = some (nT (one n)) := by
  refine runW (n := 1) (m := m_plain_row) ?_
  show Wp m_plain_row [.imm (nI n)] _
  unfold m_plain_row
  repeat' bv_omega
  refine wq_rgT2 ?_
  repeat' bv_omega
  refine ⟨rfl, ?_⟩
  repeat' bv_omega
  refine ⟨n, rfl, by omega, ?_⟩
  exact ⟨_, rfl⟩
/-! ### leads -/
theorem rng0' : ∀ (k j : Nat), rngL (j : Int) 1 k = (List.range' j k).map nI
  | 0, _ => rfl
  | k + 1, j => by
    rw [rngL, List.range'_succ, List.map_cons, show (j : Int) + 1 = ((j + 1 : Nat) : Int) by omega, rng0' k (j + 1)]; rfl
theorem rng0 (k : Nat) : rngL 0 1 k = (List.range k).map nI := by
  have := rng0' k 0
  rw [List.range_eq_range']
  exact this
theorem gld_range {r : List Nat} {n : Nat} (h : r.length = n) : (List.range (n + 1)).map (fun i => spt 0 (r ++ [n + 1]) ((0 :: (r ++ [n + 1])).getD i 0 + 1)) = gld r n := by
  unfold gld
  apply List.ext_getElem
  · rw [List.length_map, List.length_map, List.length_range, List.length_cons, h]
  · intro i hi hj
    have hi' : i < (0 :: r).length := by rw [List.length_map] at hj; exact hj
    rw [List.getElem_map, List.getElem_map, List.getElem_range]
    congr 2
    rw [List.getD_eq_getElem?_getD, show 0 :: (r ++ [n + 1]) = (0 :: r) ++ [n + 1] by simp, List.getElem?_append_left hi', List.getElem?_eq_getElem hi']; rfl
theorem leads_spec {r : List Nat} {n : Nat} (h : r.length = n) (hN : n ≤ 900) (nd : (0 :: (r ++ [n + 1])).Nodup) (hs : ∀ x, x ∈ 0 :: r → x + 1 ∈ r ++ [n + 1]) : F_law_leads [nT r] = some (nT (gld r n)) := by
  refine runW (n := 3) (m := m_law_leads) ?_
  show Wp m_law_leads [.imm (nT r), .un, .un] _
  unfold m_law_leads
  refine w_seq ?_
  refine w_set (we_q (whole_nT h hN ?_ rfl))
  repeat' bv_omega
  refine wq_lc1 ?_
  repeat' bv_omega
  rw [h]
  refine ⟨_, rfl, by omega, ?_⟩
  have e : ((n : Int) + 1).toNat = n + 1 := by omega
  rw [e, rng0]
  refine ⟨by rw [List.length_map, List.length_range]; omega, fun d => nI (spt 0 (r ++ [n + 1]) ((0 :: (r ++ [n + 1])).getD (toN d) 0 + 1)), ?_, ?_⟩
  · intro d hd
    obtain ⟨i, hi, rfl⟩ := List.mem_map.mp hd
    have hi := List.mem_range.mp hi
    have hw : i < (0 :: (r ++ [n + 1])).length := by rw [List.length_cons, List.length_append, h]; simp; omega
    have hx : (0 :: (r ++ [n + 1])).getD i 0 ∈ 0 :: r := by
      have hi' : i < (0 :: r).length := by rw [List.length_cons, h]; exact hi
      rw [List.getD_eq_getElem?_getD, show 0 :: (r ++ [n + 1]) = (0 :: r) ++ [n + 1] by simp, List.getElem?_append_left hi', List.getElem?_eq_getElem hi']
      exact List.getElem_mem hi'
    refine ⟨_, rfl, ?_⟩
    dsimp only
    rw [toN_nI]
    repeat' bv_omega
    refine ⟨rfl, ?_⟩
    repeat' bv_omega
    refine hv_of (ix_nT hw) ?_
    repeat' bv_omega
    refine hv_of (idx_nT (List.mem_cons_of_mem _ (hs _ hx))) ?_
    repeat' bv_omega
    have e : spt 0 (0 :: (r ++ [n + 1])) ((0 :: (r ++ [n + 1])).getD i 0 + 1) = 1 + spt 0 (r ++ [n + 1]) ((0 :: (r ++ [n + 1])).getD i 0 + 1) := by
      rw [← spt_add]; exact if_neg (Nat.succ_ne_zero _)
    rw [e]
    show PyData.int _ = PyData.int _
    congr 1
    show ((1 + spt 0 (r ++ [n + 1]) ((0 :: (r ++ [n + 1])).getD i 0 + 1) : Nat) : Int) - 1 = _
    omega
  · have em : ((List.range (n + 1)).map nI).map (fun d => nI (spt 0 (r ++ [n + 1]) ((0 :: (r ++ [n + 1])).getD (toN d) 0 + 1))) = (gld r n).map nI := by
      rw [← gld_range h, List.map_map, List.map_map]
      apply List.map_congr_left
      intro i _
      show nI (spt 0 (r ++ [n + 1]) ((0 :: (r ++ [n + 1])).getD (toN (nI i)) 0 + 1)) = _
      rw [toN_nI]; rfl
    rw [em]
    repeat' bv_omega
    exact ⟨_, rfl⟩
end Y

namespace Y
open PySem PySem.Spec PyProof.Rows L2
local macro_rules
  | `(tactic| bv_omega) => `(tactic| first
    | with_reducible refine w_seq ?_ | with_reducible refine sq_nx ?_ | with_reducible refine sq_rt ?_ | with_reducible refine sq_bk ?_ | with_reducible refine sq_ct ?_ | with_reducible refine lp_nx ?_ | with_reducible refine lp_ct ?_ | with_reducible refine lp_bk ?_ | with_reducible refine lp_rt ?_
    | with_reducible refine w_nx ?_ | with_reducible refine w_bk ?_ | with_reducible refine w_ct ?_ | with_reducible refine w_if ?_ | with_reducible refine w_ret ?_ | with_reducible refine w_retO ?_ | with_reducible refine w_set ?_ | with_reducible refine w_setO ?_ | with_reducible refine w_setP ?_
    | with_reducible refine w_asg ?_ | with_reducible refine w_drop ?_ | with_reducible refine w_par ?_ | with_reducible refine w_parG ?_ | with_reducible refine w_dput ?_ | with_reducible refine w_setix ?_
    | with_reducible refine wv_nil ?_ | with_reducible refine wv_i ?_ | with_reducible refine wv_o ?_ | with_reducible refine wv_p ?_
    | with_reducible refine hg_nil ?_ | with_reducible refine hg_i (by simp) ?_ | with_reducible refine hg_o (by simp) ?_ | with_reducible refine hg_p (by simp) ?_
    | with_reducible refine we_q ?_ | with_reducible refine wt_q ?_ | with_reducible refine wl_own ?_ | with_reducible refine we_op2 ?_ | with_reducible refine wl_nil ?_ | with_reducible refine wl_cons ?_ | with_reducible refine we_tup ?_ | with_reducible refine wl_lst ?_ | with_reducible refine we_call ?_ | with_reducible refine we_callT ?_ | with_reducible refine we_lst ?_
    | with_reducible refine wt_v ?_ | with_reducible refine wt_not ?_ | with_reducible refine wt_and ?_ | with_reducible refine wt_or ?_ | with_reducible refine we_if ?_ | with_reducible refine we_is ?_
    | with_reducible refine wl_seq ?_ | with_reducible refine wl_rng1 ?_ | with_reducible refine wl_rng2 ?_ | with_reducible refine wl_enumT ?_ | with_reducible refine wl_enum ?_ | with_reducible refine wl_rev ?_
    | with_reducible refine wq_c ?_ | with_reducible refine wq_op1 ?_ | with_reducible refine wq_op2 ?_ | with_reducible refine wq_op3 ?_ | with_reducible refine wq_nil ?_ | with_reducible refine wq_cons ?_ | with_reducible refine wq_tup ?_ | with_reducible refine wq_lst ?_ | with_reducible refine wq_if ?_ | with_reducible refine wq_tv ?_ | with_reducible refine wq_notT ?_ | with_reducible refine wq_andT ?_ | with_reducible refine wq_orT ?_ | with_reducible refine wq_call ?_ | with_reducible refine wq_seq ?_ | with_reducible refine wq_meth ?_ | with_reducible refine wq_sl ?_ | with_reducible refine wo_none ?_ | with_reducible refine wo_some ?_
    | with_reducible refine wq_rng1 ?_ | with_reducible refine wq_rng2 ?_ | with_reducible refine wq_enumT ?_ | with_reducible refine wq_enum ?_ | with_reducible refine wq_rev ?_ | with_reducible refine wq_zip ?_
    | ((with_reducible refine' wq_var ?wpv ?_); (case wpv => rfl)) | ((with_reducible refine' wq_varO ?wpv ?_); (case wpv => rfl)) | ((with_reducible refine' wq_varD ?wpv ?_); (case wpv => rfl)) | ((with_reducible refine' wq_varI ?wpv ?_); (case wpv => rfl))
    | ((with_reducible refine' we_frzO ?wpv ?_); (case wpv => rfl)) | ((with_reducible refine' we_frzD ?wpv ?_); (case wpv => rfl)) | ((with_reducible refine' we_frzI ?wpv ?_); (case wpv => rfl)) | ((with_reducible refine' w_retV ?wpv ?_); (case wpv => rfl))
    | ((with_reducible refine' w_app ?wpv ?_); (case wpv => rfl)) | ((with_reducible refine' w_ext ?wpv ?_); (case wpv => rfl))
    | with_reducible refine wq_andV ?_ | with_reducible refine wq_orV ?_ | with_reducible refine wq_notV ?_ | with_reducible refine wq_chain ?_
    | with_reducible refine hv_some ?_ | with_reducible refine hv_add ?_ | with_reducible refine hv_sub ?_ | with_reducible refine hv_eq ?_ | with_reducible refine hv_ne ?_ | with_reducible refine hv_lt ?_ | with_reducible refine hv_le ?_ | with_reducible refine hv_gt ?_ | with_reducible refine hv_ge ?_ | with_reducible refine ex_bool ?_ | with_reducible refine ex_int ?_ | with_reducible refine ex_tup ?_ | with_reducible refine ex_lst ?_ | with_reducible refine ex_dct ?_ | with_reducible refine ltl (by simp) ?_ | with_reducible refine len10 (by simp) ?_)
local macro_rules
  | `(tactic| bv_omega) => `(tactic| first
    | with_reducible refine ex_nI ?_ | with_reducible refine hv_of (len_nT _) ?_ | with_reducible refine hv_of (len_int _) ?_ | with_reducible refine hv_of (eqD_nT _ _) ?_ | with_reducible refine hv_of (neD_nT _ _) ?_ | with_reducible refine hv_of (tup_nT _) ?_ | with_reducible refine hv_of (tupL_nI _) ?_ | with_reducible refine hv_of (eq_nI _ _) ?_ | with_reducible refine hv_of (ne_nI _ _) ?_ | with_reducible refine hv_of (add_nI1 _) ?_ | with_reducible refine hv_of (sub_nI _ _) ?_ | with_reducible refine hv_of (gt_nI0 _) ?_ | with_reducible refine hv_of (seq_nT _) ?_ | with_reducible refine hv_of (seqL_nI _) ?_)
/-! ## open gaps -/
theorem filt_pair (b : Nat → Nat → Bool) (l : List (Nat × Nat)) : ((l.map fun p => pairD (nI p.1) (nI p.2)).filter fun d => b (toN (pA d)) (toN (pB d))).map pA = ((l.filter fun p => b p.1 p.2).map (·.1)).map nI := by
  rw [List.filter_map, List.map_map, List.map_map]
  have e : ((fun d => b (toN (pA d)) (toN (pB d))) ∘ fun p : Nat × Nat => pairD (nI p.1) (nI p.2)) = fun p => b p.1 p.2 := by
    funext p
    show b (toN (nI p.1)) (toN (nI p.2)) = _
    rw [toN_nI, toN_nI]
  rw [e]
  apply List.map_congr_left
  intro p _
  rfl
theorem filt_nI (b : Nat → Bool) (l : List Nat) : ((l.map nI).filter fun d => b (toN d)).map (fun d => d) = (l.filter b).map nI := by
  rw [List.filter_map, List.map_map]
  have e : ((fun d => b (toN d)) ∘ nI) = b := by
    funext p
    show b (toN (nI p)) = _
    rw [toN_nI]
  rw [e]; rfl
/-- all open gaps -/
def og (r : List Nat) (n : Nat) : List Nat := gapsL 0 0 (r ++ [n + 1])
theorem og_eq {r : List Nat} {n : Nat} (nd : (r ++ [n + 1]).Nodup) : ((eN 0 (gld r n)).filter fun e => decide (e.2 ≠ e.1)).map (·.1) = og r n := by
  rw [gld_gmap]
  exact gmap_gaps nd (r ++ [n + 1]) [] 0 rfl
theorem og_len (r : List Nat) (n : Nat) : (og r n).length ≤ r.length + 1 := by
  have h : ∀ (l : List Nat) (k p : Nat), (gapsL k p l).length ≤ l.length := by
    intro l
    induction l with
    | nil => intro k p; exact Nat.le_refl _
    | cons y l ih =>
      intro k p
      show (if y = p + 1 then gapsL (k + 1) y l else k :: gapsL (k + 1) y l).length ≤ _
      have := ih (k + 1) y
      split
      · rw [List.length_cons]; omega
      · rw [List.length_cons, List.length_cons]; omega
  have := h (r ++ [n + 1]) 0 0
  rw [List.length_append, List.length_singleton] at this
  exact this
theorem pg_le (r : List Nat) (n : Nat) : (pg r n).length ≤ r.length := by
  cases r with
  | nil => exact Nat.le_refl _
  | cons x r =>
    show (gapsL 1 x (r ++ [n + 1])).length ≤ _
    have h : ∀ (l : List Nat) (k p : Nat), (gapsL k p l).length ≤ l.length := by
      intro l
      induction l with
      | nil => intro k p; exact Nat.le_refl _
      | cons y l ih =>
        intro k p
        show (if y = p + 1 then gapsL (k + 1) y l else k :: gapsL (k + 1) y l).length ≤ _
        have := ih (k + 1) y
        split
        · rw [List.length_cons]; omega
        · rw [List.length_cons, List.length_cons]; omega
    have := h (r ++ [n + 1]) 1 x
    rw [List.length_append, List.length_singleton] at this
    rw [List.length_cons]; exact this
/-- a drawn row -/
structure Rw (r : List Nat) (n : Nat) : Prop where
  pm : (one n).Perm r
  le : n ≤ 9
section
variable {r : List Nat} {n : Nat}
theorem Rw.len (h : Rw r n) : r.length = n := by rw [← h.pm.length_eq, one_len]
theorem Rw.dm (h : Rw r n) : Dom (one (n + 1)) r (n + 1) := dom_of h.pm
theorem Rw.ndq (h : Rw r n) : (r ++ [n + 1]).Nodup := (List.nodup_cons.mp h.dm.nd).2
theorem Rw.suc (h : Rw r n) : ∀ x, x ∈ 0 :: r → x + 1 ∈ r ++ [n + 1] := fun x hx => (h.dm.iff _).mp (h.dm.suc x hx)
theorem Rw.front (h : Rw r n) {b c : Nat} (hb : b ≤ c) : Rw (front r b c) n := ⟨h.pm.trans (front_perm hb), h.le⟩
theorem Rw.mem (h : Rw r n) {x : Nat} : x ∈ r ↔ 0 < x ∧ x ≤ n := by rw [← h.pm.mem_iff]; exact one_mem
theorem law_leads (h : Rw r n) : F_law_leads [nT r] = some (nT (gld r n)) := leads_spec h.len (by have := h.le; omega) h.dm.nd h.suc
theorem gap_leads (h : Rw r n) : F_gap_leads [nT r] = some (nT (gld r n)) := gap_leads_spec h.len (by have := h.le; omega) h.dm.nd h.suc
theorem gld_len (h : Rw r n) : (gld r n).length = n + 1 := by unfold gld; rw [List.length_map, List.length_cons, h.len]
theorem law_open (h : Rw r n) : F_law_open [nT r] = some (nT (og r n)) := by
  have hn := h.le
  refine runW (n := 3) (m := m_law_open) ?_
  show Wp m_law_open [.imm (nT r), .un, .un] _
  unfold m_law_open
  repeat' bv_omega
  refine wq_lc ?_
  repeat' bv_omega
  refine hv_of (law_leads h) ?_
  refine ⟨_, rfl, by rw [enumL_length, List.length_map, gld_len h]; omega, fun d => decide (toN (pB d) ≠ toN (pA d)), pA, ?_, ?_⟩
  · intro d hd
    rw [enum_nI] at hd
    obtain ⟨p, _, rfl⟩ := List.mem_map.mp hd
    refine ⟨_, rfl, ?_, fun _ => ⟨_, rfl, rfl⟩⟩
    repeat' bv_omega
    show decide (p.2 ≠ p.1) = decide (toN (nI p.2) ≠ toN (nI p.1))
    rw [toN_nI, toN_nI]
  · rw [enum_nI, filt_pair (fun x y => decide (y ≠ x)), og_eq h.ndq]
    repeat' bv_omega
    exact ⟨_, rfl⟩
theorem open_gaps (h : Rw r n) : F_open_gaps [nT r] = some (nT (og r n)) := by
  have hn := h.le
  refine runW (n := 3) (m := m_open_gaps) ?_
  show Wp m_open_gaps [.imm (nT r), .un, .un] _
  unfold m_open_gaps
  repeat' bv_omega
  refine wq_lc ?_
  repeat' bv_omega
  refine hv_of (gap_leads h) ?_
  refine ⟨_, rfl, by rw [enumL_length, List.length_map, gld_len h]; omega, fun d => decide (toN (pB d) ≠ toN (pA d)), pA, ?_, ?_⟩
  · intro d hd
    rw [enum_nI] at hd
    obtain ⟨p, _, rfl⟩ := List.mem_map.mp hd
    refine ⟨_, rfl, ?_, fun _ => ⟨_, rfl, rfl⟩⟩
    repeat' bv_omega
    show decide (p.2 ≠ p.1) = decide (toN (nI p.2) ≠ toN (nI p.1))
    rw [toN_nI, toN_nI]
  · rw [enum_nI, filt_pair (fun x y => decide (y ≠ x)), og_eq h.ndq]
    repeat' bv_omega
    exact ⟨_, rfl⟩
theorem front_gaps (h : Rw r n) : F_front_gaps [nT r] = some (nT (pg r n)) := by
  have hn := h.le
  refine runW (n := 3) (m := m_front_gaps) ?_
  show Wp m_front_gaps [.imm (nT r), .un, .un] _
  unfold m_front_gaps
  repeat' bv_omega
  refine wq_lc ?_
  repeat' bv_omega
  refine hv_of (gap_leads h) ?_
  refine ⟨_, rfl, by rw [enumL_length, List.length_map, gld_len h]; omega, fun d => (fun x y => decide (0 < x) && decide (y ≠ x)) (toN (pA d)) (toN (pB d)), pA, ?_, ?_⟩
  · intro d hd
    rw [enum_nI] at hd
    obtain ⟨p, _, rfl⟩ := List.mem_map.mp hd
    refine ⟨_, rfl, ?_, fun _ => ⟨_, rfl, rfl⟩⟩
    show Wp _ _ fun c => c = (decide (0 < p.1) && decide (p.2 ≠ p.1))
    repeat' bv_omega
    refine ⟨fun c => ?_, fun c => ?_⟩
    · repeat' bv_omega
      rw [c]; rfl
    · rw [c]; rfl
  · rw [enum_nI, filt_pair (fun x y => decide (0 < x) && decide (y ≠ x))]
    have e : ((eN 0 (gld r n)).filter fun p => decide (0 < p.1) && decide (p.2 ≠ p.1)).map (·.1) = pg r n := by
      rw [← pg_filter, ← show og r n = gapsL 0 0 (r ++ [n + 1]) from rfl, ← og_eq h.ndq, List.filter_map, List.filter_filter]
      rfl
    rw [e]
    repeat' bv_omega
    exact ⟨_, rfl⟩
end
end Y

namespace Y
open PySem PySem.Spec PyProof.Rows L2
local macro_rules
  | `(tactic| bv_omega) => `(tactic| first
    | with_reducible refine w_seq ?_ | with_reducible refine sq_nx ?_ | with_reducible refine sq_rt ?_ | with_reducible refine sq_bk ?_ | with_reducible refine sq_ct ?_ | with_reducible refine lp_nx ?_ | with_reducible refine lp_ct ?_ | with_reducible refine lp_bk ?_ | with_reducible refine lp_rt ?_
    | with_reducible refine w_nx ?_ | with_reducible refine w_bk ?_ | with_reducible refine w_ct ?_ | with_reducible refine w_if ?_ | with_reducible refine w_ret ?_ | with_reducible refine w_retO ?_ | with_reducible refine w_set ?_ | with_reducible refine w_setO ?_ | with_reducible refine w_setP ?_
    | with_reducible refine w_asg ?_ | with_reducible refine w_drop ?_ | with_reducible refine w_par ?_ | with_reducible refine w_parG ?_ | with_reducible refine w_dput ?_ | with_reducible refine w_setix ?_
    | with_reducible refine wv_nil ?_ | with_reducible refine wv_i ?_ | with_reducible refine wv_o ?_ | with_reducible refine wv_p ?_
    | with_reducible refine hg_nil ?_ | with_reducible refine hg_i (by simp) ?_ | with_reducible refine hg_o (by simp) ?_ | with_reducible refine hg_p (by simp) ?_
    | with_reducible refine we_q ?_ | with_reducible refine wt_q ?_ | with_reducible refine wl_own ?_ | with_reducible refine we_op2 ?_ | with_reducible refine wl_nil ?_ | with_reducible refine wl_cons ?_ | with_reducible refine we_tup ?_ | with_reducible refine wl_lst ?_ | with_reducible refine we_call ?_ | with_reducible refine we_callT ?_ | with_reducible refine we_lst ?_
    | with_reducible refine wt_v ?_ | with_reducible refine wt_not ?_ | with_reducible refine wt_and ?_ | with_reducible refine wt_or ?_ | with_reducible refine we_if ?_ | with_reducible refine we_is ?_
    | with_reducible refine wl_seq ?_ | with_reducible refine wl_rng1 ?_ | with_reducible refine wl_rng2 ?_ | with_reducible refine wl_enumT ?_ | with_reducible refine wl_enum ?_ | with_reducible refine wl_rev ?_
    | with_reducible refine wq_c ?_ | with_reducible refine wq_op1 ?_ | with_reducible refine wq_op2 ?_ | with_reducible refine wq_op3 ?_ | with_reducible refine wq_nil ?_ | with_reducible refine wq_cons ?_ | with_reducible refine wq_tup ?_ | with_reducible refine wq_lst ?_ | with_reducible refine wq_if ?_ | with_reducible refine wq_tv ?_ | with_reducible refine wq_notT ?_ | with_reducible refine wq_andT ?_ | with_reducible refine wq_orT ?_ | with_reducible refine wq_call ?_ | with_reducible refine wq_seq ?_ | with_reducible refine wq_meth ?_ | with_reducible refine wq_sl ?_ | with_reducible refine wo_none ?_ | with_reducible refine wo_some ?_
    | with_reducible refine wq_rng1 ?_ | with_reducible refine wq_rng2 ?_ | with_reducible refine wq_enumT ?_ | with_reducible refine wq_enum ?_ | with_reducible refine wq_rev ?_ | with_reducible refine wq_zip ?_
    | ((with_reducible refine' wq_var ?wpv ?_); (case wpv => rfl)) | ((with_reducible refine' wq_varO ?wpv ?_); (case wpv => rfl)) | ((with_reducible refine' wq_varD ?wpv ?_); (case wpv => rfl)) | ((with_reducible refine' wq_varI ?wpv ?_); (case wpv => rfl))
    | ((with_reducible refine' we_frzO ?wpv ?_); (case wpv => rfl)) | ((with_reducible refine' we_frzD ?wpv ?_); (case wpv => rfl)) | ((with_reducible refine' we_frzI ?wpv ?_); (case wpv => rfl)) | ((with_reducible refine' w_retV ?wpv ?_); (case wpv => rfl))
    | ((with_reducible refine' w_app ?wpv ?_); (case wpv => rfl)) | ((with_reducible refine' w_ext ?wpv ?_); (case wpv => rfl))
    | with_reducible refine wq_andV ?_ | with_reducible refine wq_orV ?_ | with_reducible refine wq_notV ?_ | with_reducible refine wq_chain ?_
    | with_reducible refine hv_some ?_ | with_reducible refine hv_add ?_ | with_reducible refine hv_sub ?_ | with_reducible refine hv_eq ?_ | with_reducible refine hv_ne ?_ | with_reducible refine hv_lt ?_ | with_reducible refine hv_le ?_ | with_reducible refine hv_gt ?_ | with_reducible refine hv_ge ?_ | with_reducible refine ex_bool ?_ | with_reducible refine ex_int ?_ | with_reducible refine ex_tup ?_ | with_reducible refine ex_lst ?_ | with_reducible refine ex_dct ?_ | with_reducible refine ltl (by simp) ?_ | with_reducible refine len10 (by simp) ?_)
local macro_rules
  | `(tactic| bv_omega) => `(tactic| first
    | with_reducible refine ex_nI ?_ | with_reducible refine hv_of (len_nT _) ?_ | with_reducible refine hv_of (len_int _) ?_ | with_reducible refine hv_of (eqD_nT _ _) ?_ | with_reducible refine hv_of (neD_nT _ _) ?_ | with_reducible refine hv_of (tup_nT _) ?_ | with_reducible refine hv_of (tupL_nI _) ?_ | with_reducible refine hv_of (eq_nI _ _) ?_ | with_reducible refine hv_of (ne_nI _ _) ?_ | with_reducible refine hv_of (add_nI1 _) ?_ | with_reducible refine hv_of (sub_nI _ _) ?_ | with_reducible refine hv_of (gt_nI0 _) ?_ | with_reducible refine hv_of (seq_nT _) ?_ | with_reducible refine hv_of (seqL_nI _) ?_)
theorem range_drop {N i : Nat} (h : i < N) : (List.range N).drop i = i :: (List.range N).drop (i + 1) := by
  rw [List.drop_eq_getElem_cons (by rw [List.length_range]; exact h)]
  simp
theorem law_rounds_spec {g : List Nat} {N : Nat} (hl : g.length = N) (hN : N ≤ 900) (P : PermOn (List.range N) fun x => g.getD x 0) : F_law_rounds [nT g] = some (nnT (lds (fun x => g.getD x 0) N (List.range N) [] [])) := by
  have lr : (List.range N).length = N := List.length_range
  refine runW (n := 7) (m := m_law_rounds) ?_
  show Wp m_law_rounds [.imm (nT g), .un, .un, .un, .un, .un, .un] _
  unfold m_law_rounds
  repeat' bv_omega
  refine w_for ?_
  repeat' bv_omega
  rw [hl]
  refine ex_rng1 (by omega) ⟨fun i s => ∃ K F z a b c, i ≤ N ∧ s = [.imm (nT g), .ol (F.map nT), .od (kn K), z, a, b, c] ∧ lds (fun x => g.getD x 0) N ((List.range N).drop i) K F = lds (fun x => g.getD x 0) N (List.range N) [] [] ∧ K.length ≤ 1000 * i ∧ F.length ≤ i, ⟨[], [], _, _, _, _, Nat.zero_le _, rfl, rfl, Nat.zero_le _, Nat.zero_le _⟩, ?_, ?_⟩
  · rintro i d s hi ⟨K, F, z, a, b, c, hi2, rfl, hr, kl, fl⟩
    obtain ⟨hi3, rfl⟩ := rngL_at _ _ _ _ _ hi
    have hi3 : i < N := by omega
    have e : (0 : Int) + (i : Int) * 1 = i := by omega
    rw [e]
    refine hv_of rfl ?_
    have iD : i ∈ List.range N := List.mem_range.mpr hi3
    rw [range_drop hi3] at hr
    rw [lds.eq_2] at hr
    repeat' bv_omega
    refine hv_of (din_kn true K i) ?_
    repeat' bv_omega
    refine ⟨fun c => ?_, fun c => ?_⟩
    · have c : i ∉ K := by simpa using c
      rw [if_neg c] at hr
      repeat' bv_omega
      refine w_for ?_
      repeat' bv_omega
      rw [hl]
      generalize hlw : lw (fun x => g.getD x 0) i N K [] i = R at hr
      refine ex_rng1 (by omega) ⟨fun j s => ∃ K' w x z, j ≤ N ∧ s = [.imm (nT g), .ol (F.map nT), .od (kn K'), .imm (nI i), .ol (w.map nI), .imm (nI x), z] ∧ lw (fun x => g.getD x 0) i (N - j) K' w x = R ∧ K'.length ≤ K.length + j ∧ w.length ≤ j ∧ x < N, ⟨K, [], i, _, Nat.zero_le _, rfl, hlw, by omega, by simp, hi3⟩, ?_, ?_⟩
      · rintro j d s hj ⟨K', w, x, z, hj2, rfl, hp, b1, b2, xN⟩
        obtain ⟨hj3, rfl⟩ := rngL_at _ _ _ _ _ hj
        have hj3 : j < N := by omega
        refine hv_of rfl ?_
        rw [show N - j = (N - (j + 1)) + 1 by omega, lw.eq_2] at hp
        repeat' bv_omega
        refine ⟨_, rfl, by rw [List.length_map]; omega, ?_⟩
        repeat' bv_omega
        refine ⟨_, rfl, ?_⟩
        repeat' bv_omega
        refine ⟨by rw [isT_kn]; rfl, by rw [kn_len]; omega, ?_⟩
        repeat' bv_omega
        refine hv_of (ix_nT (by rw [hl]; exact xN)) ?_
        repeat' bv_omega
        rw [put_kn]
        refine ⟨fun c => ?_, fun c => ?_⟩
        · have c : g.getD x 0 = i := by simpa using c
          rw [if_pos c] at hp
          repeat' bv_omega
          subst hp
          refine hv_of rfl ?_
          repeat' bv_omega
          refine ⟨_, rfl, by rw [List.length_map]; omega, ?_⟩
          repeat' bv_omega
          have pl := putN_len K' x
          exact ⟨putN K' x, F ++ [w ++ [x]], _, _, _, _, by omega, by rw [List.map_append (l₁ := F), List.map_singleton, show nT (w ++ [x]) = PyData.tuple (w.map nI ++ [nI x]) by unfold nT; rw [List.map_append]; rfl]; rfl, hr, by omega, by rw [List.length_append, List.length_singleton]; omega⟩
        · have c : g.getD x 0 ≠ i := by simpa using c
          rw [if_neg c] at hp
          repeat' bv_omega
          refine ⟨putN K' x, w ++ [x], g.getD x 0, .imm (.int (0 + (j : Int) * 1)), by omega, ?_, by rw [← hp], by have := putN_len K' x; omega, by rw [List.length_append, List.length_singleton]; omega, List.mem_range.mp (P.mem x (List.mem_range.mpr xN))⟩
          rw [List.map_append]; rfl
      · rintro s ⟨K', w, x, z, hj2, rfl, hp, b1, b2, xN⟩
        rw [rngL_length, show N - ((N : Int)).toNat = 0 by omega] at hp
        subst hp
        repeat' bv_omega
        refine ⟨_, rfl, by rw [List.length_map]; omega, ?_⟩
        repeat' bv_omega
        rw [rngL_length] at b1
        exact ⟨K', F ++ [w], _, _, _, _, by omega, by rw [List.map_append]; rfl, hr, by omega, by rw [List.length_append, List.length_singleton]; omega⟩
    · have c : i ∈ K := by simpa using c
      rw [if_pos c] at hr
      repeat' bv_omega
      exact ⟨K, F, _, _, _, _, by omega, rfl, hr, by omega, by omega⟩
  · rintro s ⟨K, F, z, a, b, c, hi2, rfl, hr, kl, fl⟩
    rw [rngL_length, Int.toNat_natCast, List.drop_of_length_le (by rw [lr]; exact Nat.le_refl _)] at hr
    repeat' bv_omega
    refine hv_of rfl ?_
    have hr : F = _ := hr
    repeat' bv_omega
    rw [← hr]
    exact ⟨_, rfl⟩
end Y

namespace Y
open PySem PySem.Spec PyProof.Rows L2
local macro_rules
  | `(tactic| bv_omega) => `(tactic| first
    | with_reducible refine w_seq ?_ | with_reducible refine sq_nx ?_ | with_reducible refine sq_rt ?_ | with_reducible refine sq_bk ?_ | with_reducible refine sq_ct ?_ | with_reducible refine lp_nx ?_ | with_reducible refine lp_ct ?_ | with_reducible refine lp_bk ?_ | with_reducible refine lp_rt ?_
    | with_reducible refine w_nx ?_ | with_reducible refine w_bk ?_ | with_reducible refine w_ct ?_ | with_reducible refine w_if ?_ | with_reducible refine w_ret ?_ | with_reducible refine w_retO ?_ | with_reducible refine w_set ?_ | with_reducible refine w_setO ?_ | with_reducible refine w_setP ?_
    | with_reducible refine w_asg ?_ | with_reducible refine w_drop ?_ | with_reducible refine w_par ?_ | with_reducible refine w_parG ?_ | with_reducible refine w_dput ?_ | with_reducible refine w_setix ?_
    | with_reducible refine wv_nil ?_ | with_reducible refine wv_i ?_ | with_reducible refine wv_o ?_ | with_reducible refine wv_p ?_
    | with_reducible refine hg_nil ?_ | with_reducible refine hg_i (by simp) ?_ | with_reducible refine hg_o (by simp) ?_ | with_reducible refine hg_p (by simp) ?_
    | with_reducible refine we_q ?_ | with_reducible refine wt_q ?_ | with_reducible refine wl_own ?_ | with_reducible refine we_op2 ?_ | with_reducible refine wl_nil ?_ | with_reducible refine wl_cons ?_ | with_reducible refine we_tup ?_ | with_reducible refine wl_lst ?_ | with_reducible refine we_call ?_ | with_reducible refine we_callT ?_ | with_reducible refine we_lst ?_
    | with_reducible refine wt_v ?_ | with_reducible refine wt_not ?_ | with_reducible refine wt_and ?_ | with_reducible refine wt_or ?_ | with_reducible refine we_if ?_ | with_reducible refine we_is ?_
    | with_reducible refine wl_seq ?_ | with_reducible refine wl_rng1 ?_ | with_reducible refine wl_rng2 ?_ | with_reducible refine wl_enumT ?_ | with_reducible refine wl_enum ?_ | with_reducible refine wl_rev ?_
    | with_reducible refine wq_c ?_ | with_reducible refine wq_op1 ?_ | with_reducible refine wq_op2 ?_ | with_reducible refine wq_op3 ?_ | with_reducible refine wq_nil ?_ | with_reducible refine wq_cons ?_ | with_reducible refine wq_tup ?_ | with_reducible refine wq_lst ?_ | with_reducible refine wq_if ?_ | with_reducible refine wq_tv ?_ | with_reducible refine wq_notT ?_ | with_reducible refine wq_andT ?_ | with_reducible refine wq_orT ?_ | with_reducible refine wq_call ?_ | with_reducible refine wq_seq ?_ | with_reducible refine wq_meth ?_ | with_reducible refine wq_sl ?_ | with_reducible refine wo_none ?_ | with_reducible refine wo_some ?_
    | with_reducible refine wq_rng1 ?_ | with_reducible refine wq_rng2 ?_ | with_reducible refine wq_enumT ?_ | with_reducible refine wq_enum ?_ | with_reducible refine wq_rev ?_ | with_reducible refine wq_zip ?_
    | ((with_reducible refine' wq_var ?wpv ?_); (case wpv => rfl)) | ((with_reducible refine' wq_varO ?wpv ?_); (case wpv => rfl)) | ((with_reducible refine' wq_varD ?wpv ?_); (case wpv => rfl)) | ((with_reducible refine' wq_varI ?wpv ?_); (case wpv => rfl))
    | ((with_reducible refine' we_frzO ?wpv ?_); (case wpv => rfl)) | ((with_reducible refine' we_frzD ?wpv ?_); (case wpv => rfl)) | ((with_reducible refine' we_frzI ?wpv ?_); (case wpv => rfl)) | ((with_reducible refine' w_retV ?wpv ?_); (case wpv => rfl))
    | ((with_reducible refine' w_app ?wpv ?_); (case wpv => rfl)) | ((with_reducible refine' w_ext ?wpv ?_); (case wpv => rfl))
    | with_reducible refine wq_andV ?_ | with_reducible refine wq_orV ?_ | with_reducible refine wq_notV ?_ | with_reducible refine wq_chain ?_
    | with_reducible refine hv_some ?_ | with_reducible refine hv_add ?_ | with_reducible refine hv_sub ?_ | with_reducible refine hv_eq ?_ | with_reducible refine hv_ne ?_ | with_reducible refine hv_lt ?_ | with_reducible refine hv_le ?_ | with_reducible refine hv_gt ?_ | with_reducible refine hv_ge ?_ | with_reducible refine ex_bool ?_ | with_reducible refine ex_int ?_ | with_reducible refine ex_tup ?_ | with_reducible refine ex_lst ?_ | with_reducible refine ex_dct ?_ | with_reducible refine ltl (by simp) ?_ | with_reducible refine len10 (by simp) ?_)
local macro_rules
  | `(tactic| bv_omega) => `(tactic| first
    | with_reducible refine ex_nI ?_ | with_reducible refine hv_of (len_nT _) ?_ | with_reducible refine hv_of (len_int _) ?_ | with_reducible refine hv_of (eqD_nT _ _) ?_ | with_reducible refine hv_of (neD_nT _ _) ?_ | with_reducible refine hv_of (tup_nT _) ?_ | with_reducible refine hv_of (tupL_nI _) ?_ | with_reducible refine hv_of (eq_nI _ _) ?_ | with_reducible refine hv_of (ne_nI _ _) ?_ | with_reducible refine hv_of (add_nI1 _) ?_ | with_reducible refine hv_of (sub_nI _ _) ?_ | with_reducible refine hv_of (gt_nI0 _) ?_ | with_reducible refine hv_of (seq_nT _) ?_ | with_reducible refine hv_of (seqL_nI _) ?_)
def oddN (R : List (List Nat)) : Nat := (R.filter fun w => decide (w.length % 2 = 1)).length
def lenT : D → Nat
  | .tuple l => l.length
  | _ => 0
theorem lenT_nT (w : List Nat) : lenT (nT w) = w.length := List.length_map _
theorem filt_odd (f : D → D) (R : List (List Nat)) : (((R.map nT).filter fun d => decide (lenT d % 2 = 1)).map f).length = oddN R := by
  rw [List.length_map, List.filter_map, List.length_map]
  have e : ((fun d => decide (lenT d % 2 = 1)) ∘ nT) = fun w : List Nat => decide (w.length % 2 = 1) := by
    funext w
    show decide (lenT (nT w) % 2 = 1) = _
    rw [lenT_nT]
  rw [e]; rfl
theorem lenL (l : List D) : lenD [.list l] = some (.int (l.length : Nat)) := rfl
theorem odd_test {w : List Nat} {s : S} {i : Nat} (e : s[i]? = some (.imm (nT w))) : Wp (tvM (op2 eqD (op2 modD (callM lenD (argC (varM i) argN)) (cM (.int 2))) (cM (.int 1)))) s fun c => c = decide (lenT (nT w) % 2 = 1) := by
  refine wq_tv ?_
  refine wq_op2 (wq_op2 (wq_call (wq_cons (wq_var e ?_))))
  repeat' bv_omega
  refine hv_mod (by decide) ?_
  repeat' bv_omega
  rw [lenT_nT]
  by_cases c : w.length % 2 = 1
  · rw [decide_eq_true c]; exact beq_iff_eq.mpr (by omega)
  · rw [decide_eq_false c]; exact beq_eq_false_iff_ne.mpr (by omega)
section
variable {r : List Nat} {n : Nat}
theorem rounds_facts (h : Rw r n) : ∃ R, F_law_rounds [nT (gld r n)] = some (nnT R) ∧ F_row_rounds [nT r] = some (nnT R) ∧ R.length ≤ n + 1 ∧ oddN R ≤ n + 1 := by
  have hn := h.le
  obtain ⟨gp, _⟩ := gld_perm h.pm
  have gl := gld_len h
  obtain ⟨h1, h2, _⟩ := rds_rnd gp (n := 1000) (by rw [List.length_range]; omega)
  have hR : (rds (fun x => (gld r n).getD x 0) 1000 (List.range (n + 1)) [] []).length ≤ n + 1 := by
    obtain ⟨T, t, e⟩ := h2
    rw [← e]
    have := nodup_le t.nd t.sub
    rw [List.length_range] at this
    exact this
  refine ⟨_, law_rounds_spec gl (by omega) gp, ?_, ?_, ?_⟩
  all_goals rw [List.length_range] at h1; rw [h1]
  · refine runW (n := 1) (m := m_row_rounds) ?_
    show Wp m_row_rounds [.imm (nT r)] _
    unfold m_row_rounds
    repeat' bv_omega
    refine hv_of (gap_leads h) ?_
    repeat' bv_omega
    refine hv_of (rounds_spec gl (by omega) gp) ?_
    exact ⟨_, rfl⟩
  · exact hR
  · exact Nat.le_trans (List.length_filter_le _ _) hR
theorem odd_rounds {R : List (List Nat)} (e : F_row_rounds [nT r] = some (nnT R)) (hR : R.length ≤ 1000) : F_odd_rounds [nT r] = some (nI (oddN R)) := by
  refine runW (n := 2) (m := m_odd_rounds) ?_
  show Wp m_odd_rounds [.imm (nT r), .un] _
  unfold m_odd_rounds
  repeat' bv_omega
  refine wq_lc ?_
  repeat' bv_omega
  refine hv_of e ?_
  refine hv_of rfl ?_
  refine ⟨by rw [List.length_map]; omega, fun d => decide (lenT d % 2 = 1), fun _ => .int 1, ?_, ?_⟩
  · intro d hd
    obtain ⟨w, _, rfl⟩ := List.mem_map.mp hd
    exact ⟨_, rfl, odd_test rfl, fun _ => ⟨_, rfl, rfl⟩⟩
  · repeat' bv_omega
    refine hv_of (lenL _) ?_
    rw [filt_odd]
    exact ⟨_, rfl⟩
def mx (i j : Int) : Int := if j > i then j else i
theorem max2_int (i j : Int) : max2D [.int i, .int j] = some (.int (mx i j)) := rfl
def bnd (r : List Nat) (n : Nat) (R : List (List Nat)) : D := .tuple [.int (mx ((((pg r n).length : Int) + 1) / 2) (((n : Int) + 1 - oddN R) / 2)), .int (if r = one n then 0 else ((pg r n).length : Int) - 1)]
theorem front_bounds (h : Rw r n) {R : List (List Nat)} (e : F_row_rounds [nT r] = some (nnT R)) (hR : R.length ≤ 1000) : F_front_bounds [nT r] = some (bnd r n R) := by
  have hn := h.le
  refine runW (n := 3) (m := m_front_bounds) ?_
  show Wp m_front_bounds [.imm (nT r), .un, .un] _
  unfold m_front_bounds
  repeat' bv_omega
  refine hv_of (front_gaps h) ?_
  repeat' bv_omega
  refine hv_div (by decide) (big_few (by decide)) ?_
  repeat' bv_omega
  rw [h.len]
  refine hv_of (odd_rounds e hR) ?_
  refine hv_of (show subD (.int ((n : Int) + 1)) (nI (oddN R)) = some (.int ((n : Int) + 1 - oddN R)) from rfl) ?_
  repeat' bv_omega
  refine hv_div (by decide) (big_few (by decide)) ?_
  repeat' bv_omega
  refine hv_of (max2_int _ _) ?_
  repeat' bv_omega
  rw [h.len]
  refine hv_of (plain_row_spec n (by omega)) ?_
  repeat' bv_omega
  refine ⟨fun c => ?_, fun c => ?_⟩
  · have c : r = one n := by simpa using c
    repeat' bv_omega
    unfold bnd
    rw [if_pos c]
    exact ⟨_, rfl⟩
  · have c : r ≠ one n := by simpa using c
    repeat' bv_omega
    unfold bnd
    rw [if_neg c]
    exact ⟨_, rfl⟩
theorem closed_spec (h : Rw r n) {b c : Nat} (hb : b ≤ c) (hc : c ≤ n) : F_closed_in_front [nT r, pr b c] = some (.int (((pg r n).length : Int) - (pg (front r b c) n).length)) := by
  have hn := h.le
  refine runW (n := 2) (m := m_closed_in_front) ?_
  show Wp m_closed_in_front [.imm (nT r), .imm (pr b c)] _
  unfold m_closed_in_front
  repeat' bv_omega
  refine hv_of (front_gaps h) ?_
  repeat' bv_omega
  refine hv_of (front_moved_spec hb (by rw [h.len]; exact hc) (by rw [h.len]; omega)) ?_
  repeat' bv_omega
  refine hv_of (front_gaps (h.front hb)) ?_
  repeat' bv_omega
  exact ⟨_, rfl⟩
theorem back_spec {b c : Nat} (hb : b ≤ c) : F_front_back [pr b c] = some (pr (c - b) c) := by
  refine runW (n := 1) (m := m_front_back) ?_
  show Wp m_front_back [.imm (pr b c)] _
  unfold m_front_back
  repeat' bv_omega
  refine hv_of (show ixD (pr b c) (.int 1) = some (nI c) from rfl) ?_
  repeat' bv_omega
  refine hv_of (show ixD (pr b c) (.int 0) = some (nI b) from rfl) ?_
  repeat' bv_omega
  refine hv_of (show ixD (pr b c) (.int 1) = some (nI c) from rfl) ?_
  repeat' bv_omega
  have e : (PyData.int ((c : Int) - (b : Int))) = nI (c - b) := by
    show PyData.int _ = PyData.int _
    congr 1; omega
  rw [e]
  exact ⟨_, rfl⟩
end
end Y

namespace Y
open PySem PySem.Spec PyProof.Rows L2
local macro_rules
  | `(tactic| bv_omega) => `(tactic| first
    | with_reducible refine w_seq ?_ | with_reducible refine sq_nx ?_ | with_reducible refine sq_rt ?_ | with_reducible refine sq_bk ?_ | with_reducible refine sq_ct ?_ | with_reducible refine lp_nx ?_ | with_reducible refine lp_ct ?_ | with_reducible refine lp_bk ?_ | with_reducible refine lp_rt ?_
    | with_reducible refine w_nx ?_ | with_reducible refine w_bk ?_ | with_reducible refine w_ct ?_ | with_reducible refine w_if ?_ | with_reducible refine w_ret ?_ | with_reducible refine w_retO ?_ | with_reducible refine w_set ?_ | with_reducible refine w_setO ?_ | with_reducible refine w_setP ?_
    | with_reducible refine w_asg ?_ | with_reducible refine w_drop ?_ | with_reducible refine w_par ?_ | with_reducible refine w_parG ?_ | with_reducible refine w_dput ?_ | with_reducible refine w_setix ?_
    | with_reducible refine wv_nil ?_ | with_reducible refine wv_i ?_ | with_reducible refine wv_o ?_ | with_reducible refine wv_p ?_
    | with_reducible refine hg_nil ?_ | with_reducible refine hg_i (by simp) ?_ | with_reducible refine hg_o (by simp) ?_ | with_reducible refine hg_p (by simp) ?_
    | with_reducible refine we_q ?_ | with_reducible refine wt_q ?_ | with_reducible refine wl_own ?_ | with_reducible refine we_op2 ?_ | with_reducible refine wl_nil ?_ | with_reducible refine wl_cons ?_ | with_reducible refine we_tup ?_ | with_reducible refine wl_lst ?_ | with_reducible refine we_call ?_ | with_reducible refine we_callT ?_ | with_reducible refine we_lst ?_
    | with_reducible refine wt_v ?_ | with_reducible refine wt_not ?_ | with_reducible refine wt_and ?_ | with_reducible refine wt_or ?_ | with_reducible refine we_if ?_ | with_reducible refine we_is ?_
    | with_reducible refine wl_seq ?_ | with_reducible refine wl_rng1 ?_ | with_reducible refine wl_rng2 ?_ | with_reducible refine wl_enumT ?_ | with_reducible refine wl_enum ?_ | with_reducible refine wl_rev ?_
    | with_reducible refine wq_c ?_ | with_reducible refine wq_op1 ?_ | with_reducible refine wq_op2 ?_ | with_reducible refine wq_op3 ?_ | with_reducible refine wq_nil ?_ | with_reducible refine wq_cons ?_ | with_reducible refine wq_tup ?_ | with_reducible refine wq_lst ?_ | with_reducible refine wq_if ?_ | with_reducible refine wq_tv ?_ | with_reducible refine wq_notT ?_ | with_reducible refine wq_andT ?_ | with_reducible refine wq_orT ?_ | with_reducible refine wq_call ?_ | with_reducible refine wq_seq ?_ | with_reducible refine wq_meth ?_ | with_reducible refine wq_sl ?_ | with_reducible refine wo_none ?_ | with_reducible refine wo_some ?_
    | with_reducible refine wq_rng1 ?_ | with_reducible refine wq_rng2 ?_ | with_reducible refine wq_enumT ?_ | with_reducible refine wq_enum ?_ | with_reducible refine wq_rev ?_ | with_reducible refine wq_zip ?_
    | ((with_reducible refine' wq_var ?wpv ?_); (case wpv => rfl)) | ((with_reducible refine' wq_varO ?wpv ?_); (case wpv => rfl)) | ((with_reducible refine' wq_varD ?wpv ?_); (case wpv => rfl)) | ((with_reducible refine' wq_varI ?wpv ?_); (case wpv => rfl))
    | ((with_reducible refine' we_frzO ?wpv ?_); (case wpv => rfl)) | ((with_reducible refine' we_frzD ?wpv ?_); (case wpv => rfl)) | ((with_reducible refine' we_frzI ?wpv ?_); (case wpv => rfl)) | ((with_reducible refine' w_retV ?wpv ?_); (case wpv => rfl))
    | ((with_reducible refine' w_app ?wpv ?_); (case wpv => rfl)) | ((with_reducible refine' w_ext ?wpv ?_); (case wpv => rfl))
    | with_reducible refine wq_andV ?_ | with_reducible refine wq_orV ?_ | with_reducible refine wq_notV ?_ | with_reducible refine wq_chain ?_
    | with_reducible refine hv_some ?_ | with_reducible refine hv_add ?_ | with_reducible refine hv_sub ?_ | with_reducible refine hv_eq ?_ | with_reducible refine hv_ne ?_ | with_reducible refine hv_lt ?_ | with_reducible refine hv_le ?_ | with_reducible refine hv_gt ?_ | with_reducible refine hv_ge ?_ | with_reducible refine ex_bool ?_ | with_reducible refine ex_int ?_ | with_reducible refine ex_tup ?_ | with_reducible refine ex_lst ?_ | with_reducible refine ex_dct ?_ | with_reducible refine ltl (by simp) ?_ | with_reducible refine len10 (by simp) ?_)
local macro_rules
  | `(tactic| bv_omega) => `(tactic| first
    | with_reducible refine ex_nI ?_ | with_reducible refine hv_of (len_nT _) ?_ | with_reducible refine hv_of (len_int _) ?_ | with_reducible refine hv_of (eqD_nT _ _) ?_ | with_reducible refine hv_of (neD_nT _ _) ?_ | with_reducible refine hv_of (tup_nT _) ?_ | with_reducible refine hv_of (tupL_nI _) ?_ | with_reducible refine hv_of (eq_nI _ _) ?_ | with_reducible refine hv_of (ne_nI _ _) ?_ | with_reducible refine hv_of (add_nI1 _) ?_ | with_reducible refine hv_of (sub_nI _ _) ?_ | with_reducible refine hv_of (gt_nI0 _) ?_ | with_reducible refine hv_of (seq_nT _) ?_ | with_reducible refine hv_of (seqL_nI _) ?_)
theorem isOk_nT {l : List Nat} (hl : l.length ≤ 50) (h : ∀ x, x ∈ l → x ≤ 1000) : isOk (nT l) (nT l) (nT l) = true := by
  have nd : noDict (nT l) = true := by unfold nT; rw [noDict, noD_nI]
  have c : shCost (nT l) ≤ 96603 := by
    have := costs_nI l h
    unfold nT; rw [shCost]; omega
  have dp : PyData.depth (nT l) ≤ 5 := by
    have := depth_nI l
    unfold nT; rw [PyData.depth]; omega
  unfold isOk
  rw [deq_refl _ nd, nd]
  simp only [Bool.true_and, Bool.and_true]
  unfold okShow toldD
  rw [Bool.and_eq_true, Nat.ble_eq, Nat.ble_eq]
  have st : shCost (.str "told") = 42 := by decide
  constructor
  · simp only [shCost, shCosts] at st ⊢
    omega
  · simp only [PyData.depth, PyData.depthAll]
    omega
theorem smallN_of {k : Int} (h0 : -1000 ≤ k) (h1 : k ≤ 1000) : smallN k = true := by
  unfold smallN
  rw [Nat.blt_eq]
  exact Nat.lt_of_lt_of_le (show k.natAbs < 2 ^ 10 by omega) (Nat.pow_le_pow_right (by omega) (by omega))
theorem isOk_two {x y : Int} (hx : smallN x = true) (hy : smallN y = true) : isOk (.tuple [.int x, .int y]) (.tuple [.int x, .int y]) (.tuple [.int x, .int y]) = true := by
  have c1 : shCost (.int x) = 1930 := by unfold shCost; exact if_pos (smallN_log hx)
  have c2 : shCost (.int y) = 1930 := by unfold shCost; exact if_pos (smallN_log hy)
  have t : shCost (toldD (.tuple [.int x, .int y])) = 3 + (42 + 2) + ((3 + (1930 + 2) + (1930 + 2)) + 2) := by
    unfold toldD
    simp only [shCost, shCosts] at *
    rw [c1, c2]
    rfl
  unfold isOk
  simp only [deq, deqs, beq_self_eq_true, noDict, noDicts, Bool.true_and, Bool.and_true]
  unfold okShow
  simp only [shCost, shCosts, t]
  simp only [PyData.depth, PyData.depthAll, toldD]
  decide
/-! ## the fronts of a row -/
def isPr (n : Nat) : D → Bool
  | .tuple [.int b, .int c] => decide (0 < b) && (decide (b < c) && decide (c ≤ n))
  | _ => false
theorem isPr_some {n : Nat} {d : D} (h : isPr n d = true) : ∃ b c : Nat, d = pr b c ∧ 1 ≤ b ∧ b < c ∧ c ≤ n := by
  unfold isPr at h
  split at h
  · next b c =>
    rw [Bool.and_eq_true, Bool.and_eq_true, decide_eq_true_eq, decide_eq_true_eq, decide_eq_true_eq] at h
    obtain ⟨h1, h2, h3⟩ := h
    obtain ⟨b, rfl⟩ := Int.eq_ofNat_of_zero_le (Int.le_of_lt h1)
    obtain ⟨c, rfl⟩ := Int.eq_ofNat_of_zero_le (show 0 ≤ c by omega)
    exact ⟨b, c, rfl, by omega, by omega, by omega⟩
  · cases h
def chkF (n : Nat) : Bool := match F_law_fronts [.int (n : Nat)], F_all_fronts [.int (n : Nat)] with
  | some (.tuple a), some (.tuple b) => deqs a b && (Nat.beq a.length (n * (n - 1) / 2) && (a.all (isPr n) && isOk (.tuple a) (.tuple a) (.tuple a)))
  | _, _ => false
theorem allF_0 : chkF 0 = true := by decide +kernel
theorem allF_1 : chkF 1 = true := by decide +kernel
theorem allF_2 : chkF 2 = true := by decide +kernel
theorem allF_3 : chkF 3 = true := by decide +kernel
theorem allF_4 : chkF 4 = true := by decide +kernel
theorem allF_5 : chkF 5 = true := by decide +kernel
theorem allF_6 : chkF 6 = true := by decide +kernel
theorem allF_7 : chkF 7 = true := by decide +kernel
theorem allF_8 : chkF 8 = true := by decide +kernel
theorem allF : ∀ n, n < 9 → chkF n = true := fun n h => match n, h with
  | 0, _ => allF_0
  | 1, _ => allF_1
  | 2, _ => allF_2
  | 3, _ => allF_3
  | 4, _ => allF_4
  | 5, _ => allF_5
  | 6, _ => allF_6
  | 7, _ => allF_7
  | 8, _ => allF_8
  | k + 9, h => absurd h (by omega)
theorem fronts_facts {n : Nat} (h : n < 9) : ∃ a : List D, F_law_fronts [nI n] = some (.tuple a) ∧ F_all_fronts [nI n] = some (.tuple a) ∧ a.length = n * (n - 1) / 2 ∧ (∀ d, d ∈ a → ∃ b c : Nat, d = pr b c ∧ 1 ≤ b ∧ b < c ∧ c ≤ n) ∧ isOk (.tuple a) (.tuple a) (.tuple a) = true := by
  have := allF n h
  unfold chkF at this
  split at this
  · next a b ha hb =>
    rw [Bool.and_eq_true, Bool.and_eq_true, Bool.and_eq_true, Nat.beq_eq] at this
    obtain ⟨h1, h2, h3, h4⟩ := this
    rw [← deqs_eq h1] at hb
    exact ⟨a, ha, hb, h2, fun d hd => isPr_some (List.all_eq_true.mp h3 d hd), h4⟩
  · cases this
theorem pick_spec {b : Bag} {ds : List D} (ok : OkB b) (h0 : 0 < ds.length) (h1 : ds.length ≤ 1000) : ∃ d b', F_law_pick b [.list ds] = some (d, b') ∧ OkB b' ∧ d ∈ ds := by
  have w : Wp m_law_pick [.bag b, .imm (.list ds)] fun f => ∃ d b' x, f = .rt d (.bag b' :: x) ∧ OkB b' ∧ d ∈ ds := by
    unfold m_law_pick
    repeat' bv_omega
    refine we_callB rfl ?_
    repeat' bv_omega
    refine hv_of rfl ?_
    repeat' bv_omega
    refine ⟨b, rfl, ?_⟩
    refine draw_hv ok (by omega) (by omega) fun v b' v0 v1 ok' => ?_
    have jl : v.toNat < ds.length := by omega
    refine hv_of (show ixD (.list ds) (.int v) = some ds[v.toNat] from ?_) ⟨_, b', _, rfl, ok', List.getElem_mem jl⟩
    show atI ds v = _
    have ev : atI ds v = atI ds ((v.toNat : Nat) : Int) := congrArg (atI ds) (by omega)
    rw [ev]
    exact atI_nat' (List.getElem?_eq_getElem jl)
  obtain ⟨f, h2, d, b', x, rfl, h3, h4⟩ := w
  refine ⟨d, b', ?_, h3, h4⟩
  show runB 2 m_law_pick b [.list ds] = _
  unfold runB
  have e : bagF 2 b [.list ds] = [.bag b, .imm (.list ds)] := rfl
  rw [e, h2]; rfl
/-- the open gaps behind the first item, by the law -/
theorem law_pos {F : List D → Option D} {r : List Nat} {n : Nat} (h : Rw r n) (hF : F [nT r] = some (nT (og r n))) {s : S} {i j : Nat} (e : s[i]? = some (.imm (nT r))) (hj : j < s.length) {Q : D → Prop} (q : Q (.list ((pg r n).map nI))) : Wp (lcM [j] (seqM (callM F (argC (varM i) argN))) (putM j) (tvM (op2 gtD (varM j) (cM (.int 0)))) (varM j)) s Q := by
  have hn := h.le
  refine wq_lc (wq_seq (wq_call (wq_cons (wq_var e (wq_nil ⟨_, hF, ?_⟩)))))
  refine hv_of rfl ?_
  have lo := og_len r n
  rw [h.len] at lo
  refine ⟨by rw [List.length_map]; omega, fun d => decide (0 < toN d), fun d => d, ?_, ?_⟩
  · intro d hd
    obtain ⟨x, _, rfl⟩ := List.mem_map.mp hd
    have e1 : putM j (nI x) (wipeS s [j]) = some ((wipeS s [j]).set j (.imm (nI x))) := by
      unfold putM
      rw [if_pos]
      show j < (s.set j .un).length
      rw [List.length_set]; exact hj
    have e2 : ((wipeS s [j]).set j (.imm (nI x)))[j]? = some (.imm (nI x)) := by
      show ((s.set j .un).set j (.imm (nI x)))[j]? = _
      rw [List.getElem?_set_self (by rw [List.length_set]; exact hj)]
    refine ⟨_, e1, ?_, fun _ => wq_var e2 rfl⟩
    refine wq_tv (wq_op2 (wq_var e2 ?_))
    repeat' bv_omega
    rfl
  · rw [filt_nI (fun x => decide (0 < x)), show (og r n).filter (fun x => decide (0 < x)) = pg r n from pg_filter r n]
    exact q
theorem len_fr : ∀ n : Nat, n ≤ 8 → 1 ≤ n → ((n * (n - 1) / 2 : Nat) : Int) = (n : Int) * ((n : Int) - 1) / 2 := fun n h h1 => by
  rcases (by omega : n = 1 ∨ n = 2 ∨ n = 3 ∨ n = 4 ∨ n = 5 ∨ n = 6 ∨ n = 7 ∨ n = 8) with rfl | rfl | rfl | rfl | rfl | rfl | rfl | rfl <;> rfl
/-- the odd rounds, by the law -/
theorem law_odd {r : List Nat} {n : Nat} (h : Rw r n) {R : List (List Nat)} (r1 : F_law_rounds [nT (gld r n)] = some (nnT R)) (r3 : R.length ≤ 1000) {s : S} {i j : Nat} (e : s[i]? = some (.imm (nT r))) (hj : j < s.length) {Q : D → Prop} (q : Q (.int (oddN R : Nat))) : Wp (callM lenD (argC (lcM [j] (seqM (callM F_law_rounds (argC (callM F_law_leads (argC (varM i) argN)) argN))) (putM j) (tvM (op2 eqD (op2 modD (callM lenD (argC (varM j) argN)) (cM (.int 2))) (cM (.int 1)))) (varM j)) argN)) s Q := by
  refine wq_call (wq_cons (wq_lc (wq_seq (wq_call (wq_cons (wq_call (wq_cons (wq_var e (wq_nil ⟨_, law_leads h, wq_nil ⟨_, r1, ?_⟩⟩)))))))))
  refine hv_of rfl ?_
  refine ⟨by rw [List.length_map]; omega, fun d => decide (lenT d % 2 = 1), fun d => d, ?_, ?_⟩
  · intro d hd
    obtain ⟨w, _, rfl⟩ := List.mem_map.mp hd
    have e1 : putM j (nT w) (wipeS s [j]) = some ((wipeS s [j]).set j (.imm (nT w))) := by
      unfold putM
      rw [if_pos]
      show j < (s.set j .un).length
      rw [List.length_set]; exact hj
    have e2 : ((wipeS s [j]).set j (.imm (nT w)))[j]? = some (.imm (nT w)) := by
      show ((s.set j .un).set j (.imm (nT w)))[j]? = _
      rw [List.getElem?_set_self (by rw [List.length_set]; exact hj)]
    exact ⟨_, e1, odd_test e2, fun _ => wq_var e2 rfl⟩
  · refine wq_nil ?_
    refine hv_of (lenL _) ?_
    rw [filt_odd]
    exact q
theorem shaped_fr {n : Nat} {a : List D} (hl : a.length ≤ 1000) (h : ∀ d, d ∈ a → ∃ b c : Nat, d = pr b c ∧ 1 ≤ b ∧ b < c ∧ c ≤ n) : SeqAt.shaped (.tuple a) = true := by
  have hc : ∀ l : List D, (∀ d, d ∈ l → ∃ b c : Nat, d = pr b c ∧ 1 ≤ b ∧ b < c ∧ c ≤ n) → PyData.canLayAll0 l = true ∧ PyData.depthAll l ≤ 3 := by
    intro l
    induction l with
    | nil => intro _; exact ⟨by simp [PyData.canLayAll0], by simp [PyData.depthAll]⟩
    | cons d l ih =>
      intro h
      obtain ⟨i1, i2⟩ := ih fun x hx => h x (List.mem_cons_of_mem _ hx)
      obtain ⟨b, c, rfl, _⟩ := h d List.mem_cons_self
      refine ⟨by simp [PyData.canLayAll0, PyData.canLay0, pr, nI, i1], ?_⟩
      have : PyData.depth (pr b c) ≤ 3 := by simp [PyData.depth, PyData.depthAll, pr, nI]
      rw [PyData.depthAll]; omega
  obtain ⟨h1, h2⟩ := hc a h
  unfold SeqAt.shaped
  rw [Bool.and_eq_true, decide_eq_true_eq]
  refine ⟨by simp only [PyData.canLay0]; exact h1, ?_⟩
  simp only [PyData.depth]; omega
theorem ne_empty {n : Nat} {a : List D} (hl : a.length ≤ 1000) (h : ∀ d, d ∈ a → ∃ b c : Nat, d = pr b c ∧ 1 ≤ b ∧ b < c ∧ c ≤ n) : neD (.tuple a) (.tuple []) = some (.bool (decide (a ≠ []))) := by
  show (if (SeqAt.shaped (.tuple a) && SeqAt.shaped (.tuple [])) = true then some (PyData.bool (!PyData.eqv (.tuple a) (.tuple []))) else none) = _
  rw [shaped_fr hl h, if_pos (by rfl)]
  cases a with
  | nil => rfl
  | cons d a => simp [PyData.eqv, PyData.eqvAll]
theorem ne_bool (a b : Bool) : neD (.bool a) (.bool b) = some (.bool (!(a == b))) := rfl
theorem front_back {r : List Nat} {b c : Nat} (h1 : 1 ≤ b) (h2 : b < c) (h3 : c ≤ r.length) : front (front r b c) (c - b) c = r := by
  obtain ⟨a, A, z, B, C, rfl, rfl, rfl⟩ := split3 h1 h2 h3
  have ef : front (a :: A ++ z :: B ++ C) (A.length + 1) (A.length + 1 + (B.length + 1)) = z :: B ++ a :: A ++ C := front_parts (a :: A) (z :: B) C
  rw [ef, show A.length + 1 + (B.length + 1) - (A.length + 1) = B.length + 1 by omega, show A.length + 1 + (B.length + 1) = (B.length + 1) + (A.length + 1) by omega]
  exact front_parts (z :: B) (a :: A) C
theorem lenLn (l : List Nat) : lenD [.list (l.map nI)] = some (.int (l.length : Nat)) := by
  show some (PyData.int ((l.map nI).length : Nat)) = _
  rw [List.length_map]
theorem gt_int (x y : Int) : gtD (.int x) (.int y) = some (.bool (decide (y < x))) := rfl
section
variable {r : List Nat} {n : Nat}
theorem Rw.ok (h : Rw r n) : isOk (nT r) (nT r) (nT r) = true := by
  have hn := h.le
  refine isOk_nT (by rw [h.len]; omega) fun x hx => ?_
  have := h.mem.mp hx
  omega
set_option maxHeartbeats 4000000 in
theorem are_fronts_ok (h : Rw r n) (h1 : 1 ≤ n) (h8 : n ≤ 8) {b : Bag} (ok : OkB b) : ∃ b', F_law_are_fronts b [nT r] = some (.bool true, b') ∧ OkB b' := by
  obtain ⟨fr, f1, f2, f3, f4, f5⟩ := fronts_facts (n := n) (by omega)
  obtain ⟨R, r1, r2, r3, r4⟩ := rounds_facts h
  have frl : fr.length ≤ 1000 := by
    rw [f3]
    have : n * (n - 1) ≤ 8 * 8 := Nat.mul_le_mul h8 (by omega)
    omega
  have pgl := pg_le r n
  rw [h.len] at pgl
  have pok : isOk (nT (pg r n)) (nT (pg r n)) (nT (pg r n)) = true := by
    refine isOk_nT (by omega) fun x hx => ?_
    have : x ∈ og r n := by
      rw [← pg_filter] at hx
      exact (List.mem_filter.mp hx).1
    have := gapsL_ge _ _ _ _ this
    rw [List.length_append, h.len] at this
    simp at this
    omega
  have emp : pg r n = [] ↔ r = one n := ⟨pg_nil h.len, fun e => by rw [e]; exact pg_one n⟩
  have two : (pg r n).length ≠ 1 := by
    cases e : pg r n with
    | nil => simp
    | cons b rest =>
      obtain ⟨_, _, _, _, _, _, _, _, _, h2⟩ := easy_step h.pm e
      rw [e] at h2; omega
  refine runB_of (n := 15) (m := m_law_are_fronts) ?_
  show Wp m_law_are_fronts [.bag b, .imm (nT r), .un, .un, .un, .un, .un, .un, .un, .un, .un, .un, .un, .un, .un] _
  unfold m_law_are_fronts
  repeat' bv_omega
  rw [h.len]
  refine hv_of f1 ?_
  repeat' bv_omega
  refine hv_of rfl ?_
  repeat' bv_omega
  refine law_pos h (law_open h) rfl (by simp) ?_
  repeat' bv_omega
  refine hv_of f2 ?_
  repeat' bv_omega
  refine hv_of f2 ?_
  refine ⟨f5, ?_⟩
  repeat' bv_omega
  refine ⟨fun c => (by cases c), fun _ => ?_⟩
  repeat' bv_omega
  refine hv_of (show lenD [.tuple fr] = some (.int (fr.length : Nat)) from rfl) ?_
  repeat' bv_omega
  refine hv_mul (big_few (by omega)) (big_few (by omega)) ?_
  repeat' bv_omega
  refine hv_div (by decide) (big_few (by decide)) ?_
  repeat' bv_omega
  rw [f3, len_fr n h8 h1, beq_self_eq_true]
  refine ⟨fun c => (by cases c), fun _ => ?_⟩
  repeat' bv_omega
  refine hv_of (front_gaps h) ?_
  repeat' bv_omega
  refine hv_of (front_gaps h) ?_
  refine ⟨pok, ?_⟩
  repeat' bv_omega
  refine ⟨fun c => (by cases c), fun _ => ?_⟩
  repeat' bv_omega
  refine law_pos h (open_gaps h) rfl (by simp) ?_
  repeat' bv_omega
  refine ⟨fun c => absurd rfl (of_decide_eq_true c), fun _ => ?_⟩
  repeat' bv_omega
  refine ⟨fun c => ?_, fun _ => ?_⟩
  · have c : ((pg r n).length : Int) = 1 := by simpa using c
    exact absurd (show (pg r n).length = 1 by omega) two
  repeat' bv_omega
  refine hv_of (eqD_nT (pg r n) []) ?_
  repeat' bv_omega
  refine wq_rgT2 ?_
  repeat' bv_omega
  refine ⟨rfl, ?_⟩
  repeat' bv_omega
  refine ⟨n, rfl, by omega, ?_⟩
  repeat' bv_omega
  refine hv_of (ne_bool _ _) ?_
  repeat' bv_omega
  have eb : (decide (pg r n = []) == decide (r = one n)) = true := by
    rw [beq_iff_eq]; exact decide_eq_decide.mpr emp
  rw [eb]
  refine ⟨fun c => (by cases c), fun _ => ?_⟩
  refine w_nx ?_
  refine sq_nx ?_
  refine w_seq ?_
  refine w_set (we_q (law_odd h r1 (by omega) rfl (by simp) ⟨by simp, ?_⟩))
  refine sq_nx ?_
  refine w_seq (w_set (we_q (wp_val (bnd r n R) ?_ ⟨by simp, ?_⟩)))
  · repeat' bv_omega
    refine hv_div (by decide) (big_few (by decide)) ?_
    repeat' bv_omega
    refine hv_div (by decide) (big_few (by decide)) ?_
    repeat' bv_omega
    refine hv_of (max2_int _ _) ?_
    repeat' bv_omega
    refine hv_of (neD_nT (pg r n) []) ?_
    repeat' bv_omega
    refine ⟨fun c => ?_, fun c => ?_⟩
    · have c : pg r n ≠ [] := by simpa using c
      repeat' bv_omega
      unfold bnd
      rw [if_neg fun e => c (emp.mpr e)]
    · have c : pg r n = [] := by simpa using c
      repeat' bv_omega
      unfold bnd
      rw [if_pos (emp.mp c)]
  have bok : isOk (bnd r n R) (bnd r n R) (bnd r n R) = true := by
    unfold bnd
    refine isOk_two (smallN_of ?_ ?_) (smallN_of ?_ ?_)
    · unfold mx; split <;> omega
    · unfold mx; split <;> omega
    · split <;> omega
    · split <;> omega
  repeat' bv_omega
  refine hv_of (front_bounds h r2 (by omega)) ?_
  repeat' bv_omega
  refine hv_of (front_bounds h r2 (by omega)) ?_
  refine ⟨bok, ?_⟩
  repeat' bv_omega
  refine ⟨fun c => (by cases c), fun _ => ?_⟩
  repeat' bv_omega
  refine hv_of (odd_rounds r2 (by omega)) ?_
  repeat' bv_omega
  refine ⟨fun c => absurd rfl (of_decide_eq_true c), fun _ => ?_⟩
  repeat' bv_omega
  refine w_for (wl_rng1 (wl_cons (we_q (wp_val (.int (if fr = [] then 0 else 4)) ?_ (wl_nil ?_)))))
  · repeat' bv_omega
    refine hv_of (ne_empty frl f4) ?_
    repeat' bv_omega
    refine ⟨fun c => ?_, fun c => ?_⟩
    · have c : fr ≠ [] := by simpa using c
      repeat' bv_omega
      rw [if_neg c]
    · have c : fr = [] := by simpa using c
      repeat' bv_omega
      rw [if_pos c]
  refine ex_rng1 (by split <;> decide) ⟨fun i s => ∃ b x8 x9 x10 x11 x12 x13 x14, s = [.bag b, .imm (nT r), .imm (.int (n : Nat)), .imm (.tuple fr), .imm (nT (pg r n)), .un, .imm (.int (oddN R : Nat)), .un, x8, x9, x10, x11, x12, x13, x14] ∧ OkB b, ⟨b, _, _, _, _, _, _, _, rfl, ok⟩, ?_, ?_⟩
  · rintro i d s hi ⟨b, x8, x9, x10, x11, x12, x13, x14, rfl, ok⟩
    obtain ⟨hi3, rfl⟩ := rngL_at _ _ _ _ _ hi
    have hf : fr ≠ [] := fun e => by rw [if_pos e] at hi3; exact absurd hi3 (by simp)
    refine hv_of rfl ?_
    obtain ⟨d, b1, p1, ok1, hd⟩ := pick_spec (ds := fr) ok (List.length_pos_iff.mpr hf) frl
    obtain ⟨x, y, rfl, hx, hxy, hy⟩ := f4 d hd
    have hyl : y ≤ r.length := by rw [h.len]; exact hy
    have h' := h.front (b := x) (c := y) (by omega)
    have fm := front_moved_spec (r := r) (b := x) (c := y) (by omega) hyl (by rw [h.len]; omega)
    repeat' bv_omega
    refine we_callB rfl ?_
    repeat' bv_omega
    refine hv_of (show listD [.tuple fr] = some (.list fr) from rfl) ?_
    repeat' bv_omega
    refine ⟨b, rfl, hv_of p1 ?_⟩
    repeat' bv_omega
    refine hv_of (fronted_spec (by omega) hyl (by rw [h.len]; omega)) ?_
    repeat' bv_omega
    refine hv_of fm ?_
    repeat' bv_omega
    refine hv_of fm ?_
    refine ⟨h'.ok, ?_⟩
    repeat' bv_omega
    refine ⟨fun c => (by cases c), fun _ => ?_⟩
    repeat' bv_omega
    refine hv_of rfl ?_
    refine w_seq (w_set (we_q (wp_val (pr (y - x) y) ?_ ⟨by simp, ?_⟩)))
    · repeat' bv_omega
      show PyData.tuple [.int ((y : Int) - (x : Int)), nI y] = PyData.tuple [.int ((y - x : Nat) : Int), nI y]
      rw [show ((y : Int) - (x : Int)) = ((y - x : Nat) : Int) by omega]
    have pok : isOk (pr (y - x) y) (pr (y - x) y) (pr (y - x) y) = true := isOk_nT (l := [y - x, y]) (by simp) (fun z hz => by simp at hz; omega)
    have fb := front_moved_spec (r := front r x y) (b := y - x) (c := y) (by omega) (by rw [h'.len]; exact hy) (by rw [h'.len]; omega)
    rw [front_back hx hxy hyl] at fb
    repeat' bv_omega
    refine hv_of (back_spec (by omega)) ?_
    repeat' bv_omega
    refine hv_of (back_spec (by omega)) ?_
    refine ⟨pok, ?_⟩
    repeat' bv_omega
    refine ⟨fun c => (by cases c), fun _ => ?_⟩
    repeat' bv_omega
    refine hv_of fb ?_
    repeat' bv_omega
    refine ⟨fun c => absurd rfl (of_decide_eq_true c), fun _ => ?_⟩
    repeat' bv_omega
    refine law_pos h' (law_open h') rfl (by simp) ?_
    refine wq_nil ?_
    refine hv_of (lenLn _) ?_
    repeat' bv_omega
    have cs := closed_spec h (b := x) (c := y) (by omega) hy
    have df := front_diff (r := r) (n := n) hx hxy hyl
    refine hv_of cs ?_
    repeat' bv_omega
    refine hv_of cs ?_
    have pgl' := pg_le (front r x y) n
    rw [h'.len] at pgl'
    refine ⟨isOk_int (smallN_of (by omega) (by omega)), ?_⟩
    repeat' bv_omega
    refine ⟨fun c => (by cases c), fun _ => ?_⟩
    repeat' bv_omega
    refine hv_of (show absD [.int _] = some (.int _) from rfl) ?_
    repeat' bv_omega
    refine ⟨fun c => ?_, fun _ => ?_⟩
    · have c := of_decide_eq_true c
      split at c <;> omega
    repeat' bv_omega
    exact ⟨b1, _, _, _, _, _, _, _, rfl, ok1⟩
  · rintro s ⟨b, x8, x9, x10, x11, x12, x13, x14, rfl, ok⟩
    repeat' bv_omega
    exact ⟨b, _, rfl, ok⟩
end
end Y

namespace Y
open PySem PySem.Spec PyProof.Rows L2
local macro_rules
  | `(tactic| bv_omega) => `(tactic| first
    | with_reducible refine w_seq ?_ | with_reducible refine sq_nx ?_ | with_reducible refine sq_rt ?_ | with_reducible refine sq_bk ?_ | with_reducible refine sq_ct ?_ | with_reducible refine lp_nx ?_ | with_reducible refine lp_ct ?_ | with_reducible refine lp_bk ?_ | with_reducible refine lp_rt ?_
    | with_reducible refine w_nx ?_ | with_reducible refine w_bk ?_ | with_reducible refine w_ct ?_ | with_reducible refine w_if ?_ | with_reducible refine w_ret ?_ | with_reducible refine w_retO ?_ | with_reducible refine w_set ?_ | with_reducible refine w_setO ?_ | with_reducible refine w_setP ?_
    | with_reducible refine w_asg ?_ | with_reducible refine w_drop ?_ | with_reducible refine w_par ?_ | with_reducible refine w_parG ?_ | with_reducible refine w_dput ?_ | with_reducible refine w_setix ?_
    | with_reducible refine wv_nil ?_ | with_reducible refine wv_i ?_ | with_reducible refine wv_o ?_ | with_reducible refine wv_p ?_
    | with_reducible refine hg_nil ?_ | with_reducible refine hg_i (by simp) ?_ | with_reducible refine hg_o (by simp) ?_ | with_reducible refine hg_p (by simp) ?_
    | with_reducible refine we_q ?_ | with_reducible refine wt_q ?_ | with_reducible refine wl_own ?_ | with_reducible refine we_op2 ?_ | with_reducible refine wl_nil ?_ | with_reducible refine wl_cons ?_ | with_reducible refine we_tup ?_ | with_reducible refine wl_lst ?_ | with_reducible refine we_call ?_ | with_reducible refine we_callT ?_ | with_reducible refine we_lst ?_
    | with_reducible refine wt_v ?_ | with_reducible refine wt_not ?_ | with_reducible refine wt_and ?_ | with_reducible refine wt_or ?_ | with_reducible refine we_if ?_ | with_reducible refine we_is ?_
    | with_reducible refine wl_seq ?_ | with_reducible refine wl_rng1 ?_ | with_reducible refine wl_rng2 ?_ | with_reducible refine wl_enumT ?_ | with_reducible refine wl_enum ?_ | with_reducible refine wl_rev ?_
    | with_reducible refine wq_c ?_ | with_reducible refine wq_op1 ?_ | with_reducible refine wq_op2 ?_ | with_reducible refine wq_op3 ?_ | with_reducible refine wq_nil ?_ | with_reducible refine wq_cons ?_ | with_reducible refine wq_tup ?_ | with_reducible refine wq_lst ?_ | with_reducible refine wq_if ?_ | with_reducible refine wq_tv ?_ | with_reducible refine wq_notT ?_ | with_reducible refine wq_andT ?_ | with_reducible refine wq_orT ?_ | with_reducible refine wq_call ?_ | with_reducible refine wq_seq ?_ | with_reducible refine wq_meth ?_ | with_reducible refine wq_sl ?_ | with_reducible refine wo_none ?_ | with_reducible refine wo_some ?_
    | with_reducible refine wq_rng1 ?_ | with_reducible refine wq_rng2 ?_ | with_reducible refine wq_enumT ?_ | with_reducible refine wq_enum ?_ | with_reducible refine wq_rev ?_ | with_reducible refine wq_zip ?_
    | ((with_reducible refine' wq_var ?wpv ?_); (case wpv => rfl)) | ((with_reducible refine' wq_varO ?wpv ?_); (case wpv => rfl)) | ((with_reducible refine' wq_varD ?wpv ?_); (case wpv => rfl)) | ((with_reducible refine' wq_varI ?wpv ?_); (case wpv => rfl))
    | ((with_reducible refine' we_frzO ?wpv ?_); (case wpv => rfl)) | ((with_reducible refine' we_frzD ?wpv ?_); (case wpv => rfl)) | ((with_reducible refine' we_frzI ?wpv ?_); (case wpv => rfl)) | ((with_reducible refine' w_retV ?wpv ?_); (case wpv => rfl))
    | ((with_reducible refine' w_app ?wpv ?_); (case wpv => rfl)) | ((with_reducible refine' w_ext ?wpv ?_); (case wpv => rfl))
    | with_reducible refine wq_andV ?_ | with_reducible refine wq_orV ?_ | with_reducible refine wq_notV ?_ | with_reducible refine wq_chain ?_
    | with_reducible refine hv_some ?_ | with_reducible refine hv_add ?_ | with_reducible refine hv_sub ?_ | with_reducible refine hv_eq ?_ | with_reducible refine hv_ne ?_ | with_reducible refine hv_lt ?_ | with_reducible refine hv_le ?_ | with_reducible refine hv_gt ?_ | with_reducible refine hv_ge ?_ | with_reducible refine ex_bool ?_ | with_reducible refine ex_int ?_ | with_reducible refine ex_tup ?_ | with_reducible refine ex_lst ?_ | with_reducible refine ex_dct ?_ | with_reducible refine ltl (by simp) ?_ | with_reducible refine len10 (by simp) ?_)
local macro_rules
  | `(tactic| bv_omega) => `(tactic| first
    | with_reducible refine ex_nI ?_ | with_reducible refine hv_of (len_nT _) ?_ | with_reducible refine hv_of (len_int _) ?_ | with_reducible refine hv_of (eqD_nT _ _) ?_ | with_reducible refine hv_of (neD_nT _ _) ?_ | with_reducible refine hv_of (tup_nT _) ?_ | with_reducible refine hv_of (tupL_nI _) ?_ | with_reducible refine hv_of (eq_nI _ _) ?_ | with_reducible refine hv_of (ne_nI _ _) ?_ | with_reducible refine hv_of (add_nI1 _) ?_ | with_reducible refine hv_of (sub_nI _ _) ?_ | with_reducible refine hv_of (gt_nI0 _) ?_ | with_reducible refine hv_of (seq_nT _) ?_ | with_reducible refine hv_of (seqL_nI _) ?_)
def prD (p : Nat × Nat) : D := pr p.1 p.2
inductive Esy (n : Nat) : List Nat → List (Nat × Nat) → Prop
  | nil {r : List Nat} (h : pg r n = []) : Esy n r []
  | cons {r : List Nat} {b c x : Nat} {rest : List Nat} {ws : List (Nat × Nat)} (h : pg r n = b :: rest) (hx : r[b - 1]? = some x) (h1 : 1 ≤ b) (h2 : b < c) (h3 : c ≤ n) (hc : c = (if x = n then n else spt 0 r (x + 1))) (hm : x ≠ n → x + 1 ∈ r)
      (hd : (pg r n).length = (pg (front r b c) n).length + 1 ∨ (pg r n).length = (pg (front r b c) n).length + 2) (t : Esy n (front r b c) ws) : Esy n r ((b, c) :: ws)
theorem esy_ex {n : Nat} : ∀ (m : Nat) (r : List Nat), Rw r n → (pg r n).length ≤ m → ∃ ws, Esy n r ws ∧ ws.length ≤ (pg r n).length - 1
  | 0, r, h, hm => ⟨[], .nil (List.length_eq_zero_iff.mp (by omega)), Nat.zero_le _⟩
  | m + 1, r, h, hm => by
    cases e : pg r n with
    | nil => exact ⟨[], .nil e, Nat.zero_le _⟩
    | cons b rest =>
      obtain ⟨c, x, h1, h2, h3, h4, h5, h6, h7, h8⟩ := easy_step h.pm e
      obtain ⟨ws, t, l⟩ := esy_ex m (front r b c) (h.front (by omega)) (by omega)
      refine ⟨(b, c) :: ws, .cons e h1 h2 h3 h4 h5 h6 h7 t, ?_⟩
      rw [← e, List.length_cons]
      omega
theorem eqL_nil (l : List Nat) : eqD (.list (l.map nI)) (.list []) = some (.bool (decide (l = []))) := by
  show (if (SeqAt.shaped (.list (l.map nI)) && SeqAt.shaped (.list [])) = true then some (PyData.bool (PyData.eqv (.list (l.map nI)) (.list []))) else none) = _
  rw [if_pos (by rw [nI_int, shaped_ints]; rfl)]
  cases l with
  | nil => rfl
  | cons a w => simp [PyData.eqv, PyData.eqvAll]
theorem ix_opt {g : List Nat} {k x : Nat} (h : g[k]? = some x) : ixD (nT g) (nI k) = some (nI x) := by
  obtain ⟨h1, h2⟩ := List.getElem?_eq_some_iff.mp h
  rw [ix_nT h1, List.getD_eq_getElem?_getD, h]; rfl
theorem ix_optL {g : List Nat} {k x : Nat} (h : g[k]? = some x) : ixD (.list (g.map nI)) (nI k) = some (nI x) := by
  show atI (g.map nI) (k : Int) = _
  apply atI_nat'
  rw [List.getElem?_map, h]; rfl
theorem idx_row {l : List Nat} {x : Nat} (h : x ∈ l) : idxA (nT l) [nI x] = some (nI (spt 0 l x)) := idx_nT h
section
variable {r : List Nat} {n : Nat}
theorem easy_way {ws : List (Nat × Nat)} (h : Rw r n) (h1 : 1 ≤ n) (t : Esy n r ws) (hw : ws.length ≤ 10) : F_easy_front_way [nT r] = some (.tuple (ws.map prD)) := by
  have hn := h.le
  refine runW (n := 5) (m := m_easy_front_way) ?_
  show Wp m_easy_front_way [.imm (nT r), .un, .un, .un, .un] _
  unfold m_easy_front_way
  repeat' bv_omega
  rw [h.len]
  refine w_while (fun k s => ∃ r' F ws' x y, s = [.imm (nT r'), .ol (F.map prD), .imm (nI n), x, y] ∧ Rw r' n ∧ Esy n r' ws' ∧ F ++ ws' = ws ∧ ws'.length < k) 1000 _ ⟨r, [], ws, _, _, rfl, h, t, rfl, by omega⟩ ?_ ?_
  · rintro k s ⟨r', F, ws', x, y, rfl, h', t', e, hk⟩
    have fl : F.length ≤ 10 := by
      have := congrArg List.length e
      rw [List.length_append] at this
      omega
    repeat' bv_omega
    refine hv_of (plain_row_spec n (by omega)) ?_
    repeat' bv_omega
    refine ⟨fun c => ?_, fun c => ?_⟩
    · have c : r' ≠ one n := by simpa using c
      cases t' with
      | nil hp => exact absurd (pg_nil h'.len hp) c
      | @cons _ b c x rest ws' hp hx h1 h2 h3 hc hm hd t' =>
        repeat' bv_omega
        refine hv_of (front_gaps h') ?_
        rw [hp]
        refine wq_c ?_
        refine hv_of (show ixD (nT (b :: rest)) (.int 0) = some (nI b) from ix_opt (k := 0) rfl) ?_
        refine ⟨by simp, ?_⟩
        refine sq_nx ?_
        have ixb : ∀ z : Int, z = (b : Int) - 1 → ixD (nT r') (.int z) = some (nI x) := fun z hz => by
          rw [hz, show (b : Int) - 1 = ((b - 1 : Nat) : Int) by omega]
          exact ix_opt hx
        refine w_seq (w_set (we_q (wp_val (nI c) ?_ ⟨by simp, ?_⟩)))
        · repeat' bv_omega
          refine hv_of (ixb _ (by rfl)) ?_
          repeat' bv_omega
          refine ⟨fun c1 => ?_, fun c1 => ?_⟩
          · have c1 : x = n := by simpa using c1
            repeat' bv_omega
            rw [if_pos c1] at hc
            rw [hc]
          · have c1 : x ≠ n := by simpa using c1
            repeat' bv_omega
            refine ⟨rfl, ?_⟩
            repeat' bv_omega
            refine hv_of (ixb _ (by rfl)) ?_
            repeat' bv_omega
            refine hv_of (idx_nT (hm c1)) ?_
            rw [if_neg c1] at hc
            rw [hc]
        repeat' bv_omega
        refine ⟨_, rfl, by rw [List.length_map]; omega, ?_⟩
        repeat' bv_omega
        refine hv_of (front_moved_spec (b := b) (c := c) (by omega) (by rw [h'.len]; exact h3) (by rw [h'.len]; omega)) ?_
        repeat' bv_omega
        exact ⟨front r' b c, F ++ [(b, c)], ws', _, _, by rw [List.map_append]; rfl, h'.front (by omega), t', by rw [← e, List.append_assoc]; rfl, by rw [List.length_cons] at hk; omega⟩
    · have c : r' = one n := by simpa using c
      cases t' with
      | nil hp =>
        rw [List.append_nil] at e
        subst e
        repeat' bv_omega
        refine hv_of rfl ?_
        exact ⟨_, rfl⟩
      | cons hp _ _ _ _ _ _ _ _ =>
        rw [c, pg_one] at hp
        cases hp
  · rintro s ⟨r', F, ws', x, y, rfl, h', t', e, hk⟩
    omega
end
end Y

namespace Y
open PySem PySem.Spec PyProof.Rows L2
local macro_rules
  | `(tactic| bv_omega) => `(tactic| first
    | with_reducible refine w_seq ?_ | with_reducible refine sq_nx ?_ | with_reducible refine sq_rt ?_ | with_reducible refine sq_bk ?_ | with_reducible refine sq_ct ?_ | with_reducible refine lp_nx ?_ | with_reducible refine lp_ct ?_ | with_reducible refine lp_bk ?_ | with_reducible refine lp_rt ?_
    | with_reducible refine w_nx ?_ | with_reducible refine w_bk ?_ | with_reducible refine w_ct ?_ | with_reducible refine w_if ?_ | with_reducible refine w_ret ?_ | with_reducible refine w_retO ?_ | with_reducible refine w_set ?_ | with_reducible refine w_setO ?_ | with_reducible refine w_setP ?_
    | with_reducible refine w_asg ?_ | with_reducible refine w_drop ?_ | with_reducible refine w_par ?_ | with_reducible refine w_parG ?_ | with_reducible refine w_dput ?_ | with_reducible refine w_setix ?_
    | with_reducible refine wv_nil ?_ | with_reducible refine wv_i ?_ | with_reducible refine wv_o ?_ | with_reducible refine wv_p ?_
    | with_reducible refine hg_nil ?_ | with_reducible refine hg_i (by simp) ?_ | with_reducible refine hg_o (by simp) ?_ | with_reducible refine hg_p (by simp) ?_
    | with_reducible refine we_q ?_ | with_reducible refine wt_q ?_ | with_reducible refine wl_own ?_ | with_reducible refine we_op2 ?_ | with_reducible refine wl_nil ?_ | with_reducible refine wl_cons ?_ | with_reducible refine we_tup ?_ | with_reducible refine wl_lst ?_ | with_reducible refine we_call ?_ | with_reducible refine we_callT ?_ | with_reducible refine we_lst ?_
    | with_reducible refine wt_v ?_ | with_reducible refine wt_not ?_ | with_reducible refine wt_and ?_ | with_reducible refine wt_or ?_ | with_reducible refine we_if ?_ | with_reducible refine we_is ?_
    | with_reducible refine wl_seq ?_ | with_reducible refine wl_rng1 ?_ | with_reducible refine wl_rng2 ?_ | with_reducible refine wl_enumT ?_ | with_reducible refine wl_enum ?_ | with_reducible refine wl_rev ?_
    | with_reducible refine wq_c ?_ | with_reducible refine wq_op1 ?_ | with_reducible refine wq_op2 ?_ | with_reducible refine wq_op3 ?_ | with_reducible refine wq_nil ?_ | with_reducible refine wq_cons ?_ | with_reducible refine wq_tup ?_ | with_reducible refine wq_lst ?_ | with_reducible refine wq_if ?_ | with_reducible refine wq_tv ?_ | with_reducible refine wq_notT ?_ | with_reducible refine wq_andT ?_ | with_reducible refine wq_orT ?_ | with_reducible refine wq_call ?_ | with_reducible refine wq_seq ?_ | with_reducible refine wq_meth ?_ | with_reducible refine wq_sl ?_ | with_reducible refine wo_none ?_ | with_reducible refine wo_some ?_
    | with_reducible refine wq_rng1 ?_ | with_reducible refine wq_rng2 ?_ | with_reducible refine wq_enumT ?_ | with_reducible refine wq_enum ?_ | with_reducible refine wq_rev ?_ | with_reducible refine wq_zip ?_
    | ((with_reducible refine' wq_var ?wpv ?_); (case wpv => rfl)) | ((with_reducible refine' wq_varO ?wpv ?_); (case wpv => rfl)) | ((with_reducible refine' wq_varD ?wpv ?_); (case wpv => rfl)) | ((with_reducible refine' wq_varI ?wpv ?_); (case wpv => rfl))
    | ((with_reducible refine' we_frzO ?wpv ?_); (case wpv => rfl)) | ((with_reducible refine' we_frzD ?wpv ?_); (case wpv => rfl)) | ((with_reducible refine' we_frzI ?wpv ?_); (case wpv => rfl)) | ((with_reducible refine' w_retV ?wpv ?_); (case wpv => rfl))
    | ((with_reducible refine' w_app ?wpv ?_); (case wpv => rfl)) | ((with_reducible refine' w_ext ?wpv ?_); (case wpv => rfl))
    | with_reducible refine wq_andV ?_ | with_reducible refine wq_orV ?_ | with_reducible refine wq_notV ?_ | with_reducible refine wq_chain ?_
    | with_reducible refine hv_some ?_ | with_reducible refine hv_add ?_ | with_reducible refine hv_sub ?_ | with_reducible refine hv_eq ?_ | with_reducible refine hv_ne ?_ | with_reducible refine hv_lt ?_ | with_reducible refine hv_le ?_ | with_reducible refine hv_gt ?_ | with_reducible refine hv_ge ?_ | with_reducible refine ex_bool ?_ | with_reducible refine ex_int ?_ | with_reducible refine ex_tup ?_ | with_reducible refine ex_lst ?_ | with_reducible refine ex_dct ?_ | with_reducible refine ltl (by simp) ?_ | with_reducible refine len10 (by simp) ?_)
local macro_rules
  | `(tactic| bv_omega) => `(tactic| first
    | with_reducible refine ex_nI ?_ | with_reducible refine hv_of (len_nT _) ?_ | with_reducible refine hv_of (len_int _) ?_ | with_reducible refine hv_of (eqD_nT _ _) ?_ | with_reducible refine hv_of (neD_nT _ _) ?_ | with_reducible refine hv_of (tup_nT _) ?_ | with_reducible refine hv_of (tupL_nI _) ?_ | with_reducible refine hv_of (eq_nI _ _) ?_ | with_reducible refine hv_of (ne_nI _ _) ?_ | with_reducible refine hv_of (add_nI1 _) ?_ | with_reducible refine hv_of (sub_nI _ _) ?_ | with_reducible refine hv_of (gt_nI0 _) ?_ | with_reducible refine hv_of (seq_nT _) ?_ | with_reducible refine hv_of (seqL_nI _) ?_)
theorem esy_parts {n : Nat} {r : List Nat} {ws : List (Nat × Nat)} (t : Esy n r ws) : ∀ p, p ∈ ws → 1 ≤ p.1 ∧ p.1 < p.2 ∧ p.2 ≤ n := by
  induction t with
  | nil _ => intro p h; cases h
  | cons h hx h1 h2 h3 hc hm hd t ih =>
    intro p hp
    rcases List.mem_cons.mp hp with rfl | hp
    · exact ⟨h1, h2, h3⟩
    · exact ih p hp
theorem costs_pr : ∀ (ws : List (Nat × Nat)), (∀ p, p ∈ ws → p.1 ≤ 1000 ∧ p.2 ≤ 1000) → shCosts (ws.map prD) = 3869 * ws.length
  | [], _ => rfl
  | p :: ws, h => by
    have ih := costs_pr ws fun q hq => h q (List.mem_cons_of_mem _ hq)
    obtain ⟨h1, h2⟩ := h p List.mem_cons_self
    have e : shCost (prD p) = 3867 := by
      have := costs_nI [p.1, p.2] (fun x hx => by simp at hx; omega)
      show shCost (.tuple ([p.1, p.2].map nI)) = _
      rw [shCost, this]; rfl
    rw [List.map_cons, shCosts, ih, e, List.length_cons]; omega
theorem isOk_prs {ws : List (Nat × Nat)} (hl : ws.length ≤ 20) (h : ∀ p, p ∈ ws → p.1 ≤ 1000 ∧ p.2 ≤ 1000) : isOk (.tuple (ws.map prD)) (.tuple (ws.map prD)) (.tuple (ws.map prD)) = true := by
  have hd : ∀ ws : List (Nat × Nat), noDicts (ws.map prD) = true ∧ PyData.depthAll (ws.map prD) ≤ 3 := by
    intro ws
    induction ws with
    | nil => exact ⟨rfl, by simp [PyData.depthAll]⟩
    | cons p ws ih =>
      refine ⟨by rw [List.map_cons, noDicts, ih.1]; rfl, ?_⟩
      have : PyData.depth (prD p) ≤ 3 := by simp [prD, pr, nI, PyData.depth, PyData.depthAll]
      rw [List.map_cons, PyData.depthAll]
      have := ih.2
      omega
  have nd : noDict (.tuple (ws.map prD)) = true := by rw [noDict, (hd ws).1]
  have c : shCost (.tuple (ws.map prD)) ≤ 77383 := by
    have := costs_pr ws h
    rw [shCost]; omega
  have dp : PyData.depth (.tuple (ws.map prD)) ≤ 5 := by
    have := (hd ws).2
    rw [PyData.depth]; omega
  unfold isOk
  rw [deq_refl _ nd, nd]
  simp only [Bool.true_and, Bool.and_true]
  unfold okShow toldD
  rw [Bool.and_eq_true, Nat.ble_eq, Nat.ble_eq]
  have st : shCost (.str "told") = 42 := by decide
  constructor
  · rw [shCost, shCosts, shCosts, shCosts, shCost, shCosts, shCosts, shCosts, st]
    omega
  · rw [PyData.depth, PyData.depthAll, PyData.depthAll, PyData.depthAll, PyData.depth, PyData.depthAll, PyData.depthAll, PyData.depthAll]
    simp only [PyData.depth]
    simp only [PyData.depth] at dp
    omega
theorem in_two (x y z : Int) : inD true (.int x) (.tuple [.int y, .int z]) = some (.bool (!(decide (y = x) || decide (z = x)))) := by
  show (if allInt [.int y, .int z] = true then some (PyData.bool (true ^^ [PyData.int y, .int z].any fun d => PyData.eqv d (.int x))) else none) = _
  rw [if_pos (show allInt [PyData.int y, .int z] = true from rfl)]
  congr 2
  show (true ^^ (PyData.eqv (.int y) (.int x) || (PyData.eqv (.int z) (.int x) || false))) = _
  rw [eqv_int, eqv_int, Bool.or_false]
  have e1 : (y == x) = decide (y = x) := by
    by_cases c : y = x
    · rw [c]; simp
    · rw [decide_eq_false c]; exact beq_eq_false_iff_ne.mpr c
  have e2 : (z == x) = decide (z = x) := by
    by_cases c : z = x
    · rw [c]; simp
    · rw [decide_eq_false c]; exact beq_eq_false_iff_ne.mpr c
  rw [e1, e2]
  cases decide (y = x) || decide (z = x) <;> rfl
section
variable {r : List Nat} {n : Nat}
set_option maxHeartbeats 4000000 in
theorem is_easy_ok (h : Rw r n) (h1 : 1 ≤ n) (h8 : n ≤ 8) : F_law_is_easy [nT r] = some (.bool true) := by
  obtain ⟨R, r1, r2, r3, r4⟩ := rounds_facts h
  obtain ⟨ws, t, wl⟩ := esy_ex _ r h (Nat.le_refl _)
  have pgl := pg_le r n
  rw [h.len] at pgl
  have way := easy_way h h1 t (by omega)
  refine runW (n := 11) (m := m_law_is_easy) ?_
  show Wp m_law_is_easy [.imm (nT r), .un, .un, .un, .un, .un, .un, .un, .un, .un, .un] _
  unfold m_law_is_easy
  repeat' bv_omega
  rw [h.len]
  refine w_for ?_
  repeat' bv_omega
  refine hv_mul (big_few (by decide)) (big_few (by omega)) ?_
  repeat' bv_omega
  refine ex_rng1 (by omega) ⟨fun i s => ∃ r' F ws' x4 x5 x7 x8 x9 x10, s = [.imm (nT r), .imm (nI n), .ol (F.map prD), .imm (nT r'), x4, x5, .un, x7, x8, x9, x10] ∧ Rw r' n ∧ Esy n r' ws' ∧ F ++ ws' = ws ∧ F.length = i, ⟨r, [], ws, _, _, _, _, _, _, rfl, h, t, rfl, rfl⟩, ?_, ?_⟩
  · rintro i d s hi ⟨r', F, ws', x4, x5, x7, x8, x9, x10, rfl, h', t', e, hF⟩
    obtain ⟨hi3, rfl⟩ := rngL_at _ _ _ _ _ hi
    have fl : F.length ≤ 10 := by
      have := congrArg List.length e
      rw [List.length_append] at this
      omega
    refine hv_of rfl ?_
    refine w_seq (w_set (we_q (law_pos h' (law_open h') rfl (by simp) ⟨by simp, ?_⟩)))
    repeat' bv_omega
    refine hv_of (eqL_nil (pg r' n)) ?_
    repeat' bv_omega
    refine ⟨fun c => ?_, fun c => ?_⟩
    · have c : pg r' n = [] := by simpa using c
      have ew : ws' = [] := by
        cases t' with
        | nil _ => rfl
        | cons hp _ _ _ _ _ _ _ _ => rw [hp] at c; cases c
      rw [ew, List.append_nil] at e
      subst e
      repeat' bv_omega
      refine hv_of (show lenD [.list (F.map prD)] = some (.int (F.length : Nat)) from by show some (PyData.int ((F.map prD).length : Nat)) = _; rw [List.length_map]) ?_
      repeat' bv_omega
      refine hv_of (front_bounds h r2 (by omega)) ?_
      repeat' bv_omega
      refine hv_of (show ixD (bnd r n R) (.int 1) = some (.int (if r = one n then 0 else ((pg r n).length : Int) - 1)) from rfl) ?_
      repeat' bv_omega
      refine ⟨fun c => ?_, fun _ => ?_⟩
      · have c := of_decide_eq_true c
        split at c
        · next e1 =>
          have : pg r n = [] := by rw [e1]; exact pg_one n
          have wl : F.length ≤ 0 := by rw [this] at wl; exact wl
          omega
        · next e1 =>
          have : (pg r n).length ≠ 0 := fun z => e1 (pg_nil h.len (List.length_eq_zero_iff.mp z))
          omega
      repeat' bv_omega
      refine hv_of rfl ?_
      repeat' bv_omega
      refine hv_of way ?_
      repeat' bv_omega
      refine hv_of way ?_
      refine ⟨isOk_prs (by omega) fun p hp => ?_, ?_⟩
      · have := esy_parts t p hp
        omega
      repeat' bv_omega
      exact ⟨_, rfl⟩
    · have c : pg r' n ≠ [] := by simpa using c
      cases t' with
      | nil hp => exact absurd hp c
      | @cons _ b c x rest ws' hp hx h1 h2 h3 hc hm hd t' =>
        have ixb : ∀ z : Int, z = (b : Int) - 1 → ixD (nT r') (.int z) = some (nI x) := fun z hz => by
          rw [hz, show (b : Int) - 1 = ((b - 1 : Nat) : Int) by omega]
          exact ix_opt hx
        have g0 : ixD (.list ((pg r' n).map nI)) (.int 0) = some (nI b) := by
          rw [hp]; exact ix_optL (k := 0) rfl
        refine w_nx ?_
        refine sq_nx ?_
        refine w_seq ?_
        refine w_par ?_
        repeat' bv_omega
        refine hv_of g0 ?_
        repeat' bv_omega
        refine hv_of g0 ?_
        repeat' bv_omega
        refine hv_of (ixb _ (by rfl)) ?_
        refine wl_nil ?_
        refine ⟨_, _, rfl, by simp, by simp, ?_⟩
        refine sq_nx ?_
        refine w_seq (w_set (we_q (wp_val (pr b c) ?_ ⟨by simp, ?_⟩)))
        · repeat' bv_omega
          refine ⟨fun c1 => ?_, fun c1 => ?_⟩
          · have c1 : x = n := by simpa using c1
            repeat' bv_omega
            rw [if_pos c1] at hc
            rw [hc]; rfl
          · have c1 : x ≠ n := by simpa using c1
            repeat' bv_omega
            refine ⟨rfl, ?_⟩
            repeat' bv_omega
            refine hv_of (idx_nT (hm c1)) ?_
            repeat' bv_omega
            rw [if_neg c1] at hc
            rw [hc]; rfl
        have h2' := h'.front (b := b) (c := c) (by omega)
        repeat' bv_omega
        refine ⟨_, rfl, by rw [List.length_map]; omega, ?_⟩
        repeat' bv_omega
        refine hv_of (fronted_spec (b := b) (c := c) (by omega) (by rw [h'.len]; exact h3) (by rw [h'.len]; omega)) ?_
        repeat' bv_omega
        refine law_pos h2' (law_open h2') rfl (by simp) ?_
        refine wq_nil ?_
        refine hv_of (lenLn _) ?_
        repeat' bv_omega
        refine hv_of (lenLn _) ?_
        repeat' bv_omega
        refine hv_of (lenLn _) ?_
        repeat' bv_omega
        refine hv_of (in_two _ _ _) ?_
        repeat' bv_omega
        have ein : (decide (((pg r' n).length : Int) - 1 = ((pg (front r' b c) n).length : Nat)) || decide (((pg r' n).length : Int) - 2 = ((pg (front r' b c) n).length : Nat))) = true := by
          rw [Bool.or_eq_true, decide_eq_true_eq, decide_eq_true_eq]
          omega
        refine ⟨fun c0 => ?_, fun _ => ?_⟩
        · have c' : (!(decide (((pg r' n).length : Int) - 1 = ((pg (front r' b c) n).length : Nat)) || decide (((pg r' n).length : Int) - 2 = ((pg (front r' b c) n).length : Nat)))) = true := c0
          rw [ein] at c'
          cases c'
        repeat' bv_omega
        exact ⟨front r' b c, F ++ [(b, c)], ws', _, _, _, _, _, _, by rw [List.map_append]; rfl, h2', t', by rw [← e, List.append_assoc]; rfl, by rw [List.length_append, hF]; rfl⟩
  · rintro s ⟨r', F, ws', x4, x5, x7, x8, x9, x10, rfl, h', t', e, hF⟩
    have := congrArg List.length e
    rw [List.length_append] at this
    rw [rngL_length] at hF
    omega
end
end Y

namespace Y
open PySem PySem.Spec PyProof.Rows L2
local macro_rules
  | `(tactic| bv_omega) => `(tactic| first
    | with_reducible refine w_seq ?_ | with_reducible refine sq_nx ?_ | with_reducible refine sq_rt ?_ | with_reducible refine sq_bk ?_ | with_reducible refine sq_ct ?_ | with_reducible refine lp_nx ?_ | with_reducible refine lp_ct ?_ | with_reducible refine lp_bk ?_ | with_reducible refine lp_rt ?_
    | with_reducible refine w_nx ?_ | with_reducible refine w_bk ?_ | with_reducible refine w_ct ?_ | with_reducible refine w_if ?_ | with_reducible refine w_ret ?_ | with_reducible refine w_retO ?_ | with_reducible refine w_set ?_ | with_reducible refine w_setO ?_ | with_reducible refine w_setP ?_
    | with_reducible refine w_asg ?_ | with_reducible refine w_drop ?_ | with_reducible refine w_par ?_ | with_reducible refine w_parG ?_ | with_reducible refine w_dput ?_ | with_reducible refine w_setix ?_
    | with_reducible refine wv_nil ?_ | with_reducible refine wv_i ?_ | with_reducible refine wv_o ?_ | with_reducible refine wv_p ?_
    | with_reducible refine hg_nil ?_ | with_reducible refine hg_i (by simp) ?_ | with_reducible refine hg_o (by simp) ?_ | with_reducible refine hg_p (by simp) ?_
    | with_reducible refine we_q ?_ | with_reducible refine wt_q ?_ | with_reducible refine wl_own ?_ | with_reducible refine we_op2 ?_ | with_reducible refine wl_nil ?_ | with_reducible refine wl_cons ?_ | with_reducible refine we_tup ?_ | with_reducible refine wl_lst ?_ | with_reducible refine we_call ?_ | with_reducible refine we_callT ?_ | with_reducible refine we_lst ?_
    | with_reducible refine wt_v ?_ | with_reducible refine wt_not ?_ | with_reducible refine wt_and ?_ | with_reducible refine wt_or ?_ | with_reducible refine we_if ?_ | with_reducible refine we_is ?_
    | with_reducible refine wl_seq ?_ | with_reducible refine wl_rng1 ?_ | with_reducible refine wl_rng2 ?_ | with_reducible refine wl_enumT ?_ | with_reducible refine wl_enum ?_ | with_reducible refine wl_rev ?_
    | with_reducible refine wq_c ?_ | with_reducible refine wq_op1 ?_ | with_reducible refine wq_op2 ?_ | with_reducible refine wq_op3 ?_ | with_reducible refine wq_nil ?_ | with_reducible refine wq_cons ?_ | with_reducible refine wq_tup ?_ | with_reducible refine wq_lst ?_ | with_reducible refine wq_if ?_ | with_reducible refine wq_tv ?_ | with_reducible refine wq_notT ?_ | with_reducible refine wq_andT ?_ | with_reducible refine wq_orT ?_ | with_reducible refine wq_call ?_ | with_reducible refine wq_seq ?_ | with_reducible refine wq_meth ?_ | with_reducible refine wq_sl ?_ | with_reducible refine wo_none ?_ | with_reducible refine wo_some ?_
    | with_reducible refine wq_rng1 ?_ | with_reducible refine wq_rng2 ?_ | with_reducible refine wq_enumT ?_ | with_reducible refine wq_enum ?_ | with_reducible refine wq_rev ?_ | with_reducible refine wq_zip ?_
    | ((with_reducible refine' wq_var ?wpv ?_); (case wpv => rfl)) | ((with_reducible refine' wq_varO ?wpv ?_); (case wpv => rfl)) | ((with_reducible refine' wq_varD ?wpv ?_); (case wpv => rfl)) | ((with_reducible refine' wq_varI ?wpv ?_); (case wpv => rfl))
    | ((with_reducible refine' we_frzO ?wpv ?_); (case wpv => rfl)) | ((with_reducible refine' we_frzD ?wpv ?_); (case wpv => rfl)) | ((with_reducible refine' we_frzI ?wpv ?_); (case wpv => rfl)) | ((with_reducible refine' w_retV ?wpv ?_); (case wpv => rfl))
    | ((with_reducible refine' w_app ?wpv ?_); (case wpv => rfl)) | ((with_reducible refine' w_ext ?wpv ?_); (case wpv => rfl))
    | with_reducible refine wq_andV ?_ | with_reducible refine wq_orV ?_ | with_reducible refine wq_notV ?_ | with_reducible refine wq_chain ?_
    | with_reducible refine hv_some ?_ | with_reducible refine hv_add ?_ | with_reducible refine hv_sub ?_ | with_reducible refine hv_eq ?_ | with_reducible refine hv_ne ?_ | with_reducible refine hv_lt ?_ | with_reducible refine hv_le ?_ | with_reducible refine hv_gt ?_ | with_reducible refine hv_ge ?_ | with_reducible refine ex_bool ?_ | with_reducible refine ex_int ?_ | with_reducible refine ex_tup ?_ | with_reducible refine ex_lst ?_ | with_reducible refine ex_dct ?_ | with_reducible refine ltl (by simp) ?_ | with_reducible refine len10 (by simp) ?_)
local macro_rules
  | `(tactic| bv_omega) => `(tactic| first
    | with_reducible refine ex_nI ?_ | with_reducible refine hv_of (len_nT _) ?_ | with_reducible refine hv_of (len_int _) ?_ | with_reducible refine hv_of (eqD_nT _ _) ?_ | with_reducible refine hv_of (neD_nT _ _) ?_ | with_reducible refine hv_of (tup_nT _) ?_ | with_reducible refine hv_of (tupL_nI _) ?_ | with_reducible refine hv_of (eq_nI _ _) ?_ | with_reducible refine hv_of (ne_nI _ _) ?_ | with_reducible refine hv_of (add_nI1 _) ?_ | with_reducible refine hv_of (sub_nI _ _) ?_ | with_reducible refine hv_of (gt_nI0 _) ?_ | with_reducible refine hv_of (seq_nT _) ?_ | with_reducible refine hv_of (seqL_nI _) ?_)
def mv (r : List Nat) (a b c : Nat) : List Nat := r.take a ++ (r.drop b).take (c - b) ++ (r.drop a).take (b - a) ++ r.drop c
theorem add4 {a b c d r : List Nat} (h : a.length + b.length + c.length + d.length ≤ 1000000) {Q : D → Prop} (q : Q (nT (a ++ b ++ c ++ d))) : Hv (addD (nT (a ++ b ++ c)) (nT d)) Q := hv_of (add_nT (by rw [List.length_append, List.length_append]; omega)) q
theorem law_moved_spec {r : List Nat} {a b c : Nat} (h1 : a ≤ b) (h2 : b ≤ c) (h3 : c ≤ r.length) (hr : r.length ≤ 1000) : F_law_moved [nT r, nT [a, b, c]] = some (nT (mv r a b c)) := by
  refine runW (n := 5) (m := m_law_moved) ?_
  show Wp m_law_moved [.imm (nT r), .imm (nT [a, b, c]), .un, .un, .un] _
  unfold m_law_moved
  repeat' bv_omega
  refine hv_of rfl ?_
  repeat' bv_omega
  refine hv_of (cut_to (by omega)) ?_
  repeat' bv_omega
  refine hv_of (cut_nT (by omega) h3) ?_
  refine hv_of (add_nT (by rw [List.length_take, List.length_take, List.length_drop]; omega)) ?_
  repeat' bv_omega
  refine hv_of (cut_nT (by omega) (by omega)) ?_
  refine hv_of (add_nT (by simp only [List.length_append, List.length_take, List.length_drop]; omega)) ?_
  repeat' bv_omega
  refine hv_of (cut_from h3) ?_
  refine hv_of (add_nT (by simp only [List.length_append, List.length_take, List.length_drop]; omega)) ?_
  exact ⟨_, rfl⟩
theorem moved_spec {r : List Nat} {a b c : Nat} (h1 : a ≤ b) (h2 : b ≤ c) (h3 : c ≤ r.length) (hr : r.length ≤ 1000) : F_moved [nT r, nT [a, b, c]] = some (nT (mv r a b c)) := by
  refine runW (n := 5) (m := m_moved) ?_
  show Wp m_moved [.imm (nT r), .imm (nT [a, b, c]), .un, .un, .un] _
  unfold m_moved
  repeat' bv_omega
  refine hv_of rfl ?_
  repeat' bv_omega
  refine hv_of (cut_to (by omega)) ?_
  repeat' bv_omega
  refine hv_of (cut_nT (by omega) h3) ?_
  refine hv_of (add_nT (by rw [List.length_take, List.length_take, List.length_drop]; omega)) ?_
  repeat' bv_omega
  refine hv_of (cut_nT (by omega) (by omega)) ?_
  refine hv_of (add_nT (by simp only [List.length_append, List.length_take, List.length_drop]; omega)) ?_
  repeat' bv_omega
  refine hv_of (cut_from h3) ?_
  refine hv_of (add_nT (by simp only [List.length_append, List.length_take, List.length_drop]; omega)) ?_
  exact ⟨_, rfl⟩
/-- four parts of a row -/
theorem split4 {r : List Nat} {a b c : Nat} (h1 : a ≤ b) (h2 : b ≤ c) (h3 : c ≤ r.length) : ∃ P Q R S, r = P ++ Q ++ R ++ S ∧ P.length = a ∧ Q.length = b - a ∧ R.length = c - b := by
  refine ⟨r.take a, (r.drop a).take (b - a), (r.drop b).take (c - b), r.drop c, ?_, by rw [List.length_take]; omega, by rw [List.length_take, List.length_drop]; omega, by rw [List.length_take, List.length_drop]; omega⟩
  have e1 : r.drop c = (r.drop b).drop (c - b) := by rw [List.drop_drop]; congr 1; omega
  have e2 : r.drop b = (r.drop a).drop (b - a) := by rw [List.drop_drop]; congr 1; omega
  rw [List.append_assoc, e1, List.take_append_drop, List.append_assoc]
  conv => rhs; rw [e2, List.take_append_drop, List.take_append_drop]
theorem mv_parts (P Q R S : List Nat) : mv (P ++ Q ++ R ++ S) P.length (P.length + Q.length) (P.length + Q.length + R.length) = P ++ R ++ Q ++ S := by
  have h1 : (P ++ Q ++ R ++ S).take P.length = P := by rw [List.append_assoc, List.append_assoc, List.take_left' rfl]
  have h2 : (P ++ Q ++ R ++ S).drop (P.length + Q.length) = R ++ S := by rw [List.append_assoc, List.drop_left' (by rw [List.length_append])]
  have h3 : (P ++ Q ++ R ++ S).drop P.length = Q ++ (R ++ S) := by rw [List.append_assoc, List.append_assoc, List.drop_left' rfl]
  have h4 : (P ++ Q ++ R ++ S).drop (P.length + Q.length + R.length) = S := List.drop_left' (by rw [List.length_append, List.length_append])
  unfold mv
  rw [h1, h2, h3, h4, show P.length + Q.length + R.length - (P.length + Q.length) = R.length by omega, Nat.add_sub_cancel_left, List.take_left' rfl, List.take_left' rfl]
def dueL (a b c : Nat) : List (Nat × Nat) := if a = 0 then [(b, c)] else [(b, c), (c - b, c - b + a)]
theorem mv_fronts {r : List Nat} {a b c : Nat} (h1 : a < b) (h2 : b < c) (h3 : c ≤ r.length) : (dueL a b c).foldl (fun x p => front x p.1 p.2) r = mv r a b c := by
  obtain ⟨P, Q, R, S, rfl, l1, l2, l3⟩ := split4 (Nat.le_of_lt h1) (Nat.le_of_lt h2) h3
  have eb : b = (P ++ Q).length := by rw [List.length_append]; omega
  have ec : c = (P ++ Q).length + R.length := by rw [List.length_append]; omega
  have e1 : front (P ++ Q ++ R ++ S) b c = R ++ (P ++ Q) ++ S := by rw [eb, ec]; exact front_parts (P ++ Q) R S
  have em : mv (P ++ Q ++ R ++ S) a b c = P ++ R ++ Q ++ S := by
    have := mv_parts P Q R S
    rw [l1, show a + Q.length = b by omega, show b + R.length = c by omega] at this
    exact this
  unfold dueL
  rw [em]
  by_cases c0 : a = 0
  · rw [if_pos c0]
    have : P = [] := List.length_eq_zero_iff.mp (by omega)
    show front (P ++ Q ++ R ++ S) b c = _
    rw [e1, this]; simp
  · rw [if_neg c0]
    show front (front (P ++ Q ++ R ++ S) b c) (c - b) (c - b + a) = _
    rw [e1, show R ++ (P ++ Q) ++ S = R ++ P ++ (Q ++ S) by simp, show c - b = R.length by omega, show R.length + a = R.length + P.length by omega, front_parts]
    simp
def mir (n : Nat) (l : List Nat) : List Nat := l.reverse.map fun x => n + 1 - x
theorem mir_app (n : Nat) (a b : List Nat) : mir n (a ++ b) = mir n b ++ mir n a := by
  unfold mir; rw [List.reverse_append, List.map_append]
theorem mir_len (n : Nat) (a : List Nat) : (mir n a).length = a.length := by
  unfold mir; rw [List.length_map, List.length_reverse]
theorem mir_front {r : List Nat} {n b c : Nat} (h2 : b ≤ c) (h3 : c ≤ r.length) (hl : r.length = n) : mv (mir n r) (n - c) (n - b) n = mir n (front r b c) := by
  obtain ⟨P, A, B, C, e, l1, l2, l3⟩ := split4 (r := r) (a := 0) (Nat.zero_le b) h2 h3
  have : P = [] := List.length_eq_zero_iff.mp l1
  subst this
  rw [List.nil_append] at e
  subst e
  simp only [List.length_append] at hl
  have e1 : front (A ++ B ++ C) b c = B ++ A ++ C := by
    rw [show b = A.length by omega, show c = A.length + B.length by omega]
    exact front_parts A B C
  rw [e1, mir_app, mir_app, mir_app, mir_app]
  have := mv_parts (mir n C) (mir n B) (mir n A) []
  rw [mir_len, mir_len, mir_len, show C.length = n - c by omega, show n - c + B.length = n - b by omega, show n - b + A.length = n by omega, List.append_nil, List.append_nil] at this
  rw [← List.append_assoc, this, List.append_assoc]
theorem mirrored_spec {l : List Nat} {n : Nat} (hl : l.length = n) (hn : n ≤ 900) (h : ∀ x, x ∈ l → x ≤ n + 1) : F_law_mirrored [nT l] = some (nT (mir n l)) := by
  refine runW (n := 2) (m := m_law_mirrored) ?_
  show Wp m_law_mirrored [.imm (nT l), .un] _
  unfold m_law_mirrored
  repeat' bv_omega
  refine wq_lc1 ?_
  repeat' bv_omega
  refine hv_of (show listD [nT l] = some (.list (l.map nI)) from rfl) ?_
  refine ⟨_, rfl, by rw [List.length_reverse, List.length_map]; omega, fun d => nI (n + 1 - toN d), ?_, ?_⟩
  · intro d hd
    rw [List.mem_reverse] at hd
    obtain ⟨x, hx, rfl⟩ := List.mem_map.mp hd
    have := h x hx
    refine ⟨_, rfl, ?_⟩
    repeat' bv_omega
    rw [hl]
    refine hv_of (show subD (.int ((n : Int) + 1)) (nI x) = some (.int ((n : Int) + 1 - (x : Int))) from rfl) ?_
    show PyData.int _ = PyData.int ((n + 1 - x : Nat) : Int)
    congr 1; omega
  · have e : (l.map nI).reverse.map (fun d => nI (n + 1 - toN d)) = (mir n l).map nI := by
      unfold mir
      rw [← List.map_reverse, List.map_map, List.map_map]
      apply List.map_congr_left
      intro x _
      rfl
    rw [e]
    repeat' bv_omega
    exact ⟨_, rfl⟩
end Y

namespace Y
open PySem PySem.Spec PyProof.Rows L2
local macro_rules
  | `(tactic| bv_omega) => `(tactic| first
    | with_reducible refine w_seq ?_ | with_reducible refine sq_nx ?_ | with_reducible refine sq_rt ?_ | with_reducible refine sq_bk ?_ | with_reducible refine sq_ct ?_ | with_reducible refine lp_nx ?_ | with_reducible refine lp_ct ?_ | with_reducible refine lp_bk ?_ | with_reducible refine lp_rt ?_
    | with_reducible refine w_nx ?_ | with_reducible refine w_bk ?_ | with_reducible refine w_ct ?_ | with_reducible refine w_if ?_ | with_reducible refine w_ret ?_ | with_reducible refine w_retO ?_ | with_reducible refine w_set ?_ | with_reducible refine w_setO ?_ | with_reducible refine w_setP ?_
    | with_reducible refine w_asg ?_ | with_reducible refine w_drop ?_ | with_reducible refine w_par ?_ | with_reducible refine w_parG ?_ | with_reducible refine w_dput ?_ | with_reducible refine w_setix ?_
    | with_reducible refine wv_nil ?_ | with_reducible refine wv_i ?_ | with_reducible refine wv_o ?_ | with_reducible refine wv_p ?_
    | with_reducible refine hg_nil ?_ | with_reducible refine hg_i (by simp) ?_ | with_reducible refine hg_o (by simp) ?_ | with_reducible refine hg_p (by simp) ?_
    | with_reducible refine we_q ?_ | with_reducible refine wt_q ?_ | with_reducible refine wl_own ?_ | with_reducible refine we_op2 ?_ | with_reducible refine wl_nil ?_ | with_reducible refine wl_cons ?_ | with_reducible refine we_tup ?_ | with_reducible refine wl_lst ?_ | with_reducible refine we_call ?_ | with_reducible refine we_callT ?_ | with_reducible refine we_lst ?_
    | with_reducible refine wt_v ?_ | with_reducible refine wt_not ?_ | with_reducible refine wt_and ?_ | with_reducible refine wt_or ?_ | with_reducible refine we_if ?_ | with_reducible refine we_is ?_
    | with_reducible refine wl_seq ?_ | with_reducible refine wl_rng1 ?_ | with_reducible refine wl_rng2 ?_ | with_reducible refine wl_enumT ?_ | with_reducible refine wl_enum ?_ | with_reducible refine wl_rev ?_
    | with_reducible refine wq_c ?_ | with_reducible refine wq_op1 ?_ | with_reducible refine wq_op2 ?_ | with_reducible refine wq_op3 ?_ | with_reducible refine wq_nil ?_ | with_reducible refine wq_cons ?_ | with_reducible refine wq_tup ?_ | with_reducible refine wq_lst ?_ | with_reducible refine wq_if ?_ | with_reducible refine wq_tv ?_ | with_reducible refine wq_notT ?_ | with_reducible refine wq_andT ?_ | with_reducible refine wq_orT ?_ | with_reducible refine wq_call ?_ | with_reducible refine wq_seq ?_ | with_reducible refine wq_meth ?_ | with_reducible refine wq_sl ?_ | with_reducible refine wo_none ?_ | with_reducible refine wo_some ?_
    | with_reducible refine wq_rng1 ?_ | with_reducible refine wq_rng2 ?_ | with_reducible refine wq_enumT ?_ | with_reducible refine wq_enum ?_ | with_reducible refine wq_rev ?_ | with_reducible refine wq_zip ?_
    | ((with_reducible refine' wq_var ?wpv ?_); (case wpv => rfl)) | ((with_reducible refine' wq_varO ?wpv ?_); (case wpv => rfl)) | ((with_reducible refine' wq_varD ?wpv ?_); (case wpv => rfl)) | ((with_reducible refine' wq_varI ?wpv ?_); (case wpv => rfl))
    | ((with_reducible refine' we_frzO ?wpv ?_); (case wpv => rfl)) | ((with_reducible refine' we_frzD ?wpv ?_); (case wpv => rfl)) | ((with_reducible refine' we_frzI ?wpv ?_); (case wpv => rfl)) | ((with_reducible refine' w_retV ?wpv ?_); (case wpv => rfl))
    | ((with_reducible refine' w_app ?wpv ?_); (case wpv => rfl)) | ((with_reducible refine' w_ext ?wpv ?_); (case wpv => rfl))
    | with_reducible refine wq_andV ?_ | with_reducible refine wq_orV ?_ | with_reducible refine wq_notV ?_ | with_reducible refine wq_chain ?_
    | with_reducible refine hv_some ?_ | with_reducible refine hv_add ?_ | with_reducible refine hv_sub ?_ | with_reducible refine hv_eq ?_ | with_reducible refine hv_ne ?_ | with_reducible refine hv_lt ?_ | with_reducible refine hv_le ?_ | with_reducible refine hv_gt ?_ | with_reducible refine hv_ge ?_ | with_reducible refine ex_bool ?_ | with_reducible refine ex_int ?_ | with_reducible refine ex_tup ?_ | with_reducible refine ex_lst ?_ | with_reducible refine ex_dct ?_ | with_reducible refine ltl (by simp) ?_ | with_reducible refine len10 (by simp) ?_)
local macro_rules
  | `(tactic| bv_omega) => `(tactic| first
    | with_reducible refine ex_nI ?_ | with_reducible refine hv_of (len_nT _) ?_ | with_reducible refine hv_of (len_int _) ?_ | with_reducible refine hv_of (eqD_nT _ _) ?_ | with_reducible refine hv_of (neD_nT _ _) ?_ | with_reducible refine hv_of (tup_nT _) ?_ | with_reducible refine hv_of (tupL_nI _) ?_ | with_reducible refine hv_of (eq_nI _ _) ?_ | with_reducible refine hv_of (ne_nI _ _) ?_ | with_reducible refine hv_of (add_nI1 _) ?_ | with_reducible refine hv_of (sub_nI _ _) ?_ | with_reducible refine hv_of (gt_nI0 _) ?_ | with_reducible refine hv_of (seq_nT _) ?_ | with_reducible refine hv_of (seqL_nI _) ?_)
theorem we_sl {g : D → Option Int → Option Int → Option D} {a : S → Option (D × S)} {lo hi : S → Option (Option Int)} {s : S} {Q : D → S → Prop} (h : We a s fun d s1 => Wp lo s1 fun l => Wp hi s1 fun u => Hv (g d l u) fun x => Q x s1) : We (slE g a lo hi) s Q := by
  obtain ⟨d, s1, h1, l, h2, u, h3, x, h4, h5⟩ := h
  refine ⟨x, s1, ?_, h5⟩
  unfold slE
  rw [h1]
  show ((lo s1).bind fun l => _) = _
  rw [h2]
  show ((hi s1).bind fun l => _) = _
  rw [h3]
  show (g d l u).map _ = _
  rw [h4]; rfl
/-- three different numbers in rising order -/
theorem sort3 {o : List Nat} {m : Nat} (h : (List.range m).Perm o) (hm : 3 ≤ m) : ∃ a b c : Nat, a < b ∧ b < c ∧ c < m ∧ sortedA [nT (o.take 3)] = some (.list ([a, b, c].map nI)) := by
  have ol : o.length = m := by rw [← h.length_eq, List.length_range]
  have nd : o.Nodup := h.nodup_iff.mp List.nodup_range
  have nd3 : (o.take 3).Nodup := nd.sublist (List.take_sublist _ _)
  have i1 : intsD ((o.take 3).map nI) = some ((o.take 3).map fun i : Nat => (i : Int)) := by rw [nI_int]; exact intsD_of _
  have e : sortedA [nT (o.take 3)] = some (.list ((sortI ((o.take 3).map fun i : Nat => (i : Int))).map PyData.int)) := by
    show ((seqsD [nT (o.take 3)]).bind fun xs => _) = _
    show ((intsD ((o.take 3).map nI)).map _) = _
    rw [i1]; rfl
  have pm := sortI_perm ((o.take 3).map fun i : Nat => (i : Int))
  have srt := sortI_sorted ((o.take 3).map fun i : Nat => (i : Int))
  have ndI : ((o.take 3).map fun i : Nat => (i : Int)).Nodup := by
    rw [List.nodup_iff_pairwise_ne] at nd3 ⊢
    exact nd3.map _ fun x y hxy z => hxy (by omega)
  generalize sortI ((o.take 3).map fun i : Nat => (i : Int)) = l at pm srt e
  have nl : l.Nodup := pm.nodup_iff.mpr ndI
  have ll : l.length = 3 := by rw [pm.length_eq, List.length_map, List.length_take]; omega
  have mem : ∀ z, z ∈ l → ∃ x : Nat, z = x ∧ x < m := fun z hz => by
    obtain ⟨x, hx, rfl⟩ := List.mem_map.mp (pm.mem_iff.mp hz)
    exact ⟨x, rfl, List.mem_range.mp (h.mem_iff.mpr (List.mem_of_mem_take hx))⟩
  match l, ll, mem, srt, nl, e with
  | [x, y, z], _, mem, srt, nl, e =>
    obtain ⟨a, rfl, ha⟩ := mem x (by simp)
    obtain ⟨b, rfl, hb⟩ := mem y (by simp)
    obtain ⟨c, rfl, hc⟩ := mem z (by simp)
    simp at srt nl
    exact ⟨a, b, c, by omega, by omega, hc, e⟩
theorem eq_nI0 (x : Nat) : eqD (nI x) (.int 0) = some (.bool (decide (x = 0))) := eq_nI x 0
theorem lt_nI2 (x : Nat) : ltD (nI x) (.int 2) = some (.bool (decide (x < 2))) := by
  show some (PyData.bool (decide ((x : Int) < 2))) = _
  congr 2
  by_cases c : x < 2
  · rw [decide_eq_true c]; exact decide_eq_true (by omega)
  · rw [decide_eq_false c]; exact decide_eq_false (by omega)
theorem fronts_for_spec {a b c : Nat} (h1 : a < b) (h2 : b < c) : F_fronts_for [nT [a, b, c]] = some (.tuple ((dueL a b c).map prD)) := by
  refine runW (n := 4) (m := m_fronts_for) ?_
  show Wp m_fronts_for [.imm (nT [a, b, c]), .un, .un, .un] _
  unfold m_fronts_for
  repeat' bv_omega
  refine hv_of rfl ?_
  repeat' bv_omega
  have e1 : (c : Int) - (b : Int) = ((c - b : Nat) : Int) := by omega
  refine ⟨fun q => ?_, fun q => ?_⟩
  · have q : a = 0 := by simpa using q
    repeat' bv_omega
    unfold dueL
    rw [if_pos q]
    exact ⟨_, rfl⟩
  · have q : a ≠ 0 := by simpa using q
    repeat' bv_omega
    rw [e1]
    refine hv_of (show addD (.int ((c - b : Nat) : Int)) (nI a) = some (nI (c - b + a)) from rfl) ?_
    repeat' bv_omega
    unfold dueL
    rw [if_neg q]
    exact ⟨_, rfl⟩
section
variable {r : List Nat} {n : Nat}
set_option maxHeartbeats 4000000 in
theorem are_moves_ok (h : Rw r n) (h1 : 1 ≤ n) (h8 : n ≤ 8) {b : Bag} (ok : OkB b) : ∃ b', F_law_are_moves b [nT r] = some (.bool true, b') ∧ OkB b' := by
  obtain ⟨fr, f1, f2, f3, f4, f5⟩ := fronts_facts (n := n) (by omega)
  have frl : fr.length ≤ 1000 := by
    rw [f3]
    have : n * (n - 1) ≤ 8 * 8 := Nat.mul_le_mul h8 (by omega)
    omega
  refine runB_of (n := 12) (m := m_law_are_moves) ?_
  show Wp m_law_are_moves [.bag b, .imm (nT r), .un, .un, .un, .un, .un, .un, .un, .un, .un, .un] _
  unfold m_law_are_moves
  repeat' bv_omega
  rw [h.len]
  refine ⟨fun c => ?_, fun c => ?_⟩
  · repeat' bv_omega
    exact ⟨b, _, rfl, ok⟩
  have n2 : 2 ≤ n := by have := of_decide_eq_false c; omega
  repeat' bv_omega
  refine we_sl ?_
  refine we_callB rfl ?_
  repeat' bv_omega
  obtain ⟨o, b2, ho, ok2, pm⟩ := law_order_spec (b := b) (n := n + 1) ok (by omega)
  have ol : o.length = n + 1 := by rw [← pm.length_eq, List.length_range]
  refine ⟨b, rfl, hv_of ho ?_⟩
  obtain ⟨x, y, z, xy, yz, zn, es⟩ := sort3 pm (by omega)
  repeat' bv_omega
  refine hv_of (cut_to (c := 3) (by omega)) ?_
  repeat' bv_omega
  refine hv_of es ?_
  repeat' bv_omega
  refine hv_of rfl ?_
  refine sq_nx ?_
  have e1 : (z : Int) - (y : Int) = ((z - y : Nat) : Int) := by omega
  refine w_seq (w_set (we_q (wp_val (.tuple ((dueL x y z).map prD)) ?_ ⟨by simp, ?_⟩)))
  · repeat' bv_omega
    refine ⟨fun q => ?_, fun q => ?_⟩
    · have q : x = 0 := by simpa using q
      repeat' bv_omega
      unfold dueL
      rw [if_pos q]; rfl
    · have q : x ≠ 0 := by simpa using q
      repeat' bv_omega
      rw [e1]
      refine hv_of (show addD (.int ((z - y : Nat) : Int)) (nI x) = some (nI (z - y + x)) from rfl) ?_
      repeat' bv_omega
      unfold dueL
      rw [if_neg q]; rfl
  have ff := fronts_for_spec xy yz
  have dl : (dueL x y z).length ≤ 2 := by unfold dueL; split <;> simp
  have dm : ∀ p, p ∈ dueL x y z → p.1 < p.2 ∧ p.2 ≤ n := by
    intro p hp
    unfold dueL at hp
    split at hp
    · rw [List.mem_singleton.mp hp]; exact ⟨yz, by show z ≤ n; omega⟩
    · rcases List.mem_cons.mp hp with rfl | hp
      · exact ⟨yz, by show z ≤ n; omega⟩
      · rw [List.mem_singleton.mp hp]
        exact ⟨by show z - y < z - y + x; omega, by show z - y + x ≤ n; omega⟩
  repeat' bv_omega
  refine hv_of ff ?_
  repeat' bv_omega
  refine hv_of ff ?_
  refine ⟨isOk_prs (by omega) fun p hp => by have := dm p hp; omega, ?_⟩
  repeat' bv_omega
  refine ⟨fun c => (by cases c), fun _ => ?_⟩
  repeat' bv_omega
  refine w_for ?_
  repeat' bv_omega
  refine ⟨_, rfl, fun i s => ∃ x9, s = [.bag b2, .imm (nT r), .imm (nI n), .imm (nT [x, y, z]), .imm (nI x), .imm (nI y), .imm (nI z), .imm (.tuple ((dueL x y z).map prD)), .imm (nT (((dueL x y z).take i).foldl (fun x p => front x p.1 p.2) r)), x9, .un, .un] ∧ Rw (((dueL x y z).take i).foldl (fun x p => front x p.1 p.2) r) n, ⟨_, rfl, h⟩, ?_, ?_⟩
  · rintro i d s hi ⟨x9, rfl, h'⟩
    rw [List.getElem?_map] at hi
    obtain ⟨p, hp, rfl⟩ := Option.map_eq_some_iff.mp hi
    obtain ⟨hi1, hi2⟩ := List.getElem?_eq_some_iff.mp hp
    have pm := dm p (by rw [← hi2]; exact List.getElem_mem hi1)
    have tk : (dueL x y z).take (i + 1) = (dueL x y z).take i ++ [p] := by
      rw [List.take_succ, hp]; rfl
    refine hv_of rfl ?_
    repeat' bv_omega
    refine hv_of (front_moved_spec (b := p.1) (c := p.2) (by omega) (by rw [h'.len]; omega) (by rw [h'.len]; omega)) ?_
    repeat' bv_omega
    dsimp only
    rw [tk, List.foldl_append]
    exact ⟨_, rfl, h'.front (by omega)⟩
  · rintro s ⟨x9, rfl, h'⟩
    rw [List.length_map, List.take_length, mv_fronts xy yz (by rw [h.len]; omega)] at *
    repeat' bv_omega
    refine hv_of (law_moved_spec (Nat.le_of_lt xy) (Nat.le_of_lt yz) (by rw [h.len]; omega) (by rw [h.len]; omega)) ?_
    repeat' bv_omega
    refine ⟨fun c => absurd rfl (of_decide_eq_true c), fun _ => ?_⟩
    repeat' bv_omega
    refine hv_of (moved_spec (Nat.le_of_lt xy) (Nat.le_of_lt yz) (by rw [h.len]; omega) (by rw [h.len]; omega)) ?_
    repeat' bv_omega
    refine ⟨fun c => absurd rfl (of_decide_eq_true c), fun _ => ?_⟩
    have hf : 0 < fr.length := by
      rw [f3]
      have : 2 * 1 ≤ n * (n - 1) := Nat.mul_le_mul n2 (by omega)
      omega
    obtain ⟨d, b3, p1, ok3, hd⟩ := pick_spec (ds := fr) ok2 hf frl
    obtain ⟨u, v, rfl, hu, huv, hv⟩ := f4 d hd
    have h2 := h.front (b := u) (c := v) (by omega)
    repeat' bv_omega
    refine we_callB rfl ?_
    repeat' bv_omega
    refine hv_of f1 ?_
    repeat' bv_omega
    refine hv_of rfl ?_
    repeat' bv_omega
    refine ⟨b2, rfl, hv_of p1 ?_⟩
    repeat' bv_omega
    refine hv_of (fronted_spec (b := u) (c := v) (by omega) (by rw [h.len]; exact hv) (by rw [h.len]; omega)) ?_
    repeat' bv_omega
    refine hv_of (mirrored_spec h2.len (by omega) fun x hx => by have := h2.mem.mp hx; omega) ?_
    refine ⟨by simp, ?_⟩
    refine sq_nx ?_
    refine w_seq (w_set (we_q (wp_val (nT [n - v, n - u, n]) ?_ ⟨by simp, ?_⟩)))
    · repeat' bv_omega
      refine hv_of (show ixD (pr u v) (.int 1) = some (nI v) from rfl) ?_
      repeat' bv_omega
      refine hv_of (show ixD (pr u v) (.int 0) = some (nI u) from rfl) ?_
      repeat' bv_omega
      show PyData.tuple [.int ((n : Int) - (v : Int)), .int ((n : Int) - (u : Int)), nI n] = PyData.tuple [.int ((n - v : Nat) : Int), .int ((n - u : Nat) : Int), nI n]
      rw [show (n : Int) - (v : Int) = ((n - v : Nat) : Int) by omega, show (n : Int) - (u : Int) = ((n - u : Nat) : Int) by omega]
    repeat' bv_omega
    refine hv_of (mirrored_spec h.len (by omega) fun x hx => by have := h.mem.mp hx; omega) ?_
    repeat' bv_omega
    refine hv_of (law_moved_spec (r := mir n r) (by omega) (by omega) (by rw [mir_len, h.len]; exact Nat.le_refl _) (by rw [mir_len, h.len]; omega)) ?_
    repeat' bv_omega
    rw [mir_front (by omega) (by rw [h.len]; exact hv) h.len, decide_eq_true rfl]
    exact ⟨b3, _, rfl, ok3⟩
end
end Y

namespace Y
open PySem PySem.Spec PyProof.Rows L2
local macro_rules
  | `(tactic| bv_omega) => `(tactic| first
    | with_reducible refine w_seq ?_ | with_reducible refine sq_nx ?_ | with_reducible refine sq_rt ?_ | with_reducible refine sq_bk ?_ | with_reducible refine sq_ct ?_ | with_reducible refine lp_nx ?_ | with_reducible refine lp_ct ?_ | with_reducible refine lp_bk ?_ | with_reducible refine lp_rt ?_
    | with_reducible refine w_nx ?_ | with_reducible refine w_bk ?_ | with_reducible refine w_ct ?_ | with_reducible refine w_if ?_ | with_reducible refine w_ret ?_ | with_reducible refine w_retO ?_ | with_reducible refine w_set ?_ | with_reducible refine w_setO ?_ | with_reducible refine w_setP ?_
    | with_reducible refine w_asg ?_ | with_reducible refine w_drop ?_ | with_reducible refine w_par ?_ | with_reducible refine w_parG ?_ | with_reducible refine w_dput ?_ | with_reducible refine w_setix ?_
    | with_reducible refine wv_nil ?_ | with_reducible refine wv_i ?_ | with_reducible refine wv_o ?_ | with_reducible refine wv_p ?_
    | with_reducible refine hg_nil ?_ | with_reducible refine hg_i (by simp) ?_ | with_reducible refine hg_o (by simp) ?_ | with_reducible refine hg_p (by simp) ?_
    | with_reducible refine we_q ?_ | with_reducible refine wt_q ?_ | with_reducible refine wl_own ?_ | with_reducible refine we_op2 ?_ | with_reducible refine wl_nil ?_ | with_reducible refine wl_cons ?_ | with_reducible refine we_tup ?_ | with_reducible refine wl_lst ?_ | with_reducible refine we_call ?_ | with_reducible refine we_callT ?_ | with_reducible refine we_lst ?_
    | with_reducible refine wt_v ?_ | with_reducible refine wt_not ?_ | with_reducible refine wt_and ?_ | with_reducible refine wt_or ?_ | with_reducible refine we_if ?_ | with_reducible refine we_is ?_
    | with_reducible refine wl_seq ?_ | with_reducible refine wl_rng1 ?_ | with_reducible refine wl_rng2 ?_ | with_reducible refine wl_enumT ?_ | with_reducible refine wl_enum ?_ | with_reducible refine wl_rev ?_
    | with_reducible refine wq_c ?_ | with_reducible refine wq_op1 ?_ | with_reducible refine wq_op2 ?_ | with_reducible refine wq_op3 ?_ | with_reducible refine wq_nil ?_ | with_reducible refine wq_cons ?_ | with_reducible refine wq_tup ?_ | with_reducible refine wq_lst ?_ | with_reducible refine wq_if ?_ | with_reducible refine wq_tv ?_ | with_reducible refine wq_notT ?_ | with_reducible refine wq_andT ?_ | with_reducible refine wq_orT ?_ | with_reducible refine wq_call ?_ | with_reducible refine wq_seq ?_ | with_reducible refine wq_meth ?_ | with_reducible refine wq_sl ?_ | with_reducible refine wo_none ?_ | with_reducible refine wo_some ?_
    | with_reducible refine wq_rng1 ?_ | with_reducible refine wq_rng2 ?_ | with_reducible refine wq_enumT ?_ | with_reducible refine wq_enum ?_ | with_reducible refine wq_rev ?_ | with_reducible refine wq_zip ?_
    | ((with_reducible refine' wq_var ?wpv ?_); (case wpv => rfl)) | ((with_reducible refine' wq_varO ?wpv ?_); (case wpv => rfl)) | ((with_reducible refine' wq_varD ?wpv ?_); (case wpv => rfl)) | ((with_reducible refine' wq_varI ?wpv ?_); (case wpv => rfl))
    | ((with_reducible refine' we_frzO ?wpv ?_); (case wpv => rfl)) | ((with_reducible refine' we_frzD ?wpv ?_); (case wpv => rfl)) | ((with_reducible refine' we_frzI ?wpv ?_); (case wpv => rfl)) | ((with_reducible refine' w_retV ?wpv ?_); (case wpv => rfl))
    | ((with_reducible refine' w_app ?wpv ?_); (case wpv => rfl)) | ((with_reducible refine' w_ext ?wpv ?_); (case wpv => rfl))
    | with_reducible refine wq_andV ?_ | with_reducible refine wq_orV ?_ | with_reducible refine wq_notV ?_ | with_reducible refine wq_chain ?_
    | with_reducible refine hv_some ?_ | with_reducible refine hv_add ?_ | with_reducible refine hv_sub ?_ | with_reducible refine hv_eq ?_ | with_reducible refine hv_ne ?_ | with_reducible refine hv_lt ?_ | with_reducible refine hv_le ?_ | with_reducible refine hv_gt ?_ | with_reducible refine hv_ge ?_ | with_reducible refine ex_bool ?_ | with_reducible refine ex_int ?_ | with_reducible refine ex_tup ?_ | with_reducible refine ex_lst ?_ | with_reducible refine ex_dct ?_ | with_reducible refine ltl (by simp) ?_ | with_reducible refine len10 (by simp) ?_)
local macro_rules
  | `(tactic| bv_omega) => `(tactic| first
    | with_reducible refine ex_nI ?_ | with_reducible refine hv_of (len_nT _) ?_ | with_reducible refine hv_of (len_int _) ?_ | with_reducible refine hv_of (eqD_nT _ _) ?_ | with_reducible refine hv_of (neD_nT _ _) ?_ | with_reducible refine hv_of (tup_nT _) ?_ | with_reducible refine hv_of (tupL_nI _) ?_ | with_reducible refine hv_of (eq_nI _ _) ?_ | with_reducible refine hv_of (ne_nI _ _) ?_ | with_reducible refine hv_of (add_nI1 _) ?_ | with_reducible refine hv_of (sub_nI _ _) ?_ | with_reducible refine hv_of (gt_nI0 _) ?_ | with_reducible refine hv_of (seq_nT _) ?_ | with_reducible refine hv_of (seqL_nI _) ?_)
def plc (k : Int) : D := .tuple [.str "place", .int k]
def dueE (n : Nat) (b c : Int) : D := if b < 1 then plc 0 else if b < c ∧ c ≤ n then .none else plc 1
theorem ok_dueE (n : Nat) (b c : Int) : isOk (dueE n b c) (dueE n b c) (dueE n b c) = true := by
  unfold dueE
  split
  · decide +kernel
  · split
    · decide +kernel
    · decide +kernel
theorem lt_int (x y : Int) : ltD (.int x) (.int y) = some (.bool (decide (x < y))) := rfl
theorem isint_int (b : Int) : F_is_integer [.int b] = some (.bool true) := by kernel_rfl
theorem front_error_ok (n : Nat) (b c : Int) : F_front_error [nI n, .tuple [.int b, .int c]] = some (dueE n b c) := by
  refine runW (n := 3) (m := m_front_error) ?_
  show Wp m_front_error [.imm (nI n), .imm (.tuple [.int b, .int c]), .un] _
  unfold m_front_error
  refine w_seq ?_
  refine w_if ?_
  refine wt_q ?_
  refine wp_val false ⟨false, by kernel_rfl, rfl⟩ ?_
  refine ⟨fun c => (by cases c), fun _ => ?_⟩
  repeat' bv_omega
  refine hv_of (show ixD (.tuple [.int b, .int c]) (.int 0) = some (.int b) from rfl) ?_
  repeat' bv_omega
  refine ⟨fun c => ?_, fun c => ?_⟩
  · have c := of_decide_eq_true c
    repeat' bv_omega
    unfold dueE
    rw [if_pos c]
    exact ⟨_, rfl⟩
  · have c1 := of_decide_eq_false c
    repeat' bv_omega
    refine hv_of (show ixD (.tuple [.int b, .int _]) (.int 0) = some (.int b) from rfl) ?_
    repeat' bv_omega
    refine hv_of (show ixD (.tuple [.int b, .int _]) (.int 1) = some (.int _) from rfl) ?_
    repeat' bv_omega
    refine ⟨fun c2 => ?_, fun c2 => ?_⟩
    · have c2 := of_decide_eq_true c2
      refine wq_var rfl ?_
      refine hv_of (show leD (.int _) (nI n) = some (.bool (decide (_ ≤ (n : Int)))) from rfl) ?_
      repeat' bv_omega
      refine ⟨fun c3 => ?_, fun c3 => ?_⟩
      · have c3 := of_decide_eq_true c3
        repeat' bv_omega
        unfold dueE
        rw [if_neg c1, if_pos ⟨c2, c3⟩]
        exact ⟨_, rfl⟩
      · have c3 := of_decide_eq_false c3
        repeat' bv_omega
        unfold dueE
        rw [if_neg c1, if_neg fun z => c3 z.2]
        exact ⟨_, rfl⟩
    · have c2 := of_decide_eq_false c2
      repeat' bv_omega
      refine ⟨fun c => (by cases c), fun _ => ?_⟩
      repeat' bv_omega
      unfold dueE
      rw [if_neg c1, if_neg fun z => c2 z.1]
      exact ⟨_, rfl⟩
def badV : List D := [.none, .tuple [.int 1], .list [.int 1, .int 2], .tuple [.int 1, .int 2, .int 3], .tuple [.bool true, .int 2], .tuple [.int 1, .none]]
theorem front_error_bad (n : Nat) : ∀ d, d ∈ badV → F_front_error [nI n, d] = some (.str "form") := by
  intro d hd
  simp only [badV, List.mem_cons, List.not_mem_nil, or_false] at hd
  rcases hd with rfl | rfl | rfl | rfl | rfl | rfl <;> kernel_rfl
set_option maxHeartbeats 4000000 in
theorem are_errors_ok {n : Nat} (h8 : n ≤ 8) {b : Bag} (ok : OkB b) : ∃ b', F_law_are_errors b [nI n] = some (.bool true, b') ∧ OkB b' := by
  refine runB_of (n := 7) (m := m_law_are_errors) ?_
  show Wp m_law_are_errors [.bag b, .imm (nI n), .un, .un, .un, .un, .un] _
  unfold m_law_are_errors
  refine w_seq ?_
  refine w_for ?_
  repeat' bv_omega
  refine ex_rng1 (by decide) ⟨fun i s => ∃ b x2 x3 x4 x5 x6, s = [.bag b, .imm (nI n), x2, x3, x4, x5, x6] ∧ OkB b, ⟨b, _, _, _, _, _, rfl, ok⟩, ?_, ?_⟩
  · rintro i d s hi ⟨b, x2, x3, x4, x5, x6, rfl, ok⟩
    refine hv_of rfl ?_
    repeat' bv_omega
    refine we_callB rfl ?_
    repeat' bv_omega
    refine ⟨b, rfl, draw_hv (k := ((n + 3 : Nat) : Int)) ok (by omega) (by omega) fun v b1 v0 v1 ok1 => ?_⟩
    repeat' bv_omega
    refine we_callB rfl ?_
    repeat' bv_omega
    refine ⟨b1, rfl, draw_hv (k := ((n + 3 : Nat) : Int)) ok1 (by omega) (by omega) fun w b2 w0 w1 ok2 => ?_⟩
    repeat' bv_omega
    refine hv_of rfl ?_
    refine w_seq (w_set (we_q (wp_val (dueE n (v - 1) (w - 1)) ?_ ⟨by simp, ?_⟩)))
    · repeat' bv_omega
      refine ⟨fun c => ?_, fun c => ?_⟩
      · have c := of_decide_eq_true c
        repeat' bv_omega
        unfold dueE
        rw [if_pos c]; rfl
      · have c1 := of_decide_eq_false c
        repeat' bv_omega
        refine ⟨fun c2 => ?_, fun c2 => ?_⟩
        · have c2 := of_decide_eq_true c2
          refine ⟨fun _ => ?_, fun c => (by cases c)⟩
          repeat' bv_omega
          unfold dueE
          rw [if_neg c1, if_neg fun z => absurd z.1 (by omega)]; rfl
        · have c2 := of_decide_eq_false c2
          refine wq_tv (wq_op2 (wq_var rfl (wq_var rfl ?_)))
          refine hv_of (show gtD (.int (w - 1)) (nI n) = some (.bool (decide ((n : Int) < w - 1))) from rfl) ?_
          repeat' bv_omega
          refine ⟨fun c3 => ?_, fun c3 => ?_⟩
          · have c3 := of_decide_eq_true c3
            repeat' bv_omega
            unfold dueE
            rw [if_neg c1, if_neg fun z => absurd z.2 (by omega)]; rfl
          · have c3 := of_decide_eq_false c3
            repeat' bv_omega
            unfold dueE
            rw [if_neg c1, if_pos ⟨by omega, by omega⟩]
    have fe := front_error_ok n (v - 1) (w - 1)
    repeat' bv_omega
    refine hv_of fe ?_
    repeat' bv_omega
    refine hv_of fe ?_
    refine ⟨ok_dueE _ _ _, ?_⟩
    repeat' bv_omega
    refine ⟨fun c => (by cases c), fun _ => ?_⟩
    repeat' bv_omega
    exact ⟨b2, _, _, _, _, _, rfl, ok2⟩
  · rintro s ⟨b, x2, x3, x4, x5, x6, rfl, ok⟩
    refine sq_nx ?_
    refine w_seq ?_
    refine w_for ?_
    repeat' bv_omega
    refine ⟨badV, rfl, fun i s => ∃ x2 x3 x4 x5 x6, s = [.bag b, .imm (nI n), x2, x3, x4, x5, x6], ⟨_, _, _, _, _, rfl⟩, ?_, ?_⟩
    · rintro i d s hi ⟨x2, x3, x4, x5, x6, rfl⟩
      have fe := front_error_bad n d (List.mem_of_getElem? hi)
      refine hv_of rfl ?_
      repeat' bv_omega
      refine hv_of fe ?_
      repeat' bv_omega
      refine hv_of fe ?_
      refine ⟨by decide +kernel, ?_⟩
      repeat' bv_omega
      refine ⟨fun c => (by cases c), fun _ => ?_⟩
      repeat' bv_omega
      exact ⟨_, _, _, _, _, rfl⟩
    · rintro s ⟨x2, x3, x4, x5, x6, rfl⟩
      repeat' bv_omega
      exact ⟨b, _, rfl, ok⟩
end Y

namespace Y
open PySem PySem.Spec PyProof.Rows L2
local macro_rules
  | `(tactic| bv_omega) => `(tactic| first
    | with_reducible refine w_seq ?_ | with_reducible refine sq_nx ?_ | with_reducible refine sq_rt ?_ | with_reducible refine sq_bk ?_ | with_reducible refine sq_ct ?_ | with_reducible refine lp_nx ?_ | with_reducible refine lp_ct ?_ | with_reducible refine lp_bk ?_ | with_reducible refine lp_rt ?_
    | with_reducible refine w_nx ?_ | with_reducible refine w_bk ?_ | with_reducible refine w_ct ?_ | with_reducible refine w_if ?_ | with_reducible refine w_ret ?_ | with_reducible refine w_retO ?_ | with_reducible refine w_set ?_ | with_reducible refine w_setO ?_ | with_reducible refine w_setP ?_
    | with_reducible refine w_asg ?_ | with_reducible refine w_drop ?_ | with_reducible refine w_par ?_ | with_reducible refine w_parG ?_ | with_reducible refine w_dput ?_ | with_reducible refine w_setix ?_
    | with_reducible refine wv_nil ?_ | with_reducible refine wv_i ?_ | with_reducible refine wv_o ?_ | with_reducible refine wv_p ?_
    | with_reducible refine hg_nil ?_ | with_reducible refine hg_i (by simp) ?_ | with_reducible refine hg_o (by simp) ?_ | with_reducible refine hg_p (by simp) ?_
    | with_reducible refine we_q ?_ | with_reducible refine wt_q ?_ | with_reducible refine wl_own ?_ | with_reducible refine we_op2 ?_ | with_reducible refine wl_nil ?_ | with_reducible refine wl_cons ?_ | with_reducible refine we_tup ?_ | with_reducible refine wl_lst ?_ | with_reducible refine we_call ?_ | with_reducible refine we_callT ?_ | with_reducible refine we_lst ?_
    | with_reducible refine wt_v ?_ | with_reducible refine wt_not ?_ | with_reducible refine wt_and ?_ | with_reducible refine wt_or ?_ | with_reducible refine we_if ?_ | with_reducible refine we_is ?_
    | with_reducible refine wl_seq ?_ | with_reducible refine wl_rng1 ?_ | with_reducible refine wl_rng2 ?_ | with_reducible refine wl_enumT ?_ | with_reducible refine wl_enum ?_ | with_reducible refine wl_rev ?_
    | with_reducible refine wq_c ?_ | with_reducible refine wq_op1 ?_ | with_reducible refine wq_op2 ?_ | with_reducible refine wq_op3 ?_ | with_reducible refine wq_nil ?_ | with_reducible refine wq_cons ?_ | with_reducible refine wq_tup ?_ | with_reducible refine wq_lst ?_ | with_reducible refine wq_if ?_ | with_reducible refine wq_tv ?_ | with_reducible refine wq_notT ?_ | with_reducible refine wq_andT ?_ | with_reducible refine wq_orT ?_ | with_reducible refine wq_call ?_ | with_reducible refine wq_seq ?_ | with_reducible refine wq_meth ?_ | with_reducible refine wq_sl ?_ | with_reducible refine wo_none ?_ | with_reducible refine wo_some ?_
    | with_reducible refine wq_rng1 ?_ | with_reducible refine wq_rng2 ?_ | with_reducible refine wq_enumT ?_ | with_reducible refine wq_enum ?_ | with_reducible refine wq_rev ?_ | with_reducible refine wq_zip ?_
    | ((with_reducible refine' wq_var ?wpv ?_); (case wpv => rfl)) | ((with_reducible refine' wq_varO ?wpv ?_); (case wpv => rfl)) | ((with_reducible refine' wq_varD ?wpv ?_); (case wpv => rfl)) | ((with_reducible refine' wq_varI ?wpv ?_); (case wpv => rfl))
    | ((with_reducible refine' we_frzO ?wpv ?_); (case wpv => rfl)) | ((with_reducible refine' we_frzD ?wpv ?_); (case wpv => rfl)) | ((with_reducible refine' we_frzI ?wpv ?_); (case wpv => rfl)) | ((with_reducible refine' w_retV ?wpv ?_); (case wpv => rfl))
    | ((with_reducible refine' w_app ?wpv ?_); (case wpv => rfl)) | ((with_reducible refine' w_ext ?wpv ?_); (case wpv => rfl))
    | with_reducible refine wq_andV ?_ | with_reducible refine wq_orV ?_ | with_reducible refine wq_notV ?_ | with_reducible refine wq_chain ?_
    | with_reducible refine hv_some ?_ | with_reducible refine hv_add ?_ | with_reducible refine hv_sub ?_ | with_reducible refine hv_eq ?_ | with_reducible refine hv_ne ?_ | with_reducible refine hv_lt ?_ | with_reducible refine hv_le ?_ | with_reducible refine hv_gt ?_ | with_reducible refine hv_ge ?_ | with_reducible refine ex_bool ?_ | with_reducible refine ex_int ?_ | with_reducible refine ex_tup ?_ | with_reducible refine ex_lst ?_ | with_reducible refine ex_dct ?_ | with_reducible refine ltl (by simp) ?_ | with_reducible refine len10 (by simp) ?_)
local macro_rules
  | `(tactic| bv_omega) => `(tactic| first
    | with_reducible refine ex_nI ?_ | with_reducible refine hv_of (len_nT _) ?_ | with_reducible refine hv_of (len_int _) ?_ | with_reducible refine hv_of (eqD_nT _ _) ?_ | with_reducible refine hv_of (neD_nT _ _) ?_ | with_reducible refine hv_of (tup_nT _) ?_ | with_reducible refine hv_of (tupL_nI _) ?_ | with_reducible refine hv_of (eq_nI _ _) ?_ | with_reducible refine hv_of (ne_nI _ _) ?_ | with_reducible refine hv_of (add_nI1 _) ?_ | with_reducible refine hv_of (sub_nI _ _) ?_ | with_reducible refine hv_of (gt_nI0 _) ?_ | with_reducible refine hv_of (seq_nT _) ?_ | with_reducible refine hv_of (seqL_nI _) ?_)
theorem plain_one {o : List Nat} {n : Nat} (h : (List.range n).Perm o) : (one n).Perm (o.map (· + 1)) := h.map _
theorem plain_drawn {b : Bag} {n : Nat} (ok : OkB b) (h1 : 1 ≤ n) (h8 : n ≤ 8) : ∃ r b', F_law_plain_row b [nI n] = some (nT r, b') ∧ OkB b' ∧ Rw r n := by
  suffices w : Wp m_law_plain_row [.bag b, .imm (nI n), .un, .un, .un, .un, .un] fun f => ∃ (r : List Nat) (b' : Bag) (x : S), f = .rt (nT r) (.bag b' :: x) ∧ OkB b' ∧ Rw r n by
    obtain ⟨f, h1, r, b', x, rfl, h2, h3⟩ := w
    refine ⟨r, b', ?_, h2, h3⟩
    show runB 7 m_law_plain_row b [nI n] = _
    unfold runB
    have e : bagF 7 b [nI n] = [.bag b, .imm (nI n), .un, .un, .un, .un, .un] := rfl
    rw [e, h1]; rfl
  unfold m_law_plain_row
  repeat' bv_omega
  refine we_draw rfl ok (by omega) (by omega) fun v b1 v0 v1 ok1 => ?_
  repeat' bv_omega
  refine ⟨fun c => ?_, fun c => ?_⟩
  · repeat' bv_omega
    refine wl_lcS ?_
    repeat' bv_omega
    refine we_callB rfl ?_
    repeat' bv_omega
    obtain ⟨o, b2, ho, ok2, pm⟩ := law_order_spec (b := b1) (n := n) ok1 (by omega)
    refine ⟨b1, rfl, hv_of ho ?_⟩
    refine ⟨o.map nI, rfl, by rw [List.length_map, ← pm.length_eq, List.length_range]; omega, fun d => nI (toN d + 1), ?_, ?_⟩
    · intro d hd
      obtain ⟨x, hx, rfl⟩ := List.mem_map.mp hd
      refine ⟨_, rfl, ?_⟩
      refine ⟨nI (x + 1), rfl, ?_⟩
      dsimp only
      rw [toN_nI]
    have em : (o.map nI).map (fun d => nI (toN d + 1)) = (o.map (· + 1)).map nI := by
      rw [List.map_map, List.map_map]
      apply List.map_congr_left
      intro x _
      show nI (toN (nI x) + 1) = _
      rw [toN_nI]; rfl
    rw [em]
    repeat' bv_omega
    exact ⟨_, b2, _, rfl, ok2, plain_one pm, by omega⟩
  · repeat' bv_omega
    refine wq_rgL2 ?_
    repeat' bv_omega
    refine ⟨rfl, ?_⟩
    repeat' bv_omega
    refine ⟨n, rfl, by omega, ?_⟩
    repeat' bv_omega
    refine w_for ?_
    repeat' bv_omega
    refine we_draw rfl ok1 (by omega) (by omega) fun u b2 u0 u1 ok2 => ?_
    repeat' bv_omega
    refine ex_rng1 (by omega) ⟨fun i s => ∃ b l x4 x5 x6, s = [.bag b, .imm (nI n), .un, .ol (l.map nI), x4, x5, x6] ∧ OkB b ∧ (one n).Perm l, ⟨b2, one n, _, _, _, rfl, ok2, List.Perm.refl _⟩, ?_, ?_⟩
    · rintro i d s hi ⟨b, l, x4, x5, x6, rfl, ok, pm⟩
      have ll : l.length = n := by rw [← pm.length_eq, one_len]
      refine hv_of rfl ?_
      refine w_seq ?_
      refine w_par ?_
      repeat' bv_omega
      refine we_callB rfl ?_
      repeat' bv_omega
      refine ⟨b, rfl, draw_hv (k := (n : Int)) ok (by omega) (by omega) fun x b3 p0 p1 ok3 => ?_⟩
      repeat' bv_omega
      refine we_callB rfl ?_
      repeat' bv_omega
      refine ⟨b3, rfl, draw_hv (k := (n : Int)) ok3 (by omega) (by omega) fun y b4 q0 q1 ok4 => ?_⟩
      repeat' bv_omega
      refine ⟨_, _, rfl, by simp, by simp, ?_⟩
      refine sq_nx ?_
      obtain ⟨x, rfl⟩ := Int.eq_ofNat_of_zero_le p0
      obtain ⟨y, rfl⟩ := Int.eq_ofNat_of_zero_le q0
      have hx : x < l.length := by omega
      have hy : y < l.length := by omega
      refine w_parG ?_
      repeat' bv_omega
      refine hv_of (ix_optL (g := l) (k := y) (List.getElem?_eq_getElem hy)) ?_
      repeat' bv_omega
      refine hv_of (ix_optL (g := l) (k := x) (List.getElem?_eq_getElem hx)) ?_
      repeat' bv_omega
      refine hg_ix (j := x) (k := (x : Int)) rfl (wq_var rfl rfl) (by rw [List.length_map]; exact ixN_nat hx) ?_
      refine hg_ix (j := y) (k := (y : Int)) rfl (wq_var rfl rfl) (by rw [List.length_set, List.length_map]; exact ixN_nat hy) ?_
      refine hg_nil ?_
      refine lp_nx ?_
      exact ⟨b4, (l.set x l[y]).set y l[x], _, _, _, by rw [List.map_set, List.map_set]; rfl, ok4, pm.trans (List.set_set_perm hx hy).symm⟩
    · rintro s ⟨b, l, x4, x5, x6, rfl, ok, pm⟩
      repeat' bv_omega
      exact ⟨l, b, _, rfl, ok, pm, by omega⟩
/-! ## the law -/
theorem repr_nT {l : List Nat} (hl : l.length ≤ 50) (h : ∀ x, x ∈ l → x ≤ 1000) : ∃ s : Str, reprD [nT l] = some (.str s) := by
  refine ⟨PyData.shown (nT l), ?_⟩
  show (if (okShow (nT l) && isRef (nT l)) = true then some (PyData.str (PyData.shown (nT l))) else none) = _
  rw [if_pos]
  have c : shCost (nT l) ≤ 96603 := by
    have := costs_nI l h
    unfold nT; rw [shCost]; omega
  have dp : PyData.depth (nT l) ≤ 5 := by
    have := depth_nI l
    unfold nT; rw [PyData.depth]; omega
  unfold okShow
  rw [Nat.ble_eq.mpr (by omega : shCost (nT l) ≤ 1000000), Nat.ble_eq.mpr (by omega : PyData.depth (nT l) ≤ 50)]
  rfl
set_option maxHeartbeats 4000000 in
theorem law_ok (b : Bag) (ok : OkB b) : ∃ s', m_law (.un :: .bag b :: List.replicate 3 .un) = some (.rt (.bool true) s') := by
  suffices h : Wp m_law [.un, .bag b, .un, .un, .un] fun f => ∃ s, f = .rt (.bool true) s by
    obtain ⟨f, h1, s, rfl⟩ := h
    exact ⟨s, h1⟩
  unfold m_law
  refine w_seq ?_
  refine w_for ?_
  repeat' bv_omega
  refine ex_rng1 (by decide) ⟨fun i s => ∃ b x y z, OkB b ∧ s = [.un, .bag b, x, y, z], ⟨b, _, _, _, ok, rfl⟩, ?_, ?_⟩
  · rintro i d s hi ⟨b, x, y, z, ok, rfl⟩
    refine hv_of rfl ?_
    repeat' bv_omega
    refine we_callB rfl ?_
    repeat' bv_omega
    refine we_draw rfl ok (by omega) (by omega) fun v b1 v0 v1 ok1 => ?_
    obtain ⟨v, rfl⟩ := Int.eq_ofNat_of_zero_le v0
    obtain ⟨r, b2, e2, ok2, rw2⟩ := plain_drawn (n := v + 1) ok1 (by omega) (by omega)
    obtain ⟨b3, e3, ok3⟩ := are_fronts_ok rw2 (by omega) (by omega) ok2
    have e4 := is_easy_ok rw2 (by omega) (by omega)
    obtain ⟨b5, e5, ok5⟩ := are_moves_ok rw2 (by omega) (by omega) ok3
    obtain ⟨b6, e6, ok6⟩ := are_errors_ok (n := v + 1) (by omega) ok5
    repeat' bv_omega
    have ev : (PyData.int (1 + (v : Int))) = nI (v + 1) := by
      show PyData.int _ = PyData.int ((v + 1 : Nat) : Int)
      congr 1; omega
    have e2' : F_law_plain_row b1 [PyData.int (1 + (v : Int))] = some (nT r, b2) := by rw [ev]; exact e2
    refine ⟨b1, rfl, hv_of e2' ?_⟩
    obtain ⟨sh, es⟩ := repr_nT (l := r) (by rw [rw2.len]; omega) (fun x hx => by have := rw2.mem.mp hx; omega)
    repeat' bv_omega
    refine hv_of es ?_
    repeat' bv_omega
    refine we_callB rfl ?_
    repeat' bv_omega
    refine ⟨b2, rfl, hv_of e3 ?_⟩
    repeat' bv_omega
    refine ⟨fun c => (by cases c), fun _ => ?_⟩
    repeat' bv_omega
    refine hv_of e4 ?_
    repeat' bv_omega
    refine ⟨fun c => (by cases c), fun _ => ?_⟩
    repeat' bv_omega
    refine we_callB rfl ?_
    repeat' bv_omega
    refine ⟨b3, rfl, hv_of e5 ?_⟩
    repeat' bv_omega
    refine ⟨fun c => (by cases c), fun _ => ?_⟩
    repeat' bv_omega
    refine we_callB rfl ?_
    repeat' bv_omega
    rw [rw2.len]
    refine ⟨b5, rfl, hv_of e6 ?_⟩
    repeat' bv_omega
    refine ⟨fun c => (by cases c), fun _ => ?_⟩
    repeat' bv_omega
    refine hv_of es ?_
    repeat' bv_omega
    refine hv_of (show neD (.str sh) (.str sh) = some (.bool false) from by show some (PyData.bool (!(sh == sh))) = _; rw [beq_self_eq_true]; rfl) ?_
    repeat' bv_omega
    refine ⟨fun c => (by cases c), fun _ => ?_⟩
    repeat' bv_omega
    exact ⟨b6, _, _, _, ok6, rfl⟩
  · rintro s ⟨b, x, y, z, ok, rfl⟩
    repeat' bv_omega
    exact ⟨_, rfl⟩
end Y

namespace Y
open PySem PySem.Spec PyProof.Rows L2
theorem law_all {l : PySem.W.OpenLaw} {w : World} {K : Fg} {h : Heap} {mg : Str → Option Value} {fa : Addr} {P0 P1 P2 P3 : Addr} (X : K.In h) (G : h.Ns mainGlobals mg) (ts : List Addr) (hts : ∀ P ∈ ts, h.get? P = some { cls := .none, data := .fields #[] }) (out : ∀ P ∈ ts, K.lookup P = none) (hfa : mg "law" = some (.ref fa))
    (d_law_draw : FnAt K mg "_law_draw" st_law_draw)
    (d_law_same : FnAt K mg "_law_same" st_law_same)
    (d_law_told : FnAt K mg "_law_told" st_law_told)
    (d_law_is : FnAt K mg "_law_is" st_law_is)
    (d_is_integer : FnAt K mg "is_integer" st_is_integer)
    (d_front_error : FnAt K mg "front_error" st_front_error)
    (d_law_are_errors : FnLm K mg "_law_are_errors" st_law_are_errors P0) (m0 : P0 ∈ ts)
    (d_law_fronted : FnAt K mg "_law_fronted" st_law_fronted)
    (d_law_fronts : FnAt K mg "_law_fronts" st_law_fronts)
    (d_law_leads : FnAt K mg "_law_leads" st_law_leads)
    (d_law_open : FnAt K mg "_law_open" st_law_open)
    (d_law_pick : FnAt K mg "_law_pick" st_law_pick)
    (d_law_rounds : FnAt K mg "_law_rounds" st_law_rounds)
    (d_all_fronts : FnAt K mg "all_fronts" st_all_fronts)
    (d_gap_leads : FnAt K mg "gap_leads" st_gap_leads)
    (d_front_gaps : FnAt K mg "front_gaps" st_front_gaps)
    (d_front_moved : FnAt K mg "front_moved" st_front_moved)
    (d_closed_in_front : FnAt K mg "closed_in_front" st_closed_in_front)
    (d_front_back : FnAt K mg "front_back" st_front_back)
    (d_rounds : FnAt K mg "rounds" st_rounds)
    (d_row_rounds : FnAt K mg "row_rounds" st_row_rounds)
    (d_odd_rounds : FnAt K mg "odd_rounds" st_odd_rounds)
    (d_plain_row : FnAt K mg "plain_row" st_plain_row)
    (d_front_bounds : FnAt K mg "front_bounds" st_front_bounds)
    (d_open_gaps : FnAt K mg "open_gaps" st_open_gaps)
    (d_law_are_fronts : FnLm K mg "_law_are_fronts" st_law_are_fronts P1) (m1 : P1 ∈ ts)
    (d_law_mirrored : FnAt K mg "_law_mirrored" st_law_mirrored)
    (d_law_moved : FnAt K mg "_law_moved" st_law_moved)
    (d_law_order : FnAt K mg "_law_order" st_law_order)
    (d_fronts_for : FnAt K mg "fronts_for" st_fronts_for)
    (d_moved : FnAt K mg "moved" st_moved)
    (d_law_are_moves : FnLm K mg "_law_are_moves" st_law_are_moves P2) (m2 : P2 ∈ ts)
    (d_easy_front_way : FnAt K mg "easy_front_way" st_easy_front_way)
    (d_law_is_easy : FnLm K mg "_law_is_easy" st_law_is_easy P3) (m3 : P3 ∈ ts)
    (d_law_own_bag : FnAt K mg "_law_own_bag" st_law_own_bag)
    (d_law_plain_row : FnAt K mg "_law_plain_row" st_law_plain_row)
    (d_law : FnAt K mg "law" st_law)
    (ne : ([P0, P1, P2, P3] : List Addr).Nodup)
    (z_abs : PySem.W.nsIn K mainGlobals "abs" = some none)
    (z_all : PySem.W.nsIn K mainGlobals "all" = some none)
    (z_bool : PySem.W.nsIn K mainGlobals "bool" = some none)
    (z_enumerate : PySem.W.nsIn K mainGlobals "enumerate" = some none)
    (z_int : PySem.W.nsIn K mainGlobals "int" = some none)
    (z_isinstance : PySem.W.nsIn K mainGlobals "isinstance" = some none)
    (z_len : PySem.W.nsIn K mainGlobals "len" = some none)
    (z_list : PySem.W.nsIn K mainGlobals "list" = some none)
    (z_max : PySem.W.nsIn K mainGlobals "max" = some none)
    (z_range : PySem.W.nsIn K mainGlobals "range" = some none)
    (z_repr : PySem.W.nsIn K mainGlobals "repr" = some none)
    (z_reversed : PySem.W.nsIn K mainGlobals "reversed" = some none)
    (z_sorted : PySem.W.nsIn K mainGlobals "sorted" = some none)
    (z_tuple : PySem.W.nsIn K mainGlobals "tuple" = some none)
    : LawG l w K 9 "script" mg fa h := by
  have g_abs := PySem.W.mg_none_of X G z_abs
  have g_all := PySem.W.mg_none_of X G z_all
  have g_bool := PySem.W.mg_none_of X G z_bool
  have g_enumerate := PySem.W.mg_none_of X G z_enumerate
  have g_int := PySem.W.mg_none_of X G z_int
  have g_isinstance := PySem.W.mg_none_of X G z_isinstance
  have g_len := PySem.W.mg_none_of X G z_len
  have g_list := PySem.W.mg_none_of X G z_list
  have g_max := PySem.W.mg_none_of X G z_max
  have g_range := PySem.W.mg_none_of X G z_range
  have g_repr := PySem.W.mg_none_of X G z_repr
  have g_reversed := PySem.W.mg_none_of X G z_reversed
  have g_sorted := PySem.W.mg_none_of X G z_sorted
  have g_tuple := PySem.W.mg_none_of X G z_tuple
  obtain ⟨f_law_draw, fd_law_draw, a_law_draw, F_xlaw_draw⟩ := d_law_draw
  obtain ⟨f_law_same, fd_law_same, a_law_same, F_xlaw_same⟩ := d_law_same
  obtain ⟨f_law_told, fd_law_told, a_law_told, F_xlaw_told⟩ := d_law_told
  obtain ⟨f_law_is, fd_law_is, a_law_is, F_xlaw_is⟩ := d_law_is
  obtain ⟨f_is_integer, fd_is_integer, a_is_integer, F_xis_integer⟩ := d_is_integer
  obtain ⟨f_front_error, fd_front_error, a_front_error, F_xfront_error⟩ := d_front_error
  obtain ⟨f_law_are_errors, fd_law_are_errors, c0, a_law_are_errors, F_xlaw_are_errors, k0⟩ := d_law_are_errors
  obtain ⟨f_law_fronted, fd_law_fronted, a_law_fronted, F_xlaw_fronted⟩ := d_law_fronted
  obtain ⟨f_law_fronts, fd_law_fronts, a_law_fronts, F_xlaw_fronts⟩ := d_law_fronts
  obtain ⟨f_law_leads, fd_law_leads, a_law_leads, F_xlaw_leads⟩ := d_law_leads
  obtain ⟨f_law_open, fd_law_open, a_law_open, F_xlaw_open⟩ := d_law_open
  obtain ⟨f_law_pick, fd_law_pick, a_law_pick, F_xlaw_pick⟩ := d_law_pick
  obtain ⟨f_law_rounds, fd_law_rounds, a_law_rounds, F_xlaw_rounds⟩ := d_law_rounds
  obtain ⟨f_all_fronts, fd_all_fronts, a_all_fronts, F_xall_fronts⟩ := d_all_fronts
  obtain ⟨f_gap_leads, fd_gap_leads, a_gap_leads, F_xgap_leads⟩ := d_gap_leads
  obtain ⟨f_front_gaps, fd_front_gaps, a_front_gaps, F_xfront_gaps⟩ := d_front_gaps
  obtain ⟨f_front_moved, fd_front_moved, a_front_moved, F_xfront_moved⟩ := d_front_moved
  obtain ⟨f_closed_in_front, fd_closed_in_front, a_closed_in_front, F_xclosed_in_front⟩ := d_closed_in_front
  obtain ⟨f_front_back, fd_front_back, a_front_back, F_xfront_back⟩ := d_front_back
  obtain ⟨f_rounds, fd_rounds, a_rounds, F_xrounds⟩ := d_rounds
  obtain ⟨f_row_rounds, fd_row_rounds, a_row_rounds, F_xrow_rounds⟩ := d_row_rounds
  obtain ⟨f_odd_rounds, fd_odd_rounds, a_odd_rounds, F_xodd_rounds⟩ := d_odd_rounds
  obtain ⟨f_plain_row, fd_plain_row, a_plain_row, F_xplain_row⟩ := d_plain_row
  obtain ⟨f_front_bounds, fd_front_bounds, a_front_bounds, F_xfront_bounds⟩ := d_front_bounds
  obtain ⟨f_open_gaps, fd_open_gaps, a_open_gaps, F_xopen_gaps⟩ := d_open_gaps
  obtain ⟨f_law_are_fronts, fd_law_are_fronts, c1, a_law_are_fronts, F_xlaw_are_fronts, k1⟩ := d_law_are_fronts
  obtain ⟨f_law_mirrored, fd_law_mirrored, a_law_mirrored, F_xlaw_mirrored⟩ := d_law_mirrored
  obtain ⟨f_law_moved, fd_law_moved, a_law_moved, F_xlaw_moved⟩ := d_law_moved
  obtain ⟨f_law_order, fd_law_order, a_law_order, F_xlaw_order⟩ := d_law_order
  obtain ⟨f_fronts_for, fd_fronts_for, a_fronts_for, F_xfronts_for⟩ := d_fronts_for
  obtain ⟨f_moved, fd_moved, a_moved, F_xmoved⟩ := d_moved
  obtain ⟨f_law_are_moves, fd_law_are_moves, c2, a_law_are_moves, F_xlaw_are_moves, k2⟩ := d_law_are_moves
  obtain ⟨f_easy_front_way, fd_easy_front_way, a_easy_front_way, F_xeasy_front_way⟩ := d_easy_front_way
  obtain ⟨f_law_is_easy, fd_law_is_easy, c3, a_law_is_easy, F_xlaw_is_easy, k3⟩ := d_law_is_easy
  obtain ⟨f_law_own_bag, fd_law_own_bag, a_law_own_bag, F_xlaw_own_bag⟩ := d_law_own_bag
  obtain ⟨f_law_plain_row, fd_law_plain_row, a_law_plain_row, F_xlaw_plain_row⟩ := d_law_plain_row
  obtain ⟨f_law, fd_law, a_law, F_xlaw⟩ := d_law
  have e := hfa.symm.trans a_law
  cases e
  obtain ⟨cdl, Fcl⟩ := Fun.c F_xlaw
  obtain ⟨oc, od, kV, doc, pm, an, ct, osl, efd, lk, hcd⟩ := Fcl.ex
  refine ⟨fd_law, [(c0, P0), (c1, P1), (c2, P2), (c3, P3)], [(P0, ((("_law_are_errors" : Str) ++ ".<locals>.") ++ "<lambda>")), (P1, ((("_law_are_fronts" : Str) ++ ".<locals>.") ++ "<lambda>")), (P2, ((("_law_are_moves" : Str) ++ ".<locals>.") ++ "<lambda>")), (P3, ((("_law_is_easy" : Str) ++ ".<locals>.") ++ "<lambda>"))], fun p hp => ?_, fun p hp => ?_, fun p hp => ?_, fun s u => by rw [efd]; exact .of_eq rfl, fun p hp => ?_, fun base KB NB TB => ?_⟩
  · simp only [List.mem_cons, List.not_mem_nil, or_false] at hp
    rcases hp with rfl | rfl | rfl | rfl
    · exact hts _ m0
    · exact hts _ m1
    · exact hts _ m2
    · exact hts _ m3
  · simp only [List.mem_cons, List.not_mem_nil, or_false] at hp
    rcases hp with rfl | rfl | rfl | rfl
    · exact out _ m0
    · exact out _ m1
    · exact out _ m2
    · exact out _ m3
  · simp only [List.mem_cons, List.not_mem_nil, or_false] at hp
    rcases hp with rfl | rfl | rfl | rfl
    · exact PySem.W.codeHd_of_K X k0
    · exact PySem.W.codeHd_of_K X k1
    · exact PySem.W.codeHd_of_K X k2
    · exact PySem.W.codeHd_of_K X k3
  · simp only [List.mem_cons, List.not_mem_nil, or_false] at hp
    rcases hp with rfl | rfl | rfl | rfl <;> simp
  obtain ⟨cd_law_draw, Fc_law_draw⟩ := Fun.c F_xlaw_draw
  have C_law_draw := c_law_draw (P := l.prog) (w := w) (base := base) (T := [(P0, ((("_law_are_errors" : Str) ++ ".<locals>.") ++ "<lambda>")), (P1, ((("_law_are_fronts" : Str) ++ ".<locals>.") ++ "<lambda>")), (P2, ((("_law_are_moves" : Str) ++ ".<locals>.") ++ "<lambda>")), (P3, ((("_law_is_easy" : Str) ++ ".<locals>.") ++ "<lambda>"))]) a_law_draw Fc_law_draw g_int g_range
  have Cs := c_law_same (P := l.prog) (w := w) (base := base) (T := []) (cd := .none) a_law_same F_xlaw_same g_repr
  have Ct : ToldC l.prog w K mg base := c_law_told (T := []) (cd := .none) a_law_told F_xlaw_told
  have C_is : IsC l.prog w K mg base := c_law_is (T := []) (cd := .none) a_law_is F_xlaw_is Ct Cs
  have C_is_integer := c_is_integer (P := l.prog) (w := w) (base := base) (T := []) (cd := .none) a_is_integer F_xis_integer g_bool g_int g_isinstance
  have C_front_error := c_front_error (P := l.prog) (w := w) (base := base) (T := []) (cd := .none) a_front_error F_xfront_error g_all g_isinstance g_len g_tuple C_is_integer
  have C_law_are_errors := c_law_are_errors (P := l.prog) (w := w) (base := base) (T := [(P0, ((("_law_are_errors" : Str) ++ ".<locals>.") ++ "<lambda>")), (P1, ((("_law_are_fronts" : Str) ++ ".<locals>.") ++ "<lambda>")), (P2, ((("_law_are_moves" : Str) ++ ".<locals>.") ++ "<lambda>")), (P3, ((("_law_is_easy" : Str) ++ ".<locals>.") ++ "<lambda>"))]) a_law_are_errors F_xlaw_are_errors g_range C_law_draw C_front_error C_is (tabOk_of (c := c0) (P := P0) (cs := [(c0, P0), (c1, P1), (c2, P2), (c3, P3)]) TB List.mem_cons_self List.mem_cons_self ne)
  have C_law_fronted := c_law_fronted (P := l.prog) (w := w) (base := base) (T := []) (cd := .none) a_law_fronted F_xlaw_fronted 
  have C_law_fronts := c_law_fronts (P := l.prog) (w := w) (base := base) (T := []) (cd := .none) a_law_fronts F_xlaw_fronts g_range g_tuple
  have C_law_leads := c_law_leads (P := l.prog) (w := w) (base := base) (T := []) (cd := .none) a_law_leads F_xlaw_leads g_len g_range g_tuple
  have C_law_open := c_law_open (P := l.prog) (w := w) (base := base) (T := []) (cd := .none) a_law_open F_xlaw_open g_enumerate g_tuple C_law_leads
  obtain ⟨cd_law_pick, Fc_law_pick⟩ := Fun.c F_xlaw_pick
  have C_law_pick := c_law_pick (P := l.prog) (w := w) (base := base) (T := [(P0, ((("_law_are_errors" : Str) ++ ".<locals>.") ++ "<lambda>")), (P1, ((("_law_are_fronts" : Str) ++ ".<locals>.") ++ "<lambda>")), (P2, ((("_law_are_moves" : Str) ++ ".<locals>.") ++ "<lambda>")), (P3, ((("_law_is_easy" : Str) ++ ".<locals>.") ++ "<lambda>"))]) a_law_pick Fc_law_pick g_len C_law_draw
  have C_law_rounds := c_law_rounds (P := l.prog) (w := w) (base := base) (T := []) (cd := .none) a_law_rounds F_xlaw_rounds g_len g_range g_tuple
  have C_all_fronts := c_all_fronts (P := l.prog) (w := w) (base := base) (T := []) (cd := .none) a_all_fronts F_xall_fronts g_range g_tuple
  have C_gap_leads := c_gap_leads (P := l.prog) (w := w) (base := base) (T := []) (cd := .none) a_gap_leads F_xgap_leads g_enumerate g_len g_tuple
  have C_front_gaps := c_front_gaps (P := l.prog) (w := w) (base := base) (T := []) (cd := .none) a_front_gaps F_xfront_gaps g_enumerate g_tuple C_gap_leads
  have C_front_moved := c_front_moved (P := l.prog) (w := w) (base := base) (T := []) (cd := .none) a_front_moved F_xfront_moved 
  have C_closed_in_front := c_closed_in_front (P := l.prog) (w := w) (base := base) (T := []) (cd := .none) a_closed_in_front F_xclosed_in_front g_len C_front_gaps C_front_moved
  have C_front_back := c_front_back (P := l.prog) (w := w) (base := base) (T := []) (cd := .none) a_front_back F_xfront_back 
  have C_rounds := c_rounds (P := l.prog) (w := w) (base := base) (T := []) (cd := .none) a_rounds F_xrounds g_len g_range g_tuple
  have C_row_rounds := c_row_rounds (P := l.prog) (w := w) (base := base) (T := []) (cd := .none) a_row_rounds F_xrow_rounds C_gap_leads C_rounds
  have C_odd_rounds := c_odd_rounds (P := l.prog) (w := w) (base := base) (T := []) (cd := .none) a_odd_rounds F_xodd_rounds g_len C_row_rounds
  have C_plain_row := c_plain_row (P := l.prog) (w := w) (base := base) (T := []) (cd := .none) a_plain_row F_xplain_row g_range g_tuple
  have C_front_bounds := c_front_bounds (P := l.prog) (w := w) (base := base) (T := []) (cd := .none) a_front_bounds F_xfront_bounds g_len g_max C_front_gaps C_odd_rounds C_plain_row
  have C_open_gaps := c_open_gaps (P := l.prog) (w := w) (base := base) (T := []) (cd := .none) a_open_gaps F_xopen_gaps g_enumerate g_tuple C_gap_leads
  have C_law_are_fronts := c_law_are_fronts (P := l.prog) (w := w) (base := base) (T := [(P0, ((("_law_are_errors" : Str) ++ ".<locals>.") ++ "<lambda>")), (P1, ((("_law_are_fronts" : Str) ++ ".<locals>.") ++ "<lambda>")), (P2, ((("_law_are_moves" : Str) ++ ".<locals>.") ++ "<lambda>")), (P3, ((("_law_is_easy" : Str) ++ ".<locals>.") ++ "<lambda>"))]) a_law_are_fronts F_xlaw_are_fronts g_abs g_len g_list g_max g_range g_tuple C_law_fronted C_law_fronts C_law_leads C_law_open C_law_pick C_law_rounds C_all_fronts C_closed_in_front C_front_back C_front_bounds C_front_gaps C_front_moved C_odd_rounds C_open_gaps C_is (tabOk_of (c := c1) (P := P1) (cs := [(c0, P0), (c1, P1), (c2, P2), (c3, P3)]) TB (List.mem_cons_of_mem _ List.mem_cons_self) (List.mem_cons_of_mem _ List.mem_cons_self) ne)
  have C_law_mirrored := c_law_mirrored (P := l.prog) (w := w) (base := base) (T := []) (cd := .none) a_law_mirrored F_xlaw_mirrored g_len g_list g_reversed g_tuple
  have C_law_moved := c_law_moved (P := l.prog) (w := w) (base := base) (T := []) (cd := .none) a_law_moved F_xlaw_moved 
  obtain ⟨cd_law_order, Fc_law_order⟩ := Fun.c F_xlaw_order
  have C_law_order := c_law_order (P := l.prog) (w := w) (base := base) (T := [(P0, ((("_law_are_errors" : Str) ++ ".<locals>.") ++ "<lambda>")), (P1, ((("_law_are_fronts" : Str) ++ ".<locals>.") ++ "<lambda>")), (P2, ((("_law_are_moves" : Str) ++ ".<locals>.") ++ "<lambda>")), (P3, ((("_law_is_easy" : Str) ++ ".<locals>.") ++ "<lambda>"))]) a_law_order Fc_law_order g_len g_list g_range g_tuple C_law_draw
  have C_fronts_for := c_fronts_for (P := l.prog) (w := w) (base := base) (T := []) (cd := .none) a_fronts_for F_xfronts_for 
  have C_moved := c_moved (P := l.prog) (w := w) (base := base) (T := []) (cd := .none) a_moved F_xmoved 
  have C_law_are_moves := c_law_are_moves (P := l.prog) (w := w) (base := base) (T := [(P0, ((("_law_are_errors" : Str) ++ ".<locals>.") ++ "<lambda>")), (P1, ((("_law_are_fronts" : Str) ++ ".<locals>.") ++ "<lambda>")), (P2, ((("_law_are_moves" : Str) ++ ".<locals>.") ++ "<lambda>")), (P3, ((("_law_is_easy" : Str) ++ ".<locals>.") ++ "<lambda>"))]) a_law_are_moves F_xlaw_are_moves g_len g_list g_sorted g_tuple C_law_fronted C_law_fronts C_law_mirrored C_law_moved C_law_order C_law_pick C_front_moved C_fronts_for C_moved C_is (tabOk_of (c := c2) (P := P2) (cs := [(c0, P0), (c1, P1), (c2, P2), (c3, P3)]) TB (List.mem_cons_of_mem _ (List.mem_cons_of_mem _ List.mem_cons_self)) (List.mem_cons_of_mem _ (List.mem_cons_of_mem _ List.mem_cons_self)) ne)
  have C_easy_front_way := c_easy_front_way (P := l.prog) (w := w) (base := base) (T := []) (cd := .none) a_easy_front_way F_xeasy_front_way g_len g_tuple C_front_gaps C_front_moved C_plain_row
  have C_law_is_easy := c_law_is_easy (P := l.prog) (w := w) (base := base) (T := [(P0, ((("_law_are_errors" : Str) ++ ".<locals>.") ++ "<lambda>")), (P1, ((("_law_are_fronts" : Str) ++ ".<locals>.") ++ "<lambda>")), (P2, ((("_law_are_moves" : Str) ++ ".<locals>.") ++ "<lambda>")), (P3, ((("_law_is_easy" : Str) ++ ".<locals>.") ++ "<lambda>"))]) a_law_is_easy F_xlaw_is_easy g_len g_range g_tuple C_law_fronted C_law_open C_easy_front_way C_front_bounds C_is (tabOk_of (c := c3) (P := P3) (cs := [(c0, P0), (c1, P1), (c2, P2), (c3, P3)]) TB (List.mem_cons_of_mem _ (List.mem_cons_of_mem _ (List.mem_cons_of_mem _ List.mem_cons_self))) (List.mem_cons_of_mem _ (List.mem_cons_of_mem _ (List.mem_cons_of_mem _ List.mem_cons_self))) ne)
  have CO := c_law_own_bag (P := l.prog) (w := w) (base := base) (T := []) (cd := .none) a_law_own_bag F_xlaw_own_bag g_abs g_int g_len g_list g_reversed
  obtain ⟨cd_law_plain_row, Fc_law_plain_row⟩ := Fun.c F_xlaw_plain_row
  have C_law_plain_row := c_law_plain_row (P := l.prog) (w := w) (base := base) (T := [(P0, ((("_law_are_errors" : Str) ++ ".<locals>.") ++ "<lambda>")), (P1, ((("_law_are_fronts" : Str) ++ ".<locals>.") ++ "<lambda>")), (P2, ((("_law_are_moves" : Str) ++ ".<locals>.") ++ "<lambda>")), (P3, ((("_law_is_easy" : Str) ++ ".<locals>.") ++ "<lambda>"))]) a_law_plain_row Fc_law_plain_row g_list g_range g_tuple C_law_draw C_law_order
  exact f_law (T := [(P0, ((("_law_are_errors" : Str) ++ ".<locals>.") ++ "<lambda>")), (P1, ((("_law_are_fronts" : Str) ++ ".<locals>.") ++ "<lambda>")), (P2, ((("_law_are_moves" : Str) ++ ".<locals>.") ++ "<lambda>")), (P3, ((("_law_is_easy" : Str) ++ ".<locals>.") ++ "<lambda>"))]) Fcl CO g_len g_range g_repr C_law_are_errors C_law_are_fronts C_law_are_moves C_law_draw C_law_is_easy C_law_plain_row law_ok
end Y

open PySem PySem.W PyProof.Rows
open PySem PySem.W PyProof.Rows in
set_option maxRecDepth 100000 in
set_option maxHeartbeats 0 in
theorem PySem.Challenge.cw_ringsandroads_k39_whole_moves_from_the_f_holds : PySem.Challenge.rw_ringsandroads_k39_whole_moves_from_the_f.Holds := by
  w_on; o_law; k_head; (case hw => w_witness2)
  k_fill
  refine Y.walkG (l := PySem.Challenge.rw_ringsandroads_k39_whole_moves_from_the_f) (n := 63) (k := 9) (x := "script") rfl (by decide) rfl ⟨rfl, by decide, by decide⟩ rfl (fun w h Yh => PySem.W.km_in_of Yh) ?F
  case F =>
    intro w mg fa h Yh KX G hmg
    refine' Y.law_all (P0 := 288) (P1 := 271) (P2 := 281) (P3 := 276) KX G _ (PySem.W.km_tabs_of Yh) (Y.km_out Yh (by decide)) hmg ?d_law_draw ?d_law_same ?d_law_told ?d_law_is ?d_is_integer ?d_front_error ?d_law_are_errors ?m0 ?d_law_fronted ?d_law_fronts ?d_law_leads ?d_law_open ?d_law_pick ?d_law_rounds ?d_all_fronts ?d_gap_leads ?d_front_gaps ?d_front_moved ?d_closed_in_front ?d_front_back ?d_rounds ?d_row_rounds ?d_odd_rounds ?d_plain_row ?d_front_bounds ?d_open_gaps ?d_law_are_fronts ?m1 ?d_law_mirrored ?d_law_moved ?d_law_order ?d_fronts_for ?d_moved ?d_law_are_moves ?m2 ?d_easy_front_way ?d_law_is_easy ?m3 ?d_law_own_bag ?d_law_plain_row ?d_law ?ne ?z_abs ?z_all ?z_bool ?z_enumerate ?z_int ?z_isinstance ?z_len ?z_list ?z_max ?z_range ?z_repr ?z_reversed ?z_sorted ?z_tuple
    (case ne => decide)
    (case d_law_draw => (refine' Y.fnAt_mk KX G ?a ?l ?c ?k; (case a => k_is); (case l => k_is); (case c => k_is); (case k => k_is)))
    (case d_law_same => (refine' Y.fnAt_mk KX G ?a ?l ?c ?k; (case a => k_is); (case l => k_is); (case c => k_is); (case k => k_is)))
    (case d_law_told => (refine' Y.fnAt_mk KX G ?a ?l ?c ?k; (case a => k_is); (case l => k_is); (case c => k_is); (case k => k_is)))
    (case d_law_is => (refine' Y.fnAt_mk KX G ?a ?l ?c ?k; (case a => k_is); (case l => k_is); (case c => k_is); (case k => k_is)))
    (case d_is_integer => (refine' Y.fnAt_mk KX G ?a ?l ?c ?k; (case a => k_is); (case l => k_is); (case c => k_is); (case k => k_is)))
    (case d_front_error => (refine' Y.fnAt_mk KX G ?a ?l ?c ?k; (case a => k_is); (case l => k_is); (case c => k_is); (case k => k_is)))
    (case d_law_are_errors => (refine' Y.fnLm_mk KX G ?a ?l ?c ?k ?lc ?hP; (case a => k_is); (case l => k_is); (case c => k_is); (case k => k_is); (case lc => k_is); (case hP => rfl)))
    (case m0 => simp)
    (case d_law_fronted => (refine' Y.fnAt_mk KX G ?a ?l ?c ?k; (case a => k_is); (case l => k_is); (case c => k_is); (case k => k_is)))
    (case d_law_fronts => (refine' Y.fnAt_mk KX G ?a ?l ?c ?k; (case a => k_is); (case l => k_is); (case c => k_is); (case k => k_is)))
    (case d_law_leads => (refine' Y.fnAt_mk KX G ?a ?l ?c ?k; (case a => k_is); (case l => k_is); (case c => k_is); (case k => k_is)))
    (case d_law_open => (refine' Y.fnAt_mk KX G ?a ?l ?c ?k; (case a => k_is); (case l => k_is); (case c => k_is); (case k => k_is)))
    (case d_law_pick => (refine' Y.fnAt_mk KX G ?a ?l ?c ?k; (case a => k_is); (case l => k_is); (case c => k_is); (case k => k_is)))
    (case d_law_rounds => (refine' Y.fnAt_mk KX G ?a ?l ?c ?k; (case a => k_is); (case l => k_is); (case c => k_is); (case k => k_is)))
    (case d_all_fronts => (refine' Y.fnAt_mk KX G ?a ?l ?c ?k; (case a => k_is); (case l => k_is); (case c => k_is); (case k => k_is)))
    (case d_gap_leads => (refine' Y.fnAt_mk KX G ?a ?l ?c ?k; (case a => k_is); (case l => k_is); (case c => k_is); (case k => k_is)))
    (case d_front_gaps => (refine' Y.fnAt_mk KX G ?a ?l ?c ?k; (case a => k_is); (case l => k_is); (case c => k_is); (case k => k_is)))
    (case d_front_moved => (refine' Y.fnAt_mk KX G ?a ?l ?c ?k; (case a => k_is); (case l => k_is); (case c => k_is); (case k => k_is)))
    (case d_closed_in_front => (refine' Y.fnAt_mk KX G ?a ?l ?c ?k; (case a => k_is); (case l => k_is); (case c => k_is); (case k => k_is)))
    (case d_front_back => (refine' Y.fnAt_mk KX G ?a ?l ?c ?k; (case a => k_is); (case l => k_is); (case c => k_is); (case k => k_is)))
    (case d_rounds => (refine' Y.fnAt_mk KX G ?a ?l ?c ?k; (case a => k_is); (case l => k_is); (case c => k_is); (case k => k_is)))
    (case d_row_rounds => (refine' Y.fnAt_mk KX G ?a ?l ?c ?k; (case a => k_is); (case l => k_is); (case c => k_is); (case k => k_is)))
    (case d_odd_rounds => (refine' Y.fnAt_mk KX G ?a ?l ?c ?k; (case a => k_is); (case l => k_is); (case c => k_is); (case k => k_is)))
    (case d_plain_row => (refine' Y.fnAt_mk KX G ?a ?l ?c ?k; (case a => k_is); (case l => k_is); (case c => k_is); (case k => k_is)))
    (case d_front_bounds => (refine' Y.fnAt_mk KX G ?a ?l ?c ?k; (case a => k_is); (case l => k_is); (case c => k_is); (case k => k_is)))
    (case d_open_gaps => (refine' Y.fnAt_mk KX G ?a ?l ?c ?k; (case a => k_is); (case l => k_is); (case c => k_is); (case k => k_is)))
    (case d_law_are_fronts => (refine' Y.fnLm_mk KX G ?a ?l ?c ?k ?lc ?hP; (case a => k_is); (case l => k_is); (case c => k_is); (case k => k_is); (case lc => k_is); (case hP => rfl)))
    (case m1 => simp)
    (case d_law_mirrored => (refine' Y.fnAt_mk KX G ?a ?l ?c ?k; (case a => k_is); (case l => k_is); (case c => k_is); (case k => k_is)))
    (case d_law_moved => (refine' Y.fnAt_mk KX G ?a ?l ?c ?k; (case a => k_is); (case l => k_is); (case c => k_is); (case k => k_is)))
    (case d_law_order => (refine' Y.fnAt_mk KX G ?a ?l ?c ?k; (case a => k_is); (case l => k_is); (case c => k_is); (case k => k_is)))
    (case d_fronts_for => (refine' Y.fnAt_mk KX G ?a ?l ?c ?k; (case a => k_is); (case l => k_is); (case c => k_is); (case k => k_is)))
    (case d_moved => (refine' Y.fnAt_mk KX G ?a ?l ?c ?k; (case a => k_is); (case l => k_is); (case c => k_is); (case k => k_is)))
    (case d_law_are_moves => (refine' Y.fnLm_mk KX G ?a ?l ?c ?k ?lc ?hP; (case a => k_is); (case l => k_is); (case c => k_is); (case k => k_is); (case lc => k_is); (case hP => rfl)))
    (case m2 => simp)
    (case d_easy_front_way => (refine' Y.fnAt_mk KX G ?a ?l ?c ?k; (case a => k_is); (case l => k_is); (case c => k_is); (case k => k_is)))
    (case d_law_is_easy => (refine' Y.fnLm_mk KX G ?a ?l ?c ?k ?lc ?hP; (case a => k_is); (case l => k_is); (case c => k_is); (case k => k_is); (case lc => k_is); (case hP => rfl)))
    (case m3 => simp)
    (case d_law_own_bag => (refine' Y.fnAt_mk KX G ?a ?l ?c ?k; (case a => k_is); (case l => k_is); (case c => k_is); (case k => k_is)))
    (case d_law_plain_row => (refine' Y.fnAt_mk KX G ?a ?l ?c ?k; (case a => k_is); (case l => k_is); (case c => k_is); (case k => k_is)))
    (case d_law => (refine' Y.fnAt_mk KX G ?a ?l ?c ?k; (case a => k_is); (case l => k_is); (case c => k_is); (case k => k_is)))
    (case z_abs => k_is)
    (case z_all => k_is)
    (case z_bool => k_is)
    (case z_enumerate => k_is)
    (case z_int => k_is)
    (case z_isinstance => k_is)
    (case z_len => k_is)
    (case z_list => k_is)
    (case z_max => k_is)
    (case z_range => k_is)
    (case z_repr => k_is)
    (case z_reversed => k_is)
    (case z_sorted => k_is)
    (case z_tuple => k_is)
#print axioms PySem.Challenge.cw_ringsandroads_k39_whole_moves_from_the_f_holds
