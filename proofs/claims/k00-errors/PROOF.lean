import PyProof.Rows.All
import Wide.All
import OpenK.AllK
import Wide.FinOn
import HandS.ForMost
import HandS.Walk
import HandS.Evl
import HandS.IsInst
import HandS.TupAny
import HandS.TupMul
import HandS.TupLe
import HandS.Zip
import HandS.Wide
import HandS.Style
import HandS.ExcInit
import HandS.ExcIs
import HandS.ExcField
import HandS.ExcValue
import PySem.Challenge.RW_clockrooms_k00_errors_each_of_its_own
set_option Elab.async false
set_option linter.all false
set_option maxRecDepth 100000
set_option maxHeartbeats 4000000
/-! a calculus of values and stores over the hand layer: what an expression does is told by a function of slots and store -/
namespace VM
open PySem PySem.Spec PyProof.Rows L2 Evl
inductive Va where
  | non
  | bl (b : Bool)
  | int (i : Int)
  | str (x : Str)
  | tup (vs : List Va)
  | ref (k : Nat)
  | fl (vs : List Va)
inductive Ob where
  | lst (vs : List Va)
  | exc (C : Nat) (fs : List (Str × Va))
  | emp
abbrev Mem := List Ob
def mutb : HO → Bool
  | .lst _ => true
  | _ => false
/-- what is no list stays -/
def Nl (H H' : Hp) : Prop := ∀ a o, H a = some o → mutb o = false → H' a = some o
theorem Nl.refl {H : Hp} : Nl H H := fun _ _ h _ => h
theorem Nl.trans {H H1 H2 : Hp} (a : Nl H H1) (b : Nl H1 H2) : Nl H H2 := fun x o h m => b x o (a x o h m) m
theorem Nl.new {H : Hp} {p : Addr} {o : HO} (h : H p = none) : Nl H (upd H p o) := fun a u e _ => by
  rw [upd_ne (ne_of_none e h)]
  exact e
theorem Nl.lst {H : Hp} {p : Addr} {xs : List V} {o : HO} (h : H p = some (.lst xs)) : Nl H (upd H p o) := fun a u e m => by
  rw [upd_ne (fun z => by rw [z, h] at e; cases e; cases m)]
  exact e
theorem Nl.ofEx {H H' : Hp} (e : Ex H H') : Nl H H' := fun a o h _ => e a o h
/-- a list that never changes: frozen, or the module's -/
def Fz (K : PySem.W.Frag) (H : Hp) (a : Addr) (xs : List V) : Prop :=
  (∃ o, H a = some (.frz o (.lst xs))) ∨
    ∃ (o : Obj) (its : Array Value) (n : Nat), K.lookup a = some o ∧ o.cls = .type "list" ∧ o.dict = none ∧ o.data = .seq its n ∧ its.size ≤ sizeLine ∧ Vals xs its.toList
section
variable {K : PySem.W.Frag} {H H' : Hp} {a : Addr} {xs : List V}
theorem Fz.sq (h : Fz K H a xs) : SqL K H a xs := by
  rcases h with h | h
  · exact .inl (.inr h)
  · exact .inr h
theorem Fz.nl (k : Nl H H') (h : Fz K H a xs) : Fz K H' a xs := by
  rcases h with ⟨o, h⟩ | h
  · exact .inl ⟨o, k _ _ h rfl⟩
  · exact .inr h
theorem sqt_nl (k : Nl H H') (h : SqT K H a xs) : SqT K H' a xs := by
  rcases h with (h | ⟨o, h⟩) | h
  · exact .inl (.inl (k _ _ h rfl))
  · exact .inl (.inr ⟨o, k _ _ h rfl⟩)
  · exact .inr h
end
mutual
inductive Rp (K : PySem.W.Frag) (φ : List Addr) (H : Hp) : V → Va → Prop
  | non : Rp K φ H .non .non
  | bl (b : Bool) : Rp K φ H (.bl b) (.bl b)
  | int (i : Int) : Rp K φ H (.int i) (.int i)
  | str (x : Str) : Rp K φ H (.str x) (.str x)
  | tup {a : Addr} {xs : List V} {vs : List Va} : SqT K H a xs → RpAll K φ H xs vs → Rp K φ H (.ref a) (.tup vs)
  | ref {a : Addr} {k : Nat} : φ[k]? = some a → Rp K φ H (.ref a) (.ref k)
  | fl {a : Addr} {xs : List V} {vs : List Va} : Fz K H a xs → RpAll K φ H xs vs → Rp K φ H (.ref a) (.fl vs)
inductive RpAll (K : PySem.W.Frag) (φ : List Addr) (H : Hp) : List V → List Va → Prop
  | nil : RpAll K φ H [] []
  | cons {x : V} {xs : List V} {v : Va} {vs : List Va} : Rp K φ H x v → RpAll K φ H xs vs → RpAll K φ H (x :: xs) (v :: vs)
end
mutual
def cl (n : Nat) : Va → Bool
  | .tup vs => clAll n vs
  | .ref k => decide (k < n)
  | .fl vs => clAll n vs
  | _ => true
def clAll (n : Nat) : List Va → Bool
  | [] => true
  | v :: vs => cl n v && clAll n vs
end
section
variable {K : PySem.W.Frag} {φ φ' : List Addr} {H H' : Hp}
theorem pre_get {k : Nat} {a : Addr} (h : φ <+: φ') (e : φ[k]? = some a) : φ'[k]? = some a := by
  obtain ⟨t, rfl⟩ := h
  rw [List.getElem?_append_left (List.getElem?_eq_some_iff.mp e).1]
  exact e
mutual
theorem Rp.mono (p : φ <+: φ') (k : Nl H H') : ∀ {x : V} {v : Va}, Rp K φ H x v → Rp K φ' H' x v
  | _, _, .non => .non
  | _, _, .bl b => .bl b
  | _, _, .int i => .int i
  | _, _, .str x => .str x
  | _, _, .tup h a => .tup (sqt_nl k h) (RpAll.mono p k a)
  | _, _, .ref h => .ref (pre_get p h)
  | _, _, .fl h a => .fl (h.nl k) (RpAll.mono p k a)
theorem RpAll.mono (p : φ <+: φ') (k : Nl H H') : ∀ {xs : List V} {vs : List Va}, RpAll K φ H xs vs → RpAll K φ' H' xs vs
  | _, _, .nil => .nil
  | _, _, .cons h t => .cons (Rp.mono p k h) (RpAll.mono p k t)
end
mutual
theorem Rp.cl : ∀ {x : V} {v : Va}, Rp K φ H x v → cl φ.length v = true
  | _, _, .non => rfl
  | _, _, .bl b => rfl
  | _, _, .int i => rfl
  | _, _, .str x => rfl
  | _, _, .tup h a => RpAll.cl a
  | _, _, .ref h => decide_eq_true (List.getElem?_eq_some_iff.mp h).1
  | _, _, .fl h a => RpAll.cl a
theorem RpAll.cl : ∀ {xs : List V} {vs : List Va}, RpAll K φ H xs vs → clAll φ.length vs = true
  | _, _, .nil => rfl
  | _, _, .cons h t => by
    show (VM.cl _ _ && clAll _ _) = true
    rw [Rp.cl h, RpAll.cl t]
    rfl
end
mutual
theorem Rp.cut (p : φ <+: φ') : ∀ {x : V} {v : Va}, VM.cl φ.length v = true → Rp K φ' H x v → Rp K φ H x v
  | _, _, _, .non => .non
  | _, _, _, .bl b => .bl b
  | _, _, _, .int i => .int i
  | _, _, _, .str x => .str x
  | _, _, c, .tup h a => .tup h (RpAll.cut p c a)
  | _, .ref k, c, .ref h => .ref (by
      have hk : k < φ.length := of_decide_eq_true c
      obtain ⟨t, rfl⟩ := p
      rw [List.getElem?_append_left hk] at h
      exact h)
  | _, _, c, .fl h a => .fl h (RpAll.cut p c a)
theorem RpAll.cut (p : φ <+: φ') : ∀ {xs : List V} {vs : List Va}, clAll φ.length vs = true → RpAll K φ' H xs vs → RpAll K φ H xs vs
  | _, _, _, .nil => .nil
  | _, _, c, .cons h t => .cons (Rp.cut p (Bool.and_eq_true_iff.mp c).1 h) (RpAll.cut p (Bool.and_eq_true_iff.mp c).2 t)
end
theorem rp_int {x : V} {i : Int} (h : Rp K φ H x (.int i)) : x = .int i := by cases h; rfl
theorem rp_bl {x : V} {i : Bool} (h : Rp K φ H x (.bl i)) : x = .bl i := by cases h; rfl
theorem rp_str {x : V} {i : Str} (h : Rp K φ H x (.str i)) : x = .str i := by cases h; rfl
theorem rp_non {x : V} (h : Rp K φ H x .non) : x = .non := by cases h; rfl
theorem rp_tup {x : V} {vs : List Va} (h : Rp K φ H x (.tup vs)) : ∃ a xs, x = .ref a ∧ SqT K H a xs ∧ RpAll K φ H xs vs := by
  cases h with
  | tup h a => exact ⟨_, _, rfl, h, a⟩
theorem rp_fl {x : V} {vs : List Va} (h : Rp K φ H x (.fl vs)) : ∃ a xs, x = .ref a ∧ Fz K H a xs ∧ RpAll K φ H xs vs := by
  cases h with
  | fl h a => exact ⟨_, _, rfl, h, a⟩
theorem rp_ref {x : V} {k : Nat} (h : Rp K φ H x (.ref k)) : ∃ a, x = .ref a ∧ φ[k]? = some a := by
  cases h with
  | ref h => exact ⟨_, rfl, h⟩
def isN : Va → Bool
  | .non => true
  | _ => false
theorem rp_isN {x : V} {v : Va} (h : Rp K φ H x v) : decide (x = .non) = isN v := by cases h <;> rfl
theorem RpAll.length : ∀ {xs : List V} {vs : List Va}, RpAll K φ H xs vs → xs.length = vs.length
  | _, _, .nil => rfl
  | _, _, .cons _ t => congrArg (· + 1) (RpAll.length t)
theorem RpAll.get : ∀ {xs : List V} {vs : List Va} {i : Nat} {v : Va}, RpAll K φ H xs vs → vs[i]? = some v → ∃ x, xs[i]? = some x ∧ Rp K φ H x v
  | _, _, _, _, .nil, e => by simp at e
  | _, _, 0, _, .cons r _, e => by simp at e; subst e; exact ⟨_, rfl, r⟩
  | _, _, i + 1, _, .cons _ t, e => by
    obtain ⟨v, h1, h2⟩ := RpAll.get (i := i) t (by simpa using e)
    exact ⟨v, by simpa using h1, h2⟩
theorem RpAll.get' : ∀ {xs : List V} {vs : List Va} {i : Nat} {x : V}, RpAll K φ H xs vs → xs[i]? = some x → ∃ v, vs[i]? = some v ∧ Rp K φ H x v
  | _, _, _, _, .nil, e => by simp at e
  | _, _, 0, _, .cons r _, e => by simp at e; subst e; exact ⟨_, rfl, r⟩
  | _, _, i + 1, _, .cons _ t, e => by
    obtain ⟨v, h1, h2⟩ := RpAll.get' (i := i) t (by simpa using e)
    exact ⟨v, by simpa using h1, h2⟩
theorem RpAll.append : ∀ {xs ys : List V} {vs ws : List Va}, RpAll K φ H xs vs → RpAll K φ H ys ws → RpAll K φ H (xs ++ ys) (vs ++ ws)
  | _, _, _, _, .nil, s => s
  | _, _, _, _, .cons r t, s => .cons r (RpAll.append t s)
theorem RpAll.set {x : V} {v : Va} (r : Rp K φ H x v) : ∀ {xs : List V} {vs : List Va} (i : Nat), RpAll K φ H xs vs → RpAll K φ H (xs.set i x) (vs.set i v)
  | _, _, _, .nil => .nil
  | _, _, 0, .cons _ t => .cons r t
  | _, _, i + 1, .cons q t => .cons q (RpAll.set r i t)
theorem RpAll.take : ∀ {xs : List V} {vs : List Va} (n : Nat), RpAll K φ H xs vs → RpAll K φ H (xs.take n) (vs.take n)
  | _, _, 0, _ => .nil
  | _, _, n + 1, .nil => .nil
  | _, _, n + 1, .cons r t => .cons r (RpAll.take n t)
theorem RpAll.drop : ∀ {xs : List V} {vs : List Va} (n : Nat), RpAll K φ H xs vs → RpAll K φ H (xs.drop n) (vs.drop n)
  | _, _, 0, r => r
  | _, _, n + 1, .nil => .nil
  | _, _, n + 1, .cons r t => RpAll.drop n t
theorem rpAll1 {xs : List V} {v : Va} (h : RpAll K φ H xs [v]) : ∃ x, xs = [x] ∧ Rp K φ H x v := by
  cases h with
  | cons h t => cases t; exact ⟨_, rfl, h⟩
theorem rpAll2 {xs : List V} {v w : Va} (h : RpAll K φ H xs [v, w]) : ∃ x y, xs = [x, y] ∧ Rp K φ H x v ∧ Rp K φ H y w := by
  cases h with
  | cons h t =>
    cases t with
    | cons h2 t => cases t; exact ⟨_, _, rfl, h, h2⟩
theorem rp_bools : ∀ {xs : List V} {bs : List Bool}, RpAll K φ H xs (bs.map Va.bl) → xs = bs.map V.bl
  | _, [], h => by cases h; rfl
  | _, b :: bs, h => by
    cases h with
    | cons h t => rw [rp_bl h, rp_bools t]; rfl
end
/-! ### the store -/
def RpFs (K : PySem.W.Frag) (φ : List Addr) (H : Hp) (ys : List (Str × V)) (fs : List (Str × Va)) : Prop := Paired (fun (p : Str × V) (q : Str × Va) => p.1 = q.1 ∧ Rp K φ H p.2 q.2) ys fs
theorem RpFs.mono {K : PySem.W.Frag} {φ φ' : List Addr} {H H' : Hp} (p : φ <+: φ') (k : Nl H H') : ∀ {ys : List (Str × V)} {fs : List (Str × Va)}, RpFs K φ H ys fs → RpFs K φ' H' ys fs
  | _, _, .nil => .nil
  | _, _, .cons h t => .cons ⟨h.1, h.2.mono p k⟩ (RpFs.mono p k t)
theorem RpFs.cut {K : PySem.W.Frag} {φ φ' : List Addr} {H : Hp} (p : φ <+: φ') : ∀ {ys : List (Str × V)} {fs : List (Str × Va)}, (fs.all fun q => cl φ.length q.2) = true → RpFs K φ' H ys fs → RpFs K φ H ys fs
  | _, _, _, .nil => .nil
  | _, _, c, .cons h t => by
    rw [List.all_cons, Bool.and_eq_true_iff] at c
    exact .cons ⟨h.1, h.2.cut p c.1⟩ (RpFs.cut p c.2 t)
theorem RpFs.cl {K : PySem.W.Frag} {φ : List Addr} {H : Hp} : ∀ {ys : List (Str × V)} {fs : List (Str × Va)}, RpFs K φ H ys fs → (fs.all fun q => VM.cl φ.length q.2) = true
  | _, _, .nil => rfl
  | _, _, .cons h t => by rw [List.all_cons, h.2.cl, RpFs.cl t]; rfl
def clO (n : Nat) : Ob → Bool
  | .lst vs => clAll n vs
  | .exc _ fs => fs.all fun q => cl n q.2
  | .emp => true
def clM (n : Nat) (M : Mem) : Bool := M.all (clO n)
def ObS (K : PySem.W.Frag) (cA : Nat → Addr) (φ : List Addr) (H : Hp) (a : Addr) : Ob → Prop
  | .lst vs => ∃ xs, H a = some (.lst xs) ∧ RpAll K φ H xs vs
  | .exc C fs => (fs = [] ∧ H a = some (ExO (.ref (cA C)) a)) ∨ ∃ d ys, H a = some (exo a (cA C) (some d)) ∧ H d = some (exd d ys) ∧ RpFs K φ H ys fs
  | .emp => H a = some (.dK [])
structure Sim (K : PySem.W.Frag) (cA : Nat → Addr) (φ : List Addr) (H : Hp) (M : Mem) : Prop where
  len : φ.length = M.length
  nd : φ.Nodup
  ob : ∀ (k : Nat) (a : Addr) (o : Ob), φ[k]? = some a → M[k]? = some o → ObS K cA φ H a o
structure Stp (φ : List Addr) (H : Hp) (φ' : List Addr) (H' : Hp) : Prop where
  pre : φ <+: φ'
  kp : ∀ a o, H a = some o → mutb o = false ∨ a ∉ φ → H' a = some o
  fr : ∀ a ∈ φ', a ∈ φ ∨ H a = none
section
variable {K : PySem.W.Frag} {cA : Nat → Addr} {φ φ' φ1 φ2 : List Addr} {H H' H1 H2 : Hp} {M M' : Mem}
theorem Stp.nl (s : Stp φ H φ' H') : Nl H H' := fun a o h m => s.kp a o h (.inl m)
theorem Stp.refl : Stp φ H φ H := ⟨List.prefix_refl _, fun _ _ h _ => h, fun _ h => .inl h⟩
theorem Stp.trans (s : Stp φ H φ1 H1) (t : Stp φ1 H1 φ2 H2) : Stp φ H φ2 H2 := by
  refine ⟨s.pre.trans t.pre, fun a o h c => ?_, fun a h => ?_⟩
  · refine t.kp a o (s.kp a o h c) ?_
    rcases c with c | c
    · exact .inl c
    · refine .inr fun z => ?_
      rcases s.fr a z with z | z
      · exact c z
      · rw [h] at z
        cases z
  · rcases t.fr a h with z | z
    · exact s.fr a z
    · cases e : H a with
      | none => exact .inr rfl
      | some o =>
        by_cases c : a ∈ φ
        · exact .inl c
        · rw [s.kp a o e (.inr c)] at z
          cases z
theorem Stp.ofEx (e : Ex H H') : Stp φ H φ H' := ⟨List.prefix_refl _, fun a o h _ => e a o h, fun _ h => .inl h⟩
theorem Stp.new {p : Addr} {o : HO} (h : H p = none) : Stp φ H φ (upd H p o) := .ofEx (.new h)
theorem ObS.mono {a : Addr} {o : Ob} (p : φ <+: φ') (k : Nl H H') (hl : ∀ xs, H a = some (.lst xs) → H' a = some (.lst xs)) (h : ObS K cA φ H a o) : ObS K cA φ' H' a o := by
  cases o with
  | lst vs =>
    obtain ⟨xs, e, r⟩ := h
    exact ⟨xs, hl xs e, r.mono p k⟩
  | exc C fs =>
    rcases h with ⟨e, h⟩ | ⟨d, ys, e1, e2, r⟩
    · exact .inl ⟨e, k _ _ h rfl⟩
    · exact .inr ⟨d, ys, k _ _ e1 rfl, k _ _ e2 rfl, r.mono p k⟩
  | emp => exact k _ _ h rfl
theorem ObS.some {a : Addr} {o : Ob} (h : ObS K cA φ H a o) : ∃ u, H a = some u := by
  cases o with
  | lst vs => obtain ⟨xs, e, r⟩ := h; exact ⟨_, e⟩
  | exc C fs =>
    rcases h with ⟨e, h⟩ | ⟨d, ys, e1, e2, r⟩
    · exact ⟨_, h⟩
    · exact ⟨_, e1⟩
  | emp => exact ⟨_, h⟩
theorem Sim.ext (S : Sim K cA φ H M) (k : Nl H H') (hl : ∀ a ∈ φ, ∀ xs, H a = some (.lst xs) → H' a = some (.lst xs)) : Sim K cA φ H' M :=
  ⟨S.len, S.nd, fun i a o h1 h2 => (S.ob i a o h1 h2).mono (List.prefix_refl _) k (hl a (List.mem_of_getElem? h1))⟩
theorem Sim.ex (S : Sim K cA φ H M) (e : Ex H H') : Sim K cA φ H' M := S.ext (.ofEx e) fun a _ xs h => e a _ h
theorem Sim.has (S : Sim K cA φ H M) {a : Addr} (h : a ∈ φ) : ∃ u, H a = some u := by
  obtain ⟨i, hi⟩ := List.mem_iff_getElem?.mp h
  have hl : i < M.length := by rw [← S.len]; exact (List.getElem?_eq_some_iff.mp hi).1
  exact (S.ob i a M[i] hi (by simp [hl])).some
theorem Sim.notin (S : Sim K cA φ H M) {a : Addr} (h : H a = none) : a ∉ φ := fun z => by
  obtain ⟨u, e⟩ := S.has z
  rw [h] at e
  cases e
/-- a new object is tracked -/
theorem Sim.track {a : Addr} {o : Ob} (S : Sim K cA φ H M) (h : a ∉ φ) (ho : ObS K cA φ H a o) : Sim K cA (φ ++ [a]) H (M ++ [o]) := by
  refine ⟨by rw [List.length_append, List.length_append, S.len]; rfl, ?_, fun i b u h1 h2 => ?_⟩
  · rw [List.nodup_append]
    refine ⟨S.nd, by simp, fun x hx y hy => ?_⟩
    simp at hy
    subst hy
    exact fun z => h (z ▸ hx)
  · have hp : φ <+: φ ++ [a] := ⟨[a], rfl⟩
    by_cases hi : i < φ.length
    · rw [List.getElem?_append_left hi] at h1
      rw [List.getElem?_append_left (by rw [← S.len]; exact hi)] at h2
      exact (S.ob i b u h1 h2).mono hp .refl fun _ e => e
    · rw [List.getElem?_append_right (by omega)] at h1
      rw [List.getElem?_append_right (by rw [← S.len]; omega)] at h2
      rw [← S.len] at h2
      cases hj : i - φ.length with
      | zero =>
        rw [hj] at h1 h2
        simp at h1 h2
        subst h1 h2
        exact ho.mono hp .refl fun _ e => e
      | succ n =>
        rw [hj] at h1
        simp at h1
theorem Stp.track {a : Addr} (h : H a = none) (s : Stp φ H φ' H') : Stp φ H (φ' ++ [a]) H' := by
  refine ⟨s.pre.trans ⟨[a], rfl⟩, s.kp, fun b hb => ?_⟩
  rcases List.mem_append.mp hb with z | z
  · exact s.fr b z
  · simp at z
    subst z
    exact .inr h
theorem Sim.clM (S : Sim K cA φ H M) : clM M.length M = true := by
  refine List.all_eq_true.mpr fun o ho => ?_
  obtain ⟨i, hi⟩ := List.mem_iff_getElem?.mp ho
  have hl : i < φ.length := by rw [S.len]; exact (List.getElem?_eq_some_iff.mp hi).1
  have q := S.ob i φ[i] o (by simp [hl]) hi
  rw [← S.len]
  cases o with
  | lst vs => obtain ⟨xs, e, r⟩ := q; exact r.cl
  | exc C fs =>
    rcases q with ⟨e, h⟩ | ⟨d, ys, e1, e2, r⟩
    · subst e; rfl
    · exact r.cl
  | emp => rfl
/-- what is behind is let go -/
theorem Sim.cut {J : Mem} (S : Sim K cA φ H (M ++ J)) (c : VM.clM M.length M = true) : Sim K cA (φ.take M.length) H M := by
  have hl : M.length ≤ φ.length := by rw [S.len, List.length_append]; omega
  have hL : (φ.take M.length).length = M.length := by rw [List.length_take]; omega
  have hp : φ.take M.length <+: φ := List.take_prefix _ _
  refine ⟨hL, S.nd.sublist (List.take_sublist _ _), fun i a o h1 h2 => ?_⟩
  have hi : i < M.length := (List.getElem?_eq_some_iff.mp h2).1
  have q := S.ob i a o (pre_get hp h1) (by rw [List.getElem?_append_left hi]; exact h2)
  have co := List.all_eq_true.mp c o (List.mem_of_getElem? h2)
  rw [← hL] at co
  cases o with
  | lst vs => obtain ⟨xs, e, r⟩ := q; exact ⟨xs, e, r.cut hp co⟩
  | exc C fs =>
    rcases q with ⟨e, h⟩ | ⟨d, ys, e1, e2, r⟩
    · exact .inl ⟨e, h⟩
    · exact .inr ⟨d, ys, e1, e2, r.cut hp co⟩
  | emp => exact q
theorem Stp.cut {n : Nat} (s : Stp φ H φ' H') (h : φ.length ≤ n) : Stp φ H (φ'.take n) H' := by
  refine ⟨?_, s.kp, fun a ha => s.fr a (List.mem_of_mem_take ha)⟩
  obtain ⟨t, e⟩ := s.pre
  exact ⟨t.take (n - φ.length), by rw [← e, List.take_append, List.take_of_length_le h]⟩
/-- a list of the store is written -/
theorem Sim.put {k : Nat} {a : Addr} {xs : List V} {vs : List Va} (S : Sim K cA φ H M) (hk : φ[k]? = some a) (hl : ∃ ys, H a = some (.lst ys)) (r : RpAll K φ H xs vs) : Sim K cA φ (upd H a (.lst xs)) (M.set k (.lst vs)) := by
  obtain ⟨ys, hl⟩ := hl
  have nl : Nl H (upd H a (.lst xs)) := .lst hl
  refine ⟨by rw [List.length_set]; exact S.len, S.nd, fun i b o h1 h2 => ?_⟩
  by_cases e : i = k
  · subst e
    rw [hk] at h1
    cases h1
    rw [List.getElem?_set_self (by rw [← S.len]; exact (List.getElem?_eq_some_iff.mp hk).1)] at h2
    cases h2
    exact ⟨xs, upd_same, r.mono (List.prefix_refl _) nl⟩
  · rw [List.getElem?_set_ne (Ne.symm e)] at h2
    have hb : b ≠ a := fun z => by
      subst z
      exact e ((List.getElem?_inj (List.getElem?_eq_some_iff.mp h1).1 S.nd).mp (h1.trans hk.symm))
    exact (S.ob i b o h1 h2).mono (List.prefix_refl _) nl fun zs z => by rw [upd_ne hb]; exact z
theorem Stp.put {a : Addr} {o : HO} {ys : List V} (ha : a ∈ φ) (hl : H a = some (.lst ys)) : Stp φ H φ (upd H a o) := ⟨List.prefix_refl _, fun b u h c => by
  rw [upd_ne (fun z => by
    subst z
    rw [hl] at h
    cases h
    rcases c with c | c
    · cases c
    · exact c ha)]
  exact h, fun _ h => .inl h⟩
end
/-! ### slots -/
abbrev Ro := List (Option Va)
structure En (K : PySem.W.Frag) (φ : List Addr) (H : Hp) (σ : L2.St) (ρ : Ro) : Prop where
  len : σ.length = ρ.length
  get : ∀ (i : Nat) (v : Va), ρ[i]? = some (some v) → ∃ x, σ[i]? = some (some x) ∧ Rp K φ H x v
theorem set_get {α : Type} {l : List α} {i j : Nat} {x y : α} (h : (l.set i x)[j]? = some y) : (i = j ∧ y = x ∧ i < l.length) ∨ (i ≠ j ∧ l[j]? = some y) := by
  by_cases e : i = j
  · subst e
    by_cases hl : i < l.length
    · rw [List.getElem?_set_self hl] at h
      exact .inl ⟨rfl, (Option.some.inj h).symm, hl⟩
    · rw [List.getElem?_eq_none (by simpa using hl)] at h
      cases h
  · rw [List.getElem?_set_ne e] at h
    exact .inr ⟨e, h⟩
def wipeR (ρ : Ro) : List Nat → Ro
  | [] => ρ
  | v :: vs => (wipeR ρ vs).set v none
section
variable {K : PySem.W.Frag} {cA : Nat → Addr} {φ φ' : List Addr} {H H' : Hp} {σ : L2.St} {ρ : Ro}
theorem En.mono (E : En K φ H σ ρ) (p : φ <+: φ') (k : Nl H H') : En K φ' H' σ ρ := ⟨E.len, fun i d h => by
  obtain ⟨v, e, r⟩ := E.get i d h
  exact ⟨v, e, r.mono p k⟩⟩
theorem En.stp (E : En K φ H σ ρ) (s : Stp φ H φ' H') : En K φ' H' σ ρ := E.mono s.pre s.nl
theorem En.set (E : En K φ H σ ρ) {i : Nat} {x : V} {v : Va} (r : Rp K φ H x v) : En K φ H (σ.set i (some x)) (ρ.set i (some v)) := ⟨by rw [List.length_set, List.length_set]; exact E.len, fun j e h => by
  rcases set_get h with ⟨rfl, e1, hl⟩ | ⟨ne, h⟩
  · cases e1
    exact ⟨x, List.getElem?_set_self (by rw [E.len]; exact hl), r⟩
  · obtain ⟨u, hu, ru⟩ := E.get j e h
    exact ⟨u, by rw [List.getElem?_set_ne ne]; exact hu, ru⟩⟩
theorem En.setN (E : En K φ H σ ρ) {i : Nat} : En K φ H (σ.set i none) (ρ.set i none) := ⟨by rw [List.length_set, List.length_set]; exact E.len, fun j e h => by
  rcases set_get h with ⟨rfl, e1, hl⟩ | ⟨ne, h⟩
  · cases e1
  · obtain ⟨u, hu, ru⟩ := E.get j e h
    exact ⟨u, by rw [List.getElem?_set_ne ne]; exact hu, ru⟩⟩
theorem En.wipe (E : En K φ H σ ρ) : ∀ vs : List Nat, En K φ H (wipe σ vs) (wipeR ρ vs)
  | [] => E
  | v :: vs => (En.wipe E vs).setN
end
end VM
namespace VM
open PySem PySem.Spec PyProof.Rows L2 Evl
abbrev FE := Ro → Mem → Option (Va × Mem)
abbrev FA := Ro → Mem → Option (List Va × Mem)
abbrev FT := Ro → Mem → Option (Bool × Mem)
inductive Out where
  | nx (ρ : Ro) (M : Mem)
  | rt (v : Va) (M : Mem)
abbrev FS := Ro → Mem → Option Out
/-- targets -/
abbrev FG := Va → Ro → Mem → Option (Ro × Mem)
abbrev FGs := List Va → Ro → Mem → Option (Ro × Mem)
/-- guards: lists of the store that stay as they are while a walk goes on -/
abbrev Gd := List (Nat × List Va)
mutual
def beqV : Va → Va → Bool
  | .non, .non => true
  | .bl a, .bl b => a == b
  | .int a, .int b => decide (a = b)
  | .str a, .str b => decide (a = b)
  | .tup a, .tup b => beqL a b
  | .ref a, .ref b => decide (a = b)
  | .fl a, .fl b => beqL a b
  | _, _ => false
def beqL : List Va → List Va → Bool
  | [], [] => true
  | a :: as, b :: bs => beqV a b && beqL as bs
  | _, _ => false
end
mutual
theorem beqV_eq : ∀ {a b : Va}, beqV a b = true → a = b
  | .non, .non, _ => rfl
  | .bl a, .bl b, h => by rw [beq_iff_eq.mp (show (a == b) = true from h)]
  | .int a, .int b, h => by rw [of_decide_eq_true (show decide (a = b) = true from h)]
  | .str a, .str b, h => by rw [of_decide_eq_true (show decide (a = b) = true from h)]
  | .tup a, .tup b, h => by rw [beqL_eq (show beqL a b = true from h)]
  | .ref a, .ref b, h => by rw [of_decide_eq_true (show decide (a = b) = true from h)]
  | .fl a, .fl b, h => by rw [beqL_eq (show beqL a b = true from h)]
  | .non, .bl _, h | .non, .int _, h | .non, .str _, h | .non, .tup _, h | .non, .ref _, h | .non, .fl _, h => by cases h
  | .bl _, .non, h | .bl _, .int _, h | .bl _, .str _, h | .bl _, .tup _, h | .bl _, .ref _, h | .bl _, .fl _, h => by cases h
  | .int _, .bl _, h | .int _, .non, h | .int _, .str _, h | .int _, .tup _, h | .int _, .ref _, h | .int _, .fl _, h => by cases h
  | .str _, .bl _, h | .str _, .int _, h | .str _, .non, h | .str _, .tup _, h | .str _, .ref _, h | .str _, .fl _, h => by cases h
  | .tup _, .bl _, h | .tup _, .int _, h | .tup _, .str _, h | .tup _, .non, h | .tup _, .ref _, h | .tup _, .fl _, h => by cases h
  | .ref _, .bl _, h | .ref _, .int _, h | .ref _, .str _, h | .ref _, .tup _, h | .ref _, .non, h | .ref _, .fl _, h => by cases h
  | .fl _, .bl _, h | .fl _, .int _, h | .fl _, .str _, h | .fl _, .tup _, h | .fl _, .ref _, h | .fl _, .non, h => by cases h
theorem beqL_eq : ∀ {a b : List Va}, beqL a b = true → a = b
  | [], [], _ => rfl
  | a :: as, b :: bs, h => by
    have h' := Bool.and_eq_true_iff.mp (show (beqV a b && beqL as bs) = true from h)
    rw [beqV_eq h'.1, beqL_eq h'.2]
  | [], _ :: _, h | _ :: _, [], h => by cases h
end
mutual
theorem beqV_self : ∀ a : Va, beqV a a = true
  | .non => rfl
  | .bl a => beq_self_eq_true a
  | .int a => decide_eq_true rfl
  | .str a => decide_eq_true rfl
  | .tup a => beqL_self a
  | .ref a => decide_eq_true rfl
  | .fl a => beqL_self a
theorem beqL_self : ∀ a : List Va, beqL a a = true
  | [] => rfl
  | a :: as => by
    show (beqV a a && beqL as as) = true
    rw [beqV_self, beqL_self]
    rfl
end
def gok (g : Gd) (M : Mem) : Bool := g.all fun p => match M[p.1]? with
  | some (.lst vs) => beqL vs p.2
  | _ => false
theorem gok_mem {g : Gd} {M : Mem} (h : gok g M = true) {k : Nat} {vs : List Va} (m : (k, vs) ∈ g) : M[k]? = some (.lst vs) := by
  have q := List.all_eq_true.mp h (k, vs) m
  dsimp only at q
  split at q
  · rename_i ws e
    rw [beqL_eq q] at e
    exact e
  · cases q
abbrev FI := Ro → Mem → Option (List Va × Gd × Mem)
section
variable (K : PySem.W.Frag) (cA : Nat → Addr)
def EV (te : TE) (f : FE) : Prop := ∀ φ σ H ρ M v M', f ρ M = some (v, M') → Sim K cA φ H M → En K φ H σ ρ → ∀ Q : VK, (∀ x H' φ', Stp φ H φ' H' → Sim K cA φ' H' M' → Rp K φ' H' x v → Q x H') → te σ H Q
def AV (ta : TA) (f : FA) : Prop := ∀ φ σ H ρ M vs M', f ρ M = some (vs, M') → Sim K cA φ H M → En K φ H σ ρ → ∀ Q : List V → Hp → Prop, (∀ xs H' φ', Stp φ H φ' H' → Sim K cA φ' H' M' → RpAll K φ' H' xs vs → Q xs H') → ta σ H Q
def TV (tt : TT) (f : FT) : Prop := ∀ φ σ H ρ M b M', f ρ M = some (b, M') → Sim K cA φ H M → En K φ H σ ρ → ∀ Q : Bool → Hp → Prop, (∀ H' φ', Stp φ H φ' H' → Sim K cA φ' H' M' → Q b H') → tt σ H Q
/-- a new list: its items, not tracked as yet -/
def LV (te : TE) (f : FA) : Prop := ∀ φ σ H ρ M vs M', f ρ M = some (vs, M') → Sim K cA φ H M → En K φ H σ ρ → ∀ Q : VK, (∀ a xs H' φ', H a = none → a ∉ φ' → H' a = some (.lst xs) → Stp φ H φ' H' → Sim K cA φ' H' M' → RpAll K φ' H' xs vs → Q (.ref a) H') → te σ H Q
def Wk (J : It) (items : List Va) (gd : Gd) (φ1 : List Addr) (H1 : Hp) : Prop :=
  Walk J items.length (fun H2 => ∃ φ2 M2, Stp φ1 H1 φ2 H2 ∧ Sim K cA φ2 H2 M2 ∧ gok gd M2 = true)
    (fun i H2 x H' => Ex H2 H' ∧ ∀ φ2 M2, Stp φ1 H1 φ2 H2 → Sim K cA φ2 H2 M2 → gok gd M2 = true → ∀ v, items[i]? = some v → Rp K φ2 H' x v)
def IV (wi : TI) (f : FI) : Prop := ∀ φ σ H ρ M vs g M', f ρ M = some (vs, g, M') → Sim K cA φ H M → En K φ H σ ρ → ∀ R : It → Hp → Prop, (∀ J H1 φ1, Stp φ H φ1 H1 → Sim K cA φ1 H1 M' → Wk K cA J vs g φ1 H1 → R J H1) → wi σ H R
def GV (g : TG) (f : FG) : Prop := ∀ φ σ H ρ M x v ρ' M', f v ρ M = some (ρ', M') → Sim K cA φ H M → En K φ H σ ρ → Rp K φ H x v → ∀ Q : L2.St → Hp → Prop, (∀ σ' H' φ', Stp φ H φ' H' → Sim K cA φ' H' M' → En K φ' H' σ' ρ' → Q σ' H') → g x σ H Q
def GVs (g : TGs) (f : FGs) : Prop := ∀ φ σ H ρ M xs vs ρ' M', f vs ρ M = some (ρ', M') → Sim K cA φ H M → En K φ H σ ρ → RpAll K φ H xs vs → ∀ Q : L2.St → Hp → Prop, (∀ σ' H' φ', Stp φ H φ' H' → Sim K cA φ' H' M' → En K φ' H' σ' ρ' → Q σ' H') → g xs σ H Q
def Goes (φ : List Addr) (H : Hp) (D : Ends) : Out → Prop
  | .nx ρ' M' => ∀ σ' H' φ', Stp φ H φ' H' → Sim K cA φ' H' M' → En K φ' H' σ' ρ' → D.nx σ' H'
  | .rt v M' => ∀ x H' φ', Stp φ H φ' H' → Sim K cA φ' H' M' → Rp K φ' H' x v → D.rt x H'
def SV (t : TS) (f : FS) : Prop := ∀ φ σ H ρ M o, f ρ M = some o → Sim K cA φ H M → En K φ H σ ρ → ∀ D : Ends, Goes K cA φ H D o → t D σ H
end
section
variable {K : PySem.W.Frag} {cA : Nat → Addr}
theorem Goes.stp {φ φ1 : List Addr} {H H1 : Hp} {D : Ends} {o : Out} (s : Stp φ H φ1 H1) (g : Goes K cA φ H D o) : Goes K cA φ1 H1 D o := by
  cases o with
  | nx ρ M => exact fun σ' H' φ' t => g σ' H' φ' (s.trans t)
  | rt v M => exact fun x H' φ' t => g x H' φ' (s.trans t)
end
/-! ### combinators -/
def bnd {α β : Type} (x : Option α) (f : α → Option β) : Option β := match x with
  | none => none
  | some a => f a
@[simp] theorem bnd_some {α β : Type} (a : α) (f : α → Option β) : bnd (some a) f = f a := rfl
@[simp] theorem bnd_none {α β : Type} (f : α → Option β) : bnd none f = none := rfl
theorem bnd_ok {α β : Type} {x : Option α} {f : α → Option β} {b : β} (h : bnd x f = some b) : ∃ a, x = some a ∧ f a = some b := by
  cases x with
  | none => cases h
  | some a => exact ⟨a, rfl, h⟩
def vC (v : Va) : FE := fun _ M => some (v, M)
def vVar (k : Nat) : FE := fun ρ M => match ρ[k]? with
  | some (some v) => some (v, M)
  | _ => none
def aNil : FA := fun _ M => some ([], M)
def aCons (f : FE) (g : FA) : FA := fun ρ M => bnd (f ρ M) fun p => bnd (g ρ p.2) fun q => some (p.1 :: q.1, q.2)
def vTup (f : FA) : FE := fun ρ M => bnd (f ρ M) fun p => if p.1.length ≤ 100000 then some (.tup p.1, p.2) else none
def lLst (f : FA) : FA := fun ρ M => bnd (f ρ M) fun p => if p.1.length ≤ 100000 then some (p.1, p.2) else none
/-- a new list is tracked -/
def vTrk (f : FA) : FE := fun ρ M => bnd (f ρ M) fun p => some (.ref p.2.length, p.2 ++ [.lst p.1])
def vOp (g : Mem → Va → Va → Option Va) (f1 f2 : FE) : FE := fun ρ M => bnd (f1 ρ M) fun p => bnd (f2 ρ p.2) fun q => bnd (g q.2 p.1 q.1) fun z => some (z, q.2)
/-- an operation that gives a new list -/
def lOp (g : Mem → Va → Va → Option (List Va)) (f1 f2 : FE) : FA := fun ρ M => bnd (f1 ρ M) fun p => bnd (f2 ρ p.2) fun q => bnd (g q.2 p.1 q.1) fun z => some (z, q.2)
def vUn (g : Va → Option Va) (f : FE) : FE := fun ρ M => bnd (f ρ M) fun p => bnd (g p.1) fun z => some (z, p.2)
def asB : Va → Option Bool
  | .bl b => some b
  | _ => none
def tB' (f : FE) : FT := fun ρ M => bnd (f ρ M) fun p => bnd (asB p.1) fun b => some (b, p.2)
def vAnd (f g : FE) : FE := fun ρ M => bnd (tB' f ρ M) fun p => if p.1 = true then g ρ p.2 else some (.bl false, p.2)
def vOr (f g : FE) : FE := fun ρ M => bnd (tB' f ρ M) fun p => if p.1 = true then some (.bl true, p.2) else g ρ p.2
def vNot (f : FE) : FE := fun ρ M => bnd (tB' f ρ M) fun p => some (.bl (!p.1), p.2)
def vIf (t : FT) (f g : FE) : FE := fun ρ M => bnd (t ρ M) fun p => if p.1 = true then f ρ p.2 else g ρ p.2
def vChain (g g' : Mem → Va → Va → Option Va) (f1 f2 f3 : FE) : FE := fun ρ M => bnd (f1 ρ M) fun p => bnd (f2 ρ p.2) fun q => bnd (g q.2 p.1 q.1) fun z => bnd (asB z) fun b => if b = true then (bnd (f3 ρ q.2) fun r => bnd (g' r.2 q.1 r.1) fun y => some (y, r.2)) else some (.bl false, q.2)
def tAnd' (f g : FT) : FT := fun ρ M => bnd (f ρ M) fun p => if p.1 = true then g ρ p.2 else some (false, p.2)
def tOr' (f g : FT) : FT := fun ρ M => bnd (f ρ M) fun p => if p.1 = true then some (true, p.2) else g ρ p.2
def tNot' (f : FT) : FT := fun ρ M => bnd (f ρ M) fun p => some (!p.1, p.2)
def tYes' : FT := fun _ M => some (true, M)
/-- calls of built-ins -/
def vCB (g : Mem → List Va → Option Va) (f : FA) : FE := fun ρ M => bnd (f ρ M) fun p => bnd (g p.2 p.1) fun z => some (z, p.2)
def lCB (g : Mem → List Va → Option (List Va)) (f : FA) : FA := fun ρ M => bnd (f ρ M) fun p => bnd (g p.2 p.1) fun z => some (z, p.2)
/-- of a new list that is not kept: g tells -/
def vOf (g : List Va → Option Va) (f : FA) : FE := fun ρ M => bnd (f ρ M) fun p => bnd (g p.1) fun z => some (z, p.2)
/-- calls of defs -/
abbrev FF := List Va → Mem → Option (Va × Mem)
def vCall (F : FF) (f : FA) : FE := fun ρ M => bnd (f ρ M) fun p => F p.1 p.2
/-! operations -/
def iOp (h : Int → Int → Va) : Mem → Va → Va → Option Va := fun _ x y => match x, y with
  | .int i, .int j => some (h i j)
  | _, _ => none
def iOpC (C : Int → Int → Bool) (h : Int → Int → Va) : Mem → Va → Va → Option Va := fun _ x y => match x, y with
  | .int i, .int j => if C i j = true then some (h i j) else none
  | _, _ => none
def gAdd := iOp fun i j => .int (i + j)
def gSubI := iOp fun i j => .int (i - j)
def cMul (i j : Int) : Bool := (decide (-(2 ^ 64) < i) && decide (i < 2 ^ 64)) || (decide (-(2 ^ 64) < j) && decide (j < 2 ^ 64))
def gMul := iOpC cMul fun i j => .int (i * j)
def gMod := iOpC (fun _ j => decide (0 < j)) fun i j => .int (i % j)
def cDiv (_ j : Int) : Bool := decide (0 < j) && decide (j.natAbs.log2 < 9000)
def gDiv := iOpC cDiv fun i j => .int (i / j)
def cPow (i j : Int) : Bool := decide (0 ≤ j) && (decide (j ≤ 1000000) && decide (i.natAbs < 2 ^ 64))
def gPow := iOpC cPow fun i j => .int (i ^ j.toNat)
def gLt := iOp fun i j => .bl (decide (i < j))
def gLe := iOp fun i j => .bl (decide (i ≤ j))
def gGt := iOp fun i j => .bl (decide (j < i))
def gGe := iOp fun i j => .bl (decide (j ≤ i))
def nNeg : Va → Option Va
  | .int i => some (.int (-i))
  | _ => none
def gIxT : Mem → Va → Va → Option Va := fun _ x y => match x, y with
  | .tup vs, .int i => atI vs i
  | _, _ => none
/-- what a list holds -/
def lstAt (M : Mem) : Va → Option (List Va)
  | .ref k => match M[k]? with
    | some (.lst vs) => some vs
    | _ => none
  | .fl vs => some vs
  | _ => none
def gIxL : Mem → Va → Va → Option Va := fun M x y => match y with
  | .int i => bnd (lstAt M x) fun vs => atI vs i
  | _ => none
section
variable {K : PySem.W.Frag} {cA : Nat → Addr}
theorem atI_rp {φ : List Addr} {H : Hp} {xs : List V} {vs : List Va} {i : Int} {v : Va} (r : RpAll K φ H xs vs) (h : atI vs i = some v) : ∃ x, atI xs i = some x ∧ Rp K φ H x v := by
  unfold atI at h ⊢
  rw [r.length]
  cases e : ixN vs.length i with
  | none => rw [e] at h; cases h
  | some j =>
    rw [e] at h
    exact r.get h
theorem lstAt_sq {φ : List Addr} {H : Hp} {M : Mem} {x : V} {v : Va} {vs : List Va} (S : Sim K cA φ H M) (r : Rp K φ H x v) (h : lstAt M v = some vs) : ∃ a xs, x = .ref a ∧ SqL K H a xs ∧ RpAll K φ H xs vs := by
  cases v with
  | ref k =>
    obtain ⟨a, rfl, hk⟩ := rp_ref r
    unfold lstAt at h
    dsimp only at h
    split at h
    · rename_i ws e
      cases h
      obtain ⟨xs, hl, ra⟩ := S.ob k a _ hk e
      exact ⟨a, xs, rfl, .inl (.inl hl), ra⟩
    · cases h
  | fl ws =>
    cases h
    obtain ⟨a, xs, rfl, hf, ra⟩ := rp_fl r
    exact ⟨a, xs, rfl, hf.sq, ra⟩
  | non => cases h
  | bl b => cases h
  | int i => cases h
  | str x => cases h
  | tup vs => cases h
variable {ta tb tc te tx ty : TE} {f f1 f2 f3 : FE} {t u : TT} {ft fu : FT} {r r' : R2} {tr : TA} {fa : FA}
theorem ev_c {x : V} {v : Va} (h : ∀ φ H, Rp K φ H x v) : EV K cA (tC x) (vC v) := fun φ σ H ρ M w M' e S E Q q => by
  cases e
  exact q _ H φ .refl S (h φ H)
theorem ev_int {i : Int} : EV K cA (tC (.int i)) (vC (.int i)) := ev_c fun _ _ => .int i
theorem ev_bl {i : Bool} : EV K cA (tC (.bl i)) (vC (.bl i)) := ev_c fun _ _ => .bl i
theorem ev_str {i : Str} : EV K cA (tC (.str i)) (vC (.str i)) := ev_c fun _ _ => .str i
theorem ev_non : EV K cA (tC .non) (vC .non) := ev_c fun _ _ => .non
theorem ev_var {k : Nat} : EV K cA (tVar k) (vVar k) := fun φ σ H ρ M w M' e S E Q q => by
  unfold vVar at e
  split at e
  · rename_i v hv
    cases e
    obtain ⟨x, hx, rx⟩ := E.get k _ hv
    exact ⟨x, hx, q x H φ .refl S rx⟩
  · cases e
theorem av_nil : AV K cA tNil aNil := fun φ σ H ρ M w M' e S E Q q => by
  cases e
  exact q [] H φ .refl S .nil
theorem av_cons (h : EV K cA ta f) (hr : AV K cA tr fa) : AV K cA (tCons ta tr) (aCons f fa) := fun φ σ H ρ M w M' e S E Q q => by
  obtain ⟨p, e1, e⟩ := bnd_ok e
  obtain ⟨p2, e2, e⟩ := bnd_ok e
  cases e
  exact h φ σ H ρ M _ _ e1 S E _ fun x H1 φ1 s1 S1 r1 => hr φ1 σ H1 ρ _ _ _ e2 S1 (E.stp s1) _ fun xs H2 φ2 s2 S2 r2 => q (x :: xs) H2 φ2 (s1.trans s2) S2 (.cons (r1.mono s2.pre s2.nl) r2)
theorem ev_tup (h : AV K cA tr fa) : EV K cA (tTup tr) (vTup fa) := fun φ σ H ρ M w M' e S E Q q => by
  obtain ⟨p, e1, e⟩ := bnd_ok e
  split at e
  · rename_i hl
    cases e
    exact h φ σ H ρ M _ _ e1 S E _ fun xs H1 φ1 s1 S1 r1 => ⟨sz_of (by rw [r1.length]; exact hl), fun a ha =>
      q _ _ φ1 (s1.trans (.new ha)) (S1.ex (.new ha)) (.tup (st_of upd_same) (r1.mono (List.prefix_refl _) (.new ha)))⟩
  · cases e
theorem lv_lst (h : AV K cA tr fa) : LV K cA (tLst tr) (lLst fa) := fun φ σ H ρ M w M' e S E Q q => by
  obtain ⟨p, e1, e⟩ := bnd_ok e
  split at e
  · rename_i hl
    cases e
    exact h φ σ H ρ M _ _ e1 S E _ fun xs H1 φ1 s1 S1 r1 => ⟨sz_of (by rw [r1.length]; exact hl), fun a ha => by
      have hn : H a = none := by
        cases e : H a with
        | none => rfl
        | some o =>
          by_cases c : a ∈ φ
          · obtain ⟨u, hu⟩ := S1.has (s1.pre.subset c)
            rw [ha] at hu
            cases hu
          · rw [s1.kp a o e (.inr c)] at ha
            cases ha
      exact q a xs _ φ1 hn (S1.notin ha) upd_same (s1.trans (.new ha)) (S1.ex (.new ha)) (r1.mono (List.prefix_refl _) (.new ha))⟩
  · cases e
theorem ev_trk (h : LV K cA te fa) : EV K cA te (vTrk fa) := fun φ σ H ρ M w M' e S E Q q => by
  obtain ⟨p, e1, e⟩ := bnd_ok e
  cases e
  refine h φ σ H ρ M _ _ e1 S E _ fun a xs H1 φ1 hn hni hl s1 S1 r1 => q _ _ _ (s1.track hn) (S1.track hni ⟨xs, hl, r1⟩) (.ref ?_)
  rw [← S1.len, List.getElem?_append_right (Nat.le_refl _), Nat.sub_self]
  rfl
/-- two-place operations -/
def RG (K : PySem.W.Frag) (cA : Nat → Addr) (r : R2) (g : Mem → Va → Va → Option Va) : Prop := ∀ φ H M x y v w z, Sim K cA φ H M → Rp K φ H x v → Rp K φ H y w → g M v w = some z → ∀ Q : VK, (∀ u H', Stp φ H φ H' → Sim K cA φ H' M → Rp K φ H' u z → Q u H') → r x y H Q
theorem ev_op {g : Mem → Va → Va → Option Va} (hr : RG K cA r g) (ha : EV K cA ta f1) (hb : EV K cA tb f2) : EV K cA (tOp r ta tb) (vOp g f1 f2) := fun φ σ H ρ M w M' e S E Q q => by
  obtain ⟨p, e1, e⟩ := bnd_ok e
  obtain ⟨p2, e2, e⟩ := bnd_ok e
  obtain ⟨z, e3, e⟩ := bnd_ok e
  cases e
  exact ha φ σ H ρ M _ _ e1 S E _ fun x H1 φ1 s1 S1 r1 => hb φ1 σ H1 ρ _ _ _ e2 S1 (E.stp s1) _ fun y H2 φ2 s2 S2 r2 =>
    hr φ2 H2 _ x y _ _ _ S2 (r1.mono s2.pre s2.nl) r2 e3 Q fun u H3 s3 S3 r3 => q u H3 φ2 ((s1.trans s2).trans s3) S3 r3
theorem rg_i0 {g : Int → Int → V} {h : Int → Int → Va} (hg : ∀ φ H a b, Rp K φ H (g a b) (h a b)) : RG K cA (rI0 g) (iOp h) := fun φ H M x y v w z S rx ry e Q q => by
  unfold iOp at e
  split at e
  · rename_i i j
    cases e
    exact ⟨i, j, rp_int rx, rp_int ry, q _ H .refl S (hg φ H i j)⟩
  · cases e
theorem rg_i {C : Int → Int → Prop} {c : Int → Int → Bool} {g : Int → Int → V} {h : Int → Int → Va} (hg : ∀ φ H a b, Rp K φ H (g a b) (h a b)) (hc : ∀ i j, c i j = true → C i j) : RG K cA (rI C g) (iOpC c h) := fun φ H M x y v w z S rx ry e Q q => by
  unfold iOpC at e
  split at e
  · rename_i i j
    split at e
    · rename_i k
      cases e
      exact ⟨i, j, rp_int rx, rp_int ry, hc i j k, q _ H .refl S (hg φ H i j)⟩
    · cases e
  · cases e
theorem rg_add : RG K cA (rI0 fun i j => .int (i + j)) gAdd := rg_i0 fun _ _ _ _ => .int _
theorem rg_sub : RG K cA (rI0 fun i j => .int (i - j)) gSubI := rg_i0 fun _ _ _ _ => .int _
theorem rg_mul : RG K cA (rI CMul fun i j => .int (i * j)) gMul := rg_i (fun _ _ _ _ => .int _) fun i j h => by
  unfold cMul at h
  rw [Bool.or_eq_true, Bool.and_eq_true_iff, Bool.and_eq_true_iff] at h
  rcases h with ⟨a, b⟩ | ⟨a, b⟩
  · exact .inl ⟨of_decide_eq_true a, of_decide_eq_true b⟩
  · exact .inr ⟨of_decide_eq_true a, of_decide_eq_true b⟩
theorem rg_mod : RG K cA (rI (fun _ j => 0 < j) fun i j => .int (i % j)) gMod := rg_i (fun _ _ _ _ => .int _) fun i j h => of_decide_eq_true h
theorem rg_div : RG K cA (rI CDivW fun i j => .int (i / j)) gDiv := rg_i (fun _ _ _ _ => .int _) fun i j h => by
  have h' := Bool.and_eq_true_iff.mp h
  exact ⟨of_decide_eq_true h'.1, of_decide_eq_true h'.2⟩
theorem rg_pow : RG K cA (rI CPow fun i j => .int (i ^ j.toNat)) gPow := rg_i (fun _ _ _ _ => .int _) fun i j h => by
  have h' := Bool.and_eq_true_iff.mp h
  have h2 := Bool.and_eq_true_iff.mp h'.2
  exact ⟨of_decide_eq_true h'.1, of_decide_eq_true h2.1, of_decide_eq_true h2.2⟩
theorem rg_lt : RG K cA (rI0 fun i j => .bl (decide (i < j))) gLt := rg_i0 fun _ _ _ _ => .bl _
theorem rg_le : RG K cA (rI0 fun i j => .bl (decide (i ≤ j))) gLe := rg_i0 fun _ _ _ _ => .bl _
theorem rg_gt : RG K cA (rI0 fun i j => .bl (decide (j < i))) gGt := rg_i0 fun _ _ _ _ => .bl _
theorem rg_ge : RG K cA (rI0 fun i j => .bl (decide (j ≤ i))) gGe := rg_i0 fun _ _ _ _ => .bl _
theorem rg_ixT : RG K cA (rIxT K) gIxT := fun φ H M x y v w z S rx ry e Q q => by
  unfold gIxT at e
  split at e
  · rename_i vs i
    obtain ⟨a, xs, rfl, hs, ra⟩ := rp_tup rx
    obtain ⟨u, hu, ru⟩ := atI_rp ra e
    exact ⟨a, xs, i, u, rfl, rp_int ry, hs, hu, q u H .refl S ru⟩
  · cases e
theorem rg_ixL : RG K cA (rIxL K) gIxL := fun φ H M x y v w z S rx ry e Q q => by
  unfold gIxL at e
  split at e
  · rename_i i
    obtain ⟨vs, e1, e2⟩ := bnd_ok e
    obtain ⟨a, xs, rfl, hs, ra⟩ := lstAt_sq S rx e1
    obtain ⟨u, hu, ru⟩ := atI_rp ra e2
    exact ⟨a, xs, i, u, rfl, rp_int ry, hs, hu, q u H .refl S ru⟩
  · cases e
/-- a new list by an operation -/
def RL (K : PySem.W.Frag) (cA : Nat → Addr) (r : R2) (g : Mem → Va → Va → Option (List Va)) : Prop := ∀ φ H M x y v w vs, Sim K cA φ H M → Rp K φ H x v → Rp K φ H y w → g M v w = some vs → ∀ Q : VK, (∀ a xs, H a = none → RpAll K φ H xs vs → Q (.ref a) (upd H a (.lst xs))) → r x y H Q
theorem none_back {φ φ1 : List Addr} {H H1 : Hp} {M1 : Mem} {a : Addr} (S1 : Sim K cA φ1 H1 M1) (s1 : Stp φ H φ1 H1) (ha : H1 a = none) : H a = none := by
  cases e : H a with
  | none => rfl
  | some o =>
    by_cases c : a ∈ φ
    · obtain ⟨u, hu⟩ := S1.has (s1.pre.subset c)
      rw [ha] at hu
      cases hu
    · rw [s1.kp a o e (.inr c)] at ha
      cases ha
theorem lv_op {g : Mem → Va → Va → Option (List Va)} (hr : RL K cA r g) (ha : EV K cA ta f1) (hb : EV K cA tb f2) : LV K cA (tOp r ta tb) (lOp g f1 f2) := fun φ σ H ρ M w M' e S E Q q => by
  obtain ⟨p, e1, e⟩ := bnd_ok e
  obtain ⟨p2, e2, e⟩ := bnd_ok e
  obtain ⟨z, e3, e⟩ := bnd_ok e
  cases e
  exact ha φ σ H ρ M _ _ e1 S E _ fun x H1 φ1 s1 S1 r1 => hb φ1 σ H1 ρ _ _ _ e2 S1 (E.stp s1) _ fun y H2 φ2 s2 S2 r2 =>
    hr φ2 H2 _ x y _ _ _ S2 (r1.mono s2.pre s2.nl) r2 e3 Q fun a xs hn r3 => q a xs _ φ2 (none_back S2 (s1.trans s2) hn) (S2.notin hn) upd_same ((s1.trans s2).trans (.new hn)) (S2.ex (.new hn)) (r3.mono (List.prefix_refl _) (.new hn))
def gCat : Mem → Va → Va → Option (List Va) := fun M x y => match x, y with
  | .ref j, .ref k => bnd (lstAt M (.ref j)) fun vs => bnd (lstAt M (.ref k)) fun ws => if vs.length + ws.length ≤ 100000 then some (vs ++ ws) else none
  | _, _ => none
theorem lstAt_ref {φ : List Addr} {H : Hp} {M : Mem} {x : V} {k : Nat} {vs : List Va} (S : Sim K cA φ H M) (r : Rp K φ H x (.ref k)) (h : lstAt M (.ref k) = some vs) : ∃ a xs, x = .ref a ∧ a ∈ φ ∧ φ[k]? = some a ∧ M[k]? = some (.lst vs) ∧ H a = some (.lst xs) ∧ RpAll K φ H xs vs := by
  obtain ⟨a, rfl, hk⟩ := rp_ref r
  unfold lstAt at h
  dsimp only at h
  split at h
  · rename_i ws e
    cases h
    obtain ⟨xs, hl, ra⟩ := S.ob k a _ hk e
    exact ⟨a, xs, rfl, List.mem_of_getElem? hk, hk, e, hl, ra⟩
  · cases h
theorem rl_cat : RL K cA rCat gCat := fun φ H M x y v w z S rx ry e Q q => by
  unfold gCat at e
  split at e
  · rename_i i j
    obtain ⟨vs, e1, e⟩ := bnd_ok e
    obtain ⟨ws, e2, e⟩ := bnd_ok e
    split at e
    · rename_i hl
      cases e
      obtain ⟨a, xs, rfl, _, _, _, hs, ra⟩ := lstAt_ref S rx e1
      obtain ⟨b, ys, rfl, _, _, _, hs2, ra2⟩ := lstAt_ref S ry e2
      exact ⟨a, b, xs, ys, rfl, rfl, hs, hs2, sz_of (by rw [ra.length, ra2.length]; exact hl), fun p hp => q p _ hp (ra.append ra2)⟩
    · cases e
  · cases e
theorem ev_un {r : V → Hp → VK → Prop} {g : Va → Option Va} (hr : ∀ φ H x v z, Rp K φ H x v → g v = some z → ∀ Q : VK, (∀ y, Rp K φ H y z → Q y H) → r x H Q) (ha : EV K cA ta f) : EV K cA (tUn r ta) (vUn g f) := fun φ σ H ρ M w M' e S E Q q => by
  obtain ⟨p, e1, e⟩ := bnd_ok e
  obtain ⟨z, e3, e⟩ := bnd_ok e
  cases e
  exact ha φ σ H ρ M _ _ e1 S E _ fun x H1 φ1 s1 S1 r1 => hr φ1 H1 x _ _ r1 e3 Q fun y ry => q y H1 φ1 s1 S1 ry
theorem ev_neg (ha : EV K cA ta f) : EV K cA (tUn (rU fun i => .int (-i)) ta) (vUn nNeg f) := ev_un (fun φ H x v z r e Q q => by
  unfold nNeg at e
  split at e
  · rename_i i
    cases e
    exact ⟨i, rp_int r, q _ (.int _)⟩
  · cases e) ha
theorem ev_isN (ha : EV K cA ta f) : EV K cA (tIsN ta) (vUn (fun v => some (.bl (isN v))) f) := fun φ σ H ρ M w M' e S E Q q => by
  obtain ⟨p, e1, e⟩ := bnd_ok e
  cases e
  exact ha φ σ H ρ M _ _ e1 S E _ fun x H1 φ1 s1 S1 r1 => by
    rw [rp_isN r1]
    exact q _ H1 φ1 s1 S1 (.bl _)
theorem ev_notN (ha : EV K cA ta f) : EV K cA (tNotN ta) (vUn (fun v => some (.bl (!isN v))) f) := fun φ σ H ρ M w M' e S E Q q => by
  obtain ⟨p, e1, e⟩ := bnd_ok e
  cases e
  exact ha φ σ H ρ M _ _ e1 S E _ fun x H1 φ1 s1 S1 r1 => by
    rw [rp_isN r1]
    exact q _ H1 φ1 s1 S1 (.bl _)
theorem asB_ok {v : Va} {b : Bool} (h : asB v = some b) : v = .bl b := by
  cases v <;> cases h
  rfl
theorem tb_ok {f : FE} {ρ : Ro} {M M' : Mem} {b : Bool} (h : tB' f ρ M = some (b, M')) : f ρ M = some (.bl b, M') := by
  obtain ⟨p, e1, e⟩ := bnd_ok h
  obtain ⟨z, e3, e⟩ := bnd_ok e
  cases e
  rw [e1, ← asB_ok e3]
theorem ev_and (ha : EV K cA ta f1) (hb : EV K cA tb f2) : EV K cA (tAndV ta tb) (vAnd f1 f2) := fun φ σ H ρ M w M' e S E Q q => by
  obtain ⟨⟨b, M1⟩, e1, e⟩ := bnd_ok e
  refine ha φ σ H ρ M _ _ (tb_ok e1) S E _ fun x H1 φ1 s1 S1 r1 => ⟨b, rp_bl r1, ?_⟩
  cases b with
  | true => exact hb φ1 σ H1 ρ _ _ _ e S1 (E.stp s1) Q fun y H2 φ2 s2 S2 r2 => q y H2 φ2 (s1.trans s2) S2 r2
  | false =>
    cases e
    exact q _ H1 φ1 s1 S1 (.bl _)
theorem ev_or (ha : EV K cA ta f1) (hb : EV K cA tb f2) : EV K cA (tOrV ta tb) (vOr f1 f2) := fun φ σ H ρ M w M' e S E Q q => by
  obtain ⟨⟨b, M1⟩, e1, e⟩ := bnd_ok e
  refine ha φ σ H ρ M _ _ (tb_ok e1) S E _ fun x H1 φ1 s1 S1 r1 => ⟨b, rp_bl r1, ?_⟩
  cases b with
  | false => exact hb φ1 σ H1 ρ _ _ _ e S1 (E.stp s1) Q fun y H2 φ2 s2 S2 r2 => q y H2 φ2 (s1.trans s2) S2 r2
  | true =>
    cases e
    exact q _ H1 φ1 s1 S1 (.bl _)
theorem ev_not (ha : EV K cA ta f1) : EV K cA (tNotV ta) (vNot f1) := fun φ σ H ρ M w M' e S E Q q => by
  obtain ⟨⟨b, M1⟩, e1, e⟩ := bnd_ok e
  cases e
  exact ha φ σ H ρ M _ _ (tb_ok e1) S E _ fun x H1 φ1 s1 S1 r1 => ⟨b, rp_bl r1, q _ H1 φ1 s1 S1 (.bl _)⟩
theorem ev_if (h : TV K cA t ft) (ha : EV K cA ta f1) (hb : EV K cA tb f2) : EV K cA (tIf t ta tb) (vIf ft f1 f2) := fun φ σ H ρ M w M' e S E Q q => by
  obtain ⟨⟨b, M1⟩, e1, e⟩ := bnd_ok e
  refine h φ σ H ρ M _ _ e1 S E _ fun H1 φ1 s1 S1 => ?_
  cases b with
  | true =>
    show ta σ H1 Q
    exact ha φ1 σ H1 ρ _ _ _ e S1 (E.stp s1) Q fun y H2 φ2 s2 S2 r2 => q y H2 φ2 (s1.trans s2) S2 r2
  | false =>
    show tb σ H1 Q
    exact hb φ1 σ H1 ρ _ _ _ e S1 (E.stp s1) Q fun y H2 φ2 s2 S2 r2 => q y H2 φ2 (s1.trans s2) S2 r2
theorem ev_chain {g g' : Mem → Va → Va → Option Va} (hr : RG K cA r g) (hr' : RG K cA r' g') (ha : EV K cA ta f1) (hb : EV K cA tb f2) (hc : EV K cA tc f3) : EV K cA (tChain r r' ta tb tc) (vChain g g' f1 f2 f3) := fun φ σ H ρ M w M' e S E Q q => by
  obtain ⟨p, e1, e⟩ := bnd_ok e
  obtain ⟨p2, e2, e⟩ := bnd_ok e
  obtain ⟨z, e3, e⟩ := bnd_ok e
  obtain ⟨b, e4, e⟩ := bnd_ok e
  rw [asB_ok e4] at e3
  refine ha φ σ H ρ M _ _ e1 S E _ fun x H1 φ1 s1 S1 r1 => hb φ1 σ H1 ρ _ _ _ e2 S1 (E.stp s1) _ fun y H2 φ2 s2 S2 r2 =>
    hr φ2 H2 _ x y _ _ _ S2 (r1.mono s2.pre s2.nl) r2 e3 _ fun u H3 s3 S3 r3 => ⟨b, rp_bl r3, ?_⟩
  have s13 := (s1.trans s2).trans s3
  clear e4 e3
  cases b with
  | true =>
    show tc σ H3 _
    rw [if_pos rfl] at e
    obtain ⟨p3, e5, e⟩ := bnd_ok e
    obtain ⟨z2, e6, e⟩ := bnd_ok e
    cases e
    exact hc φ2 σ H3 ρ _ _ _ e5 S3 (E.stp s13) _ fun z H4 φ4 s4 S4 r4 => hr' φ4 H4 _ y z _ _ _ S4 (r2.mono (s3.trans s4).pre (s3.trans s4).nl) r4 e6 Q fun u H5 s5 S5 r5 => q u H5 φ4 ((s13.trans s4).trans s5) S5 r5
  | false =>
    rw [if_neg Bool.false_ne_true] at e
    cases e
    exact q _ H3 φ2 s13 S3 (.bl _)
theorem tv_B (h : EV K cA te f) : TV K cA (tB te) (tB' f) := fun φ σ H ρ M b M' e S E Q q =>
  h φ σ H ρ M _ _ (tb_ok e) S E _ fun x H1 φ1 s1 S1 r1 => ⟨b, rp_bl r1, q H1 φ1 s1 S1⟩
theorem tv_test (h : EV K cA te f) : TV K cA (tTest te) (tB' f) := fun φ σ H ρ M b M' e S E Q q =>
  h φ σ H ρ M _ _ (tb_ok e) S E _ fun x H1 φ1 s1 S1 r1 => ⟨b, rp_bl r1, q H1 φ1 s1 S1⟩
theorem tv_and (h : TV K cA t ft) (h2 : TV K cA u fu) : TV K cA (tAnd t u) (tAnd' ft fu) := fun φ σ H ρ M w M' e S E Q q => by
  obtain ⟨⟨b, M1⟩, e1, e⟩ := bnd_ok e
  refine h φ σ H ρ M _ _ e1 S E _ fun H1 φ1 s1 S1 => ?_
  cases b with
  | true =>
    show u σ H1 Q
    exact h2 φ1 σ H1 ρ _ _ _ e S1 (E.stp s1) Q fun H2 φ2 s2 S2 => q H2 φ2 (s1.trans s2) S2
  | false =>
    cases e
    exact q H1 φ1 s1 S1
theorem tv_or (h : TV K cA t ft) (h2 : TV K cA u fu) : TV K cA (tOr t u) (tOr' ft fu) := fun φ σ H ρ M w M' e S E Q q => by
  obtain ⟨⟨b, M1⟩, e1, e⟩ := bnd_ok e
  refine h φ σ H ρ M _ _ e1 S E _ fun H1 φ1 s1 S1 => ?_
  cases b with
  | false =>
    show u σ H1 Q
    exact h2 φ1 σ H1 ρ _ _ _ e S1 (E.stp s1) Q fun H2 φ2 s2 S2 => q H2 φ2 (s1.trans s2) S2
  | true =>
    cases e
    exact q H1 φ1 s1 S1
theorem tv_not (h : TV K cA t ft) : TV K cA (tNot t) (tNot' ft) := fun φ σ H ρ M w M' e S E Q q => by
  obtain ⟨⟨b, M1⟩, e1, e⟩ := bnd_ok e
  cases e
  exact h φ σ H ρ M _ _ e1 S E _ fun H1 φ1 s1 S1 => q H1 φ1 s1 S1
theorem tv_yes : TV K cA tYes tYes' := fun φ σ H ρ M w M' e S E Q q => by
  cases e
  exact q H φ .refl S
/-! ### calls -/
def CG (K : PySem.W.Frag) (cA : Nat → Addr) (r : List V → Hp → VK → Prop) (g : Mem → List Va → Option Va) : Prop := ∀ φ H M xs vs z, Sim K cA φ H M → RpAll K φ H xs vs → g M vs = some z → ∀ Q : VK, (∀ u H', Stp φ H φ H' → Sim K cA φ H' M → Rp K φ H' u z → Q u H') → r xs H Q
theorem ev_cb {r : List V → Hp → VK → Prop} {g : Mem → List Va → Option Va} (hr : CG K cA r g) (ha : AV K cA tr fa) : EV K cA (tCB r tr) (vCB g fa) := fun φ σ H ρ M w M' e S E Q q => by
  obtain ⟨p, e1, e⟩ := bnd_ok e
  obtain ⟨z, e3, e⟩ := bnd_ok e
  cases e
  exact ha φ σ H ρ M _ _ e1 S E _ fun xs H1 φ1 s1 S1 r1 => hr φ1 H1 _ xs _ _ S1 r1 e3 Q fun u H2 s2 S2 r2 => q u H2 φ1 (s1.trans s2) S2 r2
def lenG : Mem → List Va → Option Va := fun M vs => match vs with
  | [.tup ws] => some (.int ws.length)
  | [v] => bnd (lstAt M v) fun ws => some (.int ws.length)
  | _ => none
theorem cg_len : CG K cA (fun xs H Q => ∃ p ys, xs = [V.ref p] ∧ (SqL K H p ys ∨ SqT K H p ys) ∧ Q (.int ys.length) H) lenG := fun φ H M xs vs z S r e Q q => by
  unfold lenG at e
  split at e
  · cases e
    obtain ⟨x, rfl, r1⟩ := rpAll1 r
    obtain ⟨a, ys, rfl, hs, ra⟩ := rp_tup r1
    exact ⟨a, ys, rfl, .inr hs, by rw [ra.length]; exact q _ H .refl S (.int _)⟩
  · obtain ⟨ws, e1, e⟩ := bnd_ok e
    cases e
    obtain ⟨x, rfl, r1⟩ := rpAll1 r
    obtain ⟨a, ys, rfl, hs, ra⟩ := lstAt_sq S r1 e1
    exact ⟨a, ys, rfl, .inl hs, by rw [ra.length]; exact q _ H .refl S (.int _)⟩
  · cases e
def intG : Mem → List Va → Option Va := fun _ vs => match vs with
  | [.int i] => some (.int i)
  | [.bl b] => some (.int (if b then 1 else 0))
  | _ => none
theorem cg_int : CG K cA (fun xs H Q => (∃ i, xs = [V.int i] ∧ Q (.int i) H) ∨ ∃ k, xs = [V.bl k] ∧ Q (.int (if k then 1 else 0)) H) intG := fun φ H M xs vs z S r e Q q => by
  unfold intG at e
  split at e
  · cases e
    obtain ⟨x, rfl, r1⟩ := rpAll1 r
    cases r1
    exact .inl ⟨_, rfl, q _ H .refl S (.int _)⟩
  · cases e
    obtain ⟨x, rfl, r1⟩ := rpAll1 r
    cases r1
    exact .inr ⟨_, rfl, q _ H .refl S (.int _)⟩
  · cases e
def absG : Mem → List Va → Option Va := fun _ vs => match vs with
  | [.int i] => some (.int (if i < 0 then -i else i))
  | _ => none
theorem cg_abs : CG K cA (fun xs H Q => ∃ i, xs = [V.int i] ∧ Q (.int (if i < 0 then -i else i)) H) absG := fun φ H M xs vs z S r e Q q => by
  unfold absG at e
  split at e
  · cases e
    obtain ⟨x, rfl, r1⟩ := rpAll1 r
    cases r1
    exact ⟨_, rfl, q _ H .refl S (.int _)⟩
  · cases e
def maxG : Mem → List Va → Option Va := fun _ vs => match vs with
  | [.int i, .int j] => some (.int (if j > i then j else i))
  | _ => none
theorem cg_max : CG K cA (fun xs H Q => ∃ i j, xs = [V.int i, V.int j] ∧ Q (.int (if j > i then j else i)) H) maxG := fun φ H M xs vs z S r e Q q => by
  unfold maxG at e
  split at e
  · cases e
    obtain ⟨x, y, rfl, r1, r2⟩ := rpAll2 r
    cases r1
    cases r2
    exact ⟨_, _, rfl, q _ H .refl S (.int _)⟩
  · cases e
def minG : Mem → List Va → Option Va := fun _ vs => match vs with
  | [.int i, .int j] => some (.int (if j < i then j else i))
  | _ => none
theorem cg_min : CG K cA (fun xs H Q => ∃ i j, xs = [V.int i, V.int j] ∧ Q (.int (if j < i then j else i)) H) minG := fun φ H M xs vs z S r e Q q => by
  unfold minG at e
  split at e
  · cases e
    obtain ⟨x, y, rfl, r1, r2⟩ := rpAll2 r
    cases r1
    cases r2
    exact ⟨_, _, rfl, q _ H .refl S (.int _)⟩
  · cases e
/-- tuple(x) of a list or tuple; list(x) -/
def seqG (M : Mem) : List Va → Option (List Va)
  | [.tup ws] => some ws
  | [v] => lstAt M v
  | _ => none
def tupG : Mem → List Va → Option Va := fun M vs => bnd (seqG M vs) fun ws => some (.tup ws)
theorem cg_tuple : CG K cA (fun xs H Q => ∃ p ys, xs = [V.ref p] ∧ ((SqL K H p ys ∧ ∀ l, H l = none → Q (.ref l) (upd H l (.tup ys))) ∨ (SqT K H p ys ∧ Q (.ref p) H))) tupG := fun φ H M xs vs z S r e Q q => by
  obtain ⟨ws, e1, e⟩ := bnd_ok e
  cases e
  unfold seqG at e1
  split at e1
  · cases e1
    obtain ⟨x, rfl, r1⟩ := rpAll1 r
    obtain ⟨a, ys, rfl, hs, ra⟩ := rp_tup r1
    exact ⟨a, ys, rfl, .inr ⟨hs, q _ H .refl S (.tup hs ra)⟩⟩
  · obtain ⟨x, rfl, r1⟩ := rpAll1 r
    obtain ⟨a, ys, rfl, hs, ra⟩ := lstAt_sq S r1 e1
    exact ⟨a, ys, rfl, .inl ⟨hs, fun l hl => q _ _ (.new hl) (S.ex (.new hl)) (.tup (st_of upd_same) (ra.mono (List.prefix_refl _) (.new hl)))⟩⟩
  · cases e1
theorem lv_list (ha : AV K cA tr fa) : LV K cA (tCB (fun xs H Q => ∃ p ys, xs = [V.ref p] ∧ (SqL K H p ys ∨ SqT K H p ys) ∧ ∀ l, H l = none → Q (.ref l) (upd H l (.lst ys))) tr) (lCB seqG fa) := fun φ σ H ρ M w M' e S E Q q => by
  obtain ⟨p, e1, e⟩ := bnd_ok e
  obtain ⟨z, e3, e⟩ := bnd_ok e
  cases e
  refine ha φ σ H ρ M _ _ e1 S E _ fun xs H1 φ1 s1 S1 r1 => ?_
  unfold seqG at e3
  split at e3
  · rename_i ws es
    cases e3
    rw [es] at r1
    obtain ⟨x, rfl, r2⟩ := rpAll1 r1
    obtain ⟨a, ys, rfl, hs, ra⟩ := rp_tup r2
    exact ⟨a, ys, rfl, .inr hs, fun l hl => q l ys _ φ1 (none_back S1 s1 hl) (S1.notin hl) upd_same (s1.trans (.new hl)) (S1.ex (.new hl)) (ra.mono (List.prefix_refl _) (.new hl))⟩
  · rename_i v _ es
    rw [es] at r1
    obtain ⟨x, rfl, r2⟩ := rpAll1 r1
    obtain ⟨a, ys, rfl, hs, ra⟩ := lstAt_sq S1 r2 e3
    exact ⟨a, ys, rfl, .inl hs, fun l hl => q l ys _ φ1 (none_back S1 s1 hl) (S1.notin hl) upd_same (s1.trans (.new hl)) (S1.ex (.new hl)) (ra.mono (List.prefix_refl _) (.new hl))⟩
  · cases e3
def bools : List Va → Option (List Bool)
  | [] => some []
  | v :: vs => bnd (asB v) fun b => bnd (bools vs) fun bs => some (b :: bs)
theorem bools_ok : ∀ {vs : List Va} {bs : List Bool}, bools vs = some bs → vs = bs.map Va.bl
  | [], bs, h => by cases h; rfl
  | v :: vs, bs, h => by
    obtain ⟨b, e1, h⟩ := bnd_ok h
    obtain ⟨cs, e2, h⟩ := bnd_ok h
    cases h
    rw [asB_ok e1, bools_ok e2]
    rfl
theorem bools_map : ∀ bs : List Bool, bools (bs.map Va.bl) = some bs
  | [] => rfl
  | b :: bs => by
    show bnd (some b) (fun b => bnd (bools (bs.map Va.bl)) fun bs => some (b :: bs)) = _
    rw [bools_map bs]
    rfl
def anyL (vs : List Va) : Option Va := bnd (bools vs) fun bs => some (.bl (bs.any id))
def allL (vs : List Va) : Option Va := bnd (bools vs) fun bs => some (.bl (bs.all id))
/-- any, all, tuple of a new list that is not kept -/
theorem ev_of {r : List V → Hp → VK → Prop} {g : List Va → Option Va}
    (hr : ∀ φ H M a xs vs z, Sim K cA φ H M → H a = some (.lst xs) → RpAll K φ H xs vs → g vs = some z → ∀ Q : VK, (∀ u H', Stp φ H φ H' → Sim K cA φ H' M → Rp K φ H' u z → Q u H') → r [.ref a] H Q)
    (ha : LV K cA te fa) : EV K cA (tCB r (tCons te tNil)) (vOf g fa) := fun φ σ H ρ M w M' e S E Q q => by
  obtain ⟨p, e1, e⟩ := bnd_ok e
  obtain ⟨z, e3, e⟩ := bnd_ok e
  cases e
  exact ha φ σ H ρ M _ _ e1 S E _ fun a xs H1 φ1 _ _ hl s1 S1 r1 => hr φ1 H1 _ a xs _ _ S1 hl r1 e3 Q fun u H2 s2 S2 r2 => q u H2 φ1 (s1.trans s2) S2 r2
theorem ev_anyL (ha : LV K cA te fa) : EV K cA (tCB (rAny K) (tCons te tNil)) (vOf anyL fa) := ev_of (fun φ H M a xs vs z S hl r e Q q => by
  obtain ⟨bs, e1, e⟩ := bnd_ok e
  cases e
  rw [bools_ok e1] at r
  rw [rp_bools r] at hl
  exact ⟨a, bs, rfl, .inl (.inl hl), q _ H .refl S (.bl _)⟩) ha
theorem ev_allL (ha : LV K cA te fa) : EV K cA (tCB (rAll K) (tCons te tNil)) (vOf allL fa) := ev_of (fun φ H M a xs vs z S hl r e Q q => by
  obtain ⟨bs, e1, e⟩ := bnd_ok e
  cases e
  rw [bools_ok e1] at r
  rw [rp_bools r] at hl
  exact ⟨a, bs, rfl, .inl (.inl hl), q _ H .refl S (.bl _)⟩) ha
theorem ev_tupL (ha : LV K cA te fa) : EV K cA (tCB (fun xs H Q => ∃ p ys, xs = [V.ref p] ∧ ((SqL K H p ys ∧ ∀ l, H l = none → Q (.ref l) (upd H l (.tup ys))) ∨ (SqT K H p ys ∧ Q (.ref p) H))) (tCons te tNil)) (vOf (fun vs => some (.tup vs)) fa) := ev_of (fun φ H M a xs vs z S hl r e Q q => by
  cases e
  exact ⟨a, xs, rfl, .inl ⟨.inl (.inl hl), fun l hn => q _ _ (.new hn) (S.ex (.new hn)) (.tup (st_of upd_same) (r.mono (List.prefix_refl _) (.new hn)))⟩⟩) ha
end
end VM
namespace VM
open PySem PySem.Spec PyProof.Rows L2 Evl
/-! ### walks -/
def iT (f : FE) : FI := fun ρ M => bnd (f ρ M) fun p => match p.1 with
  | .tup vs => some (vs, [], p.2)
  | _ => none
def gdOf (v : Va) (vs : List Va) : Gd := match v with
  | .ref k => [(k, vs)]
  | _ => []
def iL (f : FE) : FI := fun ρ M => bnd (f ρ M) fun p => bnd (lstAt p.2 p.1) fun vs => some (vs, gdOf p.1 vs, p.2)
def iNL (f : FA) : FI := fun ρ M => bnd (f ρ M) fun p => some (p.1, [], p.2)
def rngV (lo : Int) (n : Nat) : List Va := (List.range n).map fun (i : Nat) => .int (lo + (i : Int))
def iR1 (f : FA) : FI := fun ρ M => bnd (f ρ M) fun p => match p.1 with
  | [.int n] => if -(2 ^ 62) ≤ n ∧ n < 2 ^ 62 then some (rngV 0 n.toNat, [], p.2) else none
  | _ => none
def iR2 (f : FA) : FI := fun ρ M => bnd (f ρ M) fun p => match p.1 with
  | [.int m, .int n] => if -(2 ^ 62) ≤ m ∧ m < 2 ^ 62 ∧ -(2 ^ 62) ≤ n ∧ n < 2 ^ 62 then some (rngV m (n - m).toNat, [], p.2) else none
  | _ => none
def enumV : Nat → List Va → List Va
  | _, [] => []
  | n, v :: vs => .tup [.int n, v] :: enumV (n + 1) vs
def iEn (f : FA) : FI := fun ρ M => bnd (f ρ M) fun p => match p.1 with
  | [x] => bnd (lstAt p.2 x) fun vs => some (enumV 0 vs, gdOf x vs, p.2)
  | _ => none
def zipV : List Va → List Va → List Va
  | a :: as, b :: bs => .tup [a, b] :: zipV as bs
  | _, _ => []
def iZT (f : FA) : FI := fun ρ M => bnd (f ρ M) fun p => match p.1 with
  | [.tup as, .tup bs] => some (zipV as bs, [], p.2)
  | _ => none
theorem enumV_len : ∀ (n : Nat) (vs : List Va), (enumV n vs).length = vs.length
  | _, [] => rfl
  | n, v :: vs => congrArg (· + 1) (enumV_len (n + 1) vs)
theorem enumV_get : ∀ {n : Nat} {vs : List Va} {i : Nat} {v : Va}, (enumV n vs)[i]? = some v → ∃ w, vs[i]? = some w ∧ v = .tup [.int ((n + i : Nat) : Int), w]
  | _, [], _, _, e => by cases e
  | n, w :: vs, 0, v, e => by
    have e' := Option.some.inj e
    exact ⟨w, rfl, e'.symm⟩
  | n, w :: vs, i + 1, v, e => by
    obtain ⟨u, h1, h2⟩ := enumV_get (n := n + 1) (vs := vs) (i := i) e
    refine ⟨u, h1, ?_⟩
    rw [h2]
    have : n + 1 + i = n + (i + 1) := by omega
    rw [this]
theorem zipV_len : ∀ (as bs : List Va), (zipV as bs).length = min as.length bs.length
  | [], bs => by simp [zipV]
  | a :: as, [] => by simp [zipV]
  | a :: as, b :: bs => by
    show (zipV as bs).length + 1 = min (as.length + 1) (bs.length + 1)
    rw [zipV_len as bs]
    omega
theorem zipV_get : ∀ {as bs : List Va} {i : Nat} {v : Va}, (zipV as bs)[i]? = some v → ∃ a b, as[i]? = some a ∧ bs[i]? = some b ∧ v = .tup [a, b]
  | [], bs, i, v, e => by cases e
  | a :: as, [], i, v, e => by cases e
  | a :: as, b :: bs, 0, v, e => ⟨a, b, rfl, rfl, (Option.some.inj e).symm⟩
  | a :: as, b :: bs, i + 1, v, e => zipV_get (as := as) (bs := bs) (i := i) e
section
variable {K : PySem.W.Frag} {cA : Nat → Addr}
variable {ta tb tc te tx ty : TE} {f f1 f2 f3 : FE} {t u : TT} {ft fu : FT} {tr : TA} {fa : FA}
theorem walk_listL {a : Addr} {n : Nat} : Walk (Itl K a) n (fun H => ∃ xs, SqL K H a xs ∧ xs.length = n) (fun i H x H' => H' = H ∧ ∀ xs, SqL K H a xs → xs[i]? = some x) := by
  refine ⟨fun i H hi ⟨xs, q, hl⟩ => ?_, fun H ⟨xs, q, hl⟩ => ⟨xs, q, by omega⟩, fun i H x H' hi ⟨xs, q, hl⟩ y => ⟨y.1, y.2⟩⟩
  subst hl
  exact ⟨xs, xs[i], q, by simp [hi]⟩
theorem walk_enumL {a : Addr} {n : Nat} : Walk (Ite K a) n (fun H => ∃ xs, SqL K H a xs ∧ xs.length = n) (fun i H v H' => ∃ T x, v = .ref T ∧ H T = none ∧ H' = upd H T (.tup [.int (i : Nat), x]) ∧ ∀ xs, SqL K H a xs → xs[i]? = some x) := by
  refine ⟨fun i H hi ⟨xs, q, hl⟩ => ?_, fun H ⟨xs, q, hl⟩ => ⟨xs, q, by omega⟩, fun i H x H' hi ⟨xs, q, hl⟩ y => ?_⟩
  · subst hl
    exact ⟨xs, xs[i], q, by simp [hi]⟩
  · exact y
theorem wk_tup {a : Addr} {xs : List V} {vs : List Va} {φ : List Addr} {H : Hp} {g : Gd} (hs : SqT K H a xs) (r : RpAll K φ H xs vs) : Wk K cA (Itt K a) vs g φ H := by
  unfold Wk
  rw [← r.length]
  refine walk_tup.mono (fun H2 ⟨φ2, M2, s2, _⟩ => sqt_nl s2.nl hs) fun i H2 x H' hi _ ⟨e1, e2⟩ => ?_
  subst e1
  refine ⟨Ex.refl _, fun φ2 M2 s2 S2 _ v hv => ?_⟩
  obtain ⟨w, hw, rw'⟩ := r.get' e2
  rw [hv] at hw
  cases hw
  exact rw'.mono s2.pre s2.nl
theorem iv_tup (h : EV K cA te f) : IV K cA (iTup K te) (iT f) := fun φ σ H ρ M vs g M' e S E R k => by
  obtain ⟨p, e1, e⟩ := bnd_ok e
  split at e
  · rename_i ws ew
    cases e
    rw [show p = (p.1, p.2) from rfl, ew] at e1
    refine h φ σ H ρ M _ _ e1 S E _ fun x H1 φ1 s1 S1 r1 => ?_
    obtain ⟨a, xs, rfl, hs, ra⟩ := rp_tup r1
    exact ⟨a, rfl, ⟨xs, hs⟩, k _ H1 φ1 s1 S1 (wk_tup hs ra)⟩
  · cases e
theorem sq_ref {φ2 : List Addr} {H2 : Hp} {M2 : Mem} {k : Nat} {a : Addr} {vs : List Va} (S2 : Sim K cA φ2 H2 M2) (hk : φ2[k]? = some a) (hg : M2[k]? = some (.lst vs)) : ∃ xs, SqL K H2 a xs ∧ RpAll K φ2 H2 xs vs := by
  obtain ⟨xs, h, r⟩ := S2.ob k a _ hk hg
  exact ⟨xs, .inl (.inl h), r⟩
theorem sql_one {H : Hp} {a : Addr} {xs ys : List V} (h : H a = some (.lst xs)) (q : SqL K H a ys) (nk : K.lookup a = none) : ys = xs := by
  rcases q with (q | ⟨o, q⟩) | ⟨o, its, n, q, _⟩
  · rw [h] at q
    cases q
    rfl
  · rw [h] at q
    cases q
  · rw [nk] at q
    cases q
theorem wk_list {x : V} {v : Va} {vs : List Va} {φ : List Addr} {H : Hp} {M : Mem} (S : Sim K cA φ H M) (r : Rp K φ H x v) (hv : lstAt M v = some vs) : ∃ a, x = .ref a ∧ (∃ xs, SqL K H a xs) ∧ Wk K cA (Itl K a) vs (gdOf v vs) φ H := by
  have key : ∀ (a : Addr), (∀ φ2 H2 M2, Stp φ H φ2 H2 → Sim K cA φ2 H2 M2 → gok (gdOf v vs) M2 = true → ∃ xs, SqL K H2 a xs ∧ RpAll K φ2 H2 xs vs) → Wk K cA (Itl K a) vs (gdOf v vs) φ H := fun a hh => by
    refine walk_listL.mono (fun H2 ⟨φ2, M2, s2, S2, g2⟩ => ?_) fun i H2 y H' hi _ ⟨e1, e2⟩ => ⟨by subst e1; exact Ex.refl _, fun φ2 M2 s2 S2 g2 w hw => ?_⟩
    · obtain ⟨xs, q, ra⟩ := hh φ2 H2 M2 s2 S2 g2
      exact ⟨xs, q, ra.length⟩
    · obtain ⟨xs, q, ra⟩ := hh φ2 H2 M2 s2 S2 g2
      subst e1
      obtain ⟨w', hw', rw'⟩ := ra.get' (e2 xs q)
      rw [hw] at hw'
      cases hw'
      exact rw'
  cases v with
  | ref k =>
    obtain ⟨a, xs, rfl, _, hk, hM, hl, ra⟩ := lstAt_ref S r hv
    exact ⟨a, rfl, ⟨xs, .inl (.inl hl)⟩, key a fun φ2 H2 M2 s2 S2 g2 => sq_ref S2 (pre_get s2.pre hk) (gok_mem g2 (List.mem_singleton.mpr rfl))⟩
  | fl ws =>
    cases hv
    obtain ⟨a, xs, rfl, hf, ra⟩ := rp_fl r
    exact ⟨a, rfl, ⟨xs, hf.sq⟩, key a fun φ2 H2 M2 s2 S2 g2 => ⟨xs, (hf.nl s2.nl).sq, ra.mono s2.pre s2.nl⟩⟩
  | non => cases hv
  | bl b => cases hv
  | int i => cases hv
  | str x => cases hv
  | tup vs => cases hv
theorem iv_list (h : EV K cA te f) : IV K cA (iList K te) (iL f) := fun φ σ H ρ M vs g M' e S E R k => by
  obtain ⟨p, e1, e⟩ := bnd_ok e
  obtain ⟨ws, e2, e⟩ := bnd_ok e
  cases e
  refine h φ σ H ρ M _ _ e1 S E _ fun x H1 φ1 s1 S1 r1 => ?_
  obtain ⟨a, rfl, hx, w⟩ := wk_list S1 r1 e2
  exact ⟨a, rfl, hx, k _ H1 φ1 s1 S1 w⟩
/-- a new list that is walked and not kept -/
theorem iv_newL (h : LV K cA te fa) : IV K cA (iList K te) (iNL fa) := fun φ σ H ρ M vs g M' e S E R k => by
  obtain ⟨p, e1, e⟩ := bnd_ok e
  cases e
  refine h φ σ H ρ M _ _ e1 S E _ fun a xs H1 φ1 hn hni hl s1 S1 r1 => ⟨a, rfl, ⟨xs, .inl (.inl hl)⟩, k _ H1 φ1 s1 S1 ?_⟩
  have hq : ∀ φ2 H2, Stp φ1 H1 φ2 H2 → H2 a = some (.lst xs) := fun φ2 H2 s2 => s2.kp a _ hl (.inr hni)
  refine walk_listL.mono (fun H2 ⟨φ2, M2, s2, S2, g2⟩ => ⟨xs, .inl (.inl (hq φ2 H2 s2)), r1.length⟩) fun i H2 y H' hi _ ⟨e1, e2⟩ => ⟨by subst e1; exact Ex.refl _, fun φ2 M2 s2 S2 g2 w hw => ?_⟩
  subst e1
  obtain ⟨w', hw', rw'⟩ := (r1.mono s2.pre s2.nl).get' (e2 xs (.inl (.inl (hq φ2 _ s2))))
  rw [hw] at hw'
  cases hw'
  exact rw'
theorem rngV_len {lo : Int} {n : Nat} : (rngV lo n).length = n := by
  unfold rngV
  simp
theorem wk_rng {lo : Int} {n : Nat} {g : Gd} {φ : List Addr} {H : Hp} : Wk K cA (Itr lo n) (rngV lo n) g φ H := by
  unfold Wk
  rw [rngV_len]
  refine walk_range.mono (fun _ _ => True.intro) fun i H2 x H' hi g2 ⟨e1, e2⟩ => ?_
  subst e1 e2
  refine ⟨Ex.refl _, fun φ2 M2 s2 S2 g2 w hw => ?_⟩
  unfold rngV at hw
  rw [List.getElem?_map, List.getElem?_range hi] at hw
  cases hw
  exact .int _
theorem iv_rng1 (h : AV K cA tr fa) : IV K cA (iRng1 tr) (iR1 fa) := fun φ σ H ρ M vs g M' e S E R k => by
  obtain ⟨p, e1, e⟩ := bnd_ok e
  split at e
  · rename_i n ew
    split at e
    · rename_i hn
      cases e
      rw [show p = (p.1, p.2) from rfl, ew] at e1
      refine h φ σ H ρ M _ _ e1 S E _ fun xs H1 φ1 s1 S1 r1 => ?_
      obtain ⟨x, rfl, r⟩ := rpAll1 r1
      cases r
      exact ⟨n, rfl, hn.1, hn.2, k _ H1 φ1 s1 S1 wk_rng⟩
    · cases e
  · cases e
theorem iv_rng2 (h : AV K cA tr fa) : IV K cA (iRng2 tr) (iR2 fa) := fun φ σ H ρ M vs g M' e S E R k => by
  obtain ⟨p, e1, e⟩ := bnd_ok e
  split at e
  · rename_i m n ew
    split at e
    · rename_i hn
      cases e
      rw [show p = (p.1, p.2) from rfl, ew] at e1
      refine h φ σ H ρ M _ _ e1 S E _ fun xs H1 φ1 s1 S1 r1 => ?_
      obtain ⟨x, y, rfl, r, r'⟩ := rpAll2 r1
      cases r
      cases r'
      exact ⟨m, n, rfl, hn, k _ H1 φ1 s1 S1 wk_rng⟩
    · cases e
  · cases e
theorem iv_enum (h : AV K cA tr fa) : IV K cA (iEnum K tr) (iEn fa) := fun φ σ H ρ M vs g M' e S E R k => by
  obtain ⟨p, e1, e⟩ := bnd_ok e
  split at e
  · rename_i v ew
    obtain ⟨ws, e2, e⟩ := bnd_ok e
    cases e
    rw [show p = (p.1, p.2) from rfl, ew] at e1
    refine h φ σ H ρ M _ _ e1 S E _ fun xs H1 φ1 s1 S1 r1 => ?_
    obtain ⟨x, rfl, r⟩ := rpAll1 r1
    have key : ∀ (a : Addr), (∀ φ2 H2 M2, Stp φ1 H1 φ2 H2 → Sim K cA φ2 H2 M2 → gok (gdOf v ws) M2 = true → ∃ xs, SqL K H2 a xs ∧ RpAll K φ2 H2 xs ws) → Wk K cA (Ite K a) (enumV 0 ws) (gdOf v ws) φ1 H1 := fun a hh => by
      unfold Wk
      rw [enumV_len]
      refine walk_enumL.mono (fun H2 ⟨φ2, M2, s2, S2, g2⟩ => ?_) fun i H2 y H' hi _ ⟨T, z, e1, e2, e3, e4⟩ => ⟨by subst e3; exact Ex.new e2, fun φ2 M2 s2 S2 g2 w hw => ?_⟩
      · obtain ⟨xs, q, ra⟩ := hh φ2 H2 M2 s2 S2 g2
        exact ⟨xs, q, ra.length⟩
      · obtain ⟨xs, q, ra⟩ := hh φ2 H2 M2 s2 S2 g2
        obtain ⟨w', hw', rw'⟩ := ra.get' (e4 xs q)
        obtain ⟨u, hu, ew⟩ := enumV_get hw
        rw [hw'] at hu
        cases hu
        subst ew e1 e3
        rw [Nat.zero_add]
        exact .tup (st_of upd_same) (.cons (.int _) (.cons (rw'.mono (List.prefix_refl _) (.new e2)) .nil))
    cases v with
    | ref n =>
      obtain ⟨a, xs, rfl, _, hk, hM, hl, ra⟩ := lstAt_ref S1 r e2
      exact ⟨a, xs, rfl, .inl (.inl hl), k _ H1 φ1 s1 S1 (key a fun φ2 H2 M2 s2 S2 g2 => sq_ref S2 (pre_get s2.pre hk) (gok_mem g2 (List.mem_singleton.mpr rfl)))⟩
    | fl us =>
      cases e2
      obtain ⟨a, xs, rfl, hf, ra⟩ := rp_fl r
      exact ⟨a, xs, rfl, hf.sq, k _ H1 φ1 s1 S1 (key a fun φ2 H2 M2 s2 S2 g2 => ⟨xs, (hf.nl s2.nl).sq, ra.mono s2.pre s2.nl⟩)⟩
    | non => cases e2
    | bl b => cases e2
    | int i => cases e2
    | str x => cases e2
    | tup vs => cases e2
  · cases e
theorem walk_zipT {a b : Addr} {xs ys : List V} {n : Nat} (hn : n = min xs.length ys.length) : Walk (RZ.ItzT K a b) n (fun H => SqT K H a xs ∧ SqT K H b ys) (YPair (fun i => xs[i]?) (fun i => ys[i]?)) := by
  subst hn
  refine ⟨fun i _ hi q => ?_, fun _ q => ⟨xs, ys, q.1, q.2, by omega⟩, fun i H v H' _ q y => ?_⟩
  · have h1 : i < xs.length := by omega
    have h2 : i < ys.length := by omega
    exact ⟨xs, ys, xs[i], ys[i], q.1, q.2, by simp [h1], by simp [h2]⟩
  · obtain ⟨T, x, z, h1, h2, h3, h4, h5⟩ := y
    exact ⟨T, x, z, h1, h2, h3, h4 xs q.1, h5 ys q.2⟩
theorem iv_zipT (h : AV K cA tr fa) : IV K cA (RZ.iZipA K tr) (iZT fa) := fun φ σ H ρ M vs g M' e S E R k => by
  obtain ⟨p, e1, e⟩ := bnd_ok e
  split at e
  · rename_i as bs ew
    cases e
    rw [show p = (p.1, p.2) from rfl, ew] at e1
    refine h φ σ H ρ M _ _ e1 S E _ fun xs H1 φ1 s1 S1 r1 => ?_
    obtain ⟨x, y, rfl, r, r'⟩ := rpAll2 r1
    obtain ⟨a, xs, rfl, hs, ha⟩ := rp_tup r
    obtain ⟨b, ys, rfl, ht, hb⟩ := rp_tup r'
    refine ⟨a, b, xs, ys, rfl, .inr ⟨hs, ht, k _ H1 φ1 s1 S1 ?_⟩⟩
    refine (walk_zipT (by rw [ha.length, hb.length, zipV_len])).mono (fun H2 ⟨φ2, M2, s2, _⟩ => ⟨sqt_nl s2.nl hs, sqt_nl s2.nl ht⟩) fun i H2 x H' hi g2 ⟨T, x1, y1, e1, e2, e3, e4, e5⟩ => ⟨by subst e3; exact Ex.new e2, fun φ2 M2 s2 S2 g2 w hw => ?_⟩
    subst e1 e3
    obtain ⟨d, hd, rd⟩ := ha.get' e4
    obtain ⟨e, he, re⟩ := hb.get' e5
    obtain ⟨u1, u2, h1, h2, rfl⟩ := zipV_get hw
    rw [h1] at hd
    rw [h2] at he
    cases hd
    cases he
    have nl : Nl H1 (upd H2 T (.tup [x1, y1])) := s2.nl.trans (.new e2)
    exact .tup (st_of upd_same) (.cons (rd.mono s2.pre nl) (.cons (re.mono s2.pre nl) .nil))
  · cases e
/-! ### targets -/
def gN (k : Nat) : FG := fun v ρ M => some (ρ.set k (some v), M)
def gsNil : FGs := fun vs ρ M => match vs with
  | [] => some (ρ, M)
  | _ => none
def gsCons (g : FG) (gs : FGs) : FGs := fun vs ρ M => match vs with
  | v :: r => bnd (g v ρ M) fun p => gs r p.1 p.2
  | [] => none
def gT (n : Nat) (gs : FGs) : FG := fun v ρ M => match v with
  | .tup vs => if vs.length = n then gs vs ρ M else none
  | _ => none
def putM (M : Mem) (o i v : Va) : Option Mem := match o, i with
  | .ref k, .int i => match M[k]? with
    | some (.lst vs) => bnd (ixN vs.length i) fun j => some (M.set k (.lst (vs.set j v)))
    | _ => none
  | _, _ => none
def gSb (fo fi : FE) : FG := fun v ρ M => bnd (fo ρ M) fun p => bnd (fi ρ p.2) fun q => bnd (putM q.2 p.1 q.1 v) fun M' => some (ρ, M')
variable {g : TG} {fg : FG} {gs : TGs} {fgs : FGs}
theorem gv_name {k : Nat} : GV K cA (gName k) (gN k) := fun φ σ H ρ M x v ρ' M' e S E r Q q => by
  cases e
  exact q _ H φ .refl S (E.set r)
theorem gvs_nil : GVs K cA gNil gsNil := fun φ σ H ρ M x v ρ' M' e S E r Q q => by
  cases r with
  | nil =>
    cases e
    exact ⟨rfl, q σ H φ .refl S E⟩
  | cons _ _ => cases e
theorem gvs_cons (h : GV K cA g fg) (hr : GVs K cA gs fgs) : GVs K cA (gCons g gs) (gsCons fg fgs) := fun φ σ H ρ M x v ρ' M' e S E r Q q => by
  cases r with
  | nil => cases e
  | cons r1 r2 =>
    obtain ⟨p, e1, e⟩ := bnd_ok e
    exact ⟨_, _, rfl, h φ σ H ρ M _ _ _ _ e1 S E r1 _ fun σ1 H1 φ1 s1 S1 E1 => hr φ1 σ1 H1 _ _ _ _ _ _ e S1 E1 (r2.mono s1.pre s1.nl) Q fun σ2 H2 φ2 s2 S2 E2 => q σ2 H2 φ2 (s1.trans s2) S2 E2⟩
theorem gv_tup {n : Nat} (h : GVs K cA gs fgs) : GV K cA (gTup K n gs) (gT n fgs) := fun φ σ H ρ M x v ρ' M' e S E r Q q => by
  unfold gT at e
  split at e
  · rename_i vs
    split at e
    · rename_i hl
      obtain ⟨a, xs, rfl, hs, ha⟩ := rp_tup r
      exact ⟨a, xs, rfl, hs, by rw [ha.length]; exact hl, h φ σ H ρ M xs vs _ _ e S E ha Q q⟩
    · cases e
  · cases e
theorem gv_sub (ho : EV K cA ta f1) (hi : EV K cA tb f2) : GV K cA (gSub ta tb rSetL) (gSb f1 f2) := fun φ σ H ρ M x v ρ' M' e S E r Q q => by
  obtain ⟨p, e1, e⟩ := bnd_ok e
  obtain ⟨p2, e2, e⟩ := bnd_ok e
  obtain ⟨M3, e3, e⟩ := bnd_ok e
  cases e
  refine ho φ σ H ρ M _ _ e1 S E _ fun xo H1 φ1 s1 S1 r1 => hi φ1 σ H1 ρ _ _ _ e2 S1 (E.stp s1) _ fun xi H2 φ2 s2 S2 r2 => ?_
  have s12 := s1.trans s2
  have r1' := r1.mono s2.pre s2.nl
  unfold putM at e3
  split at e3
  · rename_i k i ek ei
    rw [ek] at r1'
    rw [ei] at r2
    split at e3
    · rename_i vs eM
      obtain ⟨j, e4, e3⟩ := bnd_ok e3
      cases e3
      obtain ⟨a, rfl, hk⟩ := rp_ref r1'
      obtain ⟨xs, hl, ra⟩ := S2.ob k a _ hk eM
      refine ⟨a, xs, i, j, rfl, rp_int r2, hl, by rw [ra.length]; exact e4, ?_⟩
      have r' := r.mono s12.pre s12.nl
      have s3 : Stp φ2 H2 φ2 (upd H2 a (.lst (xs.set j x))) := .put (List.mem_of_getElem? hk) hl
      exact q σ _ φ2 (s12.trans s3) (S2.put hk ⟨xs, hl⟩ (ra.set r' j)) ((E.stp s12).stp s3)
    · cases e3
  · cases e3
/-! ### statements -/
def sAsg (f : FE) (g : FG) : FS := fun ρ M => bnd (f ρ M) fun p => bnd (g p.1 ρ p.2) fun q => some (.nx q.1 q.2)
def sRet (f : FE) : FS := fun ρ M => bnd (f ρ M) fun p => some (.rt p.1 p.2)
def sRetN : FS := fun _ M => some (.rt .non M)
def sNx : FS := fun ρ M => some (.nx ρ M)
def sDead : FS := fun _ _ => none
def sDrop (f : FE) : FS := fun ρ M => bnd (f ρ M) fun p => some (.nx ρ p.2)
def thenO (b : FS) : Out → Option Out
  | .nx ρ M => b ρ M
  | .rt v M => some (.rt v M)
def sSeq (a b : FS) : FS := fun ρ M => bnd (a ρ M) (thenO b)
def sIf (t : FT) (a b : FS) : FS := fun ρ M => bnd (t ρ M) fun p => if p.1 = true then a ρ p.2 else b ρ p.2
def sPar (i j : Nat) (f : FA) : FS := fun ρ M => bnd (f ρ M) fun p => match p.1 with
  | [v, w] => some (.nx ((ρ.set i (some v)).set j (some w)) p.2)
  | _ => none
def forGo (gd : Gd) (g : FG) (b : FS) : List Va → Ro → Mem → Option Out
  | [], ρ, M => if gok gd M = true then some (.nx ρ M) else none
  | v :: r, ρ, M => if gok gd M = true then bnd (g v ρ M) fun p => bnd (b p.1 p.2) (thenO (forGo gd g b r)) else none
def sFor (fi : FI) (g : FG) (b : FS) : FS := fun ρ M => bnd (fi ρ M) fun p => forGo p.2.1 g b p.1 ρ p.2.2
def whileGo (t : FT) (b : FS) : Nat → Ro → Mem → Option Out
  | 0, _, _ => none
  | n + 1, ρ, M => bnd (t ρ M) fun p => if p.1 = true then bnd (b ρ p.2) (thenO (whileGo t b n)) else some (.nx ρ p.2)
variable {sx sy sz : TS} {fx fy fz : FS} {wi : TI} {fi : FI}
theorem sv_asg (h : EV K cA te f) (hg : GV K cA g fg) : SV K cA (tAsg te g) (sAsg f fg) := fun φ σ H ρ M o e S E D k => by
  obtain ⟨p, e1, e⟩ := bnd_ok e
  obtain ⟨p2, e2, e⟩ := bnd_ok e
  cases e
  exact h φ σ H ρ M _ _ e1 S E _ fun x H1 φ1 s1 S1 r1 => hg φ1 σ H1 ρ _ _ _ _ _ e2 S1 (E.stp s1) r1 _ fun σ2 H2 φ2 s2 S2 E2 => k σ2 H2 φ2 (s1.trans s2) S2 E2
theorem sv_ret (h : EV K cA te f) : SV K cA (tRet te) (sRet f) := fun φ σ H ρ M o e S E D k => by
  obtain ⟨p, e1, e⟩ := bnd_ok e
  cases e
  exact h φ σ H ρ M _ _ e1 S E _ fun x H1 φ1 s1 S1 r1 => k x H1 φ1 s1 S1 r1
theorem sv_retN : SV K cA tRetN sRetN := fun φ σ H ρ M o e S E D k => by
  cases e
  exact k _ H φ .refl S .non
theorem sv_nx : SV K cA tNext sNx := fun φ σ H ρ M o e S E D k => by
  cases e
  exact k σ H φ .refl S E
theorem sv_dead : SV K cA (fun _ _ _ => False) sDead := fun φ σ H ρ M o e S E D k => by cases e
theorem sv_drop (h : EV K cA te f) : SV K cA (tDrop te) (sDrop f) := fun φ σ H ρ M o e S E D k => by
  obtain ⟨p, e1, e⟩ := bnd_ok e
  cases e
  exact h φ σ H ρ M _ _ e1 S E _ fun x H1 φ1 s1 S1 r1 => k σ H1 φ1 s1 S1 (E.stp s1)
theorem sv_seq (h : SV K cA sx fx) (h2 : SV K cA sy fy) : SV K cA (tSeq sx sy) (sSeq fx fy) := fun φ σ H ρ M o e S E D k => by
  obtain ⟨p, e1, e⟩ := bnd_ok e
  refine h φ σ H ρ M _ e1 S E _ ?_
  cases p with
  | nx ρ1 M1 => exact fun σ1 H1 φ1 s1 S1 E1 => h2 φ1 σ1 H1 ρ1 M1 o e S1 E1 D (k.stp s1)
  | rt v M1 =>
    cases e
    exact k
theorem sv_if (h : TV K cA t ft) (ha : SV K cA sx fx) (hb : SV K cA sy fy) : SV K cA (tIfS t sx sy) (sIf ft fx fy) := fun φ σ H ρ M o e S E D k => by
  obtain ⟨⟨b, M1⟩, e1, e⟩ := bnd_ok e
  refine h φ σ H ρ M _ _ e1 S E _ fun H1 φ1 s1 S1 => ?_
  cases b with
  | true =>
    show sx D σ H1
    exact ha φ1 σ H1 ρ _ _ e S1 (E.stp s1) D (k.stp s1)
  | false =>
    show sy D σ H1
    exact hb φ1 σ H1 ρ _ _ e S1 (E.stp s1) D (k.stp s1)
theorem sv_par {i j : Nat} (h : AV K cA tr fa) : SV K cA (tPar i j tr) (sPar i j fa) := fun φ σ H ρ M o e S E D k => by
  obtain ⟨p, e1, e⟩ := bnd_ok e
  split at e
  · rename_i v w ew
    cases e
    rw [show p = (p.1, p.2) from rfl, ew] at e1
    refine h φ σ H ρ M _ _ e1 S E _ fun xs H1 φ1 s1 S1 r1 => ?_
    obtain ⟨x, y, rfl, r, r'⟩ := rpAll2 r1
    exact ⟨x, y, rfl, k _ H1 φ1 s1 S1 (((E.stp s1).set r).set r')⟩
  · cases e
theorem sv_for (hi : IV K cA wi fi) (hg : GV K cA g fg) (hb : SV K cA sx fx) : SV K cA (tFor wi g sx) (sFor fi fg fx) := fun φ σ H ρ M o e S E D k => by
  obtain ⟨⟨items, gd, M1⟩, e1, e⟩ := bnd_ok e
  refine hi φ σ H ρ M _ _ _ e1 S E _ fun J H1 φ1 s1 S1 w => ?_
  have k1 := k.stp s1
  refine for_it w (fun i σ' H' => i ≤ items.length ∧ ∃ φ' ρ' M', Stp φ1 H1 φ' H' ∧ Sim K cA φ' H' M' ∧ En K φ' H' σ' ρ' ∧ forGo gd fg fx (items.drop i) ρ' M' = some o) ⟨Nat.zero_le _, φ1, ρ, M1, .refl, S1, E.stp s1, e⟩ (fun i σ' H' hi ⟨_, φ', ρ', M', s2, S2, E2, e2⟩ => ⟨φ', M', s2, S2, ?_⟩)
    (fun i x σ' H2 H' hi ⟨_, φ', ρ', M', s2, S2, E2, e2⟩ ⟨ex, rx⟩ => ?_) (fun σ' H' ⟨_, φ', ρ', M', s2, S2, E2, e2⟩ => ?_)
  · cases hd : items.drop i with
    | nil =>
      rw [hd] at e2
      unfold forGo at e2
      split at e2
      · assumption
      · cases e2
    | cons v r =>
      rw [hd] at e2
      unfold forGo at e2
      split at e2
      · assumption
      · cases e2
  · have hv : items[i]? = some items[i] := by simp [hi]
    rw [List.drop_eq_getElem_cons hi] at e2
    unfold forGo at e2
    split at e2
    · rename_i hgk
      obtain ⟨⟨ρ3, M3⟩, e3, e2⟩ := bnd_ok e2
      obtain ⟨o4, e4, e2⟩ := bnd_ok e2
      have s3 : Stp φ' H2 φ' H' := .ofEx ex
      refine hg φ' σ' H' ρ' M' x _ _ _ e3 (S2.ex ex) (E2.stp s3) (rx φ' M' s2 S2 hgk _ hv) _ fun σ3 H3 φ3 s4 S3 E3 => ?_
      have s123 := (s2.trans s3).trans s4
      refine hb φ3 σ3 H3 ρ3 M3 o4 e4 S3 E3 _ ?_
      cases o4 with
      | nx ρ5 M5 => exact fun σ5 H5 φ5 s5 S5 E5 => ⟨hi, φ5, ρ5, M5, s123.trans s5, S5, E5, e2⟩
      | rt v M5 =>
        cases e2
        exact k1.stp s123
    · cases e2
  · rw [List.drop_eq_nil_of_le (Nat.le_refl _)] at e2
    unfold forGo at e2
    split at e2
    · cases e2
      exact k1 σ' H' φ' s2 S2 E2
    · cases e2
theorem sv_while {n : Nat} (h : TV K cA t ft) (hb : SV K cA sx fx) : SV K cA (tWhile t sx) (whileGo ft fx n) := fun φ σ H ρ M o e S E D k => by
  refine ⟨fun m σ' H' => ∃ φ' ρ' M', Stp φ H φ' H' ∧ Sim K cA φ' H' M' ∧ En K φ' H' σ' ρ' ∧ whileGo ft fx m ρ' M' = some o, ⟨n, φ, ρ, M, .refl, S, E, e⟩, ?_⟩
  rintro m σ' H' ⟨φ', ρ', M', s2, S2, E2, e2⟩
  cases m with
  | zero => cases e2
  | succ m =>
    obtain ⟨⟨b, M3⟩, e3, e2⟩ := bnd_ok e2
    refine h φ' σ' H' ρ' M' _ _ e3 S2 E2 _ fun H3 φ3 s3 S3 => ?_
    have s23 := s2.trans s3
    cases b with
    | true =>
      rw [if_pos rfl]
      obtain ⟨o4, e4, e2⟩ := bnd_ok e2
      refine ⟨fun σ5 H5 => ∃ φ' ρ' M', Stp φ H φ' H5 ∧ Sim K cA φ' H5 M' ∧ En K φ' H5 σ5 ρ' ∧ whileGo ft fx m ρ' M' = some o, fun σ5 H5 z => ⟨m, Nat.lt_succ_self m, z⟩, ?_⟩
      refine hb φ3 σ' H3 ρ' M3 o4 e4 S3 (E2.stp s3) _ ?_
      cases o4 with
      | nx ρ5 M5 => exact fun σ5 H5 φ5 s5 S5 E5 => ⟨φ5, ρ5, M5, s23.trans s5, S5, E5, e2⟩
      | rt v M5 =>
        cases e2
        exact k.stp s23
    | false =>
      rw [if_neg Bool.false_ne_true]
      cases e2
      exact k σ' H3 φ3 s23 S3 (E2.stp s3)
end
end VM
namespace VM
open PySem PySem.Spec PyProof.Rows L2 Evl
/-! ### comprehensions -/
theorem wipe_set {σ : L2.St} {j : Nat} {v : Option V} : ∀ {vs : List Nat}, j ∈ vs → wipe (σ.set j v) vs = wipe σ vs
  | [], h => by simp at h
  | k :: vs, h => by
    show (wipe (σ.set j v) vs).set k none = (wipe σ vs).set k none
    by_cases hk : j = k
    · subst hk
      by_cases hj : j ∈ vs
      · rw [wipe_set hj]
      · have key : ∀ {ws : List Nat}, j ∉ ws → wipe (σ.set j v) ws = (wipe σ ws).set j v := by
          intro ws
          induction ws with
          | nil => intro _; rfl
          | cons a r ih =>
            intro h2
            simp only [List.mem_cons, not_or] at h2
            show (wipe (σ.set j v) r).set a none = ((wipe σ r).set a none).set j v
            rw [ih h2.2, List.set_comm _ _ h2.1]
        rw [key hj, List.set_set]
    · have hj : j ∈ vs := by
        rcases List.mem_cons.mp h with z | z
        · exact absurd z hk
        · exact z
      rw [wipe_set hj]
theorem wipe_wipe {σ : L2.St} : ∀ {vs : List Nat} {ws : List Nat}, (∀ i ∈ ws, i ∈ vs) → wipe (wipe σ ws) vs = wipe σ vs
  | vs, [], _ => rfl
  | vs, w :: ws, h => by
    show wipe ((wipe σ ws).set w none) vs = wipe σ vs
    rw [wipe_set (h w (by simp)), wipe_wipe fun i hi => h i (by simp [hi])]
/-- a target whose names are the comprehension's own -/
def Own (g : TG) (vs : List Nat) : Prop := ∀ x σ H Q, g x (wipe σ vs) H Q → g x (wipe σ vs) H fun σ2 H2 => wipe σ2 vs = wipe σ vs ∧ Q σ2 H2
theorem own_name {j : Nat} {vs : List Nat} (h : j ∈ vs := by decide) : Own (gName j) vs := fun x σ H Q q => ⟨by rw [wipe_set h, wipe_wipe fun _ z => z], q⟩
section
variable {K : PySem.W.Frag}
theorem own_t2 {n j k : Nat} {vs : List Nat} (h : j ∈ vs := by decide) (h2 : k ∈ vs := by decide) : Own (gTup K n (gCons (gName j) (gCons (gName k) gNil))) vs := fun x σ H Q q => by
  obtain ⟨a, xs, e, hs, hl, v, r, e1, w, r2, e2, e3, q⟩ := q
  exact ⟨a, xs, e, hs, hl, v, r, e1, w, r2, e2, e3, by rw [wipe_set h2, wipe_set h, wipe_wipe fun _ z => z], q⟩
theorem own_t3 {n j k l : Nat} {vs : List Nat} (h : j ∈ vs := by decide) (h2 : k ∈ vs := by decide) (h3 : l ∈ vs := by decide) : Own (gTup K n (gCons (gName j) (gCons (gName k) (gCons (gName l) gNil)))) vs := fun x σ H Q q => by
  obtain ⟨a, xs, e, hs, hl, v, r, e1, w, r2, e2, u, r3, e4, e3, q⟩ := q
  exact ⟨a, xs, e, hs, hl, v, r, e1, w, r2, e2, u, r3, e4, e3, by rw [wipe_set h3, wipe_set h2, wipe_set h, wipe_wipe fun _ z => z], q⟩
end
def lcGo (gd : Gd) (g : FG) (c : FT) (f : FE) (ρ0 : Ro) : List Va → Mem → Option (List Va × Mem)
  | [], M => if gok gd M = true then some ([], M) else none
  | v :: r, M => if gok gd M = true then bnd (g v ρ0 M) fun p => bnd (c p.1 p.2) fun b => if b.1 = true then bnd (f p.1 b.2) fun x => bnd (lcGo gd g c f ρ0 r x.2) fun xs => some (x.1 :: xs.1, xs.2) else lcGo gd g c f ρ0 r b.2 else none
def lcF (fi : FI) (g : FG) (c : FT) (f : FE) (vs : List Nat) : FA := fun ρ M => bnd (fi ρ M) fun p => if p.1.length ≤ 40000 then lcGo p.2.1 g c f (wipeR ρ vs) p.1 p.2.2 else none
section
variable {K : PySem.W.Frag} {cA : Nat → Addr}
variable {ta tb tc te tx ty : TE} {f f1 f2 f3 : FE} {t u : TT} {ft fu : FT} {tr : TA} {fa : FA} {wi wi1 : TI} {fi fi1 : FI} {g g1 : TG} {fg fg1 : FG}
theorem rpAll_put {φ : List Addr} {H : Hp} {p : Addr} {xs ys : List V} {zs : List V} {vs : List Va} (h : H p = some (.lst xs)) (r : RpAll K φ H zs vs) : RpAll K φ (upd H p (.lst ys)) zs vs := r.mono (List.prefix_refl _) (.lst h)
theorem lcGo_gok {gd : Gd} {c : FT} {ρ0 : Ro} {r : List Va} {M : Mem} {x : List Va × Mem} (h : lcGo gd fg c f ρ0 r M = some x) : gok gd M = true := by
  cases r with
  | nil =>
    unfold lcGo at h
    split at h
    · assumption
    · cases h
  | cons v r =>
    unfold lcGo at h
    split at h
    · assumption
    · cases h
/-- the new list at D is written on: nothing that is known changes -/
theorem stp_put {φ φ' : List Addr} {H H' : Hp} {D : Addr} {xs ys : List V} (s : Stp φ H φ' H') (hn : H D = none) (h : H' D = some (.lst xs)) : Stp φ H φ' (upd H' D (.lst ys)) := ⟨s.pre, fun a o e c => by
  rw [upd_ne (ne_of_none e hn)]
  exact s.kp a o e c, s.fr⟩
theorem sim_put {φ : List Addr} {H : Hp} {D : Addr} {M : Mem} {xs ys : List V} (S : Sim K cA φ H M) (hni : D ∉ φ) (h : H D = some (.lst xs)) : Sim K cA φ (upd H D (.lst ys)) M :=
  S.ext (.lst h) fun a ha zs z => by
    rw [upd_ne (show a ≠ D from fun e => hni (e ▸ ha))]
    exact z
theorem fresh_in {φ φ' : List Addr} {H H' : Hp} {D : Addr} {o : HO} (s : Stp φ H φ' H') (h : H D = some o) (hni : D ∉ φ) : D ∉ φ' := fun z => by
  rcases s.fr D z with z | z
  · exact hni z
  · rw [h] at z
    cases z
theorem lv_lc {vs : List Nat} (hi : IV K cA wi fi) (hg : GV K cA g fg) (ho : Own g vs) (ht : TV K cA t ft) (he : EV K cA te f) : LV K cA (tLc wi g t te vs) (lcF fi fg ft f vs) := fun φ σ H ρ M ws M' e S E Q q => by
  obtain ⟨⟨items, gd, M1⟩, e1, e⟩ := bnd_ok e
  split at e
  case isFalse => cases e
  rename_i hlen0
  have hlen : items.length ≤ 40000 := hlen0
  refine hi φ σ H ρ M _ _ _ e1 S E _ fun J H1 φ1 s1 S1 w Dl hD => ?_
  have hD0 : H Dl = none := none_back S1 s1 hD
  refine lc_it w (fun i H' => i ≤ items.length ∧ ∃ φ' M2 acc done rest, Stp φ1 H1 φ' H' ∧ Sim K cA φ' H' M2 ∧ H' Dl = some (.lst acc) ∧ Dl ∉ φ' ∧ RpAll K φ' H' acc done ∧ acc.length ≤ i ∧ lcGo gd fg ft f (wipeR ρ vs) (items.drop i) M2 = some (rest, M') ∧ done ++ rest = ws)
    ⟨Nat.zero_le _, φ1, M1, [], [], ws, .new hD, S1.ex (.new hD), upd_same, S1.notin hD, .nil, Nat.le_refl _, e, rfl⟩ (fun i H' hi ⟨_, φ', M2, acc, done, rest, s2, S2, _, _, _, _, e2, _⟩ => ⟨φ', M2, s2, S2, lcGo_gok e2⟩)
    (fun i x H2 H' hi ⟨_, φ', M2, acc, done, rest, s2, S2, ha, hni, ra, hal, e2, hd⟩ ⟨ex, rx⟩ => ?_) (fun H' ⟨_, φ', M2, acc, done, rest, s2, S2, ha, hni, ra, hal, e2, hd⟩ => ?_)
  · have hv : items[i]? = some items[i] := by simp [hi]
    rw [List.drop_eq_getElem_cons hi] at e2
    unfold lcGo at e2
    split at e2
    case isFalse => cases e2
    rename_i hgk
    obtain ⟨⟨ρ3, M3⟩, e3, e2⟩ := bnd_ok e2
    obtain ⟨⟨b, M4⟩, e4, e2⟩ := bnd_ok e2
    have s3 : Stp φ' H2 φ' H' := .ofEx ex
    have E2 : En K φ' H' (wipe σ vs) (wipeR ρ vs) := (((E.stp s1).stp s2).stp s3).wipe vs
    refine ho _ _ _ _ (hg φ' _ H' _ M2 x _ _ _ e3 (S2.ex ex) E2 (rx φ' M2 s2 S2 hgk _ hv) _ fun σ3 H3 φ3 s4 S3 E3 => ht φ3 σ3 H3 ρ3 M3 b M4 e4 S3 E3 _ fun H4 φ4 s5 S4 => ?_)
    have s24 : Stp φ' H2 φ4 H4 := (s3.trans s4).trans s5
    have hb4 : H4 Dl = some (.lst acc) := s24.kp _ _ ha (.inr hni)
    have hni4 : Dl ∉ φ4 := fresh_in s24 ha hni
    have ra4 := ra.mono s24.pre s24.nl
    cases b with
    | true =>
      rw [if_pos rfl]
      rw [if_pos rfl] at e2
      obtain ⟨⟨v5, M5⟩, e5, e2⟩ := bnd_ok e2
      obtain ⟨⟨rest2, M6⟩, e6, e2⟩ := bnd_ok e2
      cases e2
      refine he φ4 σ3 H4 ρ3 M4 _ _ e5 S4 (E3.stp s5) _ fun y H5 φ5 s6 S5 r5 => ?_
      have hb5 : H5 Dl = some (.lst acc) := s6.kp _ _ hb4 (.inr hni4)
      have hni5 : Dl ∉ φ5 := fresh_in s6 hb4 hni4
      refine ⟨acc, hb5, sz_lt (by omega), hi, φ5, M5, acc ++ [y], done ++ [v5], rest2, stp_put ((s2.trans s24).trans s6) hD hb5, sim_put S5 hni5 hb5, upd_same, hni5, ?_, ?_, e6, ?_⟩
      · exact (rpAll_put hb5 (ra4.mono s6.pre s6.nl)).append (rpAll_put hb5 (.cons r5 .nil))
      · rw [List.length_append]
        show acc.length + 1 ≤ i + 1
        omega
      · rw [← hd, List.append_assoc]
        rfl
    | false =>
      rw [if_neg Bool.false_ne_true]
      rw [if_neg Bool.false_ne_true] at e2
      exact ⟨hi, φ4, M4, acc, done, rest, s2.trans s24, S4, hb4, hni4, ra4, by omega, e2, hd⟩
  · rw [List.drop_eq_nil_of_le (Nat.le_refl _)] at e2
    unfold lcGo at e2
    split at e2
    case isFalse => cases e2
    cases e2
    rw [List.append_nil] at hd
    subst hd
    exact q Dl acc H' φ' hD0 hni ha (s1.trans s2) S2 ra
/-! ### promises -/
def spO (K : PySem.W.Frag) (cA : Nat → Addr) (F : FF) : Sp := fun xs H Q _ => ∃ φ M ds v M', Sim K cA φ H M ∧ RpAll K φ H xs ds ∧ F ds M = some (v, M') ∧ ∀ x H' φ', Stp φ H φ' H' → Sim K cA φ' H' M' → Rp K φ' H' x v → Q x H'
theorem ev_call {F : FF} {E0 : XK} (h : AV K cA tr fa) : EV K cA (tCall (spO K cA F) [] E0 tr) (vCall F fa) := fun φ σ H ρ M v M' e S E Q q => by
  obtain ⟨p, e1, e⟩ := bnd_ok e
  refine h φ σ H ρ M _ _ e1 S E _ fun xs H1 φ1 s1 S1 r1 => ?_
  show spO K cA F (xs ++ []) H1 Q E0
  rw [List.append_nil]
  exact ⟨φ1, _, _, v, M', S1, r1, e, fun x H' φ' s2 S2 r2 => q x H' φ' (s1.trans s2) S2 r2⟩
def startR (n : Nat) (ds : List Va) : Ro := ds.map some ++ List.replicate (n - ds.length) none
theorem start_en {N : List Str} {φ : List Addr} {H : Hp} {xs : List V} {ds : List Va} (r : RpAll K φ H xs ds) : En K φ H (L2.start N xs) (startR N.length ds) := by
  refine ⟨?_, fun j d h => ?_⟩
  · unfold L2.start startR
    rw [List.length_append, List.length_append, List.length_map, List.length_map, List.length_replicate, List.length_replicate, r.length]
  · unfold startR at h
    by_cases hj : j < ds.length
    · rw [List.getElem?_append_left (by rw [List.length_map]; exact hj), List.getElem?_map] at h
      cases hd : ds[j]? with
      | none => rw [hd] at h; cases h
      | some e =>
        rw [hd] at h
        cases h
        obtain ⟨v, hv, rv⟩ := r.get hd
        refine ⟨v, ?_, rv⟩
        unfold L2.start
        rw [List.getElem?_append_left (by rw [List.length_map, r.length]; exact hj), List.getElem?_map, hv]
        rfl
    · rw [List.getElem?_append_right (by rw [List.length_map]; omega), List.getElem?_replicate] at h
      split at h <;> cases h
def outF : Out → Va × Mem
  | .nx _ M => (.non, M)
  | .rt v M => (v, M)
/-- what a def of n slots does -/
def rawF (n : Nat) (B : FS) : FF := fun ds M => bnd (B (startR n ds) M) fun o => some (outF o)
/-- G tells what B does: with what B leaves behind let go -/
def Le (n : Nat) (G : FF) (B : FS) : Prop := ∀ ds M v M', G ds M = some (v, M') → clM M.length M = true → clAll M.length ds = true → ∃ J, rawF n B ds M = some (v, M' ++ J) ∧ M.length ≤ M'.length ∧ cl M'.length v = true ∧ clM M'.length M' = true
section
variable {P : Program} {w : World} {mg : Str → Option Value} {base : Heap}
/-- THE RULE for a def -/
theorem fnV {x qual : Str} {st : Stmt} {f : Addr} {fd : FuncData} {N ps : List Str} {k : Nat} {G : FF} {B : FS} (F : Fun K x qual st f fd) (S : FnScope N ps (defScope st)) (len : ∀ ds M z, G ds M = some z → ds.length = ps.length) (le : Le N.length G B)
    (hbody : ∀ (cdv : Value) (A : Around) (outer : List Env) (s : Shared) (H : Hp) (E : XK), Room k (A.deeper (envOfC qual (defScope st) s.heap.objs.size f cdv)) →
      ∃ t, PSs (cxOf CX0 P w K mg base N qual (defScope st) f cdv A outer s H E).nox (defBody st) t ∧ SV K cA t B) : FnOk P w K mg base CX0 (k + 1) f fd ps (spO K cA G) := by
  refine F.ok S (fun vs H Q E ⟨φ, M, ds, v, M', S1, r, hG, _⟩ => by rw [r.length]; exact len ds M _ hG) fun cdv A outer s H xs Q E hr ⟨φ, M, ds, v, M', S1, r, hG, q⟩ => ?_
  obtain ⟨t, ht, hb⟩ := hbody cdv A outer s H E hr
  have hl := S1.len
  obtain ⟨J, e, hM, hc, hcM⟩ := le ds M v M' hG S1.clM (by have := r.cl; rw [hl] at this; exact this)
  obtain ⟨o, e1, e2⟩ := bnd_ok e
  have e3 := Option.some.inj e2
  refine ⟨t, ht, hb φ (L2.start N xs) H _ M o e1 S1 (start_en r) _ ?_⟩
  have fin : ∀ x H' φ', Stp φ H φ' H' → Sim K cA φ' H' (M' ++ J) → Rp K φ' H' x v → Q x H' := fun x H' φ' s2 S2 r2 => by
    have hlen : (φ'.take M'.length).length = M'.length := by
      rw [List.length_take, S2.len, List.length_append]
      omega
    refine q x H' (φ'.take M'.length) (s2.cut (by omega)) (S2.cut hcM) ?_
    exact r2.cut (List.take_prefix _ _) (by rw [hlen]; exact hc)
  cases o with
  | nx ρ1 M1 =>
    cases e3
    exact fun σ' H' φ' s2 S2 _ => fin _ H' φ' s2 S2 .non
  | rt v1 M1 =>
    cases e3
    exact fun x H' φ' s2 S2 r2 => fin x H' φ' s2 S2 r2
end
end
theorem ps_dead {X : Cx} {st : Stmt} : PS X st (fun _ _ _ => False) := ⟨fun _ _ _ _ _ _ h => h.elim⟩
theorem pss_dead {X : Cx} {st : List Stmt} : PSs X st (fun _ _ _ => False) := ⟨fun _ _ _ _ _ _ h => h.elim⟩
end VM
namespace VM
open PySem PySem.Spec PyProof.Rows L2 Evl
/-! ### types, equality -/
def tyS (M : Mem) : Va → Option String
  | .non => some "NoneType"
  | .bl _ => some "bool"
  | .int _ => some "int"
  | .str _ => some "str"
  | .tup _ => some "tuple"
  | .fl _ => some "list"
  | .ref k => match M[k]? with
    | some (.lst _) => some "list"
    | some .emp => some "dict"
    | _ => none
def isG (n : String) (M : Mem) (v : Va) : Option Va := bnd (tyS M v) fun s => bnd (kitB s n) fun b => some (.bl b)
def vUnM (g : Mem → Va → Option Va) (f : FE) : FE := fun ρ M => bnd (f ρ M) fun p => bnd (g p.2 p.1) fun z => some (z, p.2)
def isG2 (n m : String) (M : Mem) (v : Va) : Option Va := bnd (tyS M v) fun s => bnd (kitB s n) fun b => bnd (kitB s m) fun c => some (.bl (b || c))
mutual
def toD : Va → Option PyData
  | .non => some .none
  | .bl b => some (.bool b)
  | .int i => some (.int i)
  | .str x => some (.str x)
  | .tup vs => bnd (toDs vs) fun ds => some (.tuple ds)
  | .ref _ => none
  | .fl vs => bnd (toDs vs) fun ds => some (.list ds)
def toDs : List Va → Option (List PyData)
  | [] => some []
  | v :: vs => bnd (toD v) fun d => bnd (toDs vs) fun ds => some (d :: ds)
end
def resD (M : Mem) : Va → Option PyData
  | .ref k => match M[k]? with
    | some (.lst vs) => bnd (toDs vs) fun ds => some (.list ds)
    | _ => none
  | v => toD v
def gEq : Mem → Va → Va → Option Va := fun M x y => bnd (resD M x) fun d => bnd (resD M y) fun e => if (SeqAt.shaped d && SeqAt.shaped e) = true then some (.bl (PyData.eqv d e)) else none
def gNe : Mem → Va → Va → Option Va := fun M x y => bnd (resD M x) fun d => bnd (resD M y) fun e => if (SeqAt.shaped d && SeqAt.shaped e) = true then some (.bl (!PyData.eqv d e)) else none
/-- a list that lives on is not asked: a new one that is compared and let go -/
def vOp1 (g : Mem → Va → List Va → Option Va) (f : FE) (l : FA) : FE := fun ρ M => bnd (f ρ M) fun p => bnd (l ρ p.2) fun q => bnd (g q.2 p.1 q.1) fun z => some (z, q.2)
def gEqL : Mem → Va → List Va → Option Va := fun M x ys => bnd (resD M x) fun d => bnd (toDs ys) fun e => if (SeqAt.shaped d && SeqAt.shaped (.list e)) = true then some (.bl (PyData.eqv d (.list e))) else none
def gNeL : Mem → Va → List Va → Option Va := fun M x ys => bnd (resD M x) fun d => bnd (toDs ys) fun e => if (SeqAt.shaped d && SeqAt.shaped (.list e)) = true then some (.bl (!PyData.eqv d (.list e))) else none
section
variable {K : PySem.W.Frag} {cA : Nat → Addr}
variable {ta tb tc te tx ty : TE} {f f1 f2 f3 : FE} {t u : TT} {ft fu : FT} {tr : TA} {fa : FA}
mutual
theorem Rp.dp {φ : List Addr} {H : Hp} : ∀ (v : Va) {d : PyData} {x : V}, toD v = some d → Rp K φ H x v → Dp K H x d
  | .non, _, _, e, r => by cases e; cases r; exact .non
  | .bl b, _, _, e, r => by cases e; cases r; exact .bl b
  | .int i, _, _, e, r => by cases e; cases r; exact .int i
  | .str x, _, _, e, r => by cases e; cases r; exact .str x
  | .tup vs, _, _, e, r => by
    obtain ⟨ds, e1, e⟩ := bnd_ok e
    cases e
    obtain ⟨a, xs, rfl, hs, ra⟩ := rp_tup r
    exact .tup hs (RpAll.dp vs e1 ra)
  | .ref _, _, _, e, r => by cases e
  | .fl vs, _, _, e, r => by
    obtain ⟨ds, e1, e⟩ := bnd_ok e
    cases e
    obtain ⟨a, xs, rfl, hs, ra⟩ := rp_fl r
    exact .lst hs.sq (RpAll.dp vs e1 ra)
theorem RpAll.dp {φ : List Addr} {H : Hp} : ∀ (vs : List Va) {ds : List PyData} {xs : List V}, toDs vs = some ds → RpAll K φ H xs vs → DpAll K H xs ds
  | [], _, _, e, r => by cases e; cases r; exact .nil
  | v :: vs, _, _, e, r => by
    obtain ⟨d, e1, e⟩ := bnd_ok e
    obtain ⟨ds, e2, e⟩ := bnd_ok e
    cases e
    cases r with
    | cons r1 r2 => exact .cons (Rp.dp v e1 r1) (RpAll.dp vs e2 r2)
end
theorem resD_dp {φ : List Addr} {H : Hp} {M : Mem} {v : Va} {d : PyData} {x : V} (S : Sim K cA φ H M) (e : resD M v = some d) (r : Rp K φ H x v) : Dp K H x d := by
  cases v with
  | ref k =>
    unfold resD at e
    dsimp only at e
    split at e
    · rename_i vs eM
      obtain ⟨ds, e1, e⟩ := bnd_ok e
      cases e
      obtain ⟨a, rfl, hk⟩ := rp_ref r
      obtain ⟨xs, hl, ra⟩ := S.ob k a _ hk eM
      exact .lst (.inl (.inl hl)) (RpAll.dp vs e1 ra)
    · cases e
  | non => exact Rp.dp _ e r
  | bl b => exact Rp.dp _ e r
  | int b => exact Rp.dp _ e r
  | str b => exact Rp.dp _ e r
  | tup b => exact Rp.dp _ e r
  | fl b => exact Rp.dp _ e r
theorem rg_eq : RG K cA (rEqD K) gEq := fun φ H M x y v w z S rx ry e Q q => by
  obtain ⟨d, e1, e⟩ := bnd_ok e
  obtain ⟨d2, e2, e⟩ := bnd_ok e
  split at e
  · rename_i hs
    cases e
    have hs' := Bool.and_eq_true_iff.mp hs
    exact ⟨d, d2, resD_dp S e1 rx, resD_dp S e2 ry, hs'.1, hs'.2, q _ H .refl S (.bl _)⟩
  · cases e
theorem rg_ne : RG K cA (rNeD K) gNe := fun φ H M x y v w z S rx ry e Q q => by
  obtain ⟨d, e1, e⟩ := bnd_ok e
  obtain ⟨d2, e2, e⟩ := bnd_ok e
  split at e
  · rename_i hs
    cases e
    have hs' := Bool.and_eq_true_iff.mp hs
    exact ⟨d, d2, resD_dp S e1 rx, resD_dp S e2 ry, hs'.1, hs'.2, q _ H .refl S (.bl _)⟩
  · cases e
theorem ev_eqL (ha : EV K cA ta f) (hb : LV K cA tb fa) : EV K cA (tOp (rEqD K) ta tb) (vOp1 gEqL f fa) := fun φ σ H ρ M w M' e S E Q q => by
  obtain ⟨p, e1, e⟩ := bnd_ok e
  obtain ⟨p2, e2, e⟩ := bnd_ok e
  obtain ⟨z, e3, e⟩ := bnd_ok e
  cases e
  refine ha φ σ H ρ M _ _ e1 S E _ fun x H1 φ1 s1 S1 r1 => hb φ1 σ H1 ρ _ _ _ e2 S1 (E.stp s1) _ fun a ys H2 φ2 _ _ hl s2 S2 r2 => ?_
  obtain ⟨d, e4, e3⟩ := bnd_ok e3
  obtain ⟨d2, e5, e3⟩ := bnd_ok e3
  split at e3
  · rename_i hs
    cases e3
    have hs' := Bool.and_eq_true_iff.mp hs
    exact ⟨d, .list d2, resD_dp S2 e4 (r1.mono s2.pre s2.nl), .lst (.inl (.inl hl)) (RpAll.dp _ e5 r2), hs'.1, hs'.2, q _ H2 φ2 (s1.trans s2) S2 (.bl _)⟩
  · cases e3
theorem ev_neL (ha : EV K cA ta f) (hb : LV K cA tb fa) : EV K cA (tOp (rNeD K) ta tb) (vOp1 gNeL f fa) := fun φ σ H ρ M w M' e S E Q q => by
  obtain ⟨p, e1, e⟩ := bnd_ok e
  obtain ⟨p2, e2, e⟩ := bnd_ok e
  obtain ⟨z, e3, e⟩ := bnd_ok e
  cases e
  refine ha φ σ H ρ M _ _ e1 S E _ fun x H1 φ1 s1 S1 r1 => hb φ1 σ H1 ρ _ _ _ e2 S1 (E.stp s1) _ fun a ys H2 φ2 _ _ hl s2 S2 r2 => ?_
  obtain ⟨d, e4, e3⟩ := bnd_ok e3
  obtain ⟨d2, e5, e3⟩ := bnd_ok e3
  split at e3
  · rename_i hs
    cases e3
    have hs' := Bool.and_eq_true_iff.mp hs
    exact ⟨d, .list d2, resD_dp S2 e4 (r1.mono s2.pre s2.nl), .lst (.inl (.inl hl)) (RpAll.dp _ e5 r2), hs'.1, hs'.2, q _ H2 φ2 (s1.trans s2) S2 (.bl _)⟩
  · cases e3
theorem tyX_of {φ : List Addr} {H : Hp} {M : Mem} {v : Va} {x : V} {s : String} (S : Sim K cA φ H M) (r : Rp K φ H x v) (h : tyS M v = some s) : TyX K H x (.type s) := by
  cases v with
  | non => cases h; cases r; exact .base .non
  | bl b => cases h; cases r; exact .base (.bl b)
  | int b => cases h; cases r; exact .base (.int b)
  | str b => cases h; cases r; exact .base (.str b)
  | tup vs =>
    cases h
    obtain ⟨a, xs, rfl, h, ra⟩ := rp_tup r
    rcases h with (h | ⟨o, h⟩) | ⟨o, its, n, e, c, _⟩
    · exact .base (.tup h)
    · exact .fTuple h
    · exact .kTuple e c
  | fl vs =>
    cases h
    obtain ⟨a, xs, rfl, h, ra⟩ := rp_fl r
    rcases h with ⟨o, h⟩ | ⟨o, its, n, e, c, _⟩
    · exact .base (.frz h)
    · exact .kList e c
  | ref k =>
    obtain ⟨a, rfl, hk⟩ := rp_ref r
    unfold tyS at h
    dsimp only at h
    split at h
    · rename_i vs eM
      cases h
      obtain ⟨xs, hl, ra⟩ := S.ob k a _ hk eM
      exact .base (.lst hl)
    · rename_i eM
      cases h
      have hl : H a = some (.dK []) := S.ob k a _ hk eM
      exact .base (.dK hl)
    · cases h
theorem ev_isi {n : String} (ha : EV K cA te f) : EV K cA (tCB (rIsi K) (tCons te (tCons (tC (.ty n)) tNil))) (vUnM (isG n) f) := fun φ σ H ρ M w M' e S E Q q => by
  obtain ⟨p, e1, e⟩ := bnd_ok e
  obtain ⟨z, e3, e⟩ := bnd_ok e
  cases e
  obtain ⟨s, e4, e3⟩ := bnd_ok e3
  obtain ⟨b, e5, e3⟩ := bnd_ok e3
  cases e3
  exact ha φ σ H ρ M _ _ e1 S E _ fun x H1 φ1 s1 S1 r1 => ⟨x, .ty n, .type s, .type n, b, rfl, .ty n, tyX_of S1 r1 e4, kit_ty e5, q _ H1 φ1 s1 S1 (.bl _)⟩
theorem ev_isi2 {n m : String} (ha : EV K cA te f) : EV K cA (tCB (rIsiT K) (tCons te (tCons (tTup (tCons (tC (.ty n)) (tCons (tC (.ty m)) tNil))) tNil))) (vUnM (isG2 n m) f) := fun φ σ H ρ M w M' e S E Q q => by
  obtain ⟨p, e1, e⟩ := bnd_ok e
  obtain ⟨z, e3, e⟩ := bnd_ok e
  cases e
  obtain ⟨s, e4, e3⟩ := bnd_ok e3
  obtain ⟨b, e5, e3⟩ := bnd_ok e3
  obtain ⟨c, e6, e3⟩ := bnd_ok e3
  cases e3
  refine ha φ σ H ρ M _ _ e1 S E _ fun x H1 φ1 s1 S1 r1 => ⟨(by show 2 ≤ sizeLine; decide), fun l hl => ⟨x, l, [.ty n, .ty m], .type s, [.type n, .type m], b || c, rfl, upd_same, .cons (.ty n) (.cons (.ty m) .nil), ?_, ?_, ?_⟩⟩
  · exact tyX_of (S1.ex (.new hl)) (r1.mono (List.prefix_refl _) (.new hl)) e4
  · refine kitAny_cons (kit_ty e5) (fun hb => ?_) fun hb => by rw [hb]; rfl
    rw [hb, Bool.false_or]
    refine kitAny_cons (kit_ty e6) (fun hc => ?_) fun hc => hc
    rw [hc]
    rfl
  · exact q _ _ φ1 (s1.trans (.new hl)) (S1.ex (.new hl)) (.bl _)
/-- len of a dict (an empty one) -/
def lenDG : Mem → List Va → Option Va := fun M vs => match vs with
  | [.ref k] => (match M[k]? with
    | some .emp => some (.int 0)
    | _ => none)
  | _ => none
theorem cg_lenD : CG K cA (fun xs H Q => ∃ a kvs, xs = [V.ref a] ∧ H a = some (.dK kvs) ∧ Q (.int kvs.length) H) lenDG := fun φ H M xs vs z S r e Q q => by
  unfold lenDG at e
  split at e
  · split at e
    · rename_i eM
      cases e
      obtain ⟨x, rfl, r1⟩ := rpAll1 r
      obtain ⟨a, rfl, hk⟩ := rp_ref r1
      have hl : H a = some (.dK []) := S.ob _ a _ hk eM
      exact ⟨a, [], rfl, hl, q _ H .refl S (.int _)⟩
    · cases e
  · cases e
/-- {} -/
def vEmp : FE := fun _ M => some (.ref M.length, M ++ [.emp])
theorem ev_emp : EV K cA tDNewK vEmp := fun φ σ H ρ M w M' e S E Q q => by
  cases e
  intro l hl
  refine q _ _ _ (Stp.track hl (.new hl)) ((S.ex (.new hl)).track (S.notin hl) upd_same) (.ref ?_)
  rw [← S.len, List.getElem?_append_right (Nat.le_refl _), Nat.sub_self]
  rfl
end
end VM
/-! own exceptions as values: made by place and by name, their field read, asked for their class -/
namespace VM
open PySem PySem.Spec PyProof.Rows L2 Evl
section
open PySem.W PySem.Calls
variable {prog : Program} {w : World} {A : Around} {E : Value → Shared → Prop} {s : Shared} {K : Frag} {x D : Addr} {ox : Obj} {od : Option Obj}
theorem find_clsX (h : ExcC K D) : findObj K D od "__class__" = some (.bind (.builtin "getset_descriptor.__get__") (.builtin "object.__class__")) := by
  obtain ⟨cd, hc, _⟩ := any_some h.hd
  unfold findObj
  rw [hc, Option.bind_some, h.ha, Option.bind_some]
  simp [h.hn, h.ht]
theorem kinX {Q : Option Value → Shared → Prop} (h : ExcC K D) (X : K.In s.heap) (I : InstAt s.heap x ox D od) (q : Q (some (.ref D)) { s with toks := s.toks + 1 }) : wpAny (model prog w) A (getAttr? (.ref x) "__class__") Q E s := by
  have hf := find_clsX (od := od) h
  obtain ⟨hp, g, d, t, os⟩ := s
  have L0 := I.type (M := model prog w)
  have L1 := looks_findIn (M := model prog w) X h.hg
  have L2 := looks_findIn (M := model prog w) X h.hk
  have L3 := looks_find (M := model prog w) X I hf
  have sub : Looks (model prog w) hp (isInstance (.ref x) (.type "BaseException")) true := L0.andThen (looks_subIn X h.hs)
  unfold getAttr? getAttrBy? getAttrBy
  refine wpAny_bind (wpAny_mkText (wpAny_bind (wpAny_attempt (wpAny_holding (wpAny_bind (L0.at (wpAny_bind (L1.at ?_))))))))
  show wpAny _ _ (if (onTheHeap (Value.ref D) && Value.builtin "BaseException.__getattribute__" == Value.builtin "object.__getattribute__") = true then _ else _) _ _ _
  rw [if_neg (by rw [show (onTheHeap (Value.ref D) && Value.builtin "BaseException.__getattribute__" == Value.builtin "object.__getattribute__") = false from by rw [show (Value.builtin "BaseException.__getattribute__" == Value.builtin "object.__getattribute__") = false from by decide +kernel, Bool.and_false]]; exact Bool.false_ne_true)]
  unfold getAttrByItsOwn hookBefore
  refine wpAny_bind ?_
  rw [if_pos (show onTheHeap (Value.ref D) = true from rfl)]
  refine L2.at ?_
  refine wpAny_bind (wpAny_attempt (wpAny_holding ?_))
  unfold callGetattribute
  rw [show (false && onTheHeap (Value.builtin "BaseException.__getattribute__")) = false from rfl, if_neg Bool.false_ne_true]
  unfold boundAndCalled
  rw [PySem.F.excAttr_ValueError.ga.bind (.ref x)]
  refine wpAny_bind (wpAny_pure ?_)
  show wpAny _ _ (call (.builtin "BaseException.__getattribute__") [.ref x, .str "__class__" t]) _ _ _
  refine wpAny_call (codeAny_call_builtin PySem.F.excAttr_ValueError.ga.plain PySem.F.entry_bexc_ga ?_)
  refine @check_slot (model prog w) _ _ ⟨hp, g, d, t + 1, os⟩ "BaseException.__getattribute__" "BaseException" "__getattribute__" (.ref x) [.str "__class__" t] [] _ (by decide +kernel) (by decide +kernel) sub (PySem.F.args_bexc_ga (.ref x) (.str "__class__" t)) ?_
  unfold Builtin.«object.__getattribute__»
  refine wpAny_bind (wpAny_of_eq (a := ((Value.ref x : Value), [Value.str "__class__" t])) (by first | rfl | (simp only [slotArgs]; rfl)) ?_)
  refine wpAny_bind (wpAny_pure (wpAny_bind (L0.at (wpAny_bind (L3.at ?_)))))
  show wpAny _ _ (holding [Value.builtin "object.__class__"] (call (.builtin "getset_descriptor.__get__") [.builtin "object.__class__", .ref x, .ref D]) >>= ret) _ _ _
  refine wpAny_bind (wpAny_holding (wpAny_call (class_get (s := ⟨hp, g, d, t + 1, os⟩) (ox := ox) (od := od) X I h.hm (wpAny_pure ?_))))
  show wpAny _ _ (handedOut (.ref D)) _ _ _
  rw [handedOut_of (v := .ref D) rfl]
  first
    | exact wpAny_pure (wpAny_pure q)
    | exact wpAny_pure q
    | exact wpAny_pure (wpAny_bind (wpAny_pure (wpAny_pure q)))
theorem kitX (h : ExcC K D) : KitX K (.ref x) (.ref D) (fun hp => ∃ ox od, InstAt hp x ox D od) where
  ty := fun _ _ _ ⟨ox, od, I⟩ => I.type
  it := fun M hp X _ => by
    obtain ⟨cdD, hcD, _⟩ := any_some h.hd
    unfold clsIn at hcD
    split at hcD
    · rename_i c' d' cd' sl' ho
      intro A' Q' E' s' k q
      unfold isType loadHead
      exact wpAny_bind (wpAny_loadPart (k _ _ (X _ _ ho)) (wpAny_pure q))
    · cases hcD
  ne := (handS_kitx_exc (x := x) (ox := default) h.hg h.hk h.hs h.hd h.ha h.hn h.ht h.hm).ne
  ca := fun X ⟨ox, od, I⟩ k => kinX h X I k
end
/-- an exception of the class at C -/
def AtX (H : Hp) (a C : Addr) : Prop := H a = some (ExO (.ref C) a) ∨ ∃ d ys, H a = some (exo a C (some d)) ∧ H d = some (exd d ys)
theorem atX_inst {X : Cx} {pins : List (Addr × Obj)} {σ : L2.St} {H : Hp} {s : Shared} {a C : Addr} (I : Inv X pins σ H s) (h : AtX H a C) : ∃ ox od, PySem.W.InstAt s.heap a ox C od := by
  rcases h with h | ⟨d, ys, h1, h2⟩
  · obtain ⟨⟨oe, vs, ho, hz, hd, _⟩, _, _⟩ := (show ObjOk X.prog X.w H s.heap a (ExO (.ref C) a) from I.hok a _ h)
    refine ⟨oe, none, ⟨ho, hz.1, by unfold PySem.W.notCls; rw [hd] <;> rfl, ?_⟩⟩
    rw [hz.2]
    exact True.intro
  · obtain ⟨t1, ho⟩ := exo_at I.hok h1
    obtain ⟨mA, hns, _⟩ := exd_at I.hok h2
    obtain ⟨od, hod, _⟩ := lookIn_ns hns
    exact ⟨_, some od, ⟨ho, rfl, rfl, hod⟩⟩
/-- isinstance(e, c), e an own exception -/
def rIsX (K : PySem.W.Frag) : List V → Hp → VK → Prop := fun xs H Q => ∃ (a C : Addr) (c : V) (cv : Value) (b : Bool), xs = [.ref a, c] ∧ ClsV c cv ∧ ExcC K C ∧ AtX H a C ∧ PySem.W.kitOne K (.ref C) cv = some b ∧ Q (.bl b) H
theorem call_isX {X : Cx} : CallR X (.builtin "isinstance") (rIsX X.K) := by
  intro pins s σ H xs us Q I r h
  obtain ⟨a, C, c, cv, b, rfl, hcv, hC, hat, e, q⟩ := h
  obtain ⟨u1, u2, rfl, r1, r2⟩ := vals2 r
  obtain rfl : u1 = Value.ref a := r1
  have e2 := hcv.eq r2
  subst e2
  exact PySem.W.kia_one (kitX hC) I.kIn (atX_inst I hat) e (fun z => nomatch z) fun tk => ⟨.bl b, H, I.kept (t' := tk) fun _ _ z => z, rfl, q⟩
/-- e.f -/
def tGf (K : PySem.W.Frag) (f : Str) (te : TE) : TE := fun σ H Q => te σ H fun x H1 => ∃ (a C d : Addr) (ys : List (Str × V)) (v : V), x = .ref a ∧ XfC K C ∧ PySem.W.findIn K (.ref C) f = some none ∧ H1 a = some (exo a C (some d)) ∧ H1 d = some (exd d ys) ∧ ys.lookup f = some v ∧ Q v H1
theorem pe_gf {X : Cx} {e : Expr} {te : TE} {pos : Pos} {f : Str} (he : PE X e te) (hb : attributeBase e f X.env (eval e X.env) = eval e X.env := by rfl) : PE X (.Attribute e f pos) (tGf X.K f te) := by
  refine ⟨fun pins s σ H Q I h => attr_of hb (thn (he.run pins s σ H _ I h) fun u s1 hh => ?_)⟩
  obtain ⟨x, H1, I1, rx, a, C, d, ys, v, rfl, T, hno, ha, hd, l, q⟩ := hh
  obtain rfl : u = Value.ref a := rx
  obtain ⟨t1, ho⟩ := exo_at I1.hok ha
  obtain ⟨mA, hns, hr⟩ := exd_at I1.hok hd
  obtain ⟨od, hod, hl⟩ := lookIn_ns hns
  obtain ⟨u, hu, ru⟩ := RelO.some_of (v := v) (o := mA f) (by rw [← l]; exact hr f)
  have J : PySem.W.InstAt s1.heap a { cls := .ref C, dict := some d, data := .fields #[.ref t1, .none, .none, .none, .bool false, .none] } C (some od) := ⟨ho, rfl, rfl, hod⟩
  exact HandSPX.exc_get I1.kIn J T.ga T.gg T.exC (PySem.W.findObj_own T.hdC hno rfl (by rw [hl, hu])) (handed_of ru) ⟨v, H1, I1.tok _, ru, q⟩
/-! ### made -/
/-- what __init__(self, y) does: self.f = y -/
def spI (C : Addr) (f : Str) : Sp := fun vs H Q _ => ∃ (a : Addr) (y : V), vs = [.ref a, y] ∧ H a = some (exo a C none) ∧ ∀ d, H d = none → d ≠ a → Q .non (upd (upd H d (exd d [(f, y)])) a (exo a C (some d)))
/-- C(y) -/
def tMkX (C : Addr) (f : Str) (ta : TA) : TE := fun σ H Q => ta σ H fun vs H1 => ∃ y, vs = [y] ∧ ∀ a d, H1 a = none → H1 d = none → d ≠ a → Q (.ref a) (upd (upd H1 d (exd d [(f, y)])) a (exo a C (some d)))
structure MkX (K : PySem.W.Frag) (C fI : Addr) (f : Str) : Prop where
  T : OexC K C
  iC : PySem.W.findIn K (.ref C) "__init__" = some (some (.ref fI))
  tI : PySem.W.typeIn K (.ref fI) = some (.type "function")
section
variable {X : Cx} {CX : CXT} {k : Nat} {f C fI : Addr} {fd : FuncData} {nm : Str} {x : Str} {p pos kpos : Pos} {e : Expr} {te : TE} {ta : TA}
theorem upd_swap {H : Hp} {a d : Addr} {o o1 o2 : HO} (h : d ≠ a) : upd (upd (upd H a o) d o1) a o2 = upd (upd H d o1) a o2 := by
  funext b
  unfold upd
  by_cases h1 : b = a
  · rw [if_pos h1, if_pos h1]
  · rw [if_neg h1, if_neg h1, if_neg h1]
theorem pe_mkX (M : MkX X.K C fI nm) (F1 : FnOk X.prog X.w X.K X.mg X.base CX k fI fd ["self", nm] (spI C nm)) (hr : Room (k + 1) X.A) (hb : Binds X.K fd ["self", nm] []) (hx : Passes CX X (fun _ _ _ => False)) (hg : Gl X x) (hm : X.mg x = some (.ref C)) (he : PE X e te)
    (hdb : (x == ("__debug__" : Str)) = false := by decide) (hs : starEach [e] X.env = (false, eval e X.env) :: starEach [] X.env := by rfl) :
    PE X (.Call (.Name x p) [e] [] pos) (tMkX C nm (tCons te tNil)) := by
  refine ⟨fun pins s σ H Q I h => ?_⟩
  obtain ⟨cnm, q, N, bs, bm, sn, sub, ab, col, dd, k0, k1, k2, k3, k5, hC, hbm⟩ := M.T.cls
  refine wpAny_Call_Name_kw (ld_glob I hg hm ?_ hdb)
  refine PySem.W.callWith_K (h₀ := X.base) I.ok.mod.kin M.T.kC (thn ((pa_cons he pa_nil hs).run pos pins s σ H _ I h) fun us s1 ⟨vs, H1, I1, r1, y, ey, q1⟩ => ⟨I1.kIn, ?_⟩) hs (by rfl)
  subst ey
  obtain ⟨u, rfl, ru⟩ := vals1 r1
  show wpAny _ _ (call (.ref C) [u]) _ _ _
  obtain ⟨hp, g, dr, tk, os⟩ := s1
  have hn : H1 (hp.objs.size + 1) = none := I1.hok.fresh (Nat.le_succ _)
  have kk : ∀ b o, hp.get? b = some o → ((hp.push (PySem.W.kdv_tup [u])).push (PySem.HandSPX.excO C hp.objs.size)).get? b = some o := fun b o e => Heap.get?_push_of_some _ (Heap.get?_push_of_some _ e)
  have hget : ((hp.push (PySem.W.kdv_tup [u])).push (PySem.HandSPX.excO C hp.objs.size)).get? (hp.objs.size + 1) = some (PySem.HandSPX.excO C hp.objs.size) := by heap_get
  have I2 : Inv X pins σ (upd H1 (hp.objs.size + 1) (exo (hp.objs.size + 1) C none)) ⟨(hp.push (PySem.W.kdv_tup [u])).push (PySem.HandSPX.excO C hp.objs.size), g, dr, tk, os⟩ := I1.laid (t' := tk) (a := hp.objs.size + 1) (o := exo (hp.objs.size + 1) C none) (h' := (hp.push (PySem.W.kdv_tup [u])).push (PySem.HandSPX.excO C hp.objs.size)) kk (Nat.le_succ _) (exo_ok hget)
  have r2 : Vals [V.ref (hp.objs.size + 1), y] [Value.ref (hp.objs.size + 1), u] := .cons rfl (.cons ru .nil)
  refine wpAny_call (PySem.HandSPX.call_own F.excBase_ValueError (fun Y => PySem.HandSPX.refsVE_contains Y bm hbm) (I1.kIn _ _ hC) (PySem.W.looks_findIn I1.kIn M.iC) (fun self => PySem.W.bind_fn I1.kIn self M.tI) (by show 1 ≤ sizeLine; decide)
    (codeAny_mono (F1.run _ X.stack _ _ ⟨[Value.ref (hp.objs.size + 1), u], []⟩ [Value.ref (hp.objs.size + 1), u] _ (fun v H2 => v = .non ∧ ∃ d, H1 d = none ∧ d ≠ hp.objs.size + 1 ∧ H2 = upd (upd H1 d (exd d [(nm, y)])) (hp.objs.size + 1) (exo (hp.objs.size + 1) C (some d))) (fun _ _ _ => False) (hr.make C [u] []) (I2.env0.make C [u] []) (hb _ [Value.ref (hp.objs.size + 1), u] I2.kIn rfl) r2
      ⟨_, y, rfl, upd_same, fun d hd hne => ⟨rfl, d, by rw [upd_ne hne] at hd; exact hd, hne, upd_swap hne⟩⟩) fun r s' hq' => ?_))
  cases r with
  | error er => exact hx pins σ _ _ er s' I2 hq'
  | ok fl =>
    cases fl with
    | ret z =>
      obtain ⟨v, H', I3, rv, ev, d, hd1, hne, eH⟩ := I2.after hq'
      subst ev eH
      exact ⟨rv, .ref (hp.objs.size + 1), _, I3, rfl, q1 _ d hn hd1 hne⟩
    | next => exact False.elim hq'
    | brk => exact False.elim hq'
    | cont => exact False.elim hq'
end
end VM
/-! an own exception made by name: C(f = y) -/
namespace VM
section
open PySem PySem.HandSPX PySem.Builtin PySem.Builtin.ObjectAttr
section
variable {M : Model} {A : Around} {E : Value → Shared → Prop} {h : Heap} {g : Array GenState} {d : Drawn} {t : Nat} {os : OsState}
variable {nm q : Str} {C N : Addr} {bs bm bmB : List Value} {hdct : Bool} {sn : List Str} {sub : List Value} {ab : Bool} {col : Option Bool} {dd : Option Addr} {k0 k1 k2 k3 k5 : Option Value} {B newId initId : String}
theorem check_newK (F : ExcBaseFacts B newId initId bmB) (hT : ∀ X : String, bm.contains (.type X) = bmB.contains (.type X)) {kw : List (Str × Value)} {Q : Unit → Shared → Prop}
    (hC : h.get? C = some (excClassObj nm q C N bs bm hdct sn sub ab col dd k0 k1 k2 k3 k5 newId)) (hq : Q () ⟨h, g, d, t, os⟩) : wpAny M A (checkBuiltinCall newId ⟨[.ref C], kw⟩) Q E ⟨h, g, d, t, os⟩ := by
  have hcont : (Value.ref C :: bm).contains (.type B) = true := by
    rw [List.contains_cons, hT, F.hasB, Bool.or_true]
  have hstar := F.noStar
  simp only [checkBuiltinCall, F.newKind, F.newSplit, F.newRow]
  repeat (first | with_reducible refine wpAny_loadPart_at hC ?_ | (with_reducible refine wpAny_isSubtype_exc hC ?_; rw [hcont]) | with_reducible refine wpAny_staticBase_exc hC ?_ | with_reducible refine wpAny_madeBy_exc hC ?_ | simp only [bne_self_eq_false, Bool.false_eq_true, if_false] | wp_step)
  exact hq
theorem check_callK {kw : List (Str × Value)} {Q : Unit → Shared → Prop} (hC : h.get? C = some (excClassObj nm q C N bs bm hdct sn sub ab col dd k0 k1 k2 k3 k5 newId))
    (hq : Q () ⟨h, g, d, t, os⟩) : wpAny M A (checkBuiltinCall "type.__call__" ⟨[.ref C], kw⟩) Q E ⟨h, g, d, t, os⟩ := by
  have f3 := tc_sub
  have hTy : (⟨h, g, d, t, os⟩ : Shared).TypeIs (.ref C) "type" := ⟨_, hC, rfl⟩
  simp only [checkBuiltinCall, tc_kind, tc_split]
  repeat (any_goals (first | assumption | with_reducible refine wpAny_loadPart_at hC ?_ | with_reducible refine wpAny_onRaise ?_ | with_reducible refine wpAny_map ?_ | wp_step))
end
section
variable {prog : Program} {w : World} {A : Around} {E : Value → Shared → Prop} {R : Result → Shared → Prop} {h : Heap} {g : Array GenState} {d : Drawn} {t : Nat} {os : OsState}
variable {nm q : Str} {C N : Addr} {bs bm bmB : List Value} {hdct : Bool} {sn : List Str} {sub : List Value} {ab : Bool} {col : Option Bool} {dd : Option Addr} {k0 k1 k2 k3 k5 : Option Value} {B newId initId : String}
theorem newK (F : ExcBaseFacts B newId initId bmB) (hT : ∀ X : String, bm.contains (.type X) = bmB.contains (.type X)) {kw : List (Str × Value)} (hC : h.get? C = some (excClassObj nm q C N bs bm hdct sn sub ab col dd k0 k1 k2 k3 k5 newId))
    (hq : R (.ok (.ret (.ref (h.objs.size + 1)))) ⟨(h.push (W.kdv_tup [])).push (excO C h.objs.size), g, d, t, os⟩) : codeAny (model prog w) A (.builtin newId ⟨[.ref C], kw⟩) R ⟨h, g, d, t, os⟩ := by
  have hends := F.ends
  have hcB : (Value.ref C :: bm).contains (.type B) = true := by
    rw [List.contains_cons, hT, F.hasB, Bool.or_true]
  have hcA : (Value.ref C :: bm).contains (.type "AttributeError") = false := by
    rw [List.contains_cons, hT, F.noAttr]
    rfl
  have hcN : (Value.ref C :: bm).contains (.type "NameError") = false := by
    rw [List.contains_cons, hT, F.noName]
    rfl
  have hrest : ([] : List Value).length ≤ sizeLine := Nat.zero_le _
  refine codeAny_builtinAt F.entry ?_
  unfold Builtin.«BaseException.__new__»
  refine wpAt_bind ?_
  show wpAt _ _ _ (stack >>= _) _ _ _
  refine wpAt_bind (wpAt_stack fun p below => wpAt_of_wpAny ?_)
  wp_walk
  refine wpAt_of_wpAny ?_
  rw [F.owner]
  repeat (first | with_reducible refine wpAny_madeHere_exc F.canon hC ?_ | with_reducible refine wpAny_loadPart_at hC ?_ | (with_reducible refine wpAny_isSubtype_exc hC ?_; first | rw [hcB] | rw [hcA] | rw [hcN]) | wp_step)
  show R _ _
  rw [Heap.size_push]
  exact hq
theorem type_callK (F : ExcBaseFacts B newId initId bmB) (hT : ∀ X : String, bm.contains (.type X) = bmB.contains (.type X)) {kw : List (Str × Value)} {fI : Addr} {Q : Fin → Shared → Prop}
    (hC : h.get? C = some (excClassObj nm q C N bs bm hdct sn sub ab col dd k0 k1 k2 k3 k5 newId))
    (hi : W.Looks (model prog w) h (typeLookup (.ref C) "__init__") (some (.ref fI))) (hb : ∀ self, W.Looks (model prog w) h (bindSpecial (.ref fI) self) (.ref fI, [self]))
    (hq : codeAny (model prog w) A (.call (.ref fI) ⟨[.ref (h.objs.size + 1)], kw⟩) (fun r s' => match r with
      | .ok (.ret v) => v = .none ∧ Q (.done (.ret (.ref (h.objs.size + 1)))) s'
      | .ok _ => False
      | .error e => E e s') ⟨(h.push (W.kdv_tup [])).push (excO C h.objs.size), g, d, t, os⟩) :
    wpAny (model prog w) A (Builtin.«type.__call__» ⟨[.ref C], kw⟩) Q E ⟨h, g, d, t, os⟩ := by
  repeat (first | with_reducible refine wpAny_loadPart_at hC ?_ | with_reducible refine wpAny_madeBy_exc hC ?_ | wp_step)
  refine codeAny_call_builtin_code (Code.quiet_builtin _ F.quiet) (check_newK F hT hC ?_)
  refine newK F hT hC ?_
  show wpAny _ _ _ _ _ _
  have k : ∀ b o, h.get? b = some o → ((h.push (W.kdv_tup [])).push (excO C h.objs.size)).get? b = some o := fun b o e => Heap.get?_push_of_some _ (Heap.get?_push_of_some _ e)
  have hC₁ := k _ _ hC
  have hget : ((h.push (W.kdv_tup [])).push (excO C h.objs.size)).get? (h.objs.size + 1) = some (excO C h.objs.size) := by heap_get
  have hcC : (Value.ref C :: bm).contains (.ref C) = true := by simp
  have i1 := hi.keeps k
  have b1 := (hb (.ref (h.objs.size + 1))).keeps k
  unfold isInstance
  repeat (first | with_reducible refine wpAny_loadPart_at hget ?_ | (with_reducible refine wpAny_isSubtype_exc hC₁ ?_; rw [hcC]) | wp_step)
  show wpAny _ _ (typeLookup (.ref C) _) _ _ _
  refine i1.at ?_
  refine wpAny_holding (wpAny_bind (b1.at ?_))
  refine wpAny_bind (wpAny_call (codeAny_mono hq fun r s' z => ?_))
  rcases r with e | (v | _ | _ | _) <;> first | exact z | exact z.elim | skip
  obtain ⟨rfl, z⟩ := z
  first
    | exact wpAny_pure (wpAny_pure z)
    | (wp_walk; exact z)
theorem callK (F : ExcBaseFacts B newId initId bmB) (hT : ∀ X : String, bm.contains (.type X) = bmB.contains (.type X)) {kw : List (Str × Value)} {fI : Addr}
    (hC : h.get? C = some (excClassObj nm q C N bs bm hdct sn sub ab col dd k0 k1 k2 k3 k5 newId))
    (hi : W.Looks (model prog w) h (typeLookup (.ref C) "__init__") (some (.ref fI))) (hb : ∀ self, W.Looks (model prog w) h (bindSpecial (.ref fI) self) (.ref fI, [self]))
    (hq : codeAny (model prog w) (A.under (.builtin "type.__call__" ⟨[.ref C], kw⟩)) (.call (.ref fI) ⟨[.ref (h.objs.size + 1)], kw⟩) (W.InitBack (h.objs.size + 1) R) ⟨(h.push (W.kdv_tup [])).push (excO C h.objs.size), g, d, t, os⟩) :
    codeAny (model prog w) A (.call (.ref C) ⟨[], kw⟩) R ⟨h, g, d, t, os⟩ := by
  have f1 := tc_lookup
  have f2 := tc_bind (.ref C)
  have hTy : (⟨h, g, d, t, os⟩ : Shared).TypeIs (.ref C) "type" := ⟨_, hC, rfl⟩
  refine codeAny_of_tree ?_
  show wpAny _ _ (callAny (.ref C) _) _ _ _
  repeat (any_goals (first | assumption | with_reducible refine wpAny_loadPart_at hC ?_ | wp_step))
  refine ⟨rfl, ?_⟩
  refine codeAny_call_builtin_at (Code.quiet_builtin _ (by decide +kernel)) entry_typeCall (check_callK hC (type_callK F hT hC hi hb ?_))
  refine codeAny_mono hq fun r s' z => ?_
  rcases r with e | (v | _ | _ | _) <;> exact z
end
end
end VM
namespace VM
open PySem PySem.Spec PyProof.Rows L2 Evl
section
variable {X : Cx} {CX : CXT} {k : Nat} {f C fI : Addr} {fd : FuncData} {nm : Str} {x : Str} {p pos kpos : Pos} {e : Expr} {te : TE} {ta : TA}
theorem pe_mkK (M : MkX X.K C fI nm) (F1 : FnOk X.prog X.w X.K X.mg X.base CX k fI fd ["self", nm] (spI C nm)) (hr : Room (k + 1) X.A) (hb : ∀ (s : Shared) (a u : Value), BindsTo s fd ⟨[a], [(nm, u)]⟩ [("self", a), (nm, u)]) (hx : Passes CX X (fun _ _ _ => False)) (hg : Gl X x) (hm : X.mg x = some (.ref C)) (he : PE X e te)
    (hdb : (x == ("__debug__" : Str)) = false := by decide) (hall : (backToKw pos (keywordEach [⟨some nm, e, kpos⟩] X.env)).all (·.1.isSome) = true := by rfl) (hks : (backToKw pos (keywordEach [⟨some nm, e, kpos⟩] X.env)).filterMap (·.1) = [nm] := by rfl)
    (hpl : ((backTo pos (starEach [] X.env)).any (·.1) || (backToKw pos (keywordEach [⟨some nm, e, kpos⟩] X.env)).any (·.1.isNone)) = false := by rfl) :
    PE X (.Call (.Name x p) [] [⟨some nm, e, kpos⟩] pos) (tMkX C nm (tCons te tNil)) := by
  refine ⟨fun pins s σ H Q I h => ?_⟩
  obtain ⟨cnm, q, N, bs, bm, sn, sub, ab, col, dd, k0, k1, k2, k3, k5, hC, hbm⟩ := M.T.cls
  refine wpAny_Call_Name_kw (ld_glob I hg hm ?_ hdb)
  refine PySem.W.callWith_KW0 (h₀ := X.base) I.ok.mod.kin M.T.kC hall (thn ((pk_cons he pk_nil).run pos pins s σ H _ I h) fun us s1 ⟨vs, H1, I1, r1, y, ey, q1⟩ => ⟨I1.kIn, ?_⟩) hpl
  subst ey
  obtain ⟨u, rfl, ru⟩ := vals1 r1
  rw [hks]
  show wpAny _ _ (call (.ref C) [] [(nm, u)]) _ _ _
  obtain ⟨hp, g, dr, tk, os⟩ := s1
  have hn : H1 (hp.objs.size + 1) = none := I1.hok.fresh (Nat.le_succ _)
  have kk : ∀ b o, hp.get? b = some o → ((hp.push (PySem.W.kdv_tup [])).push (PySem.HandSPX.excO C hp.objs.size)).get? b = some o := fun b o e => Heap.get?_push_of_some _ (Heap.get?_push_of_some _ e)
  have hget : ((hp.push (PySem.W.kdv_tup [])).push (PySem.HandSPX.excO C hp.objs.size)).get? (hp.objs.size + 1) = some (PySem.HandSPX.excO C hp.objs.size) := by heap_get
  have I2 : Inv X pins σ (upd H1 (hp.objs.size + 1) (exo (hp.objs.size + 1) C none)) ⟨(hp.push (PySem.W.kdv_tup [])).push (PySem.HandSPX.excO C hp.objs.size), g, dr, tk, os⟩ := I1.laid (t' := tk) (a := hp.objs.size + 1) (o := exo (hp.objs.size + 1) C none) (h' := (hp.push (PySem.W.kdv_tup [])).push (PySem.HandSPX.excO C hp.objs.size)) kk (Nat.le_succ _) (exo_ok hget)
  have r2 : Vals [V.ref (hp.objs.size + 1), y] [Value.ref (hp.objs.size + 1), u] := .cons rfl (.cons ru .nil)
  refine wpAny_call (callK F.excBase_ValueError (fun Y => PySem.HandSPX.refsVE_contains Y bm hbm) (I1.kIn _ _ hC) (PySem.W.looks_findIn I1.kIn M.iC) (fun self => PySem.W.bind_fn I1.kIn self M.tI)
    (codeAny_mono (F1.run _ X.stack _ _ ⟨[Value.ref (hp.objs.size + 1)], [(nm, u)]⟩ [Value.ref (hp.objs.size + 1), u] _ (fun v H2 => v = .non ∧ ∃ d, H1 d = none ∧ d ≠ hp.objs.size + 1 ∧ H2 = upd (upd H1 d (exd d [(nm, y)])) (hp.objs.size + 1) (exo (hp.objs.size + 1) C (some d))) (fun _ _ _ => False) (hr.make C [] [(nm, u)]) (I2.env0.make C [] [(nm, u)]) (hb _ _ _) r2
      ⟨_, y, rfl, upd_same, fun d hd hne => ⟨rfl, d, by rw [upd_ne hne] at hd; exact hd, hne, upd_swap hne⟩⟩) fun r s' hq' => ?_))
  cases r with
  | error er => exact hx pins σ _ _ er s' I2 hq'
  | ok fl =>
    cases fl with
    | ret z =>
      obtain ⟨v, H', I3, rv, ev, d, hd1, hne, eH⟩ := I2.after hq'
      subst ev eH
      exact ⟨rv, .ref (hp.objs.size + 1), _, I3, rfl, q1 _ d hn hd1 hne⟩
    | next => exact False.elim hq'
    | brk => exact False.elim hq'
    | cont => exact False.elim hq'
/-- C(), no own __init__ -/
def tMk0 (C : Addr) : TE := fun _ H Q => ∀ a, H a = none → Q (.ref a) (upd H a (ExO (.ref C) a))
theorem pe_mk0 {bmB : List Value} {B newId initId : String} (F : ExcBaseFacts B newId initId bmB) (q : PySem.W.excIn X.K C bmB newId = true) (gC : X.mg x = some (.ref C)) (kC : PySem.W.keepIn X.K (.ref C) = true) (hg : Gl X x) (hdb : (x == ("__debug__" : Str)) = false := by decide) :
    PE X (.Call (.Name x p) [] [] pos) (tMk0 C) := by
  refine ⟨fun pins s σ H Q I h => ?_⟩
  refine wpAny_Call_Name_kw (ld_glob I hg gC ?_ hdb)
  refine PySem.W.callWith_K0 I.kIn kC ?_
  show wpAny _ _ (call (.ref C) []) _ _ _
  obtain ⟨bm, N, nm, qn, bs, hdct, sn, sub, ab, col, dd, k0, k1, k2, k3, k5, mN, hC, hN, hni, T⟩ := exc_obj I.kIn q
  refine wpAny_call_exc_subT F T hC hN hni (fun h' a hm => ?_) (Nat.zero_le _)
  have hn : H a = none := I.hok.gone hm.new
  obtain ⟨t, ht, _, _⟩ := hm.there
  exact ⟨.ref a, upd H a (ExO (.ref C) a), I.laidN hm.keeps hm.new hn (exO_ok ht ⟨rfl, rfl⟩ rfl rfl rfl (show 4 < 6 by decide)), rfl, h a hn⟩
end
/-! ### what they do to the store -/
def vMkX (C : Nat) (nm : Str) (f : FE) : FE := fun ρ M => bnd (f ρ M) fun p => some (.ref p.2.length, p.2 ++ [.exc C [(nm, p.1)]])
def vMk0 (C : Nat) : FE := fun _ M => some (.ref M.length, M ++ [.exc C []])
def gGf (lo hi : Nat) (nm : Str) (M : Mem) (v : Va) : Option Va := match v with
  | .ref k => (match M[k]? with
    | some (.exc C fs) => if lo ≤ C ∧ C < hi then fs.lookup nm else none
    | _ => none)
  | _ => none
def gIsX (ans : Nat → Option Bool) (M : Mem) (v : Va) : Option Va := match v with
  | .ref k => (match M[k]? with
    | some (.exc C _) => bnd (ans C) fun b => some (.bl b)
    | _ => none)
  | _ => none
section
variable {K : PySem.W.Frag} {cA : Nat → Addr}
variable {ta tb tc te tx ty : TE} {f f1 f2 f3 : FE} {t u : TT} {ft fu : FT} {tr : TA} {fa : FA}
theorem ev_mkX {C : Nat} {nm : Str} (h : EV K cA te f) : EV K cA (tMkX (cA C) nm (tCons te tNil)) (vMkX C nm f) := fun φ σ H ρ M w M' e S E Q q => by
  obtain ⟨p, e1, e⟩ := bnd_ok e
  cases e
  refine h φ σ H ρ M _ _ e1 S E _ fun y H1 φ1 s1 S1 r1 => ⟨y, rfl, fun a d ha hd hne => ?_⟩
  have x1 : Ex H1 (upd H1 d (exd d [(nm, y)])) := .new hd
  have ha' : upd H1 d (exd d [(nm, y)]) a = none := by
    rw [upd_ne (Ne.symm hne)]
    exact ha
  have x2 : Ex H1 (upd (upd H1 d (exd d [(nm, y)])) a (exo a (cA C) (some d))) := x1.trans (.new ha')
  refine q _ _ (φ1 ++ [a]) (Stp.track (none_back S1 s1 ha) (s1.trans (.ofEx x2))) ((S1.ex x2).track (S1.notin ha) (.inr ⟨d, [(nm, y)], upd_same, ?_, .cons ⟨rfl, r1.mono (List.prefix_refl _) (.ofEx x2)⟩ .nil⟩)) (.ref ?_)
  · rw [upd_ne hne]
    exact upd_same
  · rw [← S1.len, List.getElem?_append_right (Nat.le_refl _), Nat.sub_self]
    rfl
theorem ev_mk0 {C : Nat} : EV K cA (tMk0 (cA C)) (vMk0 C) := fun φ σ H ρ M w M' e S E Q q => by
  cases e
  intro a ha
  refine q _ _ (φ ++ [a]) (Stp.track ha (.new ha)) ((S.ex (.new ha)).track (S.notin ha) (.inl ⟨rfl, upd_same⟩)) (.ref ?_)
  rw [← S.len, List.getElem?_append_right (Nat.le_refl _), Nat.sub_self]
  rfl
theorem rpFs_lookup {φ : List Addr} {H : Hp} {nm : Str} {v : Va} : ∀ {ys : List (Str × V)} {fs : List (Str × Va)}, RpFs K φ H ys fs → fs.lookup nm = some v → ∃ x, ys.lookup nm = some x ∧ Rp K φ H x v
  | _, _, .nil, e => by cases e
  | (n, x) :: ys, (m, w) :: fs, .cons h t, e => by
    have h1 : n = m := h.1
    subst h1
    unfold List.lookup at e ⊢
    split at e
    · rename_i hb
      cases e
      exact ⟨x, rfl, h.2⟩
    · exact rpFs_lookup t e
theorem ev_gf {lo hi : Nat} {nm : Str} (T : ∀ i, lo ≤ i → i < hi → XfC K (cA i) ∧ PySem.W.findIn K (.ref (cA i)) nm = some none) (h : EV K cA te f) : EV K cA (tGf K nm te) (vUnM (gGf lo hi nm) f) := fun φ σ H ρ M w M' e S E Q q => by
  obtain ⟨p, e1, e⟩ := bnd_ok e
  obtain ⟨z, e3, e⟩ := bnd_ok e
  cases e
  refine h φ σ H ρ M _ _ e1 S E _ fun x H1 φ1 s1 S1 r1 => ?_
  unfold gGf at e3
  split at e3
  · rename_i k ek
    rw [ek] at r1
    split at e3
    · rename_i C fs eM
      split at e3
      · rename_i hc
        obtain ⟨a, rfl, hk⟩ := rp_ref r1
        rcases S1.ob k a _ hk eM with ⟨ef, _⟩ | ⟨d, ys, h1, h2, rf⟩
        · rw [ef] at e3
          cases e3
        · obtain ⟨v, hv, rv⟩ := rpFs_lookup rf e3
          exact ⟨a, cA C, d, ys, v, rfl, (T C hc.1 hc.2).1, (T C hc.1 hc.2).2, h1, h2, hv, q v H1 φ1 s1 S1 rv⟩
      · cases e3
    · cases e3
  · cases e3
theorem ev_isX {ans : Nat → Option Bool} {c : V} {cv : Value} (hc : ClsV c cv) (T : ∀ i b, ans i = some b → ExcC K (cA i) ∧ PySem.W.kitOne K (.ref (cA i)) cv = some b) (h : EV K cA te f) : EV K cA (tCB (rIsX K) (tCons te (tCons (tC c) tNil))) (vUnM (gIsX ans) f) := fun φ σ H ρ M w M' e S E Q q => by
  obtain ⟨p, e1, e⟩ := bnd_ok e
  obtain ⟨z, e3, e⟩ := bnd_ok e
  cases e
  refine h φ σ H ρ M _ _ e1 S E _ fun x H1 φ1 s1 S1 r1 => ?_
  unfold gIsX at e3
  split at e3
  · rename_i k ek
    rw [ek] at r1
    split at e3
    · rename_i C fs eM
      obtain ⟨b, e4, e3⟩ := bnd_ok e3
      cases e3
      obtain ⟨a, rfl, hk⟩ := rp_ref r1
      refine ⟨a, cA C, c, cv, b, rfl, hc, (T C b e4).1, ?_, (T C b e4).2, q _ H1 φ1 s1 S1 (.bl _)⟩
      rcases S1.ob k a _ hk eM with ⟨ef, h0⟩ | ⟨d, ys, h1, h2, rf⟩
      · exact .inl h0
      · exact .inr ⟨d, ys, h1, h2⟩
    · cases e3
  · cases e3
end
/-! ### __init__(self, y): self.nm = y -/
section
variable {P : Program} {w : World} {K : PySem.W.Frag} {mg : Str → Option Value} {base : Heap}
theorem fn_init {x qual : Str} {st : Stmt} {fI C : Addr} {fd : FuncData} {nm : Str} (F : Fun K x qual st fI fd) (T : OexC K C) (no : PySem.W.findIn K (.ref C) nm = some none) (S : FnScope ["self", nm] ["self", nm] (defScope st))
    (hbody : ∀ (cdv : Value) (A : Around) (outer : List Env) (s : Shared) (H : Hp) (E : XK), PSs (cxOf CX0 P w K mg base ["self", nm] qual (defScope st) fI cdv A outer s H E).nox (defBody st) (tOst K nm (tVar 0) (tVar 1))) :
    FnOk P w K mg base CX0 1 fI fd ["self", nm] (spI C nm) := by
  refine F.ok S (fun vs H Q E ⟨a, y, e, _⟩ => by rw [e]; rfl) fun cdv A outer s H vs Q E hr ⟨a, y, ev, ha, q⟩ => ?_
  subst ev
  refine ⟨_, hbody cdv A outer s H E, ⟨y, rfl, .ref a, rfl, a, C, rfl, T, no, .inl ⟨ha, fun dx hn hne => q dx hn hne⟩⟩⟩
end
end VM
namespace VM
open PySem PySem.Spec PyProof.Rows L2 Evl
/-- a subscript of a list or a tuple -/
def gIx : Mem → Va → Va → Option Va := fun M x y => match x with
  | .tup vs => gIxT M (.tup vs) y
  | v => gIxL M v y
theorem ix_any {X : Cx} : IxR X (fun x y H Q => rIxL X.K x y H Q ∨ rIxT X.K x y H Q) := by
  intro value slice pins s σ H x y v u Q I rx ry h hs
  rcases h with h | h
  · exact ix_list value slice pins s σ H x y v u Q I rx ry h hs
  · exact ix_tup value slice pins s σ H x y v u Q I rx ry h hs
section
variable {K : PySem.W.Frag} {cA : Nat → Addr}
theorem rg_ix : RG K cA (fun x y H Q => rIxL K x y H Q ∨ rIxT K x y H Q) gIx := fun φ H M x y v w z S rx ry e Q q => by
  cases v with
  | tup vs => exact .inr (rg_ixT φ H M x y _ w z S rx ry e Q q)
  | non => exact .inl (rg_ixL φ H M x y _ w z S rx ry e Q q)
  | bl b => exact .inl (rg_ixL φ H M x y _ w z S rx ry e Q q)
  | int b => exact .inl (rg_ixL φ H M x y _ w z S rx ry e Q q)
  | str b => exact .inl (rg_ixL φ H M x y _ w z S rx ry e Q q)
  | ref b => exact .inl (rg_ixL φ H M x y _ w z S rx ry e Q q)
  | fl b => exact .inl (rg_ixL φ H M x y _ w z S rx ry e Q q)
end
/-! ### defs: what they do, told rightly, shortly -/
/-- m parameters, n slots -/
def rawG (m n : Nat) (B : FS) : FF := fun ds M => if ds.length = m then bnd (B (startR n ds) M) fun o => some (outF o) else none
/-- what is left behind is let go -/
def cutG (m n : Nat) (B : FS) : FF := fun ds M => bnd (rawG m n B ds M) fun p => if (decide (M.length ≤ p.2.length) && (cl M.length p.1 && clM M.length (p.2.take M.length))) = true then some (p.1, p.2.take M.length) else none
/-- a new object is given back, the rest is let go -/
def newG (m n : Nat) (B : FS) : FF := fun ds M => bnd (rawG m n B ds M) fun p => match p.1 with
  | .ref r => if M.length ≤ r then bnd p.2[r]? fun o => if (clO M.length o && clM M.length (p.2.take M.length)) = true then some (.ref M.length, p.2.take M.length ++ [o]) else none else none
  | _ => none
section
variable {P : Program} {w : World} {K : PySem.W.Frag} {cA : Nat → Addr} {mg : Str → Option Value} {base : Heap}
theorem fn_none {f : Addr} {fd : FuncData} {ps : List Str} {k : Nat} : FnOk P w K mg base CX0 k f fd ps (spO K cA fun _ _ => none) :=
  ⟨fun vs H Q E ⟨φ, M, ds, v, M', S1, r, hG, _⟩ => (by cases hG), by
    rintro A outer s H args us vs Q E hr he hb hv ⟨φ, M, ds, v, M', S1, r, hG, _⟩
    cases hG⟩
theorem fnRaw {x qual : Str} {st : Stmt} {f : Addr} {fd : FuncData} {N ps : List Str} {k m n : Nat} {B : FS} (F : Fun K x qual st f fd) (S : FnScope N ps (defScope st)) (hm : m = ps.length) (hn : n = N.length)
    (hbody : ∀ (cdv : Value) (A : Around) (outer : List Env) (s : Shared) (H : Hp) (E : XK), Room k (A.deeper (envOfC qual (defScope st) s.heap.objs.size f cdv)) →
      ∃ t, PSs (cxOf CX0 P w K mg base N qual (defScope st) f cdv A outer s H E).nox (defBody st) t ∧ SV K cA t B) : FnOk P w K mg base CX0 (k + 1) f fd ps (spO K cA (rawG m n B)) := by
  subst hm hn
  refine F.ok S (fun vs H Q E ⟨φ, M, ds, v, M', S1, r, hG, _⟩ => ?_) fun cdv A outer s H xs Q E hr ⟨φ, M, ds, v, M', S1, r, hG, q⟩ => ?_
  · rw [r.length]
    unfold rawG at hG
    split at hG
    · assumption
    · cases hG
  · obtain ⟨t, ht, hb⟩ := hbody cdv A outer s H E hr
    unfold rawG at hG
    split at hG
    case isFalse => cases hG
    obtain ⟨o, e1, e2⟩ := bnd_ok hG
    have e3 := Option.some.inj e2
    refine ⟨t, ht, hb φ (L2.start N xs) H _ M o e1 S1 (start_en r) _ ?_⟩
    cases o with
    | nx ρ1 M1 =>
      cases e3
      exact fun σ' H' φ' s2 S2 _ => q _ H' φ' s2 S2 .non
    | rt v1 M1 =>
      cases e3
      exact fun x H' φ' s2 S2 r2 => q x H' φ' s2 S2 r2
theorem cut_ok {f : Addr} {fd : FuncData} {ps : List Str} {k m n : Nat} {B : FS} (F : FnOk P w K mg base CX0 k f fd ps (spO K cA (rawG m n B))) : FnOk P w K mg base CX0 k f fd ps (spO K cA (cutG m n B)) :=
  F.imp fun vs H Q E ⟨φ, M, ds, v, M', S1, r, hG, q⟩ => by
    obtain ⟨⟨v1, M1⟩, e1, e⟩ := bnd_ok hG
    split at e
    case isFalse => cases e
    rename_i hc
    cases e
    obtain ⟨h1, hc⟩ := Bool.and_eq_true_iff.mp hc
    obtain ⟨h2, h3⟩ := Bool.and_eq_true_iff.mp hc
    have hl : M.length ≤ M1.length := of_decide_eq_true h1
    have hl2 := S1.len
    refine ⟨φ, M, ds, v1, M1, S1, r, e1, fun x H' φ' s2 S2 r2 => ?_⟩
    have hT : (M1.take M.length).length = M.length := by
      rw [List.length_take]
      omega
    have hlen : (φ'.take M.length).length = M.length := by
      rw [List.length_take, S2.len]
      omega
    have S3 : Sim K cA φ' H' (M1.take M.length ++ M1.drop M.length) := by
      rw [List.take_append_drop]
      exact S2
    have S4 := S3.cut (by rw [hT]; exact h3)
    rw [hT] at S4
    exact q x H' (φ'.take M.length) (s2.cut (by omega)) S4 (r2.cut (List.take_prefix _ _) (by rw [hlen]; exact h2))
theorem new_ok {f : Addr} {fd : FuncData} {ps : List Str} {k m n : Nat} {B : FS} (F : FnOk P w K mg base CX0 k f fd ps (spO K cA (rawG m n B))) : FnOk P w K mg base CX0 k f fd ps (spO K cA (newG m n B)) :=
  F.imp fun vs H Q E ⟨φ, M, ds, v, M', S1, r, hG, q⟩ => by
    obtain ⟨⟨v1, M1⟩, e1, e⟩ := bnd_ok hG
    split at e
    case h_2 => cases e
    rename_i r0 er
    dsimp only at er
    subst er
    split at e
    case isFalse => cases e
    rename_i hr0
    obtain ⟨o, eo, e⟩ := bnd_ok e
    split at e
    case isFalse => cases e
    rename_i hc
    cases e
    obtain ⟨h2, h3⟩ := Bool.and_eq_true_iff.mp hc
    have hro : r0 < M1.length := (List.getElem?_eq_some_iff.mp eo).1
    have hl : M.length ≤ M1.length := by omega
    have hl2 := S1.len
    refine ⟨φ, M, ds, .ref r0, M1, S1, r, e1, fun x H' φ' s2 S2 r2 => ?_⟩
    have hT : (M1.take M.length).length = M.length := by
      rw [List.length_take]
      omega
    have hlen : (φ'.take M.length).length = M.length := by
      rw [List.length_take, S2.len]
      omega
    have S3 : Sim K cA φ' H' (M1.take M.length ++ M1.drop M.length) := by
      rw [List.take_append_drop]
      exact S2
    have S4 := S3.cut (by rw [hT]; exact h3)
    rw [hT] at S4
    obtain ⟨a, rfl, ha⟩ := rp_ref r2
    have hna : a ∉ φ'.take M.length := fun z => by
      obtain ⟨j, hj⟩ := List.mem_iff_getElem?.mp z
      have hj1 : j < M.length := by
        have := (List.getElem?_eq_some_iff.mp hj).1
        rw [hlen] at this
        exact this
      have hj2 : φ'[j]? = some a := pre_get (List.take_prefix _ _) hj
      have hj3 : j = r0 := (List.getElem?_inj (List.getElem?_eq_some_iff.mp hj2).1 S2.nd).mp (hj2.trans ha.symm)
      omega
    have ho : ObS K cA (φ'.take M.length) H' a o := by
      have q0 := S2.ob r0 a o ha eo
      have hp : φ'.take M.length <+: φ' := List.take_prefix _ _
      rw [← hlen] at h2
      cases o with
      | lst vs =>
        obtain ⟨xs, e, ra⟩ := q0
        exact ⟨xs, e, ra.cut hp h2⟩
      | exc C fs =>
        rcases q0 with ⟨e, h⟩ | ⟨d, ys, e1, e2, ra⟩
        · exact .inl ⟨e, h⟩
        · exact .inr ⟨d, ys, e1, e2, ra.cut hp h2⟩
      | emp => exact q0
    have hn : H a = none := by
      rcases s2.fr a (List.mem_of_getElem? ha) with z | z
      · obtain ⟨j, hj⟩ := List.mem_iff_getElem?.mp z
        have hj1 : j < M.length := by
          have := (List.getElem?_eq_some_iff.mp hj).1
          omega
        have hj2 : φ'[j]? = some a := pre_get s2.pre hj
        have hj3 : j = r0 := (List.getElem?_inj (List.getElem?_eq_some_iff.mp hj2).1 S2.nd).mp (hj2.trans ha.symm)
        omega
      · exact z
    refine q (.ref a) H' (φ'.take M.length ++ [a]) ((s2.cut (by omega)).track hn) (S4.track hna ho) (.ref ?_)
    rw [List.getElem?_append_right (by omega), hlen, Nat.sub_self]
    rfl
end
/-! ### the law's own promise -/
def spLaw (K : PySem.W.Frag) : Sp := fun vs H Q _ => ∃ (a : Addr) (ns : List Int), vs = [.ref a] ∧ Fz K H a (ns.map V.int) ∧ ns.length ≤ 63 ∧ ∀ H', Q (.bl true) H'
theorem ints_rp {K : PySem.W.Frag} {φ : List Addr} {H : Hp} : ∀ ns : List Int, RpAll K φ H (ns.map V.int) (ns.map Va.int)
  | [] => .nil
  | n :: ns => .cons (.int n) (ints_rp ns)
theorem law_of {P : Program} {w : World} {K : PySem.W.Frag} {cA : Nat → Addr} {mg : Str → Option Value} {base : Heap} {f : Addr} {fd : FuncData} {ps : List Str} {k : Nat} {G : FF} (F : FnOk P w K mg base CX0 k f fd ps (spO K cA G))
    (h : ∀ ns : List Int, ns.length ≤ 63 → ∃ M', G [.fl (ns.map Va.int)] [] = some (.bl true, M')) : FnOk P w K mg base CX0 k f fd ps (spLaw K) :=
  F.imp fun vs H Q E ⟨a, ns, ev, hF, hl, q⟩ => by
    subst ev
    obtain ⟨M', e⟩ := h ns hl
    exact ⟨[], [], [.fl (ns.map Va.int)], .bl true, M', ⟨rfl, .nil, fun k a o h1 h2 => by cases h2⟩, .cons (.fl hF (ints_rp ns)) .nil, e, fun x H' φ' s2 S2 r2 => by
      rw [rp_bl r2]
      exact q H'⟩
theorem fz_of {K : PySem.W.Frag} {H : Hp} {a : Addr} {xs : List V} (O : Only H) (h : SqL K H a xs) : Fz K H a xs := by
  rcases h with (h | h) | h
  · rcases O a with z | ⟨o, ys, z⟩
    · rw [h] at z
      cases z
    · rw [h] at z
      cases z
  · exact .inl h
  · exact .inr h
end VM
/-! the combinators applied: what simp walks by -/
namespace VM
open PySem
section
variable {ρ : Ro} {M : Mem} {a b c d : Va} {vs ws : List Va} {f f1 f2 f3 : FE} {fa : FA} {ft fu : FT} {fx fy : FS} {g : Mem → Va → Va → Option Va} {fg : FG} {fgs : FGs} {fi fi1 : FI} {i j : Int} {k n m : Nat} {o : Ob}
theorem s_c : vC a ρ M = some (a, M) := rfl
theorem s_var : vVar k ρ M = match ρ[k]? with
  | some (some v) => some (v, M)
  | _ => none := rfl
theorem s_nil : aNil ρ M = some ([], M) := rfl
theorem s_cons : aCons f fa ρ M = bnd (f ρ M) fun p => bnd (fa ρ p.2) fun q => some (p.1 :: q.1, q.2) := rfl
theorem s_tup : vTup fa ρ M = bnd (fa ρ M) fun p => if p.1.length ≤ 100000 then some (.tup p.1, p.2) else none := rfl
theorem s_lst : lLst fa ρ M = bnd (fa ρ M) fun p => if p.1.length ≤ 100000 then some (p.1, p.2) else none := rfl
theorem s_trk : vTrk fa ρ M = bnd (fa ρ M) fun p => some (.ref p.2.length, p.2 ++ [.lst p.1]) := rfl
theorem s_op : vOp g f1 f2 ρ M = bnd (f1 ρ M) fun p => bnd (f2 ρ p.2) fun q => bnd (g q.2 p.1 q.1) fun z => some (z, q.2) := rfl
theorem s_lop {g : Mem → Va → Va → Option (List Va)} : lOp g f1 f2 ρ M = bnd (f1 ρ M) fun p => bnd (f2 ρ p.2) fun q => bnd (g q.2 p.1 q.1) fun z => some (z, q.2) := rfl
theorem s_op1 {g : Mem → Va → List Va → Option Va} : vOp1 g f1 fa ρ M = bnd (f1 ρ M) fun p => bnd (fa ρ p.2) fun q => bnd (g q.2 p.1 q.1) fun z => some (z, q.2) := rfl
theorem s_un {g : Va → Option Va} : vUn g f ρ M = bnd (f ρ M) fun p => bnd (g p.1) fun z => some (z, p.2) := rfl
theorem s_unM {g : Mem → Va → Option Va} : vUnM g f ρ M = bnd (f ρ M) fun p => bnd (g p.2 p.1) fun z => some (z, p.2) := rfl
theorem s_tB : tB' f ρ M = bnd (f ρ M) fun p => bnd (asB p.1) fun b => some (b, p.2) := rfl
theorem s_asB {x : Bool} : asB (.bl x) = some x := rfl
theorem s_and : vAnd f1 f2 ρ M = bnd (tB' f1 ρ M) fun p => if p.1 = true then f2 ρ p.2 else some (.bl false, p.2) := rfl
theorem s_or : vOr f1 f2 ρ M = bnd (tB' f1 ρ M) fun p => if p.1 = true then some (.bl true, p.2) else f2 ρ p.2 := rfl
theorem s_not : vNot f ρ M = bnd (tB' f ρ M) fun p => some (.bl (!p.1), p.2) := rfl
theorem s_if : vIf ft f1 f2 ρ M = bnd (ft ρ M) fun p => if p.1 = true then f1 ρ p.2 else f2 ρ p.2 := rfl
theorem s_chain {g' : Mem → Va → Va → Option Va} : vChain g g' f1 f2 f3 ρ M = bnd (f1 ρ M) fun p => bnd (f2 ρ p.2) fun q => bnd (g q.2 p.1 q.1) fun z => bnd (asB z) fun b => if b = true then (bnd (f3 ρ q.2) fun r => bnd (g' r.2 q.1 r.1) fun y => some (y, r.2)) else some (.bl false, q.2) := rfl
theorem s_tand : tAnd' ft fu ρ M = bnd (ft ρ M) fun p => if p.1 = true then fu ρ p.2 else some (false, p.2) := rfl
theorem s_tor : tOr' ft fu ρ M = bnd (ft ρ M) fun p => if p.1 = true then some (true, p.2) else fu ρ p.2 := rfl
theorem s_tnot : tNot' ft ρ M = bnd (ft ρ M) fun p => some (!p.1, p.2) := rfl
theorem s_tyes : tYes' ρ M = some (true, M) := rfl
theorem s_cb {g : Mem → List Va → Option Va} : vCB g fa ρ M = bnd (fa ρ M) fun p => bnd (g p.2 p.1) fun z => some (z, p.2) := rfl
theorem s_lcb {g : Mem → List Va → Option (List Va)} : lCB g fa ρ M = bnd (fa ρ M) fun p => bnd (g p.2 p.1) fun z => some (z, p.2) := rfl
theorem s_of {g : List Va → Option Va} : vOf g fa ρ M = bnd (fa ρ M) fun p => bnd (g p.1) fun z => some (z, p.2) := rfl
theorem s_call {F : FF} : vCall F fa ρ M = bnd (fa ρ M) fun p => F p.1 p.2 := rfl
theorem s_add : gAdd M (.int i) (.int j) = some (.int (i + j)) := rfl
theorem s_sub : gSubI M (.int i) (.int j) = some (.int (i - j)) := rfl
theorem s_mul : gMul M (.int i) (.int j) = if cMul i j = true then some (.int (i * j)) else none := rfl
theorem s_mod : gMod M (.int i) (.int j) = if decide (0 < j) = true then some (.int (i % j)) else none := rfl
theorem s_div : gDiv M (.int i) (.int j) = if cDiv i j = true then some (.int (i / j)) else none := rfl
theorem s_pow : gPow M (.int i) (.int j) = if cPow i j = true then some (.int (i ^ j.toNat)) else none := rfl
theorem s_lt : gLt M (.int i) (.int j) = some (.bl (decide (i < j))) := rfl
theorem s_le : gLe M (.int i) (.int j) = some (.bl (decide (i ≤ j))) := rfl
theorem s_gt : gGt M (.int i) (.int j) = some (.bl (decide (j < i))) := rfl
theorem s_ge : gGe M (.int i) (.int j) = some (.bl (decide (j ≤ i))) := rfl
theorem s_neg : nNeg (.int i) = some (.int (-i)) := rfl
theorem s_ixT : gIxT M (.tup vs) (.int i) = L2.atI vs i := rfl
theorem s_ixL : gIxL M a (.int i) = bnd (lstAt M a) fun vs => L2.atI vs i := rfl
theorem s_ixt : gIx M (.tup vs) b = gIxT M (.tup vs) b := rfl
theorem s_ixr : gIx M (.ref k) b = gIxL M (.ref k) b := rfl
theorem s_ixf : gIx M (.fl vs) b = gIxL M (.fl vs) b := rfl
theorem s_atR : lstAt M (.ref k) = match M[k]? with
  | some (.lst vs) => some vs
  | _ => none := rfl
theorem s_atF : lstAt M (.fl vs) = some vs := rfl
theorem atI_nat {α : Type} {xs : List α} {k : Nat} : L2.atI xs (k : Int) = xs[k]? := by
  unfold L2.atI L2.ixN
  rw [if_pos (Int.natCast_nonneg k)]
  by_cases h : k < xs.length
  · rw [if_pos (by omega)]
    simp
  · rw [if_neg (by omega), List.getElem?_eq_none (by omega)]
    rfl
theorem s_ix0 {α : Type} {xs : List α} : L2.atI xs 0 = xs[0]? := atI_nat (k := 0)
theorem s_ix1 {α : Type} {xs : List α} : L2.atI xs 1 = xs[1]? := atI_nat (k := 1)
theorem s_ix2 {α : Type} {xs : List α} : L2.atI xs 2 = xs[2]? := atI_nat (k := 2)
theorem s_ix3 {α : Type} {xs : List α} : L2.atI xs 3 = xs[3]? := atI_nat (k := 3)
theorem atI_pos {α : Type} {xs : List α} {i : Int} (h : 0 ≤ i) : L2.atI xs i = xs[i.toNat]? := by
  obtain ⟨k, rfl⟩ := Int.eq_ofNat_of_zero_le h
  rw [atI_nat]
  rfl
theorem ixN_ok {n : Nat} {i : Int} (h : 0 ≤ i) (h2 : i < n) : L2.ixN n i = some i.toNat := by
  unfold L2.ixN
  rw [if_pos h, if_pos h2]
theorem s_lenT : lenG M [.tup vs] = some (.int vs.length) := rfl
theorem s_lenR : lenG M [.ref k] = bnd (lstAt M (.ref k)) fun ws => some (.int ws.length) := rfl
theorem s_lenF : lenG M [.fl vs] = some (.int vs.length) := rfl
theorem s_int : intG M [.int i] = some (.int i) := rfl
theorem s_intB {x : Bool} : intG M [.bl x] = some (.int (if x then 1 else 0)) := rfl
theorem s_abs : absG M [.int i] = some (.int (if i < 0 then -i else i)) := rfl
theorem s_max : maxG M [.int i, .int j] = some (.int (if j > i then j else i)) := rfl
theorem s_min : minG M [.int i, .int j] = some (.int (if j < i then j else i)) := rfl
theorem s_tupG : tupG M vs = bnd (seqG M vs) fun ws => some (.tup ws) := rfl
theorem s_seqT : seqG M [.tup vs] = some vs := rfl
theorem s_seqR : seqG M [.ref k] = lstAt M (.ref k) := rfl
theorem s_seqF : seqG M [.fl vs] = some vs := rfl
theorem s_cat : gCat M (.ref k) (.ref n) = bnd (lstAt M (.ref k)) fun vs => bnd (lstAt M (.ref n)) fun ws => if vs.length + ws.length ≤ 100000 then some (vs ++ ws) else none := rfl
theorem s_eq : gEq M a b = bnd (resD M a) fun d => bnd (resD M b) fun e => if (SeqAt.shaped d && SeqAt.shaped e) = true then some (.bl (PyData.eqv d e)) else none := rfl
theorem s_ne : gNe M a b = bnd (resD M a) fun d => bnd (resD M b) fun e => if (SeqAt.shaped d && SeqAt.shaped e) = true then some (.bl (!PyData.eqv d e)) else none := rfl
theorem s_eqII : gEq M (.int i) (.int j) = some (.bl (decide (i = j))) := by
  show some (Va.bl (i == j)) = _
  by_cases h : i = j
  · simp [h]
  · simp [h]
theorem s_neII : gNe M (.int i) (.int j) = some (.bl (!decide (i = j))) := by
  show some (Va.bl (!(i == j))) = _
  by_cases h : i = j
  · simp [h]
  · simp [h]
theorem s_eqBB {x y : Bool} : gEq M (.bl x) (.bl y) = some (.bl (x == y)) := rfl
theorem s_neBB {x y : Bool} : gNe M (.bl x) (.bl y) = some (.bl (!(x == y))) := rfl
theorem s_neL : gNeL M a vs = bnd (resD M a) fun d => bnd (toDs vs) fun e => if (SeqAt.shaped d && SeqAt.shaped (.list e)) = true then some (.bl (!PyData.eqv d (.list e))) else none := rfl
theorem s_eqL : gEqL M a vs = bnd (resD M a) fun d => bnd (toDs vs) fun e => if (SeqAt.shaped d && SeqAt.shaped (.list e)) = true then some (.bl (PyData.eqv d (.list e))) else none := rfl
theorem s_isN0 : isN .non = true := rfl
theorem s_isNb {x : Bool} : isN (.bl x) = false := rfl
theorem s_isNi : isN (.int i) = false := rfl
theorem s_isNs {x : Str} : isN (.str x) = false := rfl
theorem s_isNt : isN (.tup vs) = false := rfl
theorem s_isNr : isN (.ref k) = false := rfl
/-! targets -/
theorem s_gN : gN k a ρ M = some (ρ.set k (some a), M) := rfl
theorem s_gsNil : gsNil [] ρ M = some (ρ, M) := rfl
theorem s_gsCons : gsCons fg fgs (a :: vs) ρ M = bnd (fg a ρ M) fun p => fgs vs p.1 p.2 := rfl
theorem s_gT : gT n fgs (.tup vs) ρ M = if vs.length = n then fgs vs ρ M else none := rfl
theorem s_gSb : gSb f1 f2 a ρ M = bnd (f1 ρ M) fun p => bnd (f2 ρ p.2) fun q => bnd (putM q.2 p.1 q.1 a) fun M' => some (ρ, M') := rfl
theorem s_putM : putM M (.ref k) (.int i) a = match M[k]? with
  | some (.lst vs) => bnd (L2.ixN vs.length i) fun j => some (M.set k (.lst (vs.set j a)))
  | _ => none := rfl
/-! statements -/
theorem s_asg : sAsg f fg ρ M = bnd (f ρ M) fun p => bnd (fg p.1 ρ p.2) fun q => some (.nx q.1 q.2) := rfl
theorem s_ret : sRet f ρ M = bnd (f ρ M) fun p => some (.rt p.1 p.2) := rfl
theorem s_retN : sRetN ρ M = some (.rt .non M) := rfl
theorem s_nx : sNx ρ M = some (.nx ρ M) := rfl
theorem s_drop : sDrop f ρ M = bnd (f ρ M) fun p => some (.nx ρ p.2) := rfl
theorem s_thnN : thenO fx (.nx ρ M) = fx ρ M := rfl
theorem s_thnR : thenO fx (.rt a M) = some (.rt a M) := rfl
theorem s_seq : sSeq fx fy ρ M = bnd (fx ρ M) (thenO fy) := rfl
theorem s_ifS : sIf ft fx fy ρ M = bnd (ft ρ M) fun p => if p.1 = true then fx ρ p.2 else fy ρ p.2 := rfl
theorem s_par : sPar k n fa ρ M = bnd (fa ρ M) fun p => match p.1 with
  | [v, w] => some (.nx ((ρ.set k (some v)).set n (some w)) p.2)
  | _ => none := rfl
theorem s_for : sFor fi fg fx ρ M = bnd (fi ρ M) fun p => forGo p.2.1 fg fx p.1 ρ p.2.2 := rfl
theorem s_forN {gd : Gd} : forGo gd fg fx [] ρ M = if gok gd M = true then some (.nx ρ M) else none := rfl
theorem s_forC {gd : Gd} : forGo gd fg fx (a :: vs) ρ M = if gok gd M = true then bnd (fg a ρ M) fun p => bnd (fx p.1 p.2) (thenO (forGo gd fg fx vs)) else none := rfl
theorem s_gok : gok [] M = true := rfl
theorem s_while : whileGo ft fx (n + 1) ρ M = bnd (ft ρ M) fun p => if p.1 = true then bnd (fx ρ p.2) (thenO (whileGo ft fx n)) else some (.nx ρ p.2) := rfl
theorem s_iT : iT f ρ M = bnd (f ρ M) fun p => match p.1 with
  | .tup vs => some (vs, [], p.2)
  | _ => none := rfl
theorem s_iL : iL f ρ M = bnd (f ρ M) fun p => bnd (lstAt p.2 p.1) fun vs => some (vs, gdOf p.1 vs, p.2) := rfl
theorem s_iNL : iNL fa ρ M = bnd (fa ρ M) fun p => some (p.1, [], p.2) := rfl
theorem s_iR1 : iR1 fa ρ M = bnd (fa ρ M) fun p => match p.1 with
  | [.int n] => if -(2 ^ 62) ≤ n ∧ n < 2 ^ 62 then some (rngV 0 n.toNat, [], p.2) else none
  | _ => none := rfl
theorem s_iR2 : iR2 fa ρ M = bnd (fa ρ M) fun p => match p.1 with
  | [.int m, .int n] => if -(2 ^ 62) ≤ m ∧ m < 2 ^ 62 ∧ -(2 ^ 62) ≤ n ∧ n < 2 ^ 62 then some (rngV m (n - m).toNat, [], p.2) else none
  | _ => none := rfl
theorem s_iEn : iEn fa ρ M = bnd (fa ρ M) fun p => match p.1 with
  | [x] => bnd (lstAt p.2 x) fun vs => some (enumV 0 vs, gdOf x vs, p.2)
  | _ => none := rfl
theorem s_iZT : iZT fa ρ M = bnd (fa ρ M) fun p => match p.1 with
  | [.tup as, .tup bs] => some (zipV as bs, [], p.2)
  | _ => none := rfl
theorem s_lc {ws0 : List Nat} : lcF fi fg ft f ws0 ρ M = bnd (fi ρ M) fun p => if p.1.length ≤ 40000 then lcGo p.2.1 fg ft f (wipeR ρ ws0) p.1 p.2.2 else none := rfl
theorem s_lcN {gd : Gd} : lcGo gd fg ft f ρ [] M = if gok gd M = true then some ([], M) else none := rfl
theorem s_lcC {gd : Gd} : lcGo gd fg ft f ρ (a :: vs) M = if gok gd M = true then bnd (fg a ρ M) fun p => bnd (ft p.1 p.2) fun b => if b.1 = true then bnd (f p.1 b.2) fun x => bnd (lcGo gd fg ft f ρ vs x.2) fun xs => some (x.1 :: xs.1, xs.2) else lcGo gd fg ft f ρ vs b.2 else none := rfl
theorem s_raw {B : FS} : rawG m n B vs M = if vs.length = m then bnd (B (startR n vs) M) fun o => some (outF o) else none := rfl
theorem s_cut {B : FS} : cutG m n B vs M = bnd (rawG m n B vs M) fun p => if (decide (M.length ≤ p.2.length) && (cl M.length p.1 && clM M.length (p.2.take M.length))) = true then some (p.1, p.2.take M.length) else none := rfl
theorem s_outN : outF (.nx ρ M) = (.non, M) := rfl
theorem s_outR : outF (.rt a M) = (a, M) := rfl
/-! the store -/
theorem get_app {X : Mem} (h : M[k]? = some o) : (M ++ X)[k]? = some o := by
  rw [List.getElem?_append_left (List.getElem?_eq_some_iff.mp h).1]
  exact h
theorem get_at {X : Mem} : (M ++ X)[M.length + k]? = X[k]? := by
  rw [List.getElem?_append_right (by omega)]
  congr 1
  omega
theorem get_at0 {X : Mem} : (M ++ X)[M.length]? = X[0]? := get_at (k := 0)
mutual
theorem cl_mono {n m : Nat} (h : n ≤ m) : ∀ {v : Va}, cl n v = true → cl m v = true
  | .non, _ => rfl
  | .bl _, _ => rfl
  | .int _, _ => rfl
  | .str _, _ => rfl
  | .tup vs, e => clAll_mono h (vs := vs) e
  | .ref k, e => decide_eq_true (Nat.lt_of_lt_of_le (of_decide_eq_true e) h)
  | .fl vs, e => clAll_mono h (vs := vs) e
theorem clAll_mono {n m : Nat} (h : n ≤ m) : ∀ {vs : List Va}, clAll n vs = true → clAll m vs = true
  | [], _ => rfl
  | v :: vs, e => by
    have e' := Bool.and_eq_true_iff.mp (show (cl n v && clAll n vs) = true from e)
    show (cl m v && clAll m vs) = true
    rw [cl_mono h e'.1, clAll_mono h e'.2]
    rfl
end
theorem clO_mono {n m : Nat} (h : n ≤ m) {o : Ob} (e : clO n o = true) : clO m o = true := by
  cases o with
  | lst vs => exact clAll_mono h e
  | exc C fs => exact List.all_eq_true.mpr fun p hp => cl_mono h (List.all_eq_true.mp e p hp)
  | emp => rfl
theorem clM_mono {n m : Nat} (h : n ≤ m) {M : Mem} (e : clM n M = true) : clM m M = true := List.all_eq_true.mpr fun o ho => clO_mono h (List.all_eq_true.mp e o ho)
theorem clM_app {n : Nat} {M X : Mem} : clM n (M ++ X) = (clM n M && clM n X) := by
  unfold clM
  rw [List.all_append]
theorem clM_set {n : Nat} {M : Mem} {k : Nat} {o : Ob} (h : clM n M = true) (ho : clO n o = true) : clM n (M.set k o) = true := List.all_eq_true.mpr fun p hp => by
  rcases List.mem_or_eq_of_mem_set hp with z | z
  · exact List.all_eq_true.mp h p z
  · rw [z]
    exact ho
theorem clM_get {n : Nat} {M : Mem} {k : Nat} {o : Ob} (h : clM n M = true) (e : M[k]? = some o) : clO n o = true := List.all_eq_true.mp h o (List.mem_of_getElem? e)
/-- cut back to the same length -/
theorem cutG_of {m n : Nat} {B : FS} {vs : List Va} {M M' J : Mem} {v : Va} (h : rawG m n B vs M = some (v, M' ++ J)) (hl : M'.length = M.length) (hv : cl M.length v = true) (hM : clM M.length M' = true) : cutG m n B vs M = some (v, M') := by
  unfold cutG
  rw [h]
  show (if (decide (M.length ≤ (M' ++ J).length) && (cl M.length v && clM M.length ((M' ++ J).take M.length))) = true then some (v, (M' ++ J).take M.length) else none) = _
  have e : (M' ++ J).take M.length = M' := by
    rw [← hl, List.take_left']
    rfl
  rw [e, hv, hM, decide_eq_true (by rw [List.length_append]; omega)]
  rfl
theorem newG_of {m n : Nat} {B : FS} {vs : List Va} {M J : Mem} {r : Nat} {o : Ob} (h : rawG m n B vs M = some (.ref r, M ++ J)) (hr : M.length ≤ r) (ho : (M ++ J)[r]? = some o) (hc : clO M.length o = true) (hM : clM M.length M = true) : newG m n B vs M = some (.ref M.length, M ++ [o]) := by
  unfold newG
  rw [h]
  show (if M.length ≤ r then bnd (M ++ J)[r]? fun o => if (clO M.length o && clM M.length ((M ++ J).take M.length)) = true then some (Va.ref M.length, (M ++ J).take M.length ++ [o]) else none else none) = _
  rw [if_pos hr, ho, bnd_some, List.take_left', hc, hM]
  · rfl
  · rfl
theorem s_mulL (h : -(2 ^ 64) < i) (h2 : i < 2 ^ 64) : gMul M (.int i) (.int j) = some (.int (i * j)) := by
  rw [s_mul]
  unfold cMul
  rw [decide_eq_true h, decide_eq_true h2]
  rfl
theorem s_mulR (h : -(2 ^ 64) < j) (h2 : j < 2 ^ 64) : gMul M (.int i) (.int j) = some (.int (i * j)) := by
  rw [s_mul]
  unfold cMul
  rw [decide_eq_true h, decide_eq_true h2]
  simp
theorem s_modP (h : 0 < j) : gMod M (.int i) (.int j) = some (.int (i % j)) := by
  rw [s_mod, decide_eq_true h]
  rfl
theorem s_divP (h : 0 < j) (h2 : j < 2 ^ 62) : gDiv M (.int i) (.int j) = some (.int (i / j)) := by
  have h3 : j.natAbs.log2 < 9000 := by
    have h4 : j.natAbs ≠ 0 := by omega
    have h5 : j.natAbs.log2 < 62 := (Nat.log2_lt h4).mpr (by omega)
    omega
  rw [s_div]
  unfold cDiv
  rw [decide_eq_true h, decide_eq_true h3]
  rfl
theorem k_NoneType_bool : L2.kitB "NoneType" "bool" = some false := by decide +kernel
theorem k_NoneType_int : L2.kitB "NoneType" "int" = some false := by decide +kernel
theorem k_NoneType_str : L2.kitB "NoneType" "str" = some false := by decide +kernel
theorem k_NoneType_dict : L2.kitB "NoneType" "dict" = some false := by decide +kernel
theorem k_NoneType_tuple : L2.kitB "NoneType" "tuple" = some false := by decide +kernel
theorem k_NoneType_list : L2.kitB "NoneType" "list" = some false := by decide +kernel
theorem k_bool_bool : L2.kitB "bool" "bool" = some true := by decide +kernel
theorem k_bool_int : L2.kitB "bool" "int" = some true := by decide +kernel
theorem k_bool_str : L2.kitB "bool" "str" = some false := by decide +kernel
theorem k_bool_dict : L2.kitB "bool" "dict" = some false := by decide +kernel
theorem k_bool_tuple : L2.kitB "bool" "tuple" = some false := by decide +kernel
theorem k_bool_list : L2.kitB "bool" "list" = some false := by decide +kernel
theorem k_int_bool : L2.kitB "int" "bool" = some false := by decide +kernel
theorem k_int_int : L2.kitB "int" "int" = some true := by decide +kernel
theorem k_int_str : L2.kitB "int" "str" = some false := by decide +kernel
theorem k_int_dict : L2.kitB "int" "dict" = some false := by decide +kernel
theorem k_int_tuple : L2.kitB "int" "tuple" = some false := by decide +kernel
theorem k_int_list : L2.kitB "int" "list" = some false := by decide +kernel
theorem k_str_bool : L2.kitB "str" "bool" = some false := by decide +kernel
theorem k_str_int : L2.kitB "str" "int" = some false := by decide +kernel
theorem k_str_str : L2.kitB "str" "str" = some true := by decide +kernel
theorem k_str_dict : L2.kitB "str" "dict" = some false := by decide +kernel
theorem k_str_tuple : L2.kitB "str" "tuple" = some false := by decide +kernel
theorem k_str_list : L2.kitB "str" "list" = some false := by decide +kernel
theorem k_tuple_bool : L2.kitB "tuple" "bool" = some false := by decide +kernel
theorem k_tuple_int : L2.kitB "tuple" "int" = some false := by decide +kernel
theorem k_tuple_str : L2.kitB "tuple" "str" = some false := by decide +kernel
theorem k_tuple_dict : L2.kitB "tuple" "dict" = some false := by decide +kernel
theorem k_tuple_tuple : L2.kitB "tuple" "tuple" = some true := by decide +kernel
theorem k_tuple_list : L2.kitB "tuple" "list" = some false := by decide +kernel
theorem k_list_bool : L2.kitB "list" "bool" = some false := by decide +kernel
theorem k_list_int : L2.kitB "list" "int" = some false := by decide +kernel
theorem k_list_str : L2.kitB "list" "str" = some false := by decide +kernel
theorem k_list_dict : L2.kitB "list" "dict" = some false := by decide +kernel
theorem k_list_tuple : L2.kitB "list" "tuple" = some false := by decide +kernel
theorem k_list_list : L2.kitB "list" "list" = some true := by decide +kernel
theorem k_dict_bool : L2.kitB "dict" "bool" = some false := by decide +kernel
theorem k_dict_int : L2.kitB "dict" "int" = some false := by decide +kernel
theorem k_dict_str : L2.kitB "dict" "str" = some false := by decide +kernel
theorem k_dict_dict : L2.kitB "dict" "dict" = some true := by decide +kernel
theorem k_dict_tuple : L2.kitB "dict" "tuple" = some false := by decide +kernel
theorem k_dict_list : L2.kitB "dict" "list" = some false := by decide +kernel
theorem s_isG {x : String} : isG x M a = bnd (tyS M a) fun s => bnd (L2.kitB s x) fun b => some (.bl b) := rfl
theorem s_isG2 {x y : String} : isG2 x y M a = bnd (tyS M a) fun s => bnd (L2.kitB s x) fun b => bnd (L2.kitB s y) fun c => some (.bl (b || c)) := rfl
theorem s_tyN : tyS M .non = some "NoneType" := rfl
theorem s_tyB {x : Bool} : tyS M (.bl x) = some "bool" := rfl
theorem s_tyI : tyS M (.int i) = some "int" := rfl
theorem s_tyS {x : Str} : tyS M (.str x) = some "str" := rfl
theorem s_tyT : tyS M (.tup vs) = some "tuple" := rfl
theorem s_tyF : tyS M (.fl vs) = some "list" := rfl
theorem s_tyR : tyS M (.ref k) = match M[k]? with
  | some (.lst _) => some "list"
  | some .emp => some "dict"
  | _ => none := rfl
theorem s_lenD : lenDG M [.ref k] = match M[k]? with
  | some .emp => some (.int 0)
  | _ => none := rfl
theorem s_emp : vEmp ρ M = some (.ref M.length, M ++ [.emp]) := rfl
theorem s_isX {ans : Nat → Option Bool} : gIsX ans M (.ref k) = match M[k]? with
  | some (.exc C _) => bnd (ans C) fun b => some (.bl b)
  | _ => none := rfl
theorem s_gf {lo hi : Nat} {nm : Str} : gGf lo hi nm M (.ref k) = match M[k]? with
  | some (.exc C fs) => if lo ≤ C ∧ C < hi then fs.lookup nm else none
  | _ => none := rfl
theorem s_mkX {C : Nat} {nm : Str} : vMkX C nm f ρ M = bnd (f ρ M) fun p => some (.ref p.2.length, p.2 ++ [.exc C [(nm, p.1)]]) := rfl
theorem s_mk0 {C : Nat} : vMk0 C ρ M = some (.ref M.length, M ++ [.exc C []]) := rfl
theorem s_resR : resD M (.ref k) = match M[k]? with
  | some (.lst vs) => bnd (toDs vs) fun ds => some (.list ds)
  | _ => none := rfl
theorem s_gok1 (h : M[k]? = some (.lst vs)) : gok [(k, vs)] M = true := by
  show ((match M[k]? with
    | some (.lst ws) => beqL ws vs
    | _ => false) && true) = true
  rw [h]
  show (beqL vs vs && true) = true
  rw [beqL_self]
  rfl
theorem s_gdR : gdOf (.ref k) vs = [(k, vs)] := rfl
theorem s_gdF : gdOf (.fl ws) vs = [] := rfl
theorem s_enN : enumV n [] = [] := rfl
theorem s_enC : enumV n (a :: vs) = .tup [.int n, a] :: enumV (n + 1) vs := rfl
theorem s_bsN : bools [] = some [] := rfl
theorem s_bsC {x : Bool} : bools (.bl x :: vs) = bnd (bools vs) fun bs => some (x :: bs) := rfl
theorem s_anyL : anyL vs = bnd (bools vs) fun bs => some (.bl (bs.any id)) := rfl
theorem s_allL : allL vs = bnd (bools vs) fun bs => some (.bl (bs.all id)) := rfl
theorem s_rng0 : rngV 0 0 = [] := rfl
theorem s_rng1 : rngV 0 1 = [.int 0] := rfl
theorem s_rng2 : rngV 0 2 = [.int 0, .int 1] := rfl
theorem s_rng3 : rngV 0 3 = [.int 0, .int 1, .int 2] := rfl
theorem s_rng4 : rngV 0 4 = [.int 0, .int 1, .int 2, .int 3] := rfl
theorem s_cast (n : Nat) : ((OfNat.ofNat (n + 2) : Nat) : Int) = OfNat.ofNat (n + 2) := rfl
theorem s_cast0 : ((0 : Nat) : Int) = 0 := rfl
theorem s_cast1 : ((1 : Nat) : Int) = 1 := rfl
theorem s_toNat0 : (0 : Int).toNat = 0 := rfl
theorem s_toNat1 : (1 : Int).toNat = 1 := rfl
theorem s_toNat2 (n : Nat) : (OfNat.ofNat (n + 2) : Int).toNat = OfNat.ofNat (n + 2) := rfl
end
end VM
namespace X0
open PySem VM
def ansC (j i : Nat) : Option Bool := if i < 21 then some (j == 0 || i == j) else none
def ansV (i : Nat) : Option Bool := if i < 21 then some true else none
def B__law_pool : FS :=
  (sSeq (sAsg (vOp gAdd (vOp gMul (vC (.int 7)) (vVar 1)) (vOp gMul (vC (.int 3)) (vCB lenG (aCons (vVar 0) aNil)))) (gN 2))
  (sSeq (sIf (tB' (vOp gLt (vVar 1) (vCB lenG (aCons (vVar 0) aNil)))) (sAsg (vOp gIxL (vVar 0) (vVar 1)) (gN 2)) sNx)
  (sSeq (sAsg (vCB absG (aCons (vVar 2) aNil)) (gN 3))
  (sSeq (sAsg (vOp gMod (vCB intG (aCons (vOp gAdd (vOp gAdd (vOp gAdd (vOp gMul (vVar 3) (vC (.int 48271))) (vOp gMul (vC (.int 16807)) (vVar 1))) (vOp gMul (vC (.int 11)) (vCB intG (aCons (vOp gLt (vVar 2) (vC (.int 0))) aNil)))) (vC (.int 1))) aNil)) (vC (.int 2305843009213693951))) (gN 4))
  (sSeq (sIf (tB' (vOp gGe (vVar 3) (vC (.int 1000000000000000000)))) (sRet (vTrk (lLst (aCons (vOp gAdd (vOp gMul (vC (.int 2)) (vOp gSubI (vVar 3) (vC (.int 1000000000000000000)))) (vCB intG (aCons (vOp gLt (vVar 2) (vC (.int 0))) aNil))) (aCons (vVar 4) aNil))))) sNx)
  (sRet (vTrk (lLst (aCons (vC (.int 0)) (aCons (vVar 4) aNil))))))))))
def G__law_pool : FF := newG 2 5 B__law_pool
def L1__law_take : FS :=
  (sSeq (sAsg (vOp gMod (vCB intG (aCons (vOp gAdd (vOp gMul (vOp gIxL (vVar 0) (vC (.int 1))) (vC (.int 6364136223846793005))) (vC (.int 1442695040888963407))) aNil)) (vC (.int 18446744073709551616))) (gSb (vVar 0) (vC (.int 1))))
  (sSeq (sAsg (vOp gAdd (vOp gMul (vVar 2) (vC (.int 16777216))) (vOp gDiv (vOp gIxL (vVar 0) (vC (.int 1))) (vC (.int 1099511627776)))) (gN 2))
  (sAsg (vOp gMul (vVar 3) (vC (.int 16777216))) (gN 3))))
def B__law_take : FS :=
  (sSeq (sIf (tB' (vOp gGt (vOp gIxL (vVar 0) (vC (.int 0))) (vC (.int 1)))) (sSeq (sAsg (vOp gMod (vCB intG (aCons (vOp gIxL (vVar 0) (vC (.int 0))) aNil)) (vVar 1)) (gN 2))
  (sSeq (sAsg (vOp gDiv (vOp gIxL (vVar 0) (vC (.int 0))) (vVar 1)) (gSb (vVar 0) (vC (.int 0))))
  (sRet (vVar 2)))) sNx)
  (sSeq (sAsg (vC (.int 0)) (gN 2))
  (sSeq (sAsg (vC (.int 1)) (gN 3))
  (sSeq (whileGo (tB' (vOp gLt (vVar 3) (vOp gMul (vC (.int 16777216)) (vVar 1)))) L1__law_take 3)
  (sRet (vOp gMod (vCB intG (aCons (vVar 2) aNil)) (vVar 1)))))))
def G__law_take : FF := cutG 2 4 B__law_take
def B__law_alike (REC : FF) : FS :=
  (sSeq (sIf (tOr' (tB' (vUnM (isG "bool") (vVar 0))) (tB' (vUnM (isG "bool") (vVar 1)))) (sRet (vAnd (vUnM (isG "bool") (vVar 0)) (vAnd (vUnM (isG "bool") (vVar 1)) (vOp gEq (vVar 0) (vVar 1))))) sNx)
  (sSeq (sIf (tOr' (tB' (vUnM (isG "int") (vVar 0))) (tB' (vUnM (isG "int") (vVar 1)))) (sRet (vAnd (vUnM (isG "int") (vVar 0)) (vAnd (vUnM (isG "int") (vVar 1)) (vOp gEq (vVar 0) (vVar 1))))) sNx)
  (sSeq (sIf (tOr' (tB' (vUnM (isG "str") (vVar 0))) (tB' (vUnM (isG "str") (vVar 1)))) (sRet (vAnd (vUnM (isG "str") (vVar 0)) (vAnd (vUnM (isG "str") (vVar 1)) (vOp gEq (vVar 0) (vVar 1))))) sNx)
  (sSeq (sIf (tOr' (tB' (vUn (fun v => some (.bl (isN v))) (vVar 0))) (tB' (vUn (fun v => some (.bl (isN v))) (vVar 1)))) (sRet (vAnd (vUn (fun v => some (.bl (isN v))) (vVar 0)) (vUn (fun v => some (.bl (isN v))) (vVar 1)))) sNx)
  (sSeq (sIf (tOr' (tB' (vUnM (isG "dict") (vVar 0))) (tB' (vUnM (isG "dict") (vVar 1)))) (sRet (vAnd (vUnM (isG "dict") (vVar 0)) (vAnd (vUnM (isG "dict") (vVar 1)) (vChain gEq gEq (vCB lenDG (aCons (vVar 0) aNil)) (vCB lenDG (aCons (vVar 1) aNil)) (vC (.int 0)))))) sNx)
  (sSeq (sIf (tOr' (tB' (vOp gNe (vUnM (isG "tuple") (vVar 0)) (vUnM (isG "tuple") (vVar 1)))) (tB' (vOp gNe (vUnM (isG "list") (vVar 0)) (vUnM (isG "list") (vVar 1))))) (sRet (vC (.bl false))) sNx)
  (sSeq (sIf (tOr' (tNot' (tB' (vUnM (isG2 "tuple" "list") (vVar 0)))) (tB' (vOp gNe (vCB lenG (aCons (vVar 0) aNil)) (vCB lenG (aCons (vVar 1) aNil))))) (sRet (vC (.bl false))) sNx)
  (sRet (vOf allL (lcF (iR1 (aCons (vCB lenG (aCons (vVar 0) aNil)) aNil)) (gN 2) tYes' (vCall REC (aCons (vOp gIx (vVar 0) (vVar 2)) (aCons (vOp gIx (vVar 1) (vVar 2)) aNil))) [2]))))))))))
def G__law_alike : Nat → FF
  | 0 => fun _ _ => none
  | k + 1 => cutG 2 3 (B__law_alike (G__law_alike k))
def B__law_one : FS :=
  (sRet (vOp gIxL (vVar 1) (vCall G__law_take (aCons (vVar 0) (aCons (vCB lenG (aCons (vVar 1) aNil)) aNil)))))
def G__law_one : FF := cutG 2 2 B__law_one
def B__law_held : FS :=
  (sSeq (sIf (tB' (vOp gEq (vVar 0) (vC (.int 0)))) (sRet (vIf (tB' (vVar 2)) (vMkX 1 "given" (vVar 1)) (vMkX 1 "given" (vVar 1)))) sNx)
  (sSeq (sIf (tB' (vOp gEq (vVar 0) (vC (.int 1)))) (sRet (vIf (tB' (vVar 2)) (vMkX 2 "given" (vVar 1)) (vMkX 2 "given" (vVar 1)))) sNx)
  (sSeq (sIf (tB' (vOp gEq (vVar 0) (vC (.int 2)))) (sRet (vIf (tB' (vVar 2)) (vMkX 3 "given" (vVar 1)) (vMkX 3 "given" (vVar 1)))) sNx)
  (sSeq (sIf (tB' (vOp gEq (vVar 0) (vC (.int 3)))) (sRet (vIf (tB' (vVar 2)) (vMkX 4 "given" (vVar 1)) (vMkX 4 "given" (vVar 1)))) sNx)
  (sSeq (sIf (tB' (vOp gEq (vVar 0) (vC (.int 4)))) (sRet (vIf (tB' (vVar 2)) (vMkX 5 "given" (vVar 1)) (vMkX 5 "given" (vVar 1)))) sNx)
  (sSeq (sIf (tB' (vOp gEq (vVar 0) (vC (.int 5)))) (sRet (vIf (tB' (vVar 2)) (vMkX 6 "given" (vVar 1)) (vMkX 6 "given" (vVar 1)))) sNx)
  (sSeq (sIf (tB' (vOp gEq (vVar 0) (vC (.int 6)))) (sRet (vIf (tB' (vVar 2)) (vMkX 7 "given" (vVar 1)) (vMkX 7 "given" (vVar 1)))) sNx)
  (sSeq (sIf (tB' (vOp gEq (vVar 0) (vC (.int 7)))) (sRet (vIf (tB' (vVar 2)) (vMkX 8 "given" (vVar 1)) (vMkX 8 "given" (vVar 1)))) sNx)
  (sRet (vIf (tB' (vVar 2)) (vMkX 9 "given" (vVar 1)) (vMkX 9 "given" (vVar 1))))))))))))
def G__law_held : FF := rawG 3 3 B__law_held
def B__law_placed : FS :=
  (sSeq (sIf (tB' (vOp gEq (vVar 0) (vC (.int 0)))) (sRet (vIf (tB' (vVar 2)) (vMkX 10 "index" (vVar 1)) (vMkX 10 "index" (vVar 1)))) sNx)
  (sSeq (sIf (tB' (vOp gEq (vVar 0) (vC (.int 1)))) (sRet (vIf (tB' (vVar 2)) (vMkX 11 "index" (vVar 1)) (vMkX 11 "index" (vVar 1)))) sNx)
  (sSeq (sIf (tB' (vOp gEq (vVar 0) (vC (.int 2)))) (sRet (vIf (tB' (vVar 2)) (vMkX 12 "index" (vVar 1)) (vMkX 12 "index" (vVar 1)))) sNx)
  (sSeq (sIf (tB' (vOp gEq (vVar 0) (vC (.int 3)))) (sRet (vIf (tB' (vVar 2)) (vMkX 13 "index" (vVar 1)) (vMkX 13 "index" (vVar 1)))) sNx)
  (sSeq (sIf (tB' (vOp gEq (vVar 0) (vC (.int 4)))) (sRet (vIf (tB' (vVar 2)) (vMkX 14 "index" (vVar 1)) (vMkX 14 "index" (vVar 1)))) sNx)
  (sSeq (sIf (tB' (vOp gEq (vVar 0) (vC (.int 5)))) (sRet (vIf (tB' (vVar 2)) (vMkX 15 "index" (vVar 1)) (vMkX 15 "index" (vVar 1)))) sNx)
  (sSeq (sIf (tB' (vOp gEq (vVar 0) (vC (.int 6)))) (sRet (vIf (tB' (vVar 2)) (vMkX 16 "index" (vVar 1)) (vMkX 16 "index" (vVar 1)))) sNx)
  (sSeq (sIf (tB' (vOp gEq (vVar 0) (vC (.int 7)))) (sRet (vIf (tB' (vVar 2)) (vMkX 17 "index" (vVar 1)) (vMkX 17 "index" (vVar 1)))) sNx)
  (sRet (vIf (tB' (vVar 2)) (vMkX 18 "index" (vVar 1)) (vMkX 18 "index" (vVar 1))))))))))))
def G__law_placed : FF := rawG 3 3 B__law_placed
def B__law_made : FS :=
  (sSeq (sAsg (vIf (tB' (vOp gLt (vVar 0) (vC (.int 9)))) (vCall G__law_held (aCons (vVar 0) (aCons (vVar 1) (aCons (vVar 2) aNil)))) (vCall G__law_placed (aCons (vOp gSubI (vVar 0) (vC (.int 9))) (aCons (vVar 1) (aCons (vVar 2) aNil))))) (gN 3))
  (sRet (vTup (aCons (vVar 3) (aCons (vIf (tB' (vOp gLt (vVar 0) (vC (.int 9)))) (vUnM (gGf 1 10 "given") (vVar 3)) (vUnM (gGf 10 19 "index") (vVar 3))) aNil)))))
def G__law_made : FF := rawG 3 4 B__law_made
def B__law_kinds_of : FS :=
  (sSeq (sAsg (vTrk (lLst (aCons (vUnM (gIsX (ansC 1)) (vVar 0)) (aCons (vUnM (gIsX (ansC 2)) (vVar 0)) (aCons (vUnM (gIsX (ansC 3)) (vVar 0)) (aCons (vUnM (gIsX (ansC 4)) (vVar 0)) (aCons (vUnM (gIsX (ansC 5)) (vVar 0)) aNil))))))) (gN 1))
  (sSeq (sAsg (vTrk (lOp gCat (vVar 1) (vTrk (lLst (aCons (vUnM (gIsX (ansC 6)) (vVar 0)) (aCons (vUnM (gIsX (ansC 7)) (vVar 0)) (aCons (vUnM (gIsX (ansC 8)) (vVar 0)) (aCons (vUnM (gIsX (ansC 9)) (vVar 0)) aNil)))))))) (gN 1))
  (sSeq (sAsg (vTrk (lOp gCat (vVar 1) (vTrk (lLst (aCons (vUnM (gIsX (ansC 10)) (vVar 0)) (aCons (vUnM (gIsX (ansC 11)) (vVar 0)) (aCons (vUnM (gIsX (ansC 12)) (vVar 0)) (aCons (vUnM (gIsX (ansC 13)) (vVar 0)) (aCons (vUnM (gIsX (ansC 14)) (vVar 0)) aNil))))))))) (gN 1))
  (sSeq (sAsg (vTrk (lOp gCat (vVar 1) (vTrk (lLst (aCons (vUnM (gIsX (ansC 15)) (vVar 0)) (aCons (vUnM (gIsX (ansC 16)) (vVar 0)) (aCons (vUnM (gIsX (ansC 17)) (vVar 0)) (aCons (vUnM (gIsX (ansC 18)) (vVar 0)) aNil)))))))) (gN 1))
  (sSeq (sAsg (vTrk (lOp gCat (vVar 1) (vTrk (lLst (aCons (vUnM (gIsX (ansC 19)) (vVar 0)) (aCons (vUnM (gIsX (ansC 20)) (vVar 0)) aNil)))))) (gN 1))
  (sRet (vTrk (lcF (iEn (aCons (vVar 1) aNil)) (gT 2 (gsCons (gN 2) (gsCons (gN 3) gsNil))) (tB' (vVar 3)) (vVar 2) [2, 3]))))))))
def G__law_kinds_of : FF := newG 1 4 B__law_kinds_of
def L1__law_right : FS :=
  (sIf (tOr' (tB' (vOp1 gNeL (vCall G__law_kinds_of (aCons (vVar 4) aNil)) (lLst (aCons (vVar 2) aNil)))) (tOr' (tNot' (tB' (vUnM (gIsX (ansC 0)) (vVar 4)))) (tNot' (tB' (vUnM (gIsX ansV) (vVar 4)))))) (sRet (vC (.bl false))) sNx)
def L2__law_right : FS :=
  (sSeq (sAsg (vCall G__law_one (aCons (vVar 0) (aCons (vVar 1) aNil))) (gN 3))
  (sSeq (sAsg (vCall G__law_made (aCons (vVar 2) (aCons (vVar 3) (aCons (vOp gEq (vCall G__law_take (aCons (vVar 0) (aCons (vC (.int 2)) aNil))) (vC (.int 0))) aNil)))) (gT 2 (gsCons (gN 4) (gsCons (gN 5) gsNil))))
  (sIf (tOr' (tNot' (tB' (vCall (G__law_alike 4) (aCons (vVar 5) (aCons (vVar 3) aNil))))) (tOr' (tB' (vOp1 gNeL (vCall G__law_kinds_of (aCons (vVar 4) aNil)) (lLst (aCons (vVar 2) aNil)))) (tOr' (tNot' (tB' (vUnM (gIsX (ansC 0)) (vVar 4)))) (tNot' (tB' (vUnM (gIsX ansV) (vVar 4))))))) (sRet (vC (.bl false))) sNx)))
def B__law_right : FS :=
  (sSeq (sAsg (vTrk (lLst (aCons (vC .non) (aCons (vC (.int 0)) (aCons (vUn nNeg (vC (.int 1))) (aCons (vC (.bl true)) (aCons (vC (.str "")) (aCons (vC (.str "reach any\n")) (aCons (vTup aNil) (aCons (vTup (aCons (vC (.int 1)) (aCons (vTup (aCons (vC (.int 2)) (aCons (vC (.str "a")) aNil))) aNil))) (aCons (vTrk (lLst (aCons (vC (.int 3)) aNil))) (aCons vEmp (aCons (vOp gPow (vC (.int 10)) (vC (.int 29))) (aCons (vCall G__law_take (aCons (vVar 0) (aCons (vC (.int 99)) aNil))) aNil)))))))))))))) (gN 1))
  (sSeq (sFor (iR1 (aCons (vC (.int 18)) aNil)) (gN 2) L2__law_right)
  (sSeq (sFor (iNL (lLst (aCons (vTup (aCons (vC (.int 18)) (aCons (vMk0 19) aNil))) (aCons (vTup (aCons (vC (.int 19)) (aCons (vMk0 20) aNil))) aNil)))) (gT 2 (gsCons (gN 2) (gsCons (gN 4) gsNil))) L1__law_right)
  (sRet (vAnd (vUnM (gIsX ansV) (vMk0 0)) (vOp1 gEqL (vCall G__law_kinds_of (aCons (vMk0 0) aNil)) (lLst aNil)))))))
def G__law_right : FF := cutG 1 6 B__law_right
def L1_law : FS :=
  (sIf (tNot' (tB' (vCall G__law_right (aCons (vCall G__law_pool (aCons (vVar 0) (aCons (vVar 1) aNil))) aNil)))) (sRet (vC (.bl false))) sNx)
def B_law : FS :=
  (sSeq (sFor (iR1 (aCons (vCB minG (aCons (vC (.int 8)) (aCons (vCB maxG (aCons (vC (.int 3)) (aCons (vCB lenG (aCons (vVar 0) aNil)) aNil))) aNil))) aNil)) (gN 1) L1_law)
  (sRet (vC (.bl true))))
def G_law : FF := cutG 1 2 B_law
end X0
namespace X0
open PySem PySem.Spec PyProof.Rows L2 Evl VM
def top (i : Nat) : Stmt := PySem.Challenge.pw_clockrooms_k00_errors_each_of_its_own.main.body.getD i (.Pass ⟨0, 0, 0, 0⟩)
def ofCls : Stmt → Stmt
  | .ClassDef _ _ _ b _ _ _ _ _ _ _ => b.getD 0 (.Pass ⟨0, 0, 0, 0⟩)
  | s => s
abbrev s__law_pool : Stmt := top 23
abbrev N__law_pool : List Str := ["script", "k", "cell", "size", "stir"]
theorem sc__law_pool : FnScope N__law_pool ["script", "k"] (defScope s__law_pool) := ⟨rfl, rfl, rfl, by decide +kernel, rfl, by decide +kernel, by decide +kernel⟩
abbrev s__law_take : Stmt := top 24
abbrev N__law_take : List Str := ["pool", "many", "told", "reach"]
theorem sc__law_take : FnScope N__law_take ["pool", "many"] (defScope s__law_take) := ⟨rfl, rfl, rfl, by decide +kernel, rfl, by decide +kernel, by decide +kernel⟩
abbrev s__law_alike : Stmt := top 25
abbrev N__law_alike : List Str := ["one", "two", "k"]
theorem sc__law_alike : FnScope N__law_alike ["one", "two"] (defScope s__law_alike) := ⟨rfl, rfl, rfl, by decide +kernel, rfl, by decide +kernel, by decide +kernel⟩
abbrev s__law_one : Stmt := top 26
abbrev N__law_one : List Str := ["pool", "some"]
theorem sc__law_one : FnScope N__law_one ["pool", "some"] (defScope s__law_one) := ⟨rfl, rfl, rfl, by decide +kernel, rfl, by decide +kernel, by decide +kernel⟩
abbrev s__law_held : Stmt := top 27
abbrev N__law_held : List Str := ["k", "value", "is_named"]
theorem sc__law_held : FnScope N__law_held ["k", "value", "is_named"] (defScope s__law_held) := ⟨rfl, rfl, rfl, by decide +kernel, rfl, by decide +kernel, by decide +kernel⟩
abbrev s__law_placed : Stmt := top 28
abbrev N__law_placed : List Str := ["k", "value", "is_named"]
theorem sc__law_placed : FnScope N__law_placed ["k", "value", "is_named"] (defScope s__law_placed) := ⟨rfl, rfl, rfl, by decide +kernel, rfl, by decide +kernel, by decide +kernel⟩
abbrev s__law_made : Stmt := top 29
abbrev N__law_made : List Str := ["k", "value", "is_named", "e"]
theorem sc__law_made : FnScope N__law_made ["k", "value", "is_named"] (defScope s__law_made) := ⟨rfl, rfl, rfl, by decide +kernel, rfl, by decide +kernel, by decide +kernel⟩
abbrev s__law_kinds_of : Stmt := top 30
abbrev N__law_kinds_of : List Str := ["e", "told", "k", "is_one"]
theorem sc__law_kinds_of : FnScope N__law_kinds_of ["e"] (defScope s__law_kinds_of) := ⟨rfl, rfl, rfl, by decide +kernel, rfl, by decide +kernel, by decide +kernel⟩
abbrev s__law_right : Stmt := top 31
abbrev N__law_right : List Str := ["pool", "values", "k", "value", "e", "kept"]
theorem sc__law_right : FnScope N__law_right ["pool"] (defScope s__law_right) := ⟨rfl, rfl, rfl, by decide +kernel, rfl, by decide +kernel, by decide +kernel⟩
abbrev s_law : Stmt := top 32
abbrev N_law : List Str := ["script", "turn"]
theorem sc_law : FnScope N_law ["script"] (defScope s_law) := ⟨rfl, rfl, rfl, by decide +kernel, rfl, by decide +kernel, by decide +kernel⟩
abbrev i_InvalidPlaces : Stmt := ofCls (top 2)
theorem si_InvalidPlaces : FnScope ["self", "given"] ["self", "given"] (defScope i_InvalidPlaces) := ⟨rfl, rfl, rfl, by decide +kernel, rfl, by decide +kernel, by decide +kernel⟩
abbrev i_InvalidZone : Stmt := ofCls (top 3)
theorem si_InvalidZone : FnScope ["self", "given"] ["self", "given"] (defScope i_InvalidZone) := ⟨rfl, rfl, rfl, by decide +kernel, rfl, by decide +kernel, by decide +kernel⟩
abbrev i_InvalidStand : Stmt := ofCls (top 4)
theorem si_InvalidStand : FnScope ["self", "given"] ["self", "given"] (defScope i_InvalidStand) := ⟨rfl, rfl, rfl, by decide +kernel, rfl, by decide +kernel, by decide +kernel⟩
abbrev i_InvalidNumber : Stmt := ofCls (top 5)
theorem si_InvalidNumber : FnScope ["self", "given"] ["self", "given"] (defScope i_InvalidNumber) := ⟨rfl, rfl, rfl, by decide +kernel, rfl, by decide +kernel, by decide +kernel⟩
abbrev i_InvalidPoint : Stmt := ofCls (top 6)
theorem si_InvalidPoint : FnScope ["self", "given"] ["self", "given"] (defScope i_InvalidPoint) := ⟨rfl, rfl, rfl, by decide +kernel, rfl, by decide +kernel, by decide +kernel⟩
abbrev i_InvalidGreatest : Stmt := ofCls (top 7)
theorem si_InvalidGreatest : FnScope ["self", "given"] ["self", "given"] (defScope i_InvalidGreatest) := ⟨rfl, rfl, rfl, by decide +kernel, rfl, by decide +kernel, by decide +kernel⟩
abbrev i_InvalidLine : Stmt := ofCls (top 8)
theorem si_InvalidLine : FnScope ["self", "given"] ["self", "given"] (defScope i_InvalidLine) := ⟨rfl, rfl, rfl, by decide +kernel, rfl, by decide +kernel, by decide +kernel⟩
abbrev i_NotADesk : Stmt := ofCls (top 9)
theorem si_NotADesk : FnScope ["self", "given"] ["self", "given"] (defScope i_NotADesk) := ⟨rfl, rfl, rfl, by decide +kernel, rfl, by decide +kernel, by decide +kernel⟩
abbrev i_NotNow : Stmt := ofCls (top 10)
theorem si_NotNow : FnScope ["self", "given"] ["self", "given"] (defScope i_NotNow) := ⟨rfl, rfl, rfl, by decide +kernel, rfl, by decide +kernel, by decide +kernel⟩
abbrev i_InvalidText : Stmt := ofCls (top 11)
theorem si_InvalidText : FnScope ["self", "index"] ["self", "index"] (defScope i_InvalidText) := ⟨rfl, rfl, rfl, by decide +kernel, rfl, by decide +kernel, by decide +kernel⟩
abbrev i_InvalidPlan : Stmt := ofCls (top 12)
theorem si_InvalidPlan : FnScope ["self", "index"] ["self", "index"] (defScope i_InvalidPlan) := ⟨rfl, rfl, rfl, by decide +kernel, rfl, by decide +kernel, by decide +kernel⟩
abbrev i_Misfit : Stmt := ofCls (top 13)
theorem si_Misfit : FnScope ["self", "index"] ["self", "index"] (defScope i_Misfit) := ⟨rfl, rfl, rfl, by decide +kernel, rfl, by decide +kernel, by decide +kernel⟩
abbrev i_InvalidLimits : Stmt := ofCls (top 14)
theorem si_InvalidLimits : FnScope ["self", "index"] ["self", "index"] (defScope i_InvalidLimits) := ⟨rfl, rfl, rfl, by decide +kernel, rfl, by decide +kernel, by decide +kernel⟩
abbrev i_InvalidWay : Stmt := ofCls (top 15)
theorem si_InvalidWay : FnScope ["self", "index"] ["self", "index"] (defScope i_InvalidWay) := ⟨rfl, rfl, rfl, by decide +kernel, rfl, by decide +kernel, by decide +kernel⟩
abbrev i_InvalidRun : Stmt := ofCls (top 16)
theorem si_InvalidRun : FnScope ["self", "index"] ["self", "index"] (defScope i_InvalidRun) := ⟨rfl, rfl, rfl, by decide +kernel, rfl, by decide +kernel, by decide +kernel⟩
abbrev i_InvalidWord : Stmt := ofCls (top 17)
theorem si_InvalidWord : FnScope ["self", "index"] ["self", "index"] (defScope i_InvalidWord) := ⟨rfl, rfl, rfl, by decide +kernel, rfl, by decide +kernel, by decide +kernel⟩
abbrev i_InvalidPapers : Stmt := ofCls (top 18)
theorem si_InvalidPapers : FnScope ["self", "index"] ["self", "index"] (defScope i_InvalidPapers) := ⟨rfl, rfl, rfl, by decide +kernel, rfl, by decide +kernel, by decide +kernel⟩
abbrev i_Broken : Stmt := ofCls (top 19)
theorem si_Broken : FnScope ["self", "index"] ["self", "index"] (defScope i_Broken) := ⟨rfl, rfl, rfl, by decide +kernel, rfl, by decide +kernel, by decide +kernel⟩
structure Txt (P : Program) (w : World) (K : PySem.W.Frag) (mg : Str → Option Value) (base : Heap) (ad : Nat → Addr) (fd : Nat → FuncData) (cA : Nat → Addr) (aI : Nat → Addr) (fI : Nat → FuncData) : Prop where
  F__law_pool : Fun K "_law_pool" "_law_pool" s__law_pool (ad 23) (fd 23)
  g__law_pool : mg "_law_pool" = some (.ref (ad 23))
  F__law_take : Fun K "_law_take" "_law_take" s__law_take (ad 24) (fd 24)
  g__law_take : mg "_law_take" = some (.ref (ad 24))
  F__law_alike : Fun K "_law_alike" "_law_alike" s__law_alike (ad 25) (fd 25)
  g__law_alike : mg "_law_alike" = some (.ref (ad 25))
  F__law_one : Fun K "_law_one" "_law_one" s__law_one (ad 26) (fd 26)
  g__law_one : mg "_law_one" = some (.ref (ad 26))
  F__law_held : Fun K "_law_held" "_law_held" s__law_held (ad 27) (fd 27)
  g__law_held : mg "_law_held" = some (.ref (ad 27))
  F__law_placed : Fun K "_law_placed" "_law_placed" s__law_placed (ad 28) (fd 28)
  g__law_placed : mg "_law_placed" = some (.ref (ad 28))
  F__law_made : Fun K "_law_made" "_law_made" s__law_made (ad 29) (fd 29)
  g__law_made : mg "_law_made" = some (.ref (ad 29))
  F__law_kinds_of : Fun K "_law_kinds_of" "_law_kinds_of" s__law_kinds_of (ad 30) (fd 30)
  g__law_kinds_of : mg "_law_kinds_of" = some (.ref (ad 30))
  F__law_right : Fun K "_law_right" "_law_right" s__law_right (ad 31) (fd 31)
  g__law_right : mg "_law_right" = some (.ref (ad 31))
  F_law : Fun K "law" "law" s_law (ad 32) (fd 32)
  g_law : mg "law" = some (.ref (ad 32))
  b_len : mg "len" = none
  b_all : mg "all" = none
  b_abs : mg "abs" = none
  b_max : mg "max" = none
  b_min : mg "min" = none
  b_isinstance : mg "isinstance" = none
  b_int : mg "int" = none
  b_tuple : mg "tuple" = none
  b_list : mg "list" = none
  b_bool : mg "bool" = none
  b_str : mg "str" = none
  b_dict : mg "dict" = none
  b_range : mg "range" = none
  b_enumerate : mg "enumerate" = none
  b_ValueError : mg "ValueError" = none
  g_RoomError : mg "RoomError" = some (.ref (cA 0))
  e_RoomError : PySem.W.excIn K (cA 0) PySem.HandSPX.veTail "ValueError.__new__" = true
  k_RoomError : PySem.W.keepIn K (.ref (cA 0)) = true
  g_InvalidPlaces : mg "InvalidPlaces" = some (.ref (cA 1))
  O_InvalidPlaces : OexC K (cA 1)
  iC_InvalidPlaces : PySem.W.findIn K (.ref (cA 1)) "__init__" = some (some (.ref (aI 1)))
  tI_InvalidPlaces : PySem.W.typeIn K (.ref (aI 1)) = some (.type "function")
  Fi_InvalidPlaces : Fun K "__init__" "InvalidPlaces.__init__" i_InvalidPlaces (aI 1) (fI 1)
  g_InvalidZone : mg "InvalidZone" = some (.ref (cA 2))
  O_InvalidZone : OexC K (cA 2)
  iC_InvalidZone : PySem.W.findIn K (.ref (cA 2)) "__init__" = some (some (.ref (aI 2)))
  tI_InvalidZone : PySem.W.typeIn K (.ref (aI 2)) = some (.type "function")
  Fi_InvalidZone : Fun K "__init__" "InvalidZone.__init__" i_InvalidZone (aI 2) (fI 2)
  g_InvalidStand : mg "InvalidStand" = some (.ref (cA 3))
  O_InvalidStand : OexC K (cA 3)
  iC_InvalidStand : PySem.W.findIn K (.ref (cA 3)) "__init__" = some (some (.ref (aI 3)))
  tI_InvalidStand : PySem.W.typeIn K (.ref (aI 3)) = some (.type "function")
  Fi_InvalidStand : Fun K "__init__" "InvalidStand.__init__" i_InvalidStand (aI 3) (fI 3)
  g_InvalidNumber : mg "InvalidNumber" = some (.ref (cA 4))
  O_InvalidNumber : OexC K (cA 4)
  iC_InvalidNumber : PySem.W.findIn K (.ref (cA 4)) "__init__" = some (some (.ref (aI 4)))
  tI_InvalidNumber : PySem.W.typeIn K (.ref (aI 4)) = some (.type "function")
  Fi_InvalidNumber : Fun K "__init__" "InvalidNumber.__init__" i_InvalidNumber (aI 4) (fI 4)
  g_InvalidPoint : mg "InvalidPoint" = some (.ref (cA 5))
  O_InvalidPoint : OexC K (cA 5)
  iC_InvalidPoint : PySem.W.findIn K (.ref (cA 5)) "__init__" = some (some (.ref (aI 5)))
  tI_InvalidPoint : PySem.W.typeIn K (.ref (aI 5)) = some (.type "function")
  Fi_InvalidPoint : Fun K "__init__" "InvalidPoint.__init__" i_InvalidPoint (aI 5) (fI 5)
  g_InvalidGreatest : mg "InvalidGreatest" = some (.ref (cA 6))
  O_InvalidGreatest : OexC K (cA 6)
  iC_InvalidGreatest : PySem.W.findIn K (.ref (cA 6)) "__init__" = some (some (.ref (aI 6)))
  tI_InvalidGreatest : PySem.W.typeIn K (.ref (aI 6)) = some (.type "function")
  Fi_InvalidGreatest : Fun K "__init__" "InvalidGreatest.__init__" i_InvalidGreatest (aI 6) (fI 6)
  g_InvalidLine : mg "InvalidLine" = some (.ref (cA 7))
  O_InvalidLine : OexC K (cA 7)
  iC_InvalidLine : PySem.W.findIn K (.ref (cA 7)) "__init__" = some (some (.ref (aI 7)))
  tI_InvalidLine : PySem.W.typeIn K (.ref (aI 7)) = some (.type "function")
  Fi_InvalidLine : Fun K "__init__" "InvalidLine.__init__" i_InvalidLine (aI 7) (fI 7)
  g_NotADesk : mg "NotADesk" = some (.ref (cA 8))
  O_NotADesk : OexC K (cA 8)
  iC_NotADesk : PySem.W.findIn K (.ref (cA 8)) "__init__" = some (some (.ref (aI 8)))
  tI_NotADesk : PySem.W.typeIn K (.ref (aI 8)) = some (.type "function")
  Fi_NotADesk : Fun K "__init__" "NotADesk.__init__" i_NotADesk (aI 8) (fI 8)
  g_NotNow : mg "NotNow" = some (.ref (cA 9))
  O_NotNow : OexC K (cA 9)
  iC_NotNow : PySem.W.findIn K (.ref (cA 9)) "__init__" = some (some (.ref (aI 9)))
  tI_NotNow : PySem.W.typeIn K (.ref (aI 9)) = some (.type "function")
  Fi_NotNow : Fun K "__init__" "NotNow.__init__" i_NotNow (aI 9) (fI 9)
  g_InvalidText : mg "InvalidText" = some (.ref (cA 10))
  O_InvalidText : OexC K (cA 10)
  iC_InvalidText : PySem.W.findIn K (.ref (cA 10)) "__init__" = some (some (.ref (aI 10)))
  tI_InvalidText : PySem.W.typeIn K (.ref (aI 10)) = some (.type "function")
  Fi_InvalidText : Fun K "__init__" "InvalidText.__init__" i_InvalidText (aI 10) (fI 10)
  g_InvalidPlan : mg "InvalidPlan" = some (.ref (cA 11))
  O_InvalidPlan : OexC K (cA 11)
  iC_InvalidPlan : PySem.W.findIn K (.ref (cA 11)) "__init__" = some (some (.ref (aI 11)))
  tI_InvalidPlan : PySem.W.typeIn K (.ref (aI 11)) = some (.type "function")
  Fi_InvalidPlan : Fun K "__init__" "InvalidPlan.__init__" i_InvalidPlan (aI 11) (fI 11)
  g_Misfit : mg "Misfit" = some (.ref (cA 12))
  O_Misfit : OexC K (cA 12)
  iC_Misfit : PySem.W.findIn K (.ref (cA 12)) "__init__" = some (some (.ref (aI 12)))
  tI_Misfit : PySem.W.typeIn K (.ref (aI 12)) = some (.type "function")
  Fi_Misfit : Fun K "__init__" "Misfit.__init__" i_Misfit (aI 12) (fI 12)
  g_InvalidLimits : mg "InvalidLimits" = some (.ref (cA 13))
  O_InvalidLimits : OexC K (cA 13)
  iC_InvalidLimits : PySem.W.findIn K (.ref (cA 13)) "__init__" = some (some (.ref (aI 13)))
  tI_InvalidLimits : PySem.W.typeIn K (.ref (aI 13)) = some (.type "function")
  Fi_InvalidLimits : Fun K "__init__" "InvalidLimits.__init__" i_InvalidLimits (aI 13) (fI 13)
  g_InvalidWay : mg "InvalidWay" = some (.ref (cA 14))
  O_InvalidWay : OexC K (cA 14)
  iC_InvalidWay : PySem.W.findIn K (.ref (cA 14)) "__init__" = some (some (.ref (aI 14)))
  tI_InvalidWay : PySem.W.typeIn K (.ref (aI 14)) = some (.type "function")
  Fi_InvalidWay : Fun K "__init__" "InvalidWay.__init__" i_InvalidWay (aI 14) (fI 14)
  g_InvalidRun : mg "InvalidRun" = some (.ref (cA 15))
  O_InvalidRun : OexC K (cA 15)
  iC_InvalidRun : PySem.W.findIn K (.ref (cA 15)) "__init__" = some (some (.ref (aI 15)))
  tI_InvalidRun : PySem.W.typeIn K (.ref (aI 15)) = some (.type "function")
  Fi_InvalidRun : Fun K "__init__" "InvalidRun.__init__" i_InvalidRun (aI 15) (fI 15)
  g_InvalidWord : mg "InvalidWord" = some (.ref (cA 16))
  O_InvalidWord : OexC K (cA 16)
  iC_InvalidWord : PySem.W.findIn K (.ref (cA 16)) "__init__" = some (some (.ref (aI 16)))
  tI_InvalidWord : PySem.W.typeIn K (.ref (aI 16)) = some (.type "function")
  Fi_InvalidWord : Fun K "__init__" "InvalidWord.__init__" i_InvalidWord (aI 16) (fI 16)
  g_InvalidPapers : mg "InvalidPapers" = some (.ref (cA 17))
  O_InvalidPapers : OexC K (cA 17)
  iC_InvalidPapers : PySem.W.findIn K (.ref (cA 17)) "__init__" = some (some (.ref (aI 17)))
  tI_InvalidPapers : PySem.W.typeIn K (.ref (aI 17)) = some (.type "function")
  Fi_InvalidPapers : Fun K "__init__" "InvalidPapers.__init__" i_InvalidPapers (aI 17) (fI 17)
  g_Broken : mg "Broken" = some (.ref (cA 18))
  O_Broken : OexC K (cA 18)
  iC_Broken : PySem.W.findIn K (.ref (cA 18)) "__init__" = some (some (.ref (aI 18)))
  tI_Broken : PySem.W.typeIn K (.ref (aI 18)) = some (.type "function")
  Fi_Broken : Fun K "__init__" "Broken.__init__" i_Broken (aI 18) (fI 18)
  g_TooMany : mg "TooMany" = some (.ref (cA 19))
  e_TooMany : PySem.W.excIn K (cA 19) PySem.HandSPX.veTail "ValueError.__new__" = true
  k_TooMany : PySem.W.keepIn K (.ref (cA 19)) = true
  g_NothingToUndo : mg "NothingToUndo" = some (.ref (cA 20))
  e_NothingToUndo : PySem.W.excIn K (cA 20) PySem.HandSPX.veTail "ValueError.__new__" = true
  k_NothingToUndo : PySem.W.keepIn K (.ref (cA 20)) = true
  x_given : ∀ i, 1 ≤ i → i < 10 → XfC K (cA i) ∧ PySem.W.findIn K (.ref (cA i)) "given" = some none
  x_index : ∀ i, 10 ≤ i → i < 19 → XfC K (cA i) ∧ PySem.W.findIn K (.ref (cA i)) "index" = some none
  x_all : ∀ i, i < 21 → ExcC K (cA i) ∧ PySem.W.kitOne K (.ref (cA i)) (.type "ValueError") = some true ∧ ∀ j, j < 21 → PySem.W.kitOne K (.ref (cA i)) (.ref (cA j)) = some (j == 0 || i == j)
section
variable {P : Program} {w : World} {K : PySem.W.Frag} {mg : Str → Option Value} {base : Heap} {ad : Nat → Addr} {fd : Nat → FuncData} {cA : Nat → Addr} {aI : Nat → Addr} {fI : Nat → FuncData}
theorem Txt.ix_ValueError (T : Txt P w K mg base ad fd cA aI fI) (i : Nat) (b : Bool) (h : ansV i = some b) : ExcC K (cA i) ∧ PySem.W.kitOne K (.ref (cA i)) (.type "ValueError") = some b := by
  unfold ansV at h
  split at h
  · rename_i hi
    cases h
    exact ⟨(T.x_all i hi).1, (T.x_all i hi).2.1⟩
  · cases h
theorem Txt.ixC (T : Txt P w K mg base ad fd cA aI fI) {j : Nat} (hj : j < 21) (i : Nat) (b : Bool) (h : ansC j i = some b) : ExcC K (cA i) ∧ PySem.W.kitOne K (.ref (cA i)) (.ref (cA j)) = some b := by
  unfold ansC at h
  split at h
  · rename_i hi
    cases h
    exact ⟨(T.x_all i hi).1, (T.x_all i hi).2.2 j hj⟩
  · cases h
theorem Txt.k__law_pool (T : Txt P w K mg base ad fd cA aI fI) : PySem.W.keepIn K (.ref (ad 23)) = true := T.F__law_pool.kp
theorem Txt.bd__law_pool (T : Txt P w K mg base ad fd cA aI fI) : Binds K (fd 23) ["script", "k"] [] := T.F__law_pool.binds fun _ _ _ _ _ _ us hl => match us, hl with | [_, _], _ => rfl
theorem Txt.k__law_take (T : Txt P w K mg base ad fd cA aI fI) : PySem.W.keepIn K (.ref (ad 24)) = true := T.F__law_take.kp
theorem Txt.bd__law_take (T : Txt P w K mg base ad fd cA aI fI) : Binds K (fd 24) ["pool", "many"] [] := T.F__law_take.binds fun _ _ _ _ _ _ us hl => match us, hl with | [_, _], _ => rfl
theorem Txt.k__law_alike (T : Txt P w K mg base ad fd cA aI fI) : PySem.W.keepIn K (.ref (ad 25)) = true := T.F__law_alike.kp
theorem Txt.bd__law_alike (T : Txt P w K mg base ad fd cA aI fI) : Binds K (fd 25) ["one", "two"] [] := T.F__law_alike.binds fun _ _ _ _ _ _ us hl => match us, hl with | [_, _], _ => rfl
theorem Txt.k__law_one (T : Txt P w K mg base ad fd cA aI fI) : PySem.W.keepIn K (.ref (ad 26)) = true := T.F__law_one.kp
theorem Txt.bd__law_one (T : Txt P w K mg base ad fd cA aI fI) : Binds K (fd 26) ["pool", "some"] [] := T.F__law_one.binds fun _ _ _ _ _ _ us hl => match us, hl with | [_, _], _ => rfl
theorem Txt.k__law_held (T : Txt P w K mg base ad fd cA aI fI) : PySem.W.keepIn K (.ref (ad 27)) = true := T.F__law_held.kp
theorem Txt.bd__law_held (T : Txt P w K mg base ad fd cA aI fI) : Binds K (fd 27) ["k", "value", "is_named"] [] := T.F__law_held.binds fun _ _ _ _ _ _ us hl => match us, hl with | [_, _, _], _ => rfl
theorem Txt.k__law_placed (T : Txt P w K mg base ad fd cA aI fI) : PySem.W.keepIn K (.ref (ad 28)) = true := T.F__law_placed.kp
theorem Txt.bd__law_placed (T : Txt P w K mg base ad fd cA aI fI) : Binds K (fd 28) ["k", "value", "is_named"] [] := T.F__law_placed.binds fun _ _ _ _ _ _ us hl => match us, hl with | [_, _, _], _ => rfl
theorem Txt.k__law_made (T : Txt P w K mg base ad fd cA aI fI) : PySem.W.keepIn K (.ref (ad 29)) = true := T.F__law_made.kp
theorem Txt.bd__law_made (T : Txt P w K mg base ad fd cA aI fI) : Binds K (fd 29) ["k", "value", "is_named"] [] := T.F__law_made.binds fun _ _ _ _ _ _ us hl => match us, hl with | [_, _, _], _ => rfl
theorem Txt.k__law_kinds_of (T : Txt P w K mg base ad fd cA aI fI) : PySem.W.keepIn K (.ref (ad 30)) = true := T.F__law_kinds_of.kp
theorem Txt.bd__law_kinds_of (T : Txt P w K mg base ad fd cA aI fI) : Binds K (fd 30) ["e"] [] := T.F__law_kinds_of.binds fun _ _ _ _ _ _ us hl => match us, hl with | [_], _ => rfl
theorem Txt.k__law_right (T : Txt P w K mg base ad fd cA aI fI) : PySem.W.keepIn K (.ref (ad 31)) = true := T.F__law_right.kp
theorem Txt.bd__law_right (T : Txt P w K mg base ad fd cA aI fI) : Binds K (fd 31) ["pool"] [] := T.F__law_right.binds fun _ _ _ _ _ _ us hl => match us, hl with | [_], _ => rfl
theorem Txt.k_law (T : Txt P w K mg base ad fd cA aI fI) : PySem.W.keepIn K (.ref (ad 32)) = true := T.F_law.kp
theorem Txt.bd_law (T : Txt P w K mg base ad fd cA aI fI) : Binds K (fd 32) ["script"] [] := T.F_law.binds fun _ _ _ _ _ _ us hl => match us, hl with | [_], _ => rfl
theorem Txt.ix_RoomError (T : Txt P w K mg base ad fd cA aI fI) (i : Nat) (b : Bool) (h : ansC 0 i = some b) : ExcC K (cA i) ∧ PySem.W.kitOne K (.ref (cA i)) (.ref (cA 0)) = some b := T.ixC (by decide) i b h
theorem Txt.ix_InvalidPlaces (T : Txt P w K mg base ad fd cA aI fI) (i : Nat) (b : Bool) (h : ansC 1 i = some b) : ExcC K (cA i) ∧ PySem.W.kitOne K (.ref (cA i)) (.ref (cA 1)) = some b := T.ixC (by decide) i b h
theorem Txt.M_InvalidPlaces (T : Txt P w K mg base ad fd cA aI fI) : MkX K (cA 1) (aI 1) "given" := ⟨T.O_InvalidPlaces, T.iC_InvalidPlaces, T.tI_InvalidPlaces⟩
theorem Txt.I_InvalidPlaces (T : Txt P w K mg base ad fd cA aI fI) : FnOk P w K mg base CX0 1 (aI 1) (fI 1) ["self", "given"] (spI (cA 1) "given") :=
  fn_init T.Fi_InvalidPlaces T.O_InvalidPlaces (T.x_given 1 (by decide) (by decide)).2 si_InvalidPlaces fun cdv A outer s H E => pss_one (ps_ost (pv 0) (pv 1) rfl)
theorem Txt.bp_InvalidPlaces (T : Txt P w K mg base ad fd cA aI fI) : Binds K (fI 1) ["self", "given"] [] := T.Fi_InvalidPlaces.binds fun _ _ _ _ _ _ us hl => match us, hl with | [_, _], _ => rfl
theorem Txt.bk_InvalidPlaces (T : Txt P w K mg base ad fd cA aI fI) (s : Shared) (a u : Value) : BindsTo s (fI 1) ⟨[a], [("given", u)]⟩ [("self", a), ("given", u)] := by
  obtain ⟨oc, od, kV, doc, pm, an, cdv, ct, osl, e, lk, hcd⟩ := T.Fi_InvalidPlaces.ex
  rw [e]
  exact .of_eq rfl
theorem Txt.ix_InvalidZone (T : Txt P w K mg base ad fd cA aI fI) (i : Nat) (b : Bool) (h : ansC 2 i = some b) : ExcC K (cA i) ∧ PySem.W.kitOne K (.ref (cA i)) (.ref (cA 2)) = some b := T.ixC (by decide) i b h
theorem Txt.M_InvalidZone (T : Txt P w K mg base ad fd cA aI fI) : MkX K (cA 2) (aI 2) "given" := ⟨T.O_InvalidZone, T.iC_InvalidZone, T.tI_InvalidZone⟩
theorem Txt.I_InvalidZone (T : Txt P w K mg base ad fd cA aI fI) : FnOk P w K mg base CX0 1 (aI 2) (fI 2) ["self", "given"] (spI (cA 2) "given") :=
  fn_init T.Fi_InvalidZone T.O_InvalidZone (T.x_given 2 (by decide) (by decide)).2 si_InvalidZone fun cdv A outer s H E => pss_one (ps_ost (pv 0) (pv 1) rfl)
theorem Txt.bp_InvalidZone (T : Txt P w K mg base ad fd cA aI fI) : Binds K (fI 2) ["self", "given"] [] := T.Fi_InvalidZone.binds fun _ _ _ _ _ _ us hl => match us, hl with | [_, _], _ => rfl
theorem Txt.bk_InvalidZone (T : Txt P w K mg base ad fd cA aI fI) (s : Shared) (a u : Value) : BindsTo s (fI 2) ⟨[a], [("given", u)]⟩ [("self", a), ("given", u)] := by
  obtain ⟨oc, od, kV, doc, pm, an, cdv, ct, osl, e, lk, hcd⟩ := T.Fi_InvalidZone.ex
  rw [e]
  exact .of_eq rfl
theorem Txt.ix_InvalidStand (T : Txt P w K mg base ad fd cA aI fI) (i : Nat) (b : Bool) (h : ansC 3 i = some b) : ExcC K (cA i) ∧ PySem.W.kitOne K (.ref (cA i)) (.ref (cA 3)) = some b := T.ixC (by decide) i b h
theorem Txt.M_InvalidStand (T : Txt P w K mg base ad fd cA aI fI) : MkX K (cA 3) (aI 3) "given" := ⟨T.O_InvalidStand, T.iC_InvalidStand, T.tI_InvalidStand⟩
theorem Txt.I_InvalidStand (T : Txt P w K mg base ad fd cA aI fI) : FnOk P w K mg base CX0 1 (aI 3) (fI 3) ["self", "given"] (spI (cA 3) "given") :=
  fn_init T.Fi_InvalidStand T.O_InvalidStand (T.x_given 3 (by decide) (by decide)).2 si_InvalidStand fun cdv A outer s H E => pss_one (ps_ost (pv 0) (pv 1) rfl)
theorem Txt.bp_InvalidStand (T : Txt P w K mg base ad fd cA aI fI) : Binds K (fI 3) ["self", "given"] [] := T.Fi_InvalidStand.binds fun _ _ _ _ _ _ us hl => match us, hl with | [_, _], _ => rfl
theorem Txt.bk_InvalidStand (T : Txt P w K mg base ad fd cA aI fI) (s : Shared) (a u : Value) : BindsTo s (fI 3) ⟨[a], [("given", u)]⟩ [("self", a), ("given", u)] := by
  obtain ⟨oc, od, kV, doc, pm, an, cdv, ct, osl, e, lk, hcd⟩ := T.Fi_InvalidStand.ex
  rw [e]
  exact .of_eq rfl
theorem Txt.ix_InvalidNumber (T : Txt P w K mg base ad fd cA aI fI) (i : Nat) (b : Bool) (h : ansC 4 i = some b) : ExcC K (cA i) ∧ PySem.W.kitOne K (.ref (cA i)) (.ref (cA 4)) = some b := T.ixC (by decide) i b h
theorem Txt.M_InvalidNumber (T : Txt P w K mg base ad fd cA aI fI) : MkX K (cA 4) (aI 4) "given" := ⟨T.O_InvalidNumber, T.iC_InvalidNumber, T.tI_InvalidNumber⟩
theorem Txt.I_InvalidNumber (T : Txt P w K mg base ad fd cA aI fI) : FnOk P w K mg base CX0 1 (aI 4) (fI 4) ["self", "given"] (spI (cA 4) "given") :=
  fn_init T.Fi_InvalidNumber T.O_InvalidNumber (T.x_given 4 (by decide) (by decide)).2 si_InvalidNumber fun cdv A outer s H E => pss_one (ps_ost (pv 0) (pv 1) rfl)
theorem Txt.bp_InvalidNumber (T : Txt P w K mg base ad fd cA aI fI) : Binds K (fI 4) ["self", "given"] [] := T.Fi_InvalidNumber.binds fun _ _ _ _ _ _ us hl => match us, hl with | [_, _], _ => rfl
theorem Txt.bk_InvalidNumber (T : Txt P w K mg base ad fd cA aI fI) (s : Shared) (a u : Value) : BindsTo s (fI 4) ⟨[a], [("given", u)]⟩ [("self", a), ("given", u)] := by
  obtain ⟨oc, od, kV, doc, pm, an, cdv, ct, osl, e, lk, hcd⟩ := T.Fi_InvalidNumber.ex
  rw [e]
  exact .of_eq rfl
theorem Txt.ix_InvalidPoint (T : Txt P w K mg base ad fd cA aI fI) (i : Nat) (b : Bool) (h : ansC 5 i = some b) : ExcC K (cA i) ∧ PySem.W.kitOne K (.ref (cA i)) (.ref (cA 5)) = some b := T.ixC (by decide) i b h
theorem Txt.M_InvalidPoint (T : Txt P w K mg base ad fd cA aI fI) : MkX K (cA 5) (aI 5) "given" := ⟨T.O_InvalidPoint, T.iC_InvalidPoint, T.tI_InvalidPoint⟩
theorem Txt.I_InvalidPoint (T : Txt P w K mg base ad fd cA aI fI) : FnOk P w K mg base CX0 1 (aI 5) (fI 5) ["self", "given"] (spI (cA 5) "given") :=
  fn_init T.Fi_InvalidPoint T.O_InvalidPoint (T.x_given 5 (by decide) (by decide)).2 si_InvalidPoint fun cdv A outer s H E => pss_one (ps_ost (pv 0) (pv 1) rfl)
theorem Txt.bp_InvalidPoint (T : Txt P w K mg base ad fd cA aI fI) : Binds K (fI 5) ["self", "given"] [] := T.Fi_InvalidPoint.binds fun _ _ _ _ _ _ us hl => match us, hl with | [_, _], _ => rfl
theorem Txt.bk_InvalidPoint (T : Txt P w K mg base ad fd cA aI fI) (s : Shared) (a u : Value) : BindsTo s (fI 5) ⟨[a], [("given", u)]⟩ [("self", a), ("given", u)] := by
  obtain ⟨oc, od, kV, doc, pm, an, cdv, ct, osl, e, lk, hcd⟩ := T.Fi_InvalidPoint.ex
  rw [e]
  exact .of_eq rfl
theorem Txt.ix_InvalidGreatest (T : Txt P w K mg base ad fd cA aI fI) (i : Nat) (b : Bool) (h : ansC 6 i = some b) : ExcC K (cA i) ∧ PySem.W.kitOne K (.ref (cA i)) (.ref (cA 6)) = some b := T.ixC (by decide) i b h
theorem Txt.M_InvalidGreatest (T : Txt P w K mg base ad fd cA aI fI) : MkX K (cA 6) (aI 6) "given" := ⟨T.O_InvalidGreatest, T.iC_InvalidGreatest, T.tI_InvalidGreatest⟩
theorem Txt.I_InvalidGreatest (T : Txt P w K mg base ad fd cA aI fI) : FnOk P w K mg base CX0 1 (aI 6) (fI 6) ["self", "given"] (spI (cA 6) "given") :=
  fn_init T.Fi_InvalidGreatest T.O_InvalidGreatest (T.x_given 6 (by decide) (by decide)).2 si_InvalidGreatest fun cdv A outer s H E => pss_one (ps_ost (pv 0) (pv 1) rfl)
theorem Txt.bp_InvalidGreatest (T : Txt P w K mg base ad fd cA aI fI) : Binds K (fI 6) ["self", "given"] [] := T.Fi_InvalidGreatest.binds fun _ _ _ _ _ _ us hl => match us, hl with | [_, _], _ => rfl
theorem Txt.bk_InvalidGreatest (T : Txt P w K mg base ad fd cA aI fI) (s : Shared) (a u : Value) : BindsTo s (fI 6) ⟨[a], [("given", u)]⟩ [("self", a), ("given", u)] := by
  obtain ⟨oc, od, kV, doc, pm, an, cdv, ct, osl, e, lk, hcd⟩ := T.Fi_InvalidGreatest.ex
  rw [e]
  exact .of_eq rfl
theorem Txt.ix_InvalidLine (T : Txt P w K mg base ad fd cA aI fI) (i : Nat) (b : Bool) (h : ansC 7 i = some b) : ExcC K (cA i) ∧ PySem.W.kitOne K (.ref (cA i)) (.ref (cA 7)) = some b := T.ixC (by decide) i b h
theorem Txt.M_InvalidLine (T : Txt P w K mg base ad fd cA aI fI) : MkX K (cA 7) (aI 7) "given" := ⟨T.O_InvalidLine, T.iC_InvalidLine, T.tI_InvalidLine⟩
theorem Txt.I_InvalidLine (T : Txt P w K mg base ad fd cA aI fI) : FnOk P w K mg base CX0 1 (aI 7) (fI 7) ["self", "given"] (spI (cA 7) "given") :=
  fn_init T.Fi_InvalidLine T.O_InvalidLine (T.x_given 7 (by decide) (by decide)).2 si_InvalidLine fun cdv A outer s H E => pss_one (ps_ost (pv 0) (pv 1) rfl)
theorem Txt.bp_InvalidLine (T : Txt P w K mg base ad fd cA aI fI) : Binds K (fI 7) ["self", "given"] [] := T.Fi_InvalidLine.binds fun _ _ _ _ _ _ us hl => match us, hl with | [_, _], _ => rfl
theorem Txt.bk_InvalidLine (T : Txt P w K mg base ad fd cA aI fI) (s : Shared) (a u : Value) : BindsTo s (fI 7) ⟨[a], [("given", u)]⟩ [("self", a), ("given", u)] := by
  obtain ⟨oc, od, kV, doc, pm, an, cdv, ct, osl, e, lk, hcd⟩ := T.Fi_InvalidLine.ex
  rw [e]
  exact .of_eq rfl
theorem Txt.ix_NotADesk (T : Txt P w K mg base ad fd cA aI fI) (i : Nat) (b : Bool) (h : ansC 8 i = some b) : ExcC K (cA i) ∧ PySem.W.kitOne K (.ref (cA i)) (.ref (cA 8)) = some b := T.ixC (by decide) i b h
theorem Txt.M_NotADesk (T : Txt P w K mg base ad fd cA aI fI) : MkX K (cA 8) (aI 8) "given" := ⟨T.O_NotADesk, T.iC_NotADesk, T.tI_NotADesk⟩
theorem Txt.I_NotADesk (T : Txt P w K mg base ad fd cA aI fI) : FnOk P w K mg base CX0 1 (aI 8) (fI 8) ["self", "given"] (spI (cA 8) "given") :=
  fn_init T.Fi_NotADesk T.O_NotADesk (T.x_given 8 (by decide) (by decide)).2 si_NotADesk fun cdv A outer s H E => pss_one (ps_ost (pv 0) (pv 1) rfl)
theorem Txt.bp_NotADesk (T : Txt P w K mg base ad fd cA aI fI) : Binds K (fI 8) ["self", "given"] [] := T.Fi_NotADesk.binds fun _ _ _ _ _ _ us hl => match us, hl with | [_, _], _ => rfl
theorem Txt.bk_NotADesk (T : Txt P w K mg base ad fd cA aI fI) (s : Shared) (a u : Value) : BindsTo s (fI 8) ⟨[a], [("given", u)]⟩ [("self", a), ("given", u)] := by
  obtain ⟨oc, od, kV, doc, pm, an, cdv, ct, osl, e, lk, hcd⟩ := T.Fi_NotADesk.ex
  rw [e]
  exact .of_eq rfl
theorem Txt.ix_NotNow (T : Txt P w K mg base ad fd cA aI fI) (i : Nat) (b : Bool) (h : ansC 9 i = some b) : ExcC K (cA i) ∧ PySem.W.kitOne K (.ref (cA i)) (.ref (cA 9)) = some b := T.ixC (by decide) i b h
theorem Txt.M_NotNow (T : Txt P w K mg base ad fd cA aI fI) : MkX K (cA 9) (aI 9) "given" := ⟨T.O_NotNow, T.iC_NotNow, T.tI_NotNow⟩
theorem Txt.I_NotNow (T : Txt P w K mg base ad fd cA aI fI) : FnOk P w K mg base CX0 1 (aI 9) (fI 9) ["self", "given"] (spI (cA 9) "given") :=
  fn_init T.Fi_NotNow T.O_NotNow (T.x_given 9 (by decide) (by decide)).2 si_NotNow fun cdv A outer s H E => pss_one (ps_ost (pv 0) (pv 1) rfl)
theorem Txt.bp_NotNow (T : Txt P w K mg base ad fd cA aI fI) : Binds K (fI 9) ["self", "given"] [] := T.Fi_NotNow.binds fun _ _ _ _ _ _ us hl => match us, hl with | [_, _], _ => rfl
theorem Txt.bk_NotNow (T : Txt P w K mg base ad fd cA aI fI) (s : Shared) (a u : Value) : BindsTo s (fI 9) ⟨[a], [("given", u)]⟩ [("self", a), ("given", u)] := by
  obtain ⟨oc, od, kV, doc, pm, an, cdv, ct, osl, e, lk, hcd⟩ := T.Fi_NotNow.ex
  rw [e]
  exact .of_eq rfl
theorem Txt.ix_InvalidText (T : Txt P w K mg base ad fd cA aI fI) (i : Nat) (b : Bool) (h : ansC 10 i = some b) : ExcC K (cA i) ∧ PySem.W.kitOne K (.ref (cA i)) (.ref (cA 10)) = some b := T.ixC (by decide) i b h
theorem Txt.M_InvalidText (T : Txt P w K mg base ad fd cA aI fI) : MkX K (cA 10) (aI 10) "index" := ⟨T.O_InvalidText, T.iC_InvalidText, T.tI_InvalidText⟩
theorem Txt.I_InvalidText (T : Txt P w K mg base ad fd cA aI fI) : FnOk P w K mg base CX0 1 (aI 10) (fI 10) ["self", "index"] (spI (cA 10) "index") :=
  fn_init T.Fi_InvalidText T.O_InvalidText (T.x_index 10 (by decide) (by decide)).2 si_InvalidText fun cdv A outer s H E => pss_one (ps_ost (pv 0) (pv 1) rfl)
theorem Txt.bp_InvalidText (T : Txt P w K mg base ad fd cA aI fI) : Binds K (fI 10) ["self", "index"] [] := T.Fi_InvalidText.binds fun _ _ _ _ _ _ us hl => match us, hl with | [_, _], _ => rfl
theorem Txt.bk_InvalidText (T : Txt P w K mg base ad fd cA aI fI) (s : Shared) (a u : Value) : BindsTo s (fI 10) ⟨[a], [("index", u)]⟩ [("self", a), ("index", u)] := by
  obtain ⟨oc, od, kV, doc, pm, an, cdv, ct, osl, e, lk, hcd⟩ := T.Fi_InvalidText.ex
  rw [e]
  exact .of_eq rfl
theorem Txt.ix_InvalidPlan (T : Txt P w K mg base ad fd cA aI fI) (i : Nat) (b : Bool) (h : ansC 11 i = some b) : ExcC K (cA i) ∧ PySem.W.kitOne K (.ref (cA i)) (.ref (cA 11)) = some b := T.ixC (by decide) i b h
theorem Txt.M_InvalidPlan (T : Txt P w K mg base ad fd cA aI fI) : MkX K (cA 11) (aI 11) "index" := ⟨T.O_InvalidPlan, T.iC_InvalidPlan, T.tI_InvalidPlan⟩
theorem Txt.I_InvalidPlan (T : Txt P w K mg base ad fd cA aI fI) : FnOk P w K mg base CX0 1 (aI 11) (fI 11) ["self", "index"] (spI (cA 11) "index") :=
  fn_init T.Fi_InvalidPlan T.O_InvalidPlan (T.x_index 11 (by decide) (by decide)).2 si_InvalidPlan fun cdv A outer s H E => pss_one (ps_ost (pv 0) (pv 1) rfl)
theorem Txt.bp_InvalidPlan (T : Txt P w K mg base ad fd cA aI fI) : Binds K (fI 11) ["self", "index"] [] := T.Fi_InvalidPlan.binds fun _ _ _ _ _ _ us hl => match us, hl with | [_, _], _ => rfl
theorem Txt.bk_InvalidPlan (T : Txt P w K mg base ad fd cA aI fI) (s : Shared) (a u : Value) : BindsTo s (fI 11) ⟨[a], [("index", u)]⟩ [("self", a), ("index", u)] := by
  obtain ⟨oc, od, kV, doc, pm, an, cdv, ct, osl, e, lk, hcd⟩ := T.Fi_InvalidPlan.ex
  rw [e]
  exact .of_eq rfl
theorem Txt.ix_Misfit (T : Txt P w K mg base ad fd cA aI fI) (i : Nat) (b : Bool) (h : ansC 12 i = some b) : ExcC K (cA i) ∧ PySem.W.kitOne K (.ref (cA i)) (.ref (cA 12)) = some b := T.ixC (by decide) i b h
theorem Txt.M_Misfit (T : Txt P w K mg base ad fd cA aI fI) : MkX K (cA 12) (aI 12) "index" := ⟨T.O_Misfit, T.iC_Misfit, T.tI_Misfit⟩
theorem Txt.I_Misfit (T : Txt P w K mg base ad fd cA aI fI) : FnOk P w K mg base CX0 1 (aI 12) (fI 12) ["self", "index"] (spI (cA 12) "index") :=
  fn_init T.Fi_Misfit T.O_Misfit (T.x_index 12 (by decide) (by decide)).2 si_Misfit fun cdv A outer s H E => pss_one (ps_ost (pv 0) (pv 1) rfl)
theorem Txt.bp_Misfit (T : Txt P w K mg base ad fd cA aI fI) : Binds K (fI 12) ["self", "index"] [] := T.Fi_Misfit.binds fun _ _ _ _ _ _ us hl => match us, hl with | [_, _], _ => rfl
theorem Txt.bk_Misfit (T : Txt P w K mg base ad fd cA aI fI) (s : Shared) (a u : Value) : BindsTo s (fI 12) ⟨[a], [("index", u)]⟩ [("self", a), ("index", u)] := by
  obtain ⟨oc, od, kV, doc, pm, an, cdv, ct, osl, e, lk, hcd⟩ := T.Fi_Misfit.ex
  rw [e]
  exact .of_eq rfl
theorem Txt.ix_InvalidLimits (T : Txt P w K mg base ad fd cA aI fI) (i : Nat) (b : Bool) (h : ansC 13 i = some b) : ExcC K (cA i) ∧ PySem.W.kitOne K (.ref (cA i)) (.ref (cA 13)) = some b := T.ixC (by decide) i b h
theorem Txt.M_InvalidLimits (T : Txt P w K mg base ad fd cA aI fI) : MkX K (cA 13) (aI 13) "index" := ⟨T.O_InvalidLimits, T.iC_InvalidLimits, T.tI_InvalidLimits⟩
theorem Txt.I_InvalidLimits (T : Txt P w K mg base ad fd cA aI fI) : FnOk P w K mg base CX0 1 (aI 13) (fI 13) ["self", "index"] (spI (cA 13) "index") :=
  fn_init T.Fi_InvalidLimits T.O_InvalidLimits (T.x_index 13 (by decide) (by decide)).2 si_InvalidLimits fun cdv A outer s H E => pss_one (ps_ost (pv 0) (pv 1) rfl)
theorem Txt.bp_InvalidLimits (T : Txt P w K mg base ad fd cA aI fI) : Binds K (fI 13) ["self", "index"] [] := T.Fi_InvalidLimits.binds fun _ _ _ _ _ _ us hl => match us, hl with | [_, _], _ => rfl
theorem Txt.bk_InvalidLimits (T : Txt P w K mg base ad fd cA aI fI) (s : Shared) (a u : Value) : BindsTo s (fI 13) ⟨[a], [("index", u)]⟩ [("self", a), ("index", u)] := by
  obtain ⟨oc, od, kV, doc, pm, an, cdv, ct, osl, e, lk, hcd⟩ := T.Fi_InvalidLimits.ex
  rw [e]
  exact .of_eq rfl
theorem Txt.ix_InvalidWay (T : Txt P w K mg base ad fd cA aI fI) (i : Nat) (b : Bool) (h : ansC 14 i = some b) : ExcC K (cA i) ∧ PySem.W.kitOne K (.ref (cA i)) (.ref (cA 14)) = some b := T.ixC (by decide) i b h
theorem Txt.M_InvalidWay (T : Txt P w K mg base ad fd cA aI fI) : MkX K (cA 14) (aI 14) "index" := ⟨T.O_InvalidWay, T.iC_InvalidWay, T.tI_InvalidWay⟩
theorem Txt.I_InvalidWay (T : Txt P w K mg base ad fd cA aI fI) : FnOk P w K mg base CX0 1 (aI 14) (fI 14) ["self", "index"] (spI (cA 14) "index") :=
  fn_init T.Fi_InvalidWay T.O_InvalidWay (T.x_index 14 (by decide) (by decide)).2 si_InvalidWay fun cdv A outer s H E => pss_one (ps_ost (pv 0) (pv 1) rfl)
theorem Txt.bp_InvalidWay (T : Txt P w K mg base ad fd cA aI fI) : Binds K (fI 14) ["self", "index"] [] := T.Fi_InvalidWay.binds fun _ _ _ _ _ _ us hl => match us, hl with | [_, _], _ => rfl
theorem Txt.bk_InvalidWay (T : Txt P w K mg base ad fd cA aI fI) (s : Shared) (a u : Value) : BindsTo s (fI 14) ⟨[a], [("index", u)]⟩ [("self", a), ("index", u)] := by
  obtain ⟨oc, od, kV, doc, pm, an, cdv, ct, osl, e, lk, hcd⟩ := T.Fi_InvalidWay.ex
  rw [e]
  exact .of_eq rfl
theorem Txt.ix_InvalidRun (T : Txt P w K mg base ad fd cA aI fI) (i : Nat) (b : Bool) (h : ansC 15 i = some b) : ExcC K (cA i) ∧ PySem.W.kitOne K (.ref (cA i)) (.ref (cA 15)) = some b := T.ixC (by decide) i b h
theorem Txt.M_InvalidRun (T : Txt P w K mg base ad fd cA aI fI) : MkX K (cA 15) (aI 15) "index" := ⟨T.O_InvalidRun, T.iC_InvalidRun, T.tI_InvalidRun⟩
theorem Txt.I_InvalidRun (T : Txt P w K mg base ad fd cA aI fI) : FnOk P w K mg base CX0 1 (aI 15) (fI 15) ["self", "index"] (spI (cA 15) "index") :=
  fn_init T.Fi_InvalidRun T.O_InvalidRun (T.x_index 15 (by decide) (by decide)).2 si_InvalidRun fun cdv A outer s H E => pss_one (ps_ost (pv 0) (pv 1) rfl)
theorem Txt.bp_InvalidRun (T : Txt P w K mg base ad fd cA aI fI) : Binds K (fI 15) ["self", "index"] [] := T.Fi_InvalidRun.binds fun _ _ _ _ _ _ us hl => match us, hl with | [_, _], _ => rfl
theorem Txt.bk_InvalidRun (T : Txt P w K mg base ad fd cA aI fI) (s : Shared) (a u : Value) : BindsTo s (fI 15) ⟨[a], [("index", u)]⟩ [("self", a), ("index", u)] := by
  obtain ⟨oc, od, kV, doc, pm, an, cdv, ct, osl, e, lk, hcd⟩ := T.Fi_InvalidRun.ex
  rw [e]
  exact .of_eq rfl
theorem Txt.ix_InvalidWord (T : Txt P w K mg base ad fd cA aI fI) (i : Nat) (b : Bool) (h : ansC 16 i = some b) : ExcC K (cA i) ∧ PySem.W.kitOne K (.ref (cA i)) (.ref (cA 16)) = some b := T.ixC (by decide) i b h
theorem Txt.M_InvalidWord (T : Txt P w K mg base ad fd cA aI fI) : MkX K (cA 16) (aI 16) "index" := ⟨T.O_InvalidWord, T.iC_InvalidWord, T.tI_InvalidWord⟩
theorem Txt.I_InvalidWord (T : Txt P w K mg base ad fd cA aI fI) : FnOk P w K mg base CX0 1 (aI 16) (fI 16) ["self", "index"] (spI (cA 16) "index") :=
  fn_init T.Fi_InvalidWord T.O_InvalidWord (T.x_index 16 (by decide) (by decide)).2 si_InvalidWord fun cdv A outer s H E => pss_one (ps_ost (pv 0) (pv 1) rfl)
theorem Txt.bp_InvalidWord (T : Txt P w K mg base ad fd cA aI fI) : Binds K (fI 16) ["self", "index"] [] := T.Fi_InvalidWord.binds fun _ _ _ _ _ _ us hl => match us, hl with | [_, _], _ => rfl
theorem Txt.bk_InvalidWord (T : Txt P w K mg base ad fd cA aI fI) (s : Shared) (a u : Value) : BindsTo s (fI 16) ⟨[a], [("index", u)]⟩ [("self", a), ("index", u)] := by
  obtain ⟨oc, od, kV, doc, pm, an, cdv, ct, osl, e, lk, hcd⟩ := T.Fi_InvalidWord.ex
  rw [e]
  exact .of_eq rfl
theorem Txt.ix_InvalidPapers (T : Txt P w K mg base ad fd cA aI fI) (i : Nat) (b : Bool) (h : ansC 17 i = some b) : ExcC K (cA i) ∧ PySem.W.kitOne K (.ref (cA i)) (.ref (cA 17)) = some b := T.ixC (by decide) i b h
theorem Txt.M_InvalidPapers (T : Txt P w K mg base ad fd cA aI fI) : MkX K (cA 17) (aI 17) "index" := ⟨T.O_InvalidPapers, T.iC_InvalidPapers, T.tI_InvalidPapers⟩
theorem Txt.I_InvalidPapers (T : Txt P w K mg base ad fd cA aI fI) : FnOk P w K mg base CX0 1 (aI 17) (fI 17) ["self", "index"] (spI (cA 17) "index") :=
  fn_init T.Fi_InvalidPapers T.O_InvalidPapers (T.x_index 17 (by decide) (by decide)).2 si_InvalidPapers fun cdv A outer s H E => pss_one (ps_ost (pv 0) (pv 1) rfl)
theorem Txt.bp_InvalidPapers (T : Txt P w K mg base ad fd cA aI fI) : Binds K (fI 17) ["self", "index"] [] := T.Fi_InvalidPapers.binds fun _ _ _ _ _ _ us hl => match us, hl with | [_, _], _ => rfl
theorem Txt.bk_InvalidPapers (T : Txt P w K mg base ad fd cA aI fI) (s : Shared) (a u : Value) : BindsTo s (fI 17) ⟨[a], [("index", u)]⟩ [("self", a), ("index", u)] := by
  obtain ⟨oc, od, kV, doc, pm, an, cdv, ct, osl, e, lk, hcd⟩ := T.Fi_InvalidPapers.ex
  rw [e]
  exact .of_eq rfl
theorem Txt.ix_Broken (T : Txt P w K mg base ad fd cA aI fI) (i : Nat) (b : Bool) (h : ansC 18 i = some b) : ExcC K (cA i) ∧ PySem.W.kitOne K (.ref (cA i)) (.ref (cA 18)) = some b := T.ixC (by decide) i b h
theorem Txt.M_Broken (T : Txt P w K mg base ad fd cA aI fI) : MkX K (cA 18) (aI 18) "index" := ⟨T.O_Broken, T.iC_Broken, T.tI_Broken⟩
theorem Txt.I_Broken (T : Txt P w K mg base ad fd cA aI fI) : FnOk P w K mg base CX0 1 (aI 18) (fI 18) ["self", "index"] (spI (cA 18) "index") :=
  fn_init T.Fi_Broken T.O_Broken (T.x_index 18 (by decide) (by decide)).2 si_Broken fun cdv A outer s H E => pss_one (ps_ost (pv 0) (pv 1) rfl)
theorem Txt.bp_Broken (T : Txt P w K mg base ad fd cA aI fI) : Binds K (fI 18) ["self", "index"] [] := T.Fi_Broken.binds fun _ _ _ _ _ _ us hl => match us, hl with | [_, _], _ => rfl
theorem Txt.bk_Broken (T : Txt P w K mg base ad fd cA aI fI) (s : Shared) (a u : Value) : BindsTo s (fI 18) ⟨[a], [("index", u)]⟩ [("self", a), ("index", u)] := by
  obtain ⟨oc, od, kV, doc, pm, an, cdv, ct, osl, e, lk, hcd⟩ := T.Fi_Broken.ex
  rw [e]
  exact .of_eq rfl
theorem Txt.ix_TooMany (T : Txt P w K mg base ad fd cA aI fI) (i : Nat) (b : Bool) (h : ansC 19 i = some b) : ExcC K (cA i) ∧ PySem.W.kitOne K (.ref (cA i)) (.ref (cA 19)) = some b := T.ixC (by decide) i b h
theorem Txt.ix_NothingToUndo (T : Txt P w K mg base ad fd cA aI fI) (i : Nat) (b : Bool) (h : ansC 20 i = some b) : ExcC K (cA i) ∧ PySem.W.kitOne K (.ref (cA i)) (.ref (cA 20)) = some b := T.ixC (by decide) i b h
end
end X0
namespace X0
open PySem PySem.Spec PyProof.Rows L2 Evl VM
section
variable {P : Program} {w : World} {K : PySem.W.Frag} {mg : Str → Option Value} {base : Heap} {ad : Nat → Addr} {fd : Nat → FuncData} {cA : Nat → Addr} {aI : Nat → Addr} {fI : Nat → FuncData}
theorem ok__law_pool (T : Txt P w K mg base ad fd cA aI fI) : FnOk P w K mg base CX0 1 (ad 23) (fd 23) ["script", "k"] (spO K cA G__law_pool) :=
  new_ok (fnRaw (m := 2) (n := 5) (B := B__law_pool) T.F__law_pool sc__law_pool rfl rfl fun cdv A outer s H E hr => ⟨_, (pss_cons (ps_set (i := 2) sc__law_pool.nd rfl (by first | exact .inl rfl | exact .inr rfl) (pe_op op_add (pe_op op_mul pe_int (pv 1)) (pe_op op_mul pe_int (pe_callB call_len_seq (by rfl) T.b_len PySem.boot_len (pa_cons (pv 0) pa_nil)))))
      (pss_cons (ps_if (pt_cmpR op_lt (pv 1) (pe_callB call_len_seq (by rfl) T.b_len PySem.boot_len (pa_cons (pv 0) pa_nil)) (nomark _)) (pss_one (ps_set (i := 2) sc__law_pool.nd rfl (by first | exact .inl rfl | exact .inr rfl) (pe_ix ix_list (pv 0) (pv 1) (fun _ _ => rfl)))) pss_nil)
      (pss_cons (ps_set (i := 3) sc__law_pool.nd rfl (by first | exact .inl rfl | exact .inr rfl) (pe_callB call_abs (by rfl) T.b_abs (by decide +kernel) (pa_cons (pv 2) pa_nil)))
      (pss_cons (ps_set (i := 4) sc__law_pool.nd rfl (by first | exact .inl rfl | exact .inr rfl) (pe_op op_mod (pe_callTy call_int1 (by rfl) T.b_int (by decide +kernel) (pa_cons (pe_op op_add (pe_op op_add (pe_op op_add (pe_op op_mul (pv 3) pe_int) (pe_op op_mul pe_int (pv 1))) (pe_op op_mul pe_int (pe_callTy call_int1 (by rfl) T.b_int (by decide +kernel) (pa_cons (pe_cmpR op_lt (pv 2) pe_int (nomark _)) pa_nil)))) pe_int) pa_nil)) pe_int))
      (pss_cons (ps_if (pt_cmpR op_ge (pv 3) pe_int (nomark _)) (pss_one (ps_ret (pe_lst (pa_cons (pe_op op_add (pe_op op_mul pe_int (pe_op op_sub (pv 3) pe_int)) (pe_callTy call_int1 (by rfl) T.b_int (by decide +kernel) (pa_cons (pe_cmpR op_lt (pv 2) pe_int (nomark _)) pa_nil))) (pa_cons (pv 4) pa_nil))))) pss_nil)
      (pss_one (ps_ret (pe_lst (pa_cons pe_int (pa_cons (pv 4) pa_nil)))))))))),
    (sv_seq (sv_asg (ev_op rg_add (ev_op rg_mul ev_int (ev_var (k := 1))) (ev_op rg_mul ev_int (ev_cb cg_len (av_cons (ev_var (k := 0)) av_nil)))) (gv_name (k := 2)))
      (sv_seq (sv_if (tv_test (ev_op rg_lt (ev_var (k := 1)) (ev_cb cg_len (av_cons (ev_var (k := 0)) av_nil)))) (sv_asg (ev_op rg_ixL (ev_var (k := 0)) (ev_var (k := 1))) (gv_name (k := 2))) sv_nx)
      (sv_seq (sv_asg (ev_cb cg_abs (av_cons (ev_var (k := 2)) av_nil)) (gv_name (k := 3)))
      (sv_seq (sv_asg (ev_op rg_mod (ev_cb cg_int (av_cons (ev_op rg_add (ev_op rg_add (ev_op rg_add (ev_op rg_mul (ev_var (k := 3)) ev_int) (ev_op rg_mul ev_int (ev_var (k := 1)))) (ev_op rg_mul ev_int (ev_cb cg_int (av_cons (ev_op rg_lt (ev_var (k := 2)) ev_int) av_nil)))) ev_int) av_nil)) ev_int) (gv_name (k := 4)))
      (sv_seq (sv_if (tv_test (ev_op rg_ge (ev_var (k := 3)) ev_int)) (sv_ret (ev_trk (lv_lst (av_cons (ev_op rg_add (ev_op rg_mul ev_int (ev_op rg_sub (ev_var (k := 3)) ev_int)) (ev_cb cg_int (av_cons (ev_op rg_lt (ev_var (k := 2)) ev_int) av_nil))) (av_cons (ev_var (k := 4)) av_nil))))) sv_nx)
      (sv_ret (ev_trk (lv_lst (av_cons ev_int (av_cons (ev_var (k := 4)) av_nil))))))))))⟩)
theorem ok__law_take (T : Txt P w K mg base ad fd cA aI fI) : FnOk P w K mg base CX0 1 (ad 24) (fd 24) ["pool", "many"] (spO K cA G__law_take) :=
  cut_ok (fnRaw (m := 2) (n := 4) (B := B__law_take) T.F__law_take sc__law_take rfl rfl fun cdv A outer s H E hr => ⟨_, (pss_cons (ps_if (pt_cmpR op_gt (pe_ix ix_list (pv 0) pe_int (fun _ _ => rfl)) pe_int (nomark _)) (pss_cons (ps_set (i := 2) sc__law_take.nd rfl (by first | exact .inl rfl | exact .inr rfl) (pe_op op_mod (pe_callTy call_int1 (by rfl) T.b_int (by decide +kernel) (pa_cons (pe_ix ix_list (pv 0) pe_int (fun _ _ => rfl)) pa_nil)) (pv 1)))
      (pss_cons (ps_asg (pe_op op_fdivW (pe_ix ix_list (pv 0) pe_int (fun _ _ => rfl)) (pv 1)) (pg_sub (pv 0) pe_int set_list))
      (pss_one (ps_ret (pv 2))))) pss_nil)
      (pss_cons (ps_set (i := 2) sc__law_take.nd rfl (by first | exact .inl rfl | exact .inr rfl) pe_int)
      (pss_cons (ps_set (i := 3) sc__law_take.nd rfl (by first | exact .inl rfl | exact .inr rfl) pe_int)
      (pss_cons (ps_while PassesOwn.never (pt_cmpR op_lt (pv 3) (pe_op op_mul pe_int (pv 1)) (nomark _)) (pss_cons (ps_asg (pe_op op_mod (pe_callTy call_int1 (by rfl) T.b_int (by decide +kernel) (pa_cons (pe_op op_add (pe_op op_mul (pe_ix ix_list (pv 0) pe_int (fun _ _ => rfl)) pe_int) pe_int) pa_nil)) pe_int) (pg_sub (pv 0) pe_int set_list))
      (pss_cons (ps_set (i := 2) sc__law_take.nd rfl (by first | exact .inl rfl | exact .inr rfl) (pe_op op_add (pe_op op_mul (pv 2) pe_int) (pe_op op_fdivW (pe_ix ix_list (pv 0) pe_int (fun _ _ => rfl)) pe_int)))
      (pss_one (ps_set (i := 3) sc__law_take.nd rfl (by first | exact .inl rfl | exact .inr rfl) (pe_op op_mul (pv 3) pe_int))))))
      (pss_one (ps_ret (pe_op op_mod (pe_callTy call_int1 (by rfl) T.b_int (by decide +kernel) (pa_cons (pv 2) pa_nil)) (pv 1)))))))),
    (sv_seq (sv_if (tv_test (ev_op rg_gt (ev_op rg_ixL (ev_var (k := 0)) ev_int) ev_int)) (sv_seq (sv_asg (ev_op rg_mod (ev_cb cg_int (av_cons (ev_op rg_ixL (ev_var (k := 0)) ev_int) av_nil)) (ev_var (k := 1))) (gv_name (k := 2)))
      (sv_seq (sv_asg (ev_op rg_div (ev_op rg_ixL (ev_var (k := 0)) ev_int) (ev_var (k := 1))) (gv_sub (ev_var (k := 0)) ev_int))
      (sv_ret (ev_var (k := 2))))) sv_nx)
      (sv_seq (sv_asg ev_int (gv_name (k := 2)))
      (sv_seq (sv_asg ev_int (gv_name (k := 3)))
      (sv_seq (sv_while (n := 3) (tv_test (ev_op rg_lt (ev_var (k := 3)) (ev_op rg_mul ev_int (ev_var (k := 1))))) (sv_seq (sv_asg (ev_op rg_mod (ev_cb cg_int (av_cons (ev_op rg_add (ev_op rg_mul (ev_op rg_ixL (ev_var (k := 0)) ev_int) ev_int) ev_int) av_nil)) ev_int) (gv_sub (ev_var (k := 0)) ev_int))
      (sv_seq (sv_asg (ev_op rg_add (ev_op rg_mul (ev_var (k := 2)) ev_int) (ev_op rg_div (ev_op rg_ixL (ev_var (k := 0)) ev_int) ev_int)) (gv_name (k := 2)))
      (sv_asg (ev_op rg_mul (ev_var (k := 3)) ev_int) (gv_name (k := 3))))))
      (sv_ret (ev_op rg_mod (ev_cb cg_int (av_cons (ev_var (k := 2)) av_nil)) (ev_var (k := 1))))))))⟩)
theorem ok__law_alike (T : Txt P w K mg base ad fd cA aI fI) : ∀ j : Nat, FnOk P w K mg base CX0 (1 + j) (ad 25) (fd 25) ["one", "two"] (spO K cA (G__law_alike j))
  | 0 => fn_none
  | j + 1 =>
    have IH := ok__law_alike T j
    cut_ok (fnRaw (m := 2) (n := 3) (k := 1 + j) (B := B__law_alike (G__law_alike j)) T.F__law_alike sc__law_alike rfl rfl fun cdv A outer s H E hr => ⟨_, (pss_cons (ps_if (PW.pt (pw_or (pt_val (pe_callB call_isi (by rfl) T.b_isinstance (by decide +kernel) (pa_cons (pv 0) (pa_cons (pe_bltn (v := .ty "bool") (by rfl) T.b_bool (by decide +kernel) rfl) pa_nil)))) (pw_or1 (pt_val (pe_callB call_isi (by rfl) T.b_isinstance (by decide +kernel) (pa_cons (pv 1) (pa_cons (pe_bltn (v := .ty "bool") (by rfl) T.b_bool (by decide +kernel) rfl) pa_nil))))))) (pss_one (ps_ret (pe_and (pe_callB call_isi (by rfl) T.b_isinstance (by decide +kernel) (pa_cons (pv 0) (pa_cons (pe_bltn (v := .ty "bool") (by rfl) T.b_bool (by decide +kernel) rfl) pa_nil))) (pe_and (pe_callB call_isi (by rfl) T.b_isinstance (by decide +kernel) (pa_cons (pv 1) (pa_cons (pe_bltn (v := .ty "bool") (by rfl) T.b_bool (by decide +kernel) rfl) pa_nil))) (pe_one (pe_cmpR (op_eqD hr.units) (pv 0) (pv 1) (nomark _))))))) pss_nil)
      (pss_cons (ps_if (PW.pt (pw_or (pt_val (pe_callB call_isi (by rfl) T.b_isinstance (by decide +kernel) (pa_cons (pv 0) (pa_cons (pe_bltn (v := .ty "int") (by rfl) T.b_int (by decide +kernel) rfl) pa_nil)))) (pw_or1 (pt_val (pe_callB call_isi (by rfl) T.b_isinstance (by decide +kernel) (pa_cons (pv 1) (pa_cons (pe_bltn (v := .ty "int") (by rfl) T.b_int (by decide +kernel) rfl) pa_nil))))))) (pss_one (ps_ret (pe_and (pe_callB call_isi (by rfl) T.b_isinstance (by decide +kernel) (pa_cons (pv 0) (pa_cons (pe_bltn (v := .ty "int") (by rfl) T.b_int (by decide +kernel) rfl) pa_nil))) (pe_and (pe_callB call_isi (by rfl) T.b_isinstance (by decide +kernel) (pa_cons (pv 1) (pa_cons (pe_bltn (v := .ty "int") (by rfl) T.b_int (by decide +kernel) rfl) pa_nil))) (pe_one (pe_cmpR (op_eqD hr.units) (pv 0) (pv 1) (nomark _))))))) pss_nil)
      (pss_cons (ps_if (PW.pt (pw_or (pt_val (pe_callB call_isi (by rfl) T.b_isinstance (by decide +kernel) (pa_cons (pv 0) (pa_cons (pe_bltn (v := .ty "str") (by rfl) T.b_str (by decide +kernel) rfl) pa_nil)))) (pw_or1 (pt_val (pe_callB call_isi (by rfl) T.b_isinstance (by decide +kernel) (pa_cons (pv 1) (pa_cons (pe_bltn (v := .ty "str") (by rfl) T.b_str (by decide +kernel) rfl) pa_nil))))))) (pss_one (ps_ret (pe_and (pe_callB call_isi (by rfl) T.b_isinstance (by decide +kernel) (pa_cons (pv 0) (pa_cons (pe_bltn (v := .ty "str") (by rfl) T.b_str (by decide +kernel) rfl) pa_nil))) (pe_and (pe_callB call_isi (by rfl) T.b_isinstance (by decide +kernel) (pa_cons (pv 1) (pa_cons (pe_bltn (v := .ty "str") (by rfl) T.b_str (by decide +kernel) rfl) pa_nil))) (pe_one (pe_cmpR (op_eqD hr.units) (pv 0) (pv 1) (nomark _))))))) pss_nil)
      (pss_cons (ps_if (PW.pt (pw_or (pt_cmp (pc_isN (pv 0))) (pw_or1 (pt_cmp (pc_isN (pv 1)))))) (pss_one (ps_ret (pe_and (pe_cmp (pc_isN (pv 0))) (pe_one (pe_cmp (pc_isN (pv 1))))))) pss_nil)
      (pss_cons (ps_if (PW.pt (pw_or (pt_val (pe_callB call_isi (by rfl) T.b_isinstance (by decide +kernel) (pa_cons (pv 0) (pa_cons (pe_bltn (v := .ty "dict") (by rfl) T.b_dict (by decide +kernel) rfl) pa_nil)))) (pw_or1 (pt_val (pe_callB call_isi (by rfl) T.b_isinstance (by decide +kernel) (pa_cons (pv 1) (pa_cons (pe_bltn (v := .ty "dict") (by rfl) T.b_dict (by decide +kernel) rfl) pa_nil))))))) (pss_one (ps_ret (pe_and (pe_callB call_isi (by rfl) T.b_isinstance (by decide +kernel) (pa_cons (pv 0) (pa_cons (pe_bltn (v := .ty "dict") (by rfl) T.b_dict (by decide +kernel) rfl) pa_nil))) (pe_and (pe_callB call_isi (by rfl) T.b_isinstance (by decide +kernel) (pa_cons (pv 1) (pa_cons (pe_bltn (v := .ty "dict") (by rfl) T.b_dict (by decide +kernel) rfl) pa_nil))) (pe_one (pe_chain (op_eqD hr.units) (op_eqD hr.units) (pe_callB call_lenD (by rfl) T.b_len PySem.boot_len (pa_cons (pv 0) pa_nil)) (pe_callB call_lenD (by rfl) T.b_len PySem.boot_len (pa_cons (pv 1) pa_nil)) pe_int)))))) pss_nil)
      (pss_cons (ps_if (PW.pt (pw_or (pt_cmpR (op_neD hr.units) (pe_callB call_isi (by rfl) T.b_isinstance (by decide +kernel) (pa_cons (pv 0) (pa_cons (pe_bltn (v := .ty "tuple") (by rfl) T.b_tuple (by decide +kernel) rfl) pa_nil))) (pe_callB call_isi (by rfl) T.b_isinstance (by decide +kernel) (pa_cons (pv 1) (pa_cons (pe_bltn (v := .ty "tuple") (by rfl) T.b_tuple (by decide +kernel) rfl) pa_nil))) (nomark _)) (pw_or1 (pt_cmpR (op_neD hr.units) (pe_callB call_isi (by rfl) T.b_isinstance (by decide +kernel) (pa_cons (pv 0) (pa_cons (pe_bltn (v := .ty "list") (by rfl) T.b_list (by decide +kernel) rfl) pa_nil))) (pe_callB call_isi (by rfl) T.b_isinstance (by decide +kernel) (pa_cons (pv 1) (pa_cons (pe_bltn (v := .ty "list") (by rfl) T.b_list (by decide +kernel) rfl) pa_nil))) (nomark _))))) (pss_one (ps_ret pe_bl)) pss_nil)
      (pss_cons (ps_if (PW.pt (pw_or (pt_not (pt_val (pe_callB call_isiT (by rfl) T.b_isinstance (by decide +kernel) (pa_cons (pv 0) (pa_cons (pe_tup (pa_cons (pe_bltn (v := .ty "tuple") (by rfl) T.b_tuple (by decide +kernel) rfl) (pa_cons (pe_bltn (v := .ty "list") (by rfl) T.b_list (by decide +kernel) rfl) pa_nil))) pa_nil))))) (pw_or1 (pt_cmpR (op_neD hr.units) (pe_callB call_len_seq (by rfl) T.b_len PySem.boot_len (pa_cons (pv 0) pa_nil)) (pe_callB call_len_seq (by rfl) T.b_len PySem.boot_len (pa_cons (pv 1) pa_nil)) (nomark _))))) (pss_one (ps_ret pe_bl)) pss_nil)
      (pss_one (ps_ret (pe_callB (cr_all rfl) (by rfl) T.b_all (by decide +kernel) (pa_cons (pe_lc (own := [("k", 2)]) rfl sc__law_alike.nd (pi_range1 rfl T.b_range (pa_cons (pe_callB call_len_seq (by rfl) T.b_len PySem.boot_len (pa_cons (pv 0) pa_nil)) pa_nil)) (blkOk_by (N := N__law_alike) (sc := defScope s__law_alike) (by decide +kernel)) (fun _ _ _ _ _ => (pg_name (i := 2) sc__law_alike.nd rfl (by first | exact .inl rfl | exact .inr rfl))) (fun _ _ _ _ _ => pts_nil) (fun _ _ _ _ _ => (pe_call IH (hr.mono (by omega)) rfl T.g__law_alike T.k__law_alike T.bd__law_alike .nil pass0 (pa_cons (pe_ix ix_any (pv 0) (pv 2) (fun _ _ => rfl)) (pa_cons (pe_ix ix_any (pv 1) (pv 2) (fun _ _ => rfl)) pa_nil))))) pa_nil))))))))))),
      (sv_seq (sv_if (tv_or (tv_B (ev_isi (ev_var (k := 0)))) (tv_B (ev_isi (ev_var (k := 1))))) (sv_ret (ev_and (ev_isi (ev_var (k := 0))) (ev_and (ev_isi (ev_var (k := 1))) (ev_op rg_eq (ev_var (k := 0)) (ev_var (k := 1)))))) sv_nx)
      (sv_seq (sv_if (tv_or (tv_B (ev_isi (ev_var (k := 0)))) (tv_B (ev_isi (ev_var (k := 1))))) (sv_ret (ev_and (ev_isi (ev_var (k := 0))) (ev_and (ev_isi (ev_var (k := 1))) (ev_op rg_eq (ev_var (k := 0)) (ev_var (k := 1)))))) sv_nx)
      (sv_seq (sv_if (tv_or (tv_B (ev_isi (ev_var (k := 0)))) (tv_B (ev_isi (ev_var (k := 1))))) (sv_ret (ev_and (ev_isi (ev_var (k := 0))) (ev_and (ev_isi (ev_var (k := 1))) (ev_op rg_eq (ev_var (k := 0)) (ev_var (k := 1)))))) sv_nx)
      (sv_seq (sv_if (tv_or (tv_B (ev_isN (ev_var (k := 0)))) (tv_B (ev_isN (ev_var (k := 1))))) (sv_ret (ev_and (ev_isN (ev_var (k := 0))) (ev_isN (ev_var (k := 1))))) sv_nx)
      (sv_seq (sv_if (tv_or (tv_B (ev_isi (ev_var (k := 0)))) (tv_B (ev_isi (ev_var (k := 1))))) (sv_ret (ev_and (ev_isi (ev_var (k := 0))) (ev_and (ev_isi (ev_var (k := 1))) (ev_chain rg_eq rg_eq (ev_cb cg_lenD (av_cons (ev_var (k := 0)) av_nil)) (ev_cb cg_lenD (av_cons (ev_var (k := 1)) av_nil)) ev_int)))) sv_nx)
      (sv_seq (sv_if (tv_or (tv_test (ev_op rg_ne (ev_isi (ev_var (k := 0))) (ev_isi (ev_var (k := 1))))) (tv_test (ev_op rg_ne (ev_isi (ev_var (k := 0))) (ev_isi (ev_var (k := 1)))))) (sv_ret ev_bl) sv_nx)
      (sv_seq (sv_if (tv_or (tv_not (tv_B (ev_isi2 (ev_var (k := 0))))) (tv_test (ev_op rg_ne (ev_cb cg_len (av_cons (ev_var (k := 0)) av_nil)) (ev_cb cg_len (av_cons (ev_var (k := 1)) av_nil))))) (sv_ret ev_bl) sv_nx)
      (sv_ret (ev_allL (lv_lc (vs := [2]) (iv_rng1 (av_cons (ev_cb cg_len (av_cons (ev_var (k := 0)) av_nil)) av_nil)) (gv_name (k := 2)) own_name tv_yes (ev_call (av_cons (ev_op rg_ix (ev_var (k := 0)) (ev_var (k := 2))) (av_cons (ev_op rg_ix (ev_var (k := 1)) (ev_var (k := 2))) av_nil)))))))))))))⟩)
theorem ok__law_one (T : Txt P w K mg base ad fd cA aI fI) : FnOk P w K mg base CX0 2 (ad 26) (fd 26) ["pool", "some"] (spO K cA G__law_one) :=
  cut_ok (fnRaw (m := 2) (n := 2) (B := B__law_one) T.F__law_one sc__law_one rfl rfl fun cdv A outer s H E hr => ⟨_, (pss_one (ps_ret (pe_ix ix_list (pv 1) (pe_call (ok__law_take T) (hr.mono (by decide)) rfl T.g__law_take T.k__law_take T.bd__law_take .nil pass0 (pa_cons (pv 0) (pa_cons (pe_callB call_len_seq (by rfl) T.b_len PySem.boot_len (pa_cons (pv 1) pa_nil)) pa_nil))) (fun _ _ => rfl)))),
    (sv_ret (ev_op rg_ixL (ev_var (k := 1)) (ev_call (av_cons (ev_var (k := 0)) (av_cons (ev_cb cg_len (av_cons (ev_var (k := 1)) av_nil)) av_nil)))))⟩)
theorem ok__law_held (T : Txt P w K mg base ad fd cA aI fI) : FnOk P w K mg base CX0 3 (ad 27) (fd 27) ["k", "value", "is_named"] (spO K cA G__law_held) :=
  (fnRaw (m := 3) (n := 3) (B := B__law_held) T.F__law_held sc__law_held rfl rfl fun cdv A outer s H E hr => ⟨_, (pss_cons (ps_if (pt_cmpR (op_eqD hr.units) (pv 0) pe_int (nomark _)) (pss_one (ps_ret (pe_ifExp (pt_val (pv 2)) (pe_mkK T.M_InvalidPlaces T.I_InvalidPlaces (hr.mono (by decide)) T.bk_InvalidPlaces pass0 rfl T.g_InvalidPlaces (pv 1)) (pe_mkX T.M_InvalidPlaces T.I_InvalidPlaces (hr.mono (by decide)) T.bp_InvalidPlaces pass0 rfl T.g_InvalidPlaces (pv 1))))) pss_nil)
      (pss_cons (ps_if (pt_cmpR (op_eqD hr.units) (pv 0) pe_int (nomark _)) (pss_one (ps_ret (pe_ifExp (pt_val (pv 2)) (pe_mkK T.M_InvalidZone T.I_InvalidZone (hr.mono (by decide)) T.bk_InvalidZone pass0 rfl T.g_InvalidZone (pv 1)) (pe_mkX T.M_InvalidZone T.I_InvalidZone (hr.mono (by decide)) T.bp_InvalidZone pass0 rfl T.g_InvalidZone (pv 1))))) pss_nil)
      (pss_cons (ps_if (pt_cmpR (op_eqD hr.units) (pv 0) pe_int (nomark _)) (pss_one (ps_ret (pe_ifExp (pt_val (pv 2)) (pe_mkK T.M_InvalidStand T.I_InvalidStand (hr.mono (by decide)) T.bk_InvalidStand pass0 rfl T.g_InvalidStand (pv 1)) (pe_mkX T.M_InvalidStand T.I_InvalidStand (hr.mono (by decide)) T.bp_InvalidStand pass0 rfl T.g_InvalidStand (pv 1))))) pss_nil)
      (pss_cons (ps_if (pt_cmpR (op_eqD hr.units) (pv 0) pe_int (nomark _)) (pss_one (ps_ret (pe_ifExp (pt_val (pv 2)) (pe_mkK T.M_InvalidNumber T.I_InvalidNumber (hr.mono (by decide)) T.bk_InvalidNumber pass0 rfl T.g_InvalidNumber (pv 1)) (pe_mkX T.M_InvalidNumber T.I_InvalidNumber (hr.mono (by decide)) T.bp_InvalidNumber pass0 rfl T.g_InvalidNumber (pv 1))))) pss_nil)
      (pss_cons (ps_if (pt_cmpR (op_eqD hr.units) (pv 0) pe_int (nomark _)) (pss_one (ps_ret (pe_ifExp (pt_val (pv 2)) (pe_mkK T.M_InvalidPoint T.I_InvalidPoint (hr.mono (by decide)) T.bk_InvalidPoint pass0 rfl T.g_InvalidPoint (pv 1)) (pe_mkX T.M_InvalidPoint T.I_InvalidPoint (hr.mono (by decide)) T.bp_InvalidPoint pass0 rfl T.g_InvalidPoint (pv 1))))) pss_nil)
      (pss_cons (ps_if (pt_cmpR (op_eqD hr.units) (pv 0) pe_int (nomark _)) (pss_one (ps_ret (pe_ifExp (pt_val (pv 2)) (pe_mkK T.M_InvalidGreatest T.I_InvalidGreatest (hr.mono (by decide)) T.bk_InvalidGreatest pass0 rfl T.g_InvalidGreatest (pv 1)) (pe_mkX T.M_InvalidGreatest T.I_InvalidGreatest (hr.mono (by decide)) T.bp_InvalidGreatest pass0 rfl T.g_InvalidGreatest (pv 1))))) pss_nil)
      (pss_cons (ps_if (pt_cmpR (op_eqD hr.units) (pv 0) pe_int (nomark _)) (pss_one (ps_ret (pe_ifExp (pt_val (pv 2)) (pe_mkK T.M_InvalidLine T.I_InvalidLine (hr.mono (by decide)) T.bk_InvalidLine pass0 rfl T.g_InvalidLine (pv 1)) (pe_mkX T.M_InvalidLine T.I_InvalidLine (hr.mono (by decide)) T.bp_InvalidLine pass0 rfl T.g_InvalidLine (pv 1))))) pss_nil)
      (pss_cons (ps_if (pt_cmpR (op_eqD hr.units) (pv 0) pe_int (nomark _)) (pss_one (ps_ret (pe_ifExp (pt_val (pv 2)) (pe_mkK T.M_NotADesk T.I_NotADesk (hr.mono (by decide)) T.bk_NotADesk pass0 rfl T.g_NotADesk (pv 1)) (pe_mkX T.M_NotADesk T.I_NotADesk (hr.mono (by decide)) T.bp_NotADesk pass0 rfl T.g_NotADesk (pv 1))))) pss_nil)
      (pss_one (ps_ret (pe_ifExp (pt_val (pv 2)) (pe_mkK T.M_NotNow T.I_NotNow (hr.mono (by decide)) T.bk_NotNow pass0 rfl T.g_NotNow (pv 1)) (pe_mkX T.M_NotNow T.I_NotNow (hr.mono (by decide)) T.bp_NotNow pass0 rfl T.g_NotNow (pv 1))))))))))))),
    (sv_seq (sv_if (tv_test (ev_op rg_eq (ev_var (k := 0)) ev_int)) (sv_ret (ev_if (tv_B (ev_var (k := 2))) (ev_mkX (ev_var (k := 1))) (ev_mkX (ev_var (k := 1))))) sv_nx)
      (sv_seq (sv_if (tv_test (ev_op rg_eq (ev_var (k := 0)) ev_int)) (sv_ret (ev_if (tv_B (ev_var (k := 2))) (ev_mkX (ev_var (k := 1))) (ev_mkX (ev_var (k := 1))))) sv_nx)
      (sv_seq (sv_if (tv_test (ev_op rg_eq (ev_var (k := 0)) ev_int)) (sv_ret (ev_if (tv_B (ev_var (k := 2))) (ev_mkX (ev_var (k := 1))) (ev_mkX (ev_var (k := 1))))) sv_nx)
      (sv_seq (sv_if (tv_test (ev_op rg_eq (ev_var (k := 0)) ev_int)) (sv_ret (ev_if (tv_B (ev_var (k := 2))) (ev_mkX (ev_var (k := 1))) (ev_mkX (ev_var (k := 1))))) sv_nx)
      (sv_seq (sv_if (tv_test (ev_op rg_eq (ev_var (k := 0)) ev_int)) (sv_ret (ev_if (tv_B (ev_var (k := 2))) (ev_mkX (ev_var (k := 1))) (ev_mkX (ev_var (k := 1))))) sv_nx)
      (sv_seq (sv_if (tv_test (ev_op rg_eq (ev_var (k := 0)) ev_int)) (sv_ret (ev_if (tv_B (ev_var (k := 2))) (ev_mkX (ev_var (k := 1))) (ev_mkX (ev_var (k := 1))))) sv_nx)
      (sv_seq (sv_if (tv_test (ev_op rg_eq (ev_var (k := 0)) ev_int)) (sv_ret (ev_if (tv_B (ev_var (k := 2))) (ev_mkX (ev_var (k := 1))) (ev_mkX (ev_var (k := 1))))) sv_nx)
      (sv_seq (sv_if (tv_test (ev_op rg_eq (ev_var (k := 0)) ev_int)) (sv_ret (ev_if (tv_B (ev_var (k := 2))) (ev_mkX (ev_var (k := 1))) (ev_mkX (ev_var (k := 1))))) sv_nx)
      (sv_ret (ev_if (tv_B (ev_var (k := 2))) (ev_mkX (ev_var (k := 1))) (ev_mkX (ev_var (k := 1)))))))))))))⟩)
theorem ok__law_placed (T : Txt P w K mg base ad fd cA aI fI) : FnOk P w K mg base CX0 3 (ad 28) (fd 28) ["k", "value", "is_named"] (spO K cA G__law_placed) :=
  (fnRaw (m := 3) (n := 3) (B := B__law_placed) T.F__law_placed sc__law_placed rfl rfl fun cdv A outer s H E hr => ⟨_, (pss_cons (ps_if (pt_cmpR (op_eqD hr.units) (pv 0) pe_int (nomark _)) (pss_one (ps_ret (pe_ifExp (pt_val (pv 2)) (pe_mkK T.M_InvalidText T.I_InvalidText (hr.mono (by decide)) T.bk_InvalidText pass0 rfl T.g_InvalidText (pv 1)) (pe_mkX T.M_InvalidText T.I_InvalidText (hr.mono (by decide)) T.bp_InvalidText pass0 rfl T.g_InvalidText (pv 1))))) pss_nil)
      (pss_cons (ps_if (pt_cmpR (op_eqD hr.units) (pv 0) pe_int (nomark _)) (pss_one (ps_ret (pe_ifExp (pt_val (pv 2)) (pe_mkK T.M_InvalidPlan T.I_InvalidPlan (hr.mono (by decide)) T.bk_InvalidPlan pass0 rfl T.g_InvalidPlan (pv 1)) (pe_mkX T.M_InvalidPlan T.I_InvalidPlan (hr.mono (by decide)) T.bp_InvalidPlan pass0 rfl T.g_InvalidPlan (pv 1))))) pss_nil)
      (pss_cons (ps_if (pt_cmpR (op_eqD hr.units) (pv 0) pe_int (nomark _)) (pss_one (ps_ret (pe_ifExp (pt_val (pv 2)) (pe_mkK T.M_Misfit T.I_Misfit (hr.mono (by decide)) T.bk_Misfit pass0 rfl T.g_Misfit (pv 1)) (pe_mkX T.M_Misfit T.I_Misfit (hr.mono (by decide)) T.bp_Misfit pass0 rfl T.g_Misfit (pv 1))))) pss_nil)
      (pss_cons (ps_if (pt_cmpR (op_eqD hr.units) (pv 0) pe_int (nomark _)) (pss_one (ps_ret (pe_ifExp (pt_val (pv 2)) (pe_mkK T.M_InvalidLimits T.I_InvalidLimits (hr.mono (by decide)) T.bk_InvalidLimits pass0 rfl T.g_InvalidLimits (pv 1)) (pe_mkX T.M_InvalidLimits T.I_InvalidLimits (hr.mono (by decide)) T.bp_InvalidLimits pass0 rfl T.g_InvalidLimits (pv 1))))) pss_nil)
      (pss_cons (ps_if (pt_cmpR (op_eqD hr.units) (pv 0) pe_int (nomark _)) (pss_one (ps_ret (pe_ifExp (pt_val (pv 2)) (pe_mkK T.M_InvalidWay T.I_InvalidWay (hr.mono (by decide)) T.bk_InvalidWay pass0 rfl T.g_InvalidWay (pv 1)) (pe_mkX T.M_InvalidWay T.I_InvalidWay (hr.mono (by decide)) T.bp_InvalidWay pass0 rfl T.g_InvalidWay (pv 1))))) pss_nil)
      (pss_cons (ps_if (pt_cmpR (op_eqD hr.units) (pv 0) pe_int (nomark _)) (pss_one (ps_ret (pe_ifExp (pt_val (pv 2)) (pe_mkK T.M_InvalidRun T.I_InvalidRun (hr.mono (by decide)) T.bk_InvalidRun pass0 rfl T.g_InvalidRun (pv 1)) (pe_mkX T.M_InvalidRun T.I_InvalidRun (hr.mono (by decide)) T.bp_InvalidRun pass0 rfl T.g_InvalidRun (pv 1))))) pss_nil)
      (pss_cons (ps_if (pt_cmpR (op_eqD hr.units) (pv 0) pe_int (nomark _)) (pss_one (ps_ret (pe_ifExp (pt_val (pv 2)) (pe_mkK T.M_InvalidWord T.I_InvalidWord (hr.mono (by decide)) T.bk_InvalidWord pass0 rfl T.g_InvalidWord (pv 1)) (pe_mkX T.M_InvalidWord T.I_InvalidWord (hr.mono (by decide)) T.bp_InvalidWord pass0 rfl T.g_InvalidWord (pv 1))))) pss_nil)
      (pss_cons (ps_if (pt_cmpR (op_eqD hr.units) (pv 0) pe_int (nomark _)) (pss_one (ps_ret (pe_ifExp (pt_val (pv 2)) (pe_mkK T.M_InvalidPapers T.I_InvalidPapers (hr.mono (by decide)) T.bk_InvalidPapers pass0 rfl T.g_InvalidPapers (pv 1)) (pe_mkX T.M_InvalidPapers T.I_InvalidPapers (hr.mono (by decide)) T.bp_InvalidPapers pass0 rfl T.g_InvalidPapers (pv 1))))) pss_nil)
      (pss_one (ps_ret (pe_ifExp (pt_val (pv 2)) (pe_mkK T.M_Broken T.I_Broken (hr.mono (by decide)) T.bk_Broken pass0 rfl T.g_Broken (pv 1)) (pe_mkX T.M_Broken T.I_Broken (hr.mono (by decide)) T.bp_Broken pass0 rfl T.g_Broken (pv 1))))))))))))),
    (sv_seq (sv_if (tv_test (ev_op rg_eq (ev_var (k := 0)) ev_int)) (sv_ret (ev_if (tv_B (ev_var (k := 2))) (ev_mkX (ev_var (k := 1))) (ev_mkX (ev_var (k := 1))))) sv_nx)
      (sv_seq (sv_if (tv_test (ev_op rg_eq (ev_var (k := 0)) ev_int)) (sv_ret (ev_if (tv_B (ev_var (k := 2))) (ev_mkX (ev_var (k := 1))) (ev_mkX (ev_var (k := 1))))) sv_nx)
      (sv_seq (sv_if (tv_test (ev_op rg_eq (ev_var (k := 0)) ev_int)) (sv_ret (ev_if (tv_B (ev_var (k := 2))) (ev_mkX (ev_var (k := 1))) (ev_mkX (ev_var (k := 1))))) sv_nx)
      (sv_seq (sv_if (tv_test (ev_op rg_eq (ev_var (k := 0)) ev_int)) (sv_ret (ev_if (tv_B (ev_var (k := 2))) (ev_mkX (ev_var (k := 1))) (ev_mkX (ev_var (k := 1))))) sv_nx)
      (sv_seq (sv_if (tv_test (ev_op rg_eq (ev_var (k := 0)) ev_int)) (sv_ret (ev_if (tv_B (ev_var (k := 2))) (ev_mkX (ev_var (k := 1))) (ev_mkX (ev_var (k := 1))))) sv_nx)
      (sv_seq (sv_if (tv_test (ev_op rg_eq (ev_var (k := 0)) ev_int)) (sv_ret (ev_if (tv_B (ev_var (k := 2))) (ev_mkX (ev_var (k := 1))) (ev_mkX (ev_var (k := 1))))) sv_nx)
      (sv_seq (sv_if (tv_test (ev_op rg_eq (ev_var (k := 0)) ev_int)) (sv_ret (ev_if (tv_B (ev_var (k := 2))) (ev_mkX (ev_var (k := 1))) (ev_mkX (ev_var (k := 1))))) sv_nx)
      (sv_seq (sv_if (tv_test (ev_op rg_eq (ev_var (k := 0)) ev_int)) (sv_ret (ev_if (tv_B (ev_var (k := 2))) (ev_mkX (ev_var (k := 1))) (ev_mkX (ev_var (k := 1))))) sv_nx)
      (sv_ret (ev_if (tv_B (ev_var (k := 2))) (ev_mkX (ev_var (k := 1))) (ev_mkX (ev_var (k := 1)))))))))))))⟩)
theorem ok__law_made (T : Txt P w K mg base ad fd cA aI fI) : FnOk P w K mg base CX0 4 (ad 29) (fd 29) ["k", "value", "is_named"] (spO K cA G__law_made) :=
  (fnRaw (m := 3) (n := 4) (B := B__law_made) T.F__law_made sc__law_made rfl rfl fun cdv A outer s H E hr => ⟨_, (pss_cons (ps_set (i := 3) sc__law_made.nd rfl (by first | exact .inl rfl | exact .inr rfl) (pe_ifExp (pt_cmpR op_lt (pv 0) pe_int (nomark _)) (pe_call (ok__law_held T) (hr.mono (by decide)) rfl T.g__law_held T.k__law_held T.bd__law_held .nil pass0 (pa_cons (pv 0) (pa_cons (pv 1) (pa_cons (pv 2) pa_nil)))) (pe_call (ok__law_placed T) (hr.mono (by decide)) rfl T.g__law_placed T.k__law_placed T.bd__law_placed .nil pass0 (pa_cons (pe_op op_sub (pv 0) pe_int) (pa_cons (pv 1) (pa_cons (pv 2) pa_nil))))))
      (pss_one (ps_ret (pe_tup (pa_cons (pv 3) (pa_cons (pe_ifExp (pt_cmpR op_lt (pv 0) pe_int (nomark _)) (pe_gf (pv 3)) (pe_gf (pv 3))) pa_nil)))))),
    (sv_seq (sv_asg (ev_if (tv_test (ev_op rg_lt (ev_var (k := 0)) ev_int)) (ev_call (av_cons (ev_var (k := 0)) (av_cons (ev_var (k := 1)) (av_cons (ev_var (k := 2)) av_nil)))) (ev_call (av_cons (ev_op rg_sub (ev_var (k := 0)) ev_int) (av_cons (ev_var (k := 1)) (av_cons (ev_var (k := 2)) av_nil))))) (gv_name (k := 3)))
      (sv_ret (ev_tup (av_cons (ev_var (k := 3)) (av_cons (ev_if (tv_test (ev_op rg_lt (ev_var (k := 0)) ev_int)) (ev_gf T.x_given (ev_var (k := 3))) (ev_gf T.x_index (ev_var (k := 3)))) av_nil)))))⟩)
theorem ok__law_kinds_of (T : Txt P w K mg base ad fd cA aI fI) : FnOk P w K mg base CX0 1 (ad 30) (fd 30) ["e"] (spO K cA G__law_kinds_of) :=
  new_ok (fnRaw (m := 1) (n := 4) (B := B__law_kinds_of) T.F__law_kinds_of sc__law_kinds_of rfl rfl fun cdv A outer s H E hr => ⟨_, (pss_cons (ps_set (i := 1) sc__law_kinds_of.nd rfl (by first | exact .inl rfl | exact .inr rfl) (pe_lst (pa_cons (pe_callB call_isX (by rfl) T.b_isinstance (by decide +kernel) (pa_cons (pv 0) (pa_cons (pe_glob (v := .ref (cA 1)) rfl T.g_InvalidPlaces rfl) pa_nil))) (pa_cons (pe_callB call_isX (by rfl) T.b_isinstance (by decide +kernel) (pa_cons (pv 0) (pa_cons (pe_glob (v := .ref (cA 2)) rfl T.g_InvalidZone rfl) pa_nil))) (pa_cons (pe_callB call_isX (by rfl) T.b_isinstance (by decide +kernel) (pa_cons (pv 0) (pa_cons (pe_glob (v := .ref (cA 3)) rfl T.g_InvalidStand rfl) pa_nil))) (pa_cons (pe_callB call_isX (by rfl) T.b_isinstance (by decide +kernel) (pa_cons (pv 0) (pa_cons (pe_glob (v := .ref (cA 4)) rfl T.g_InvalidNumber rfl) pa_nil))) (pa_cons (pe_callB call_isX (by rfl) T.b_isinstance (by decide +kernel) (pa_cons (pv 0) (pa_cons (pe_glob (v := .ref (cA 5)) rfl T.g_InvalidPoint rfl) pa_nil))) pa_nil)))))))
      (pss_cons (ps_set (i := 1) sc__law_kinds_of.nd rfl (by first | exact .inl rfl | exact .inr rfl) (pe_op op_cat (pv 1) (pe_lst (pa_cons (pe_callB call_isX (by rfl) T.b_isinstance (by decide +kernel) (pa_cons (pv 0) (pa_cons (pe_glob (v := .ref (cA 6)) rfl T.g_InvalidGreatest rfl) pa_nil))) (pa_cons (pe_callB call_isX (by rfl) T.b_isinstance (by decide +kernel) (pa_cons (pv 0) (pa_cons (pe_glob (v := .ref (cA 7)) rfl T.g_InvalidLine rfl) pa_nil))) (pa_cons (pe_callB call_isX (by rfl) T.b_isinstance (by decide +kernel) (pa_cons (pv 0) (pa_cons (pe_glob (v := .ref (cA 8)) rfl T.g_NotADesk rfl) pa_nil))) (pa_cons (pe_callB call_isX (by rfl) T.b_isinstance (by decide +kernel) (pa_cons (pv 0) (pa_cons (pe_glob (v := .ref (cA 9)) rfl T.g_NotNow rfl) pa_nil))) pa_nil)))))))
      (pss_cons (ps_set (i := 1) sc__law_kinds_of.nd rfl (by first | exact .inl rfl | exact .inr rfl) (pe_op op_cat (pv 1) (pe_lst (pa_cons (pe_callB call_isX (by rfl) T.b_isinstance (by decide +kernel) (pa_cons (pv 0) (pa_cons (pe_glob (v := .ref (cA 10)) rfl T.g_InvalidText rfl) pa_nil))) (pa_cons (pe_callB call_isX (by rfl) T.b_isinstance (by decide +kernel) (pa_cons (pv 0) (pa_cons (pe_glob (v := .ref (cA 11)) rfl T.g_InvalidPlan rfl) pa_nil))) (pa_cons (pe_callB call_isX (by rfl) T.b_isinstance (by decide +kernel) (pa_cons (pv 0) (pa_cons (pe_glob (v := .ref (cA 12)) rfl T.g_Misfit rfl) pa_nil))) (pa_cons (pe_callB call_isX (by rfl) T.b_isinstance (by decide +kernel) (pa_cons (pv 0) (pa_cons (pe_glob (v := .ref (cA 13)) rfl T.g_InvalidLimits rfl) pa_nil))) (pa_cons (pe_callB call_isX (by rfl) T.b_isinstance (by decide +kernel) (pa_cons (pv 0) (pa_cons (pe_glob (v := .ref (cA 14)) rfl T.g_InvalidWay rfl) pa_nil))) pa_nil))))))))
      (pss_cons (ps_set (i := 1) sc__law_kinds_of.nd rfl (by first | exact .inl rfl | exact .inr rfl) (pe_op op_cat (pv 1) (pe_lst (pa_cons (pe_callB call_isX (by rfl) T.b_isinstance (by decide +kernel) (pa_cons (pv 0) (pa_cons (pe_glob (v := .ref (cA 15)) rfl T.g_InvalidRun rfl) pa_nil))) (pa_cons (pe_callB call_isX (by rfl) T.b_isinstance (by decide +kernel) (pa_cons (pv 0) (pa_cons (pe_glob (v := .ref (cA 16)) rfl T.g_InvalidWord rfl) pa_nil))) (pa_cons (pe_callB call_isX (by rfl) T.b_isinstance (by decide +kernel) (pa_cons (pv 0) (pa_cons (pe_glob (v := .ref (cA 17)) rfl T.g_InvalidPapers rfl) pa_nil))) (pa_cons (pe_callB call_isX (by rfl) T.b_isinstance (by decide +kernel) (pa_cons (pv 0) (pa_cons (pe_glob (v := .ref (cA 18)) rfl T.g_Broken rfl) pa_nil))) pa_nil)))))))
      (pss_cons (ps_set (i := 1) sc__law_kinds_of.nd rfl (by first | exact .inl rfl | exact .inr rfl) (pe_op op_cat (pv 1) (pe_lst (pa_cons (pe_callB call_isX (by rfl) T.b_isinstance (by decide +kernel) (pa_cons (pv 0) (pa_cons (pe_glob (v := .ref (cA 19)) rfl T.g_TooMany rfl) pa_nil))) (pa_cons (pe_callB call_isX (by rfl) T.b_isinstance (by decide +kernel) (pa_cons (pv 0) (pa_cons (pe_glob (v := .ref (cA 20)) rfl T.g_NothingToUndo rfl) pa_nil))) pa_nil)))))
      (pss_one (ps_ret (pe_lc (own := [("k", 2), ("is_one", 3)]) rfl sc__law_kinds_of.nd (pi_enum rfl T.b_enumerate (pa_cons (pv 1) pa_nil)) (blkOk_by (N := N__law_kinds_of) (sc := defScope s__law_kinds_of) (by decide +kernel)) (fun _ _ _ _ _ => (pg_tup rfl (pgs_cons (pg_name (i := 2) sc__law_kinds_of.nd rfl (by first | exact .inl rfl | exact .inr rfl)) (pgs_cons (pg_name (i := 3) sc__law_kinds_of.nd rfl (by first | exact .inl rfl | exact .inr rfl)) pgs_nil)))) (fun _ _ _ _ _ => (pts_one (pt_val (pv 3)))) (fun _ _ _ _ _ => (pv 2)))))))))),
    (sv_seq (sv_asg (ev_trk (lv_lst (av_cons (ev_isX (.own _) T.ix_InvalidPlaces (ev_var (k := 0))) (av_cons (ev_isX (.own _) T.ix_InvalidZone (ev_var (k := 0))) (av_cons (ev_isX (.own _) T.ix_InvalidStand (ev_var (k := 0))) (av_cons (ev_isX (.own _) T.ix_InvalidNumber (ev_var (k := 0))) (av_cons (ev_isX (.own _) T.ix_InvalidPoint (ev_var (k := 0))) av_nil))))))) (gv_name (k := 1)))
      (sv_seq (sv_asg (ev_trk (lv_op rl_cat (ev_var (k := 1)) (ev_trk (lv_lst (av_cons (ev_isX (.own _) T.ix_InvalidGreatest (ev_var (k := 0))) (av_cons (ev_isX (.own _) T.ix_InvalidLine (ev_var (k := 0))) (av_cons (ev_isX (.own _) T.ix_NotADesk (ev_var (k := 0))) (av_cons (ev_isX (.own _) T.ix_NotNow (ev_var (k := 0))) av_nil)))))))) (gv_name (k := 1)))
      (sv_seq (sv_asg (ev_trk (lv_op rl_cat (ev_var (k := 1)) (ev_trk (lv_lst (av_cons (ev_isX (.own _) T.ix_InvalidText (ev_var (k := 0))) (av_cons (ev_isX (.own _) T.ix_InvalidPlan (ev_var (k := 0))) (av_cons (ev_isX (.own _) T.ix_Misfit (ev_var (k := 0))) (av_cons (ev_isX (.own _) T.ix_InvalidLimits (ev_var (k := 0))) (av_cons (ev_isX (.own _) T.ix_InvalidWay (ev_var (k := 0))) av_nil))))))))) (gv_name (k := 1)))
      (sv_seq (sv_asg (ev_trk (lv_op rl_cat (ev_var (k := 1)) (ev_trk (lv_lst (av_cons (ev_isX (.own _) T.ix_InvalidRun (ev_var (k := 0))) (av_cons (ev_isX (.own _) T.ix_InvalidWord (ev_var (k := 0))) (av_cons (ev_isX (.own _) T.ix_InvalidPapers (ev_var (k := 0))) (av_cons (ev_isX (.own _) T.ix_Broken (ev_var (k := 0))) av_nil)))))))) (gv_name (k := 1)))
      (sv_seq (sv_asg (ev_trk (lv_op rl_cat (ev_var (k := 1)) (ev_trk (lv_lst (av_cons (ev_isX (.own _) T.ix_TooMany (ev_var (k := 0))) (av_cons (ev_isX (.own _) T.ix_NothingToUndo (ev_var (k := 0))) av_nil)))))) (gv_name (k := 1)))
      (sv_ret (ev_trk (lv_lc (vs := [2, 3]) (iv_enum (av_cons (ev_var (k := 1)) av_nil)) (gv_tup (n := 2) (gvs_cons (gv_name (k := 2)) (gvs_cons (gv_name (k := 3)) gvs_nil))) own_t2 (tv_B (ev_var (k := 3))) (ev_var (k := 2))))))))))⟩)
theorem ok__law_right (T : Txt P w K mg base ad fd cA aI fI) : FnOk P w K mg base CX0 6 (ad 31) (fd 31) ["pool"] (spO K cA G__law_right) :=
  cut_ok (fnRaw (m := 1) (n := 6) (B := B__law_right) T.F__law_right sc__law_right rfl rfl fun cdv A outer s H E hr => ⟨_, (pss_cons (ps_set (i := 1) sc__law_right.nd rfl (by first | exact .inl rfl | exact .inr rfl) (pe_lst (pa_cons pe_non (pa_cons pe_int (pa_cons (pe_un un_neg pe_int) (pa_cons pe_bl (pa_cons pe_str (pa_cons pe_str (pa_cons (pe_tup pa_nil) (pa_cons (pe_tup (pa_cons pe_int (pa_cons (pe_tup (pa_cons pe_int (pa_cons pe_str pa_nil))) pa_nil))) (pa_cons (pe_lst (pa_cons pe_int pa_nil)) (pa_cons pe_dnewK (pa_cons (pe_op op_pow pe_int pe_int) (pa_cons (pe_call (ok__law_take T) (hr.mono (by decide)) rfl T.g__law_take T.k__law_take T.bd__law_take .nil pass0 (pa_cons (pv 0) (pa_cons pe_int pa_nil))) pa_nil))))))))))))))
      (pss_cons (ps_for PassesOwn.never rfl (pi_range1 rfl T.b_range (pa_cons pe_int pa_nil)) (pg_name (i := 2) sc__law_right.nd rfl (by first | exact .inl rfl | exact .inr rfl)) (pss_cons (ps_set (i := 3) sc__law_right.nd rfl (by first | exact .inl rfl | exact .inr rfl) (pe_call (ok__law_one T) (hr.mono (by decide)) rfl T.g__law_one T.k__law_one T.bd__law_one .nil pass0 (pa_cons (pv 0) (pa_cons (pv 1) pa_nil))))
      (pss_cons (ps_asg (pe_call (ok__law_made T) (hr.mono (by decide)) rfl T.g__law_made T.k__law_made T.bd__law_made .nil pass0 (pa_cons (pv 2) (pa_cons (pv 3) (pa_cons (pe_cmpR (op_eqD hr.units) (pe_call (ok__law_take T) (hr.mono (by decide)) rfl T.g__law_take T.k__law_take T.bd__law_take .nil pass0 (pa_cons (pv 0) (pa_cons pe_int pa_nil))) pe_int (nomark _)) pa_nil)))) (pg_tup rfl (pgs_cons (pg_name (i := 4) sc__law_right.nd rfl (by first | exact .inl rfl | exact .inr rfl)) (pgs_cons (pg_name (i := 5) sc__law_right.nd rfl (by first | exact .inl rfl | exact .inr rfl)) pgs_nil))))
      (pss_one (ps_if (PW.pt (pw_or (pt_not (pt_val (pe_call (ok__law_alike T 4) (hr.mono (by decide)) rfl T.g__law_alike T.k__law_alike T.bd__law_alike .nil pass0 (pa_cons (pv 5) (pa_cons (pv 3) pa_nil))))) (pw_or (pt_cmpR (op_neD hr.units) (pe_call (ok__law_kinds_of T) (hr.mono (by decide)) rfl T.g__law_kinds_of T.k__law_kinds_of T.bd__law_kinds_of .nil pass0 (pa_cons (pv 4) pa_nil)) (pe_lst (pa_cons (pv 2) pa_nil)) (nomark _)) (pw_or (pt_not (pt_val (pe_callB call_isX (by rfl) T.b_isinstance (by decide +kernel) (pa_cons (pv 4) (pa_cons (pe_glob (v := .ref (cA 0)) rfl T.g_RoomError rfl) pa_nil))))) (pw_or1 (pt_not (pt_val (pe_callB call_isX (by rfl) T.b_isinstance (by decide +kernel) (pa_cons (pv 4) (pa_cons (pe_bltn (v := .ty "ValueError") (by rfl) T.b_ValueError (by decide +kernel) rfl) pa_nil)))))))))) (pss_one (ps_ret pe_bl)) pss_nil)))))
      (pss_cons (ps_for PassesOwn.never rfl (pi_list (pe_lst (pa_cons (pe_tup (pa_cons pe_int (pa_cons (pe_mk0 F.excBase_ValueError T.e_TooMany T.g_TooMany T.k_TooMany rfl) pa_nil))) (pa_cons (pe_tup (pa_cons pe_int (pa_cons (pe_mk0 F.excBase_ValueError T.e_NothingToUndo T.g_NothingToUndo T.k_NothingToUndo rfl) pa_nil))) pa_nil)))) (pg_tup rfl (pgs_cons (pg_name (i := 2) sc__law_right.nd rfl (by first | exact .inl rfl | exact .inr rfl)) (pgs_cons (pg_name (i := 4) sc__law_right.nd rfl (by first | exact .inl rfl | exact .inr rfl)) pgs_nil))) (pss_one (ps_if (PW.pt (pw_or (pt_cmpR (op_neD hr.units) (pe_call (ok__law_kinds_of T) (hr.mono (by decide)) rfl T.g__law_kinds_of T.k__law_kinds_of T.bd__law_kinds_of .nil pass0 (pa_cons (pv 4) pa_nil)) (pe_lst (pa_cons (pv 2) pa_nil)) (nomark _)) (pw_or (pt_not (pt_val (pe_callB call_isX (by rfl) T.b_isinstance (by decide +kernel) (pa_cons (pv 4) (pa_cons (pe_glob (v := .ref (cA 0)) rfl T.g_RoomError rfl) pa_nil))))) (pw_or1 (pt_not (pt_val (pe_callB call_isX (by rfl) T.b_isinstance (by decide +kernel) (pa_cons (pv 4) (pa_cons (pe_bltn (v := .ty "ValueError") (by rfl) T.b_ValueError (by decide +kernel) rfl) pa_nil))))))))) (pss_one (ps_ret pe_bl)) pss_nil)))
      (pss_one (ps_ret (pe_and (pe_callB call_isX (by rfl) T.b_isinstance (by decide +kernel) (pa_cons (pe_mk0 F.excBase_ValueError T.e_RoomError T.g_RoomError T.k_RoomError rfl) (pa_cons (pe_bltn (v := .ty "ValueError") (by rfl) T.b_ValueError (by decide +kernel) rfl) pa_nil))) (pe_one (pe_cmpR (op_eqD hr.units) (pe_call (ok__law_kinds_of T) (hr.mono (by decide)) rfl T.g__law_kinds_of T.k__law_kinds_of T.bd__law_kinds_of .nil pass0 (pa_cons (pe_mk0 F.excBase_ValueError T.e_RoomError T.g_RoomError T.k_RoomError rfl) pa_nil)) (pe_lst pa_nil) (nomark _))))))))),
    (sv_seq (sv_asg (ev_trk (lv_lst (av_cons ev_non (av_cons ev_int (av_cons (ev_neg ev_int) (av_cons ev_bl (av_cons ev_str (av_cons ev_str (av_cons (ev_tup av_nil) (av_cons (ev_tup (av_cons ev_int (av_cons (ev_tup (av_cons ev_int (av_cons ev_str av_nil))) av_nil))) (av_cons (ev_trk (lv_lst (av_cons ev_int av_nil))) (av_cons ev_emp (av_cons (ev_op rg_pow ev_int ev_int) (av_cons (ev_call (av_cons (ev_var (k := 0)) (av_cons ev_int av_nil))) av_nil)))))))))))))) (gv_name (k := 1)))
      (sv_seq (sv_for (iv_rng1 (av_cons ev_int av_nil)) (gv_name (k := 2)) (sv_seq (sv_asg (ev_call (av_cons (ev_var (k := 0)) (av_cons (ev_var (k := 1)) av_nil))) (gv_name (k := 3)))
      (sv_seq (sv_asg (ev_call (av_cons (ev_var (k := 2)) (av_cons (ev_var (k := 3)) (av_cons (ev_op rg_eq (ev_call (av_cons (ev_var (k := 0)) (av_cons ev_int av_nil))) ev_int) av_nil)))) (gv_tup (n := 2) (gvs_cons (gv_name (k := 4)) (gvs_cons (gv_name (k := 5)) gvs_nil))))
      (sv_if (tv_or (tv_not (tv_B (ev_call (av_cons (ev_var (k := 5)) (av_cons (ev_var (k := 3)) av_nil))))) (tv_or (tv_test (ev_neL (ev_call (av_cons (ev_var (k := 4)) av_nil)) (lv_lst (av_cons (ev_var (k := 2)) av_nil)))) (tv_or (tv_not (tv_B (ev_isX (.own _) T.ix_RoomError (ev_var (k := 4))))) (tv_not (tv_B (ev_isX (.ty _) T.ix_ValueError (ev_var (k := 4)))))))) (sv_ret ev_bl) sv_nx))))
      (sv_seq (sv_for (iv_newL (lv_lst (av_cons (ev_tup (av_cons ev_int (av_cons ev_mk0 av_nil))) (av_cons (ev_tup (av_cons ev_int (av_cons ev_mk0 av_nil))) av_nil)))) (gv_tup (n := 2) (gvs_cons (gv_name (k := 2)) (gvs_cons (gv_name (k := 4)) gvs_nil))) (sv_if (tv_or (tv_test (ev_neL (ev_call (av_cons (ev_var (k := 4)) av_nil)) (lv_lst (av_cons (ev_var (k := 2)) av_nil)))) (tv_or (tv_not (tv_B (ev_isX (.own _) T.ix_RoomError (ev_var (k := 4))))) (tv_not (tv_B (ev_isX (.ty _) T.ix_ValueError (ev_var (k := 4))))))) (sv_ret ev_bl) sv_nx))
      (sv_ret (ev_and (ev_isX (.ty _) T.ix_ValueError ev_mk0) (ev_eqL (ev_call (av_cons ev_mk0 av_nil)) (lv_lst av_nil)))))))⟩)
theorem ok_law (T : Txt P w K mg base ad fd cA aI fI) : FnOk P w K mg base CX0 7 (ad 32) (fd 32) ["script"] (spO K cA G_law) :=
  cut_ok (fnRaw (m := 1) (n := 2) (B := B_law) T.F_law sc_law rfl rfl fun cdv A outer s H E hr => ⟨_, (pss_cons (ps_for PassesOwn.never rfl (pi_range1 rfl T.b_range (pa_cons (pe_callB (call_min2 rfl) (by rfl) T.b_min (by decide +kernel) (pa_cons pe_int (pa_cons (pe_callB (call_max2 rfl) (by rfl) T.b_max (by decide +kernel) (pa_cons pe_int (pa_cons (pe_callB call_len_seq (by rfl) T.b_len PySem.boot_len (pa_cons (pv 0) pa_nil)) pa_nil))) pa_nil))) pa_nil)) (pg_name (i := 1) sc_law.nd rfl (by first | exact .inl rfl | exact .inr rfl)) (pss_one (ps_if (pt_not (pt_val (pe_call (ok__law_right T) (hr.mono (by decide)) rfl T.g__law_right T.k__law_right T.bd__law_right .nil pass0 (pa_cons (pe_call (ok__law_pool T) (hr.mono (by decide)) rfl T.g__law_pool T.k__law_pool T.bd__law_pool .nil pass0 (pa_cons (pv 0) (pa_cons (pv 1) pa_nil))) pa_nil)))) (pss_one (ps_ret pe_bl)) pss_nil)))
      (pss_one (ps_ret pe_bl))),
    (sv_seq (sv_for (iv_rng1 (av_cons (ev_cb cg_min (av_cons ev_int (av_cons (ev_cb cg_max (av_cons ev_int (av_cons (ev_cb cg_len (av_cons (ev_var (k := 0)) av_nil)) av_nil))) av_nil))) av_nil)) (gv_name (k := 1)) (sv_if (tv_not (tv_B (ev_call (av_cons (ev_call (av_cons (ev_var (k := 0)) (av_cons (ev_var (k := 1)) av_nil))) av_nil)))) (sv_ret ev_bl) sv_nx))
      (sv_ret ev_bl))⟩)
end
end X0
namespace X0
open PySem PySem.Spec PyProof.Rows L2 Evl VM
def excB (K : PySem.W.Frag) (C : Addr) : Bool := decide (PySem.W.findIn K (.ref C) "__getattribute__" = some (some (.builtin "BaseException.__getattribute__"))) && (decide (PySem.W.findIn K (.ref C) "__getattr__" = some none) && (decide (PySem.W.subIn K (.ref C) (.type "BaseException") = some true) && (PySem.W.hasDictIn K C && (decide (PySem.W.findIn K (.ref C) "__class__" = some (some (.builtin "object.__class__"))) &&
  (decide (PySem.W.specialIn K (.builtin "object.__class__") "__get__" = some (some (.builtin "getset_descriptor.__get__"))) && (decide (PySem.W.takesIn K (.builtin "object.__class__") = some true) && decide (PySem.W.mroIn K C (.type "object") = some true)))))))
theorem excB_ok {K : PySem.W.Frag} {C : Addr} (h : excB K C = true) : ExcC K C := by
  obtain ⟨h1, h⟩ := Bool.and_eq_true_iff.mp h
  obtain ⟨h2, h⟩ := Bool.and_eq_true_iff.mp h
  obtain ⟨h3, h⟩ := Bool.and_eq_true_iff.mp h
  obtain ⟨h4, h⟩ := Bool.and_eq_true_iff.mp h
  obtain ⟨h5, h⟩ := Bool.and_eq_true_iff.mp h
  obtain ⟨h6, h⟩ := Bool.and_eq_true_iff.mp h
  obtain ⟨h7, h8⟩ := Bool.and_eq_true_iff.mp h
  exact ⟨of_decide_eq_true h1, of_decide_eq_true h2, of_decide_eq_true h3, h4, of_decide_eq_true h5, of_decide_eq_true h6, of_decide_eq_true h7, of_decide_eq_true h8⟩
def fldB (K : PySem.W.Frag) (f : Str) (C : Addr) : Bool := xfB K C && decide (PySem.W.findIn K (.ref C) f = some none)
def allB (K : PySem.W.Frag) (L : List Addr) : Bool := (List.range 21).all fun i => excB K (L.getD i 0) && (decide (PySem.W.kitOne K (.ref (L.getD i 0)) (.type "ValueError") = some true) && ((if i < 10 then (i == 0 || fldB K "given" (L.getD i 0)) else (!(decide (i < 19)) || fldB K "index" (L.getD i 0))) &&
  (List.range 21).all fun j => decide (PySem.W.kitOne K (.ref (L.getD i 0)) (.ref (L.getD j 0)) = some (j == 0 || i == j))))
theorem allB_at {K : PySem.W.Frag} {L : List Addr} (h : allB K L = true) {i : Nat} (hi : i < 21) : ExcC K (L.getD i 0) ∧ PySem.W.kitOne K (.ref (L.getD i 0)) (.type "ValueError") = some true ∧ (∀ j, j < 21 → PySem.W.kitOne K (.ref (L.getD i 0)) (.ref (L.getD j 0)) = some (j == 0 || i == j)) ∧
    (1 ≤ i → i < 10 → XfC K (L.getD i 0) ∧ PySem.W.findIn K (.ref (L.getD i 0)) "given" = some none) ∧ (10 ≤ i → i < 19 → XfC K (L.getD i 0) ∧ PySem.W.findIn K (.ref (L.getD i 0)) "index" = some none) := by
  obtain ⟨h1, h⟩ := Bool.and_eq_true_iff.mp (List.all_eq_true.mp h i (List.mem_range.mpr hi))
  obtain ⟨h2, h⟩ := Bool.and_eq_true_iff.mp h
  obtain ⟨h3, h4⟩ := Bool.and_eq_true_iff.mp h
  refine ⟨excB_ok h1, of_decide_eq_true h2, fun j hj => of_decide_eq_true (List.all_eq_true.mp h4 j (List.mem_range.mpr hj)), fun ha hb => ?_, fun ha hb => ?_⟩
  · rw [if_pos hb, show (i == 0) = false from by simp; omega, Bool.false_or] at h3
    obtain ⟨q1, q2⟩ := Bool.and_eq_true_iff.mp h3
    exact ⟨xfB_ok q1, of_decide_eq_true q2⟩
  · rw [if_neg (by omega), decide_eq_true hb, Bool.not_true, Bool.false_or] at h3
    obtain ⟨q1, q2⟩ := Bool.and_eq_true_iff.mp h3
    exact ⟨xfB_ok q1, of_decide_eq_true q2⟩
theorem all_mk {l : PySem.W.OpenLaw} {w : World} {K : PySem.W.Frag} {h : Heap} {mg : Str → Option Value} {fa : Addr} (X : K.In h) (G : h.Ns mainGlobals mg) (hfa : mg "law" = some (.ref fa)) (hL : ∀ ns : List Int, ns.length ≤ 63 → ∃ M', G_law [.fl (ns.map Va.int)] [] = some (.bl true, M'))
    {uqpool : Addr} {odqpool anqpool : Option Addr} {slqpool : Array (Option Value)} {ocqpool kVqpool dcqpool pmqpool cdqpool ctqpool : Value}
    {uqtake : Addr} {odqtake anqtake : Option Addr} {slqtake : Array (Option Value)} {ocqtake kVqtake dcqtake pmqtake cdqtake ctqtake : Value}
    {uqalike : Addr} {odqalike anqalike : Option Addr} {slqalike : Array (Option Value)} {ocqalike kVqalike dcqalike pmqalike cdqalike ctqalike : Value}
    {uqone : Addr} {odqone anqone : Option Addr} {slqone : Array (Option Value)} {ocqone kVqone dcqone pmqone cdqone ctqone : Value}
    {uqheld : Addr} {odqheld anqheld : Option Addr} {slqheld : Array (Option Value)} {ocqheld kVqheld dcqheld pmqheld cdqheld ctqheld : Value}
    {uqplaced : Addr} {odqplaced anqplaced : Option Addr} {slqplaced : Array (Option Value)} {ocqplaced kVqplaced dcqplaced pmqplaced cdqplaced ctqplaced : Value}
    {uqmade : Addr} {odqmade anqmade : Option Addr} {slqmade : Array (Option Value)} {ocqmade kVqmade dcqmade pmqmade cdqmade ctqmade : Value}
    {uqkinds_of : Addr} {odqkinds_of anqkinds_of : Option Addr} {slqkinds_of : Array (Option Value)} {ocqkinds_of kVqkinds_of dcqkinds_of pmqkinds_of cdqkinds_of ctqkinds_of : Value}
    {uqright : Addr} {odqright anqright : Option Addr} {slqright : Array (Option Value)} {ocqright kVqright dcqright pmqright cdqright ctqright : Value}
    {ulaw : Addr} {odlaw anlaw : Option Addr} {sllaw : Array (Option Value)} {oclaw kVlaw dclaw pmlaw cdlaw ctlaw : Value}
    {C0 : Addr}
    {C1 : Addr}
    {nm1 q1 : Str} {N1 v1 : Addr} {bs1 bm1 : List Value} {sn1 : List Str} {sub1 : List Value} {ab1 : Bool} {col1 : Option Bool} {dd1 : Option Addr} {ka1 kb1 kc1 kd1 ke1 : Option Value}
    {od_1 an_1 : Option Addr} {sl_1 : Array (Option Value)} {oc_1 kV_1 dc_1 pm_1 cd_1 ct_1 : Value}
    {C2 : Addr}
    {nm2 q2 : Str} {N2 v2 : Addr} {bs2 bm2 : List Value} {sn2 : List Str} {sub2 : List Value} {ab2 : Bool} {col2 : Option Bool} {dd2 : Option Addr} {ka2 kb2 kc2 kd2 ke2 : Option Value}
    {od_2 an_2 : Option Addr} {sl_2 : Array (Option Value)} {oc_2 kV_2 dc_2 pm_2 cd_2 ct_2 : Value}
    {C3 : Addr}
    {nm3 q3 : Str} {N3 v3 : Addr} {bs3 bm3 : List Value} {sn3 : List Str} {sub3 : List Value} {ab3 : Bool} {col3 : Option Bool} {dd3 : Option Addr} {ka3 kb3 kc3 kd3 ke3 : Option Value}
    {od_3 an_3 : Option Addr} {sl_3 : Array (Option Value)} {oc_3 kV_3 dc_3 pm_3 cd_3 ct_3 : Value}
    {C4 : Addr}
    {nm4 q4 : Str} {N4 v4 : Addr} {bs4 bm4 : List Value} {sn4 : List Str} {sub4 : List Value} {ab4 : Bool} {col4 : Option Bool} {dd4 : Option Addr} {ka4 kb4 kc4 kd4 ke4 : Option Value}
    {od_4 an_4 : Option Addr} {sl_4 : Array (Option Value)} {oc_4 kV_4 dc_4 pm_4 cd_4 ct_4 : Value}
    {C5 : Addr}
    {nm5 q5 : Str} {N5 v5 : Addr} {bs5 bm5 : List Value} {sn5 : List Str} {sub5 : List Value} {ab5 : Bool} {col5 : Option Bool} {dd5 : Option Addr} {ka5 kb5 kc5 kd5 ke5 : Option Value}
    {od_5 an_5 : Option Addr} {sl_5 : Array (Option Value)} {oc_5 kV_5 dc_5 pm_5 cd_5 ct_5 : Value}
    {C6 : Addr}
    {nm6 q6 : Str} {N6 v6 : Addr} {bs6 bm6 : List Value} {sn6 : List Str} {sub6 : List Value} {ab6 : Bool} {col6 : Option Bool} {dd6 : Option Addr} {ka6 kb6 kc6 kd6 ke6 : Option Value}
    {od_6 an_6 : Option Addr} {sl_6 : Array (Option Value)} {oc_6 kV_6 dc_6 pm_6 cd_6 ct_6 : Value}
    {C7 : Addr}
    {nm7 q7 : Str} {N7 v7 : Addr} {bs7 bm7 : List Value} {sn7 : List Str} {sub7 : List Value} {ab7 : Bool} {col7 : Option Bool} {dd7 : Option Addr} {ka7 kb7 kc7 kd7 ke7 : Option Value}
    {od_7 an_7 : Option Addr} {sl_7 : Array (Option Value)} {oc_7 kV_7 dc_7 pm_7 cd_7 ct_7 : Value}
    {C8 : Addr}
    {nm8 q8 : Str} {N8 v8 : Addr} {bs8 bm8 : List Value} {sn8 : List Str} {sub8 : List Value} {ab8 : Bool} {col8 : Option Bool} {dd8 : Option Addr} {ka8 kb8 kc8 kd8 ke8 : Option Value}
    {od_8 an_8 : Option Addr} {sl_8 : Array (Option Value)} {oc_8 kV_8 dc_8 pm_8 cd_8 ct_8 : Value}
    {C9 : Addr}
    {nm9 q9 : Str} {N9 v9 : Addr} {bs9 bm9 : List Value} {sn9 : List Str} {sub9 : List Value} {ab9 : Bool} {col9 : Option Bool} {dd9 : Option Addr} {ka9 kb9 kc9 kd9 ke9 : Option Value}
    {od_9 an_9 : Option Addr} {sl_9 : Array (Option Value)} {oc_9 kV_9 dc_9 pm_9 cd_9 ct_9 : Value}
    {C10 : Addr}
    {nm10 q10 : Str} {N10 v10 : Addr} {bs10 bm10 : List Value} {sn10 : List Str} {sub10 : List Value} {ab10 : Bool} {col10 : Option Bool} {dd10 : Option Addr} {ka10 kb10 kc10 kd10 ke10 : Option Value}
    {od_10 an_10 : Option Addr} {sl_10 : Array (Option Value)} {oc_10 kV_10 dc_10 pm_10 cd_10 ct_10 : Value}
    {C11 : Addr}
    {nm11 q11 : Str} {N11 v11 : Addr} {bs11 bm11 : List Value} {sn11 : List Str} {sub11 : List Value} {ab11 : Bool} {col11 : Option Bool} {dd11 : Option Addr} {ka11 kb11 kc11 kd11 ke11 : Option Value}
    {od_11 an_11 : Option Addr} {sl_11 : Array (Option Value)} {oc_11 kV_11 dc_11 pm_11 cd_11 ct_11 : Value}
    {C12 : Addr}
    {nm12 q12 : Str} {N12 v12 : Addr} {bs12 bm12 : List Value} {sn12 : List Str} {sub12 : List Value} {ab12 : Bool} {col12 : Option Bool} {dd12 : Option Addr} {ka12 kb12 kc12 kd12 ke12 : Option Value}
    {od_12 an_12 : Option Addr} {sl_12 : Array (Option Value)} {oc_12 kV_12 dc_12 pm_12 cd_12 ct_12 : Value}
    {C13 : Addr}
    {nm13 q13 : Str} {N13 v13 : Addr} {bs13 bm13 : List Value} {sn13 : List Str} {sub13 : List Value} {ab13 : Bool} {col13 : Option Bool} {dd13 : Option Addr} {ka13 kb13 kc13 kd13 ke13 : Option Value}
    {od_13 an_13 : Option Addr} {sl_13 : Array (Option Value)} {oc_13 kV_13 dc_13 pm_13 cd_13 ct_13 : Value}
    {C14 : Addr}
    {nm14 q14 : Str} {N14 v14 : Addr} {bs14 bm14 : List Value} {sn14 : List Str} {sub14 : List Value} {ab14 : Bool} {col14 : Option Bool} {dd14 : Option Addr} {ka14 kb14 kc14 kd14 ke14 : Option Value}
    {od_14 an_14 : Option Addr} {sl_14 : Array (Option Value)} {oc_14 kV_14 dc_14 pm_14 cd_14 ct_14 : Value}
    {C15 : Addr}
    {nm15 q15 : Str} {N15 v15 : Addr} {bs15 bm15 : List Value} {sn15 : List Str} {sub15 : List Value} {ab15 : Bool} {col15 : Option Bool} {dd15 : Option Addr} {ka15 kb15 kc15 kd15 ke15 : Option Value}
    {od_15 an_15 : Option Addr} {sl_15 : Array (Option Value)} {oc_15 kV_15 dc_15 pm_15 cd_15 ct_15 : Value}
    {C16 : Addr}
    {nm16 q16 : Str} {N16 v16 : Addr} {bs16 bm16 : List Value} {sn16 : List Str} {sub16 : List Value} {ab16 : Bool} {col16 : Option Bool} {dd16 : Option Addr} {ka16 kb16 kc16 kd16 ke16 : Option Value}
    {od_16 an_16 : Option Addr} {sl_16 : Array (Option Value)} {oc_16 kV_16 dc_16 pm_16 cd_16 ct_16 : Value}
    {C17 : Addr}
    {nm17 q17 : Str} {N17 v17 : Addr} {bs17 bm17 : List Value} {sn17 : List Str} {sub17 : List Value} {ab17 : Bool} {col17 : Option Bool} {dd17 : Option Addr} {ka17 kb17 kc17 kd17 ke17 : Option Value}
    {od_17 an_17 : Option Addr} {sl_17 : Array (Option Value)} {oc_17 kV_17 dc_17 pm_17 cd_17 ct_17 : Value}
    {C18 : Addr}
    {nm18 q18 : Str} {N18 v18 : Addr} {bs18 bm18 : List Value} {sn18 : List Str} {sub18 : List Value} {ab18 : Bool} {col18 : Option Bool} {dd18 : Option Addr} {ka18 kb18 kc18 kd18 ke18 : Option Value}
    {od_18 an_18 : Option Addr} {sl_18 : Array (Option Value)} {oc_18 kV_18 dc_18 pm_18 cd_18 ct_18 : Value}
    {C19 : Addr}
    {C20 : Addr}
    (aqpool : PySem.W.nsIn K mainGlobals "_law_pool" = some (some (.ref uqpool)))
    (lqpool : K.lookup uqpool = some ⟨ocqpool, odqpool, .func (PySem.W.fnOf "_law_pool" "_law_pool" (defArgs s__law_pool) (defBody s__law_pool) (defScope s__law_pool) .none kVqpool dcqpool pmqpool anqpool cdqpool ctqpool), slqpool⟩)
    (cqpool : PySem.W.codeIn K cdqpool "_law_pool" = true)
    (kqpool : PySem.W.keepIn K (.ref uqpool) = true)
    (aqtake : PySem.W.nsIn K mainGlobals "_law_take" = some (some (.ref uqtake)))
    (lqtake : K.lookup uqtake = some ⟨ocqtake, odqtake, .func (PySem.W.fnOf "_law_take" "_law_take" (defArgs s__law_take) (defBody s__law_take) (defScope s__law_take) .none kVqtake dcqtake pmqtake anqtake cdqtake ctqtake), slqtake⟩)
    (cqtake : PySem.W.codeIn K cdqtake "_law_take" = true)
    (kqtake : PySem.W.keepIn K (.ref uqtake) = true)
    (aqalike : PySem.W.nsIn K mainGlobals "_law_alike" = some (some (.ref uqalike)))
    (lqalike : K.lookup uqalike = some ⟨ocqalike, odqalike, .func (PySem.W.fnOf "_law_alike" "_law_alike" (defArgs s__law_alike) (defBody s__law_alike) (defScope s__law_alike) .none kVqalike dcqalike pmqalike anqalike cdqalike ctqalike), slqalike⟩)
    (cqalike : PySem.W.codeIn K cdqalike "_law_alike" = true)
    (kqalike : PySem.W.keepIn K (.ref uqalike) = true)
    (aqone : PySem.W.nsIn K mainGlobals "_law_one" = some (some (.ref uqone)))
    (lqone : K.lookup uqone = some ⟨ocqone, odqone, .func (PySem.W.fnOf "_law_one" "_law_one" (defArgs s__law_one) (defBody s__law_one) (defScope s__law_one) .none kVqone dcqone pmqone anqone cdqone ctqone), slqone⟩)
    (cqone : PySem.W.codeIn K cdqone "_law_one" = true)
    (kqone : PySem.W.keepIn K (.ref uqone) = true)
    (aqheld : PySem.W.nsIn K mainGlobals "_law_held" = some (some (.ref uqheld)))
    (lqheld : K.lookup uqheld = some ⟨ocqheld, odqheld, .func (PySem.W.fnOf "_law_held" "_law_held" (defArgs s__law_held) (defBody s__law_held) (defScope s__law_held) .none kVqheld dcqheld pmqheld anqheld cdqheld ctqheld), slqheld⟩)
    (cqheld : PySem.W.codeIn K cdqheld "_law_held" = true)
    (kqheld : PySem.W.keepIn K (.ref uqheld) = true)
    (aqplaced : PySem.W.nsIn K mainGlobals "_law_placed" = some (some (.ref uqplaced)))
    (lqplaced : K.lookup uqplaced = some ⟨ocqplaced, odqplaced, .func (PySem.W.fnOf "_law_placed" "_law_placed" (defArgs s__law_placed) (defBody s__law_placed) (defScope s__law_placed) .none kVqplaced dcqplaced pmqplaced anqplaced cdqplaced ctqplaced), slqplaced⟩)
    (cqplaced : PySem.W.codeIn K cdqplaced "_law_placed" = true)
    (kqplaced : PySem.W.keepIn K (.ref uqplaced) = true)
    (aqmade : PySem.W.nsIn K mainGlobals "_law_made" = some (some (.ref uqmade)))
    (lqmade : K.lookup uqmade = some ⟨ocqmade, odqmade, .func (PySem.W.fnOf "_law_made" "_law_made" (defArgs s__law_made) (defBody s__law_made) (defScope s__law_made) .none kVqmade dcqmade pmqmade anqmade cdqmade ctqmade), slqmade⟩)
    (cqmade : PySem.W.codeIn K cdqmade "_law_made" = true)
    (kqmade : PySem.W.keepIn K (.ref uqmade) = true)
    (aqkinds_of : PySem.W.nsIn K mainGlobals "_law_kinds_of" = some (some (.ref uqkinds_of)))
    (lqkinds_of : K.lookup uqkinds_of = some ⟨ocqkinds_of, odqkinds_of, .func (PySem.W.fnOf "_law_kinds_of" "_law_kinds_of" (defArgs s__law_kinds_of) (defBody s__law_kinds_of) (defScope s__law_kinds_of) .none kVqkinds_of dcqkinds_of pmqkinds_of anqkinds_of cdqkinds_of ctqkinds_of), slqkinds_of⟩)
    (cqkinds_of : PySem.W.codeIn K cdqkinds_of "_law_kinds_of" = true)
    (kqkinds_of : PySem.W.keepIn K (.ref uqkinds_of) = true)
    (aqright : PySem.W.nsIn K mainGlobals "_law_right" = some (some (.ref uqright)))
    (lqright : K.lookup uqright = some ⟨ocqright, odqright, .func (PySem.W.fnOf "_law_right" "_law_right" (defArgs s__law_right) (defBody s__law_right) (defScope s__law_right) .none kVqright dcqright pmqright anqright cdqright ctqright), slqright⟩)
    (cqright : PySem.W.codeIn K cdqright "_law_right" = true)
    (kqright : PySem.W.keepIn K (.ref uqright) = true)
    (alaw : PySem.W.nsIn K mainGlobals "law" = some (some (.ref ulaw)))
    (llaw : K.lookup ulaw = some ⟨oclaw, odlaw, .func (PySem.W.fnOf "law" "law" (defArgs s_law) (defBody s_law) (defScope s_law) .none kVlaw dclaw pmlaw anlaw cdlaw ctlaw), sllaw⟩)
    (claw : PySem.W.codeIn K cdlaw "law" = true)
    (klaw : PySem.W.keepIn K (.ref ulaw) = true)
    (aC0 : PySem.W.nsIn K mainGlobals "RoomError" = some (some (.ref C0)))
    (kC0 : PySem.W.keepIn K (.ref C0) = true)
    (eC0 : PySem.W.excIn K C0 PySem.HandSPX.veTail "ValueError.__new__" = true)
    (aC1 : PySem.W.nsIn K mainGlobals "InvalidPlaces" = some (some (.ref C1)))
    (kC1 : PySem.W.keepIn K (.ref C1) = true)
    (lC1 : K.lookup C1 = some (excClassObj nm1 q1 C1 N1 bs1 bm1 true sn1 sub1 ab1 col1 dd1 ka1 kb1 kc1 kd1 ke1 "ValueError.__new__"))
    (rC1 : PySem.HandSPX.refsVE bm1 = true)
    (sC1 : PySem.W.findIn K (.ref C1) "__setattr__" = some (some (.builtin "object.__setattr__")))
    (xC1 : PySem.W.subIn K (.ref C1) (.type "BaseException") = some true)
    (tC1 : PySem.W.typeIn K (.ref C1) = some (.type "type"))
    (iC1 : PySem.W.findIn K (.ref C1) "__init__" = some (some (.ref v1)))
    (tI1 : PySem.W.typeIn K (.ref v1) = some (.type "function"))
    (lI1 : K.lookup v1 = some ⟨oc_1, od_1, .func (PySem.W.fnOf "__init__" "InvalidPlaces.__init__" (defArgs i_InvalidPlaces) (defBody i_InvalidPlaces) (defScope i_InvalidPlaces) .none kV_1 dc_1 pm_1 an_1 cd_1 ct_1), sl_1⟩)
    (cI1 : PySem.W.codeIn K cd_1 "InvalidPlaces.__init__" = true)
    (kI1 : PySem.W.keepIn K (.ref v1) = true)
    (aC2 : PySem.W.nsIn K mainGlobals "InvalidZone" = some (some (.ref C2)))
    (kC2 : PySem.W.keepIn K (.ref C2) = true)
    (lC2 : K.lookup C2 = some (excClassObj nm2 q2 C2 N2 bs2 bm2 true sn2 sub2 ab2 col2 dd2 ka2 kb2 kc2 kd2 ke2 "ValueError.__new__"))
    (rC2 : PySem.HandSPX.refsVE bm2 = true)
    (sC2 : PySem.W.findIn K (.ref C2) "__setattr__" = some (some (.builtin "object.__setattr__")))
    (xC2 : PySem.W.subIn K (.ref C2) (.type "BaseException") = some true)
    (tC2 : PySem.W.typeIn K (.ref C2) = some (.type "type"))
    (iC2 : PySem.W.findIn K (.ref C2) "__init__" = some (some (.ref v2)))
    (tI2 : PySem.W.typeIn K (.ref v2) = some (.type "function"))
    (lI2 : K.lookup v2 = some ⟨oc_2, od_2, .func (PySem.W.fnOf "__init__" "InvalidZone.__init__" (defArgs i_InvalidZone) (defBody i_InvalidZone) (defScope i_InvalidZone) .none kV_2 dc_2 pm_2 an_2 cd_2 ct_2), sl_2⟩)
    (cI2 : PySem.W.codeIn K cd_2 "InvalidZone.__init__" = true)
    (kI2 : PySem.W.keepIn K (.ref v2) = true)
    (aC3 : PySem.W.nsIn K mainGlobals "InvalidStand" = some (some (.ref C3)))
    (kC3 : PySem.W.keepIn K (.ref C3) = true)
    (lC3 : K.lookup C3 = some (excClassObj nm3 q3 C3 N3 bs3 bm3 true sn3 sub3 ab3 col3 dd3 ka3 kb3 kc3 kd3 ke3 "ValueError.__new__"))
    (rC3 : PySem.HandSPX.refsVE bm3 = true)
    (sC3 : PySem.W.findIn K (.ref C3) "__setattr__" = some (some (.builtin "object.__setattr__")))
    (xC3 : PySem.W.subIn K (.ref C3) (.type "BaseException") = some true)
    (tC3 : PySem.W.typeIn K (.ref C3) = some (.type "type"))
    (iC3 : PySem.W.findIn K (.ref C3) "__init__" = some (some (.ref v3)))
    (tI3 : PySem.W.typeIn K (.ref v3) = some (.type "function"))
    (lI3 : K.lookup v3 = some ⟨oc_3, od_3, .func (PySem.W.fnOf "__init__" "InvalidStand.__init__" (defArgs i_InvalidStand) (defBody i_InvalidStand) (defScope i_InvalidStand) .none kV_3 dc_3 pm_3 an_3 cd_3 ct_3), sl_3⟩)
    (cI3 : PySem.W.codeIn K cd_3 "InvalidStand.__init__" = true)
    (kI3 : PySem.W.keepIn K (.ref v3) = true)
    (aC4 : PySem.W.nsIn K mainGlobals "InvalidNumber" = some (some (.ref C4)))
    (kC4 : PySem.W.keepIn K (.ref C4) = true)
    (lC4 : K.lookup C4 = some (excClassObj nm4 q4 C4 N4 bs4 bm4 true sn4 sub4 ab4 col4 dd4 ka4 kb4 kc4 kd4 ke4 "ValueError.__new__"))
    (rC4 : PySem.HandSPX.refsVE bm4 = true)
    (sC4 : PySem.W.findIn K (.ref C4) "__setattr__" = some (some (.builtin "object.__setattr__")))
    (xC4 : PySem.W.subIn K (.ref C4) (.type "BaseException") = some true)
    (tC4 : PySem.W.typeIn K (.ref C4) = some (.type "type"))
    (iC4 : PySem.W.findIn K (.ref C4) "__init__" = some (some (.ref v4)))
    (tI4 : PySem.W.typeIn K (.ref v4) = some (.type "function"))
    (lI4 : K.lookup v4 = some ⟨oc_4, od_4, .func (PySem.W.fnOf "__init__" "InvalidNumber.__init__" (defArgs i_InvalidNumber) (defBody i_InvalidNumber) (defScope i_InvalidNumber) .none kV_4 dc_4 pm_4 an_4 cd_4 ct_4), sl_4⟩)
    (cI4 : PySem.W.codeIn K cd_4 "InvalidNumber.__init__" = true)
    (kI4 : PySem.W.keepIn K (.ref v4) = true)
    (aC5 : PySem.W.nsIn K mainGlobals "InvalidPoint" = some (some (.ref C5)))
    (kC5 : PySem.W.keepIn K (.ref C5) = true)
    (lC5 : K.lookup C5 = some (excClassObj nm5 q5 C5 N5 bs5 bm5 true sn5 sub5 ab5 col5 dd5 ka5 kb5 kc5 kd5 ke5 "ValueError.__new__"))
    (rC5 : PySem.HandSPX.refsVE bm5 = true)
    (sC5 : PySem.W.findIn K (.ref C5) "__setattr__" = some (some (.builtin "object.__setattr__")))
    (xC5 : PySem.W.subIn K (.ref C5) (.type "BaseException") = some true)
    (tC5 : PySem.W.typeIn K (.ref C5) = some (.type "type"))
    (iC5 : PySem.W.findIn K (.ref C5) "__init__" = some (some (.ref v5)))
    (tI5 : PySem.W.typeIn K (.ref v5) = some (.type "function"))
    (lI5 : K.lookup v5 = some ⟨oc_5, od_5, .func (PySem.W.fnOf "__init__" "InvalidPoint.__init__" (defArgs i_InvalidPoint) (defBody i_InvalidPoint) (defScope i_InvalidPoint) .none kV_5 dc_5 pm_5 an_5 cd_5 ct_5), sl_5⟩)
    (cI5 : PySem.W.codeIn K cd_5 "InvalidPoint.__init__" = true)
    (kI5 : PySem.W.keepIn K (.ref v5) = true)
    (aC6 : PySem.W.nsIn K mainGlobals "InvalidGreatest" = some (some (.ref C6)))
    (kC6 : PySem.W.keepIn K (.ref C6) = true)
    (lC6 : K.lookup C6 = some (excClassObj nm6 q6 C6 N6 bs6 bm6 true sn6 sub6 ab6 col6 dd6 ka6 kb6 kc6 kd6 ke6 "ValueError.__new__"))
    (rC6 : PySem.HandSPX.refsVE bm6 = true)
    (sC6 : PySem.W.findIn K (.ref C6) "__setattr__" = some (some (.builtin "object.__setattr__")))
    (xC6 : PySem.W.subIn K (.ref C6) (.type "BaseException") = some true)
    (tC6 : PySem.W.typeIn K (.ref C6) = some (.type "type"))
    (iC6 : PySem.W.findIn K (.ref C6) "__init__" = some (some (.ref v6)))
    (tI6 : PySem.W.typeIn K (.ref v6) = some (.type "function"))
    (lI6 : K.lookup v6 = some ⟨oc_6, od_6, .func (PySem.W.fnOf "__init__" "InvalidGreatest.__init__" (defArgs i_InvalidGreatest) (defBody i_InvalidGreatest) (defScope i_InvalidGreatest) .none kV_6 dc_6 pm_6 an_6 cd_6 ct_6), sl_6⟩)
    (cI6 : PySem.W.codeIn K cd_6 "InvalidGreatest.__init__" = true)
    (kI6 : PySem.W.keepIn K (.ref v6) = true)
    (aC7 : PySem.W.nsIn K mainGlobals "InvalidLine" = some (some (.ref C7)))
    (kC7 : PySem.W.keepIn K (.ref C7) = true)
    (lC7 : K.lookup C7 = some (excClassObj nm7 q7 C7 N7 bs7 bm7 true sn7 sub7 ab7 col7 dd7 ka7 kb7 kc7 kd7 ke7 "ValueError.__new__"))
    (rC7 : PySem.HandSPX.refsVE bm7 = true)
    (sC7 : PySem.W.findIn K (.ref C7) "__setattr__" = some (some (.builtin "object.__setattr__")))
    (xC7 : PySem.W.subIn K (.ref C7) (.type "BaseException") = some true)
    (tC7 : PySem.W.typeIn K (.ref C7) = some (.type "type"))
    (iC7 : PySem.W.findIn K (.ref C7) "__init__" = some (some (.ref v7)))
    (tI7 : PySem.W.typeIn K (.ref v7) = some (.type "function"))
    (lI7 : K.lookup v7 = some ⟨oc_7, od_7, .func (PySem.W.fnOf "__init__" "InvalidLine.__init__" (defArgs i_InvalidLine) (defBody i_InvalidLine) (defScope i_InvalidLine) .none kV_7 dc_7 pm_7 an_7 cd_7 ct_7), sl_7⟩)
    (cI7 : PySem.W.codeIn K cd_7 "InvalidLine.__init__" = true)
    (kI7 : PySem.W.keepIn K (.ref v7) = true)
    (aC8 : PySem.W.nsIn K mainGlobals "NotADesk" = some (some (.ref C8)))
    (kC8 : PySem.W.keepIn K (.ref C8) = true)
    (lC8 : K.lookup C8 = some (excClassObj nm8 q8 C8 N8 bs8 bm8 true sn8 sub8 ab8 col8 dd8 ka8 kb8 kc8 kd8 ke8 "ValueError.__new__"))
    (rC8 : PySem.HandSPX.refsVE bm8 = true)
    (sC8 : PySem.W.findIn K (.ref C8) "__setattr__" = some (some (.builtin "object.__setattr__")))
    (xC8 : PySem.W.subIn K (.ref C8) (.type "BaseException") = some true)
    (tC8 : PySem.W.typeIn K (.ref C8) = some (.type "type"))
    (iC8 : PySem.W.findIn K (.ref C8) "__init__" = some (some (.ref v8)))
    (tI8 : PySem.W.typeIn K (.ref v8) = some (.type "function"))
    (lI8 : K.lookup v8 = some ⟨oc_8, od_8, .func (PySem.W.fnOf "__init__" "NotADesk.__init__" (defArgs i_NotADesk) (defBody i_NotADesk) (defScope i_NotADesk) .none kV_8 dc_8 pm_8 an_8 cd_8 ct_8), sl_8⟩)
    (cI8 : PySem.W.codeIn K cd_8 "NotADesk.__init__" = true)
    (kI8 : PySem.W.keepIn K (.ref v8) = true)
    (aC9 : PySem.W.nsIn K mainGlobals "NotNow" = some (some (.ref C9)))
    (kC9 : PySem.W.keepIn K (.ref C9) = true)
    (lC9 : K.lookup C9 = some (excClassObj nm9 q9 C9 N9 bs9 bm9 true sn9 sub9 ab9 col9 dd9 ka9 kb9 kc9 kd9 ke9 "ValueError.__new__"))
    (rC9 : PySem.HandSPX.refsVE bm9 = true)
    (sC9 : PySem.W.findIn K (.ref C9) "__setattr__" = some (some (.builtin "object.__setattr__")))
    (xC9 : PySem.W.subIn K (.ref C9) (.type "BaseException") = some true)
    (tC9 : PySem.W.typeIn K (.ref C9) = some (.type "type"))
    (iC9 : PySem.W.findIn K (.ref C9) "__init__" = some (some (.ref v9)))
    (tI9 : PySem.W.typeIn K (.ref v9) = some (.type "function"))
    (lI9 : K.lookup v9 = some ⟨oc_9, od_9, .func (PySem.W.fnOf "__init__" "NotNow.__init__" (defArgs i_NotNow) (defBody i_NotNow) (defScope i_NotNow) .none kV_9 dc_9 pm_9 an_9 cd_9 ct_9), sl_9⟩)
    (cI9 : PySem.W.codeIn K cd_9 "NotNow.__init__" = true)
    (kI9 : PySem.W.keepIn K (.ref v9) = true)
    (aC10 : PySem.W.nsIn K mainGlobals "InvalidText" = some (some (.ref C10)))
    (kC10 : PySem.W.keepIn K (.ref C10) = true)
    (lC10 : K.lookup C10 = some (excClassObj nm10 q10 C10 N10 bs10 bm10 true sn10 sub10 ab10 col10 dd10 ka10 kb10 kc10 kd10 ke10 "ValueError.__new__"))
    (rC10 : PySem.HandSPX.refsVE bm10 = true)
    (sC10 : PySem.W.findIn K (.ref C10) "__setattr__" = some (some (.builtin "object.__setattr__")))
    (xC10 : PySem.W.subIn K (.ref C10) (.type "BaseException") = some true)
    (tC10 : PySem.W.typeIn K (.ref C10) = some (.type "type"))
    (iC10 : PySem.W.findIn K (.ref C10) "__init__" = some (some (.ref v10)))
    (tI10 : PySem.W.typeIn K (.ref v10) = some (.type "function"))
    (lI10 : K.lookup v10 = some ⟨oc_10, od_10, .func (PySem.W.fnOf "__init__" "InvalidText.__init__" (defArgs i_InvalidText) (defBody i_InvalidText) (defScope i_InvalidText) .none kV_10 dc_10 pm_10 an_10 cd_10 ct_10), sl_10⟩)
    (cI10 : PySem.W.codeIn K cd_10 "InvalidText.__init__" = true)
    (kI10 : PySem.W.keepIn K (.ref v10) = true)
    (aC11 : PySem.W.nsIn K mainGlobals "InvalidPlan" = some (some (.ref C11)))
    (kC11 : PySem.W.keepIn K (.ref C11) = true)
    (lC11 : K.lookup C11 = some (excClassObj nm11 q11 C11 N11 bs11 bm11 true sn11 sub11 ab11 col11 dd11 ka11 kb11 kc11 kd11 ke11 "ValueError.__new__"))
    (rC11 : PySem.HandSPX.refsVE bm11 = true)
    (sC11 : PySem.W.findIn K (.ref C11) "__setattr__" = some (some (.builtin "object.__setattr__")))
    (xC11 : PySem.W.subIn K (.ref C11) (.type "BaseException") = some true)
    (tC11 : PySem.W.typeIn K (.ref C11) = some (.type "type"))
    (iC11 : PySem.W.findIn K (.ref C11) "__init__" = some (some (.ref v11)))
    (tI11 : PySem.W.typeIn K (.ref v11) = some (.type "function"))
    (lI11 : K.lookup v11 = some ⟨oc_11, od_11, .func (PySem.W.fnOf "__init__" "InvalidPlan.__init__" (defArgs i_InvalidPlan) (defBody i_InvalidPlan) (defScope i_InvalidPlan) .none kV_11 dc_11 pm_11 an_11 cd_11 ct_11), sl_11⟩)
    (cI11 : PySem.W.codeIn K cd_11 "InvalidPlan.__init__" = true)
    (kI11 : PySem.W.keepIn K (.ref v11) = true)
    (aC12 : PySem.W.nsIn K mainGlobals "Misfit" = some (some (.ref C12)))
    (kC12 : PySem.W.keepIn K (.ref C12) = true)
    (lC12 : K.lookup C12 = some (excClassObj nm12 q12 C12 N12 bs12 bm12 true sn12 sub12 ab12 col12 dd12 ka12 kb12 kc12 kd12 ke12 "ValueError.__new__"))
    (rC12 : PySem.HandSPX.refsVE bm12 = true)
    (sC12 : PySem.W.findIn K (.ref C12) "__setattr__" = some (some (.builtin "object.__setattr__")))
    (xC12 : PySem.W.subIn K (.ref C12) (.type "BaseException") = some true)
    (tC12 : PySem.W.typeIn K (.ref C12) = some (.type "type"))
    (iC12 : PySem.W.findIn K (.ref C12) "__init__" = some (some (.ref v12)))
    (tI12 : PySem.W.typeIn K (.ref v12) = some (.type "function"))
    (lI12 : K.lookup v12 = some ⟨oc_12, od_12, .func (PySem.W.fnOf "__init__" "Misfit.__init__" (defArgs i_Misfit) (defBody i_Misfit) (defScope i_Misfit) .none kV_12 dc_12 pm_12 an_12 cd_12 ct_12), sl_12⟩)
    (cI12 : PySem.W.codeIn K cd_12 "Misfit.__init__" = true)
    (kI12 : PySem.W.keepIn K (.ref v12) = true)
    (aC13 : PySem.W.nsIn K mainGlobals "InvalidLimits" = some (some (.ref C13)))
    (kC13 : PySem.W.keepIn K (.ref C13) = true)
    (lC13 : K.lookup C13 = some (excClassObj nm13 q13 C13 N13 bs13 bm13 true sn13 sub13 ab13 col13 dd13 ka13 kb13 kc13 kd13 ke13 "ValueError.__new__"))
    (rC13 : PySem.HandSPX.refsVE bm13 = true)
    (sC13 : PySem.W.findIn K (.ref C13) "__setattr__" = some (some (.builtin "object.__setattr__")))
    (xC13 : PySem.W.subIn K (.ref C13) (.type "BaseException") = some true)
    (tC13 : PySem.W.typeIn K (.ref C13) = some (.type "type"))
    (iC13 : PySem.W.findIn K (.ref C13) "__init__" = some (some (.ref v13)))
    (tI13 : PySem.W.typeIn K (.ref v13) = some (.type "function"))
    (lI13 : K.lookup v13 = some ⟨oc_13, od_13, .func (PySem.W.fnOf "__init__" "InvalidLimits.__init__" (defArgs i_InvalidLimits) (defBody i_InvalidLimits) (defScope i_InvalidLimits) .none kV_13 dc_13 pm_13 an_13 cd_13 ct_13), sl_13⟩)
    (cI13 : PySem.W.codeIn K cd_13 "InvalidLimits.__init__" = true)
    (kI13 : PySem.W.keepIn K (.ref v13) = true)
    (aC14 : PySem.W.nsIn K mainGlobals "InvalidWay" = some (some (.ref C14)))
    (kC14 : PySem.W.keepIn K (.ref C14) = true)
    (lC14 : K.lookup C14 = some (excClassObj nm14 q14 C14 N14 bs14 bm14 true sn14 sub14 ab14 col14 dd14 ka14 kb14 kc14 kd14 ke14 "ValueError.__new__"))
    (rC14 : PySem.HandSPX.refsVE bm14 = true)
    (sC14 : PySem.W.findIn K (.ref C14) "__setattr__" = some (some (.builtin "object.__setattr__")))
    (xC14 : PySem.W.subIn K (.ref C14) (.type "BaseException") = some true)
    (tC14 : PySem.W.typeIn K (.ref C14) = some (.type "type"))
    (iC14 : PySem.W.findIn K (.ref C14) "__init__" = some (some (.ref v14)))
    (tI14 : PySem.W.typeIn K (.ref v14) = some (.type "function"))
    (lI14 : K.lookup v14 = some ⟨oc_14, od_14, .func (PySem.W.fnOf "__init__" "InvalidWay.__init__" (defArgs i_InvalidWay) (defBody i_InvalidWay) (defScope i_InvalidWay) .none kV_14 dc_14 pm_14 an_14 cd_14 ct_14), sl_14⟩)
    (cI14 : PySem.W.codeIn K cd_14 "InvalidWay.__init__" = true)
    (kI14 : PySem.W.keepIn K (.ref v14) = true)
    (aC15 : PySem.W.nsIn K mainGlobals "InvalidRun" = some (some (.ref C15)))
    (kC15 : PySem.W.keepIn K (.ref C15) = true)
    (lC15 : K.lookup C15 = some (excClassObj nm15 q15 C15 N15 bs15 bm15 true sn15 sub15 ab15 col15 dd15 ka15 kb15 kc15 kd15 ke15 "ValueError.__new__"))
    (rC15 : PySem.HandSPX.refsVE bm15 = true)
    (sC15 : PySem.W.findIn K (.ref C15) "__setattr__" = some (some (.builtin "object.__setattr__")))
    (xC15 : PySem.W.subIn K (.ref C15) (.type "BaseException") = some true)
    (tC15 : PySem.W.typeIn K (.ref C15) = some (.type "type"))
    (iC15 : PySem.W.findIn K (.ref C15) "__init__" = some (some (.ref v15)))
    (tI15 : PySem.W.typeIn K (.ref v15) = some (.type "function"))
    (lI15 : K.lookup v15 = some ⟨oc_15, od_15, .func (PySem.W.fnOf "__init__" "InvalidRun.__init__" (defArgs i_InvalidRun) (defBody i_InvalidRun) (defScope i_InvalidRun) .none kV_15 dc_15 pm_15 an_15 cd_15 ct_15), sl_15⟩)
    (cI15 : PySem.W.codeIn K cd_15 "InvalidRun.__init__" = true)
    (kI15 : PySem.W.keepIn K (.ref v15) = true)
    (aC16 : PySem.W.nsIn K mainGlobals "InvalidWord" = some (some (.ref C16)))
    (kC16 : PySem.W.keepIn K (.ref C16) = true)
    (lC16 : K.lookup C16 = some (excClassObj nm16 q16 C16 N16 bs16 bm16 true sn16 sub16 ab16 col16 dd16 ka16 kb16 kc16 kd16 ke16 "ValueError.__new__"))
    (rC16 : PySem.HandSPX.refsVE bm16 = true)
    (sC16 : PySem.W.findIn K (.ref C16) "__setattr__" = some (some (.builtin "object.__setattr__")))
    (xC16 : PySem.W.subIn K (.ref C16) (.type "BaseException") = some true)
    (tC16 : PySem.W.typeIn K (.ref C16) = some (.type "type"))
    (iC16 : PySem.W.findIn K (.ref C16) "__init__" = some (some (.ref v16)))
    (tI16 : PySem.W.typeIn K (.ref v16) = some (.type "function"))
    (lI16 : K.lookup v16 = some ⟨oc_16, od_16, .func (PySem.W.fnOf "__init__" "InvalidWord.__init__" (defArgs i_InvalidWord) (defBody i_InvalidWord) (defScope i_InvalidWord) .none kV_16 dc_16 pm_16 an_16 cd_16 ct_16), sl_16⟩)
    (cI16 : PySem.W.codeIn K cd_16 "InvalidWord.__init__" = true)
    (kI16 : PySem.W.keepIn K (.ref v16) = true)
    (aC17 : PySem.W.nsIn K mainGlobals "InvalidPapers" = some (some (.ref C17)))
    (kC17 : PySem.W.keepIn K (.ref C17) = true)
    (lC17 : K.lookup C17 = some (excClassObj nm17 q17 C17 N17 bs17 bm17 true sn17 sub17 ab17 col17 dd17 ka17 kb17 kc17 kd17 ke17 "ValueError.__new__"))
    (rC17 : PySem.HandSPX.refsVE bm17 = true)
    (sC17 : PySem.W.findIn K (.ref C17) "__setattr__" = some (some (.builtin "object.__setattr__")))
    (xC17 : PySem.W.subIn K (.ref C17) (.type "BaseException") = some true)
    (tC17 : PySem.W.typeIn K (.ref C17) = some (.type "type"))
    (iC17 : PySem.W.findIn K (.ref C17) "__init__" = some (some (.ref v17)))
    (tI17 : PySem.W.typeIn K (.ref v17) = some (.type "function"))
    (lI17 : K.lookup v17 = some ⟨oc_17, od_17, .func (PySem.W.fnOf "__init__" "InvalidPapers.__init__" (defArgs i_InvalidPapers) (defBody i_InvalidPapers) (defScope i_InvalidPapers) .none kV_17 dc_17 pm_17 an_17 cd_17 ct_17), sl_17⟩)
    (cI17 : PySem.W.codeIn K cd_17 "InvalidPapers.__init__" = true)
    (kI17 : PySem.W.keepIn K (.ref v17) = true)
    (aC18 : PySem.W.nsIn K mainGlobals "Broken" = some (some (.ref C18)))
    (kC18 : PySem.W.keepIn K (.ref C18) = true)
    (lC18 : K.lookup C18 = some (excClassObj nm18 q18 C18 N18 bs18 bm18 true sn18 sub18 ab18 col18 dd18 ka18 kb18 kc18 kd18 ke18 "ValueError.__new__"))
    (rC18 : PySem.HandSPX.refsVE bm18 = true)
    (sC18 : PySem.W.findIn K (.ref C18) "__setattr__" = some (some (.builtin "object.__setattr__")))
    (xC18 : PySem.W.subIn K (.ref C18) (.type "BaseException") = some true)
    (tC18 : PySem.W.typeIn K (.ref C18) = some (.type "type"))
    (iC18 : PySem.W.findIn K (.ref C18) "__init__" = some (some (.ref v18)))
    (tI18 : PySem.W.typeIn K (.ref v18) = some (.type "function"))
    (lI18 : K.lookup v18 = some ⟨oc_18, od_18, .func (PySem.W.fnOf "__init__" "Broken.__init__" (defArgs i_Broken) (defBody i_Broken) (defScope i_Broken) .none kV_18 dc_18 pm_18 an_18 cd_18 ct_18), sl_18⟩)
    (cI18 : PySem.W.codeIn K cd_18 "Broken.__init__" = true)
    (kI18 : PySem.W.keepIn K (.ref v18) = true)
    (aC19 : PySem.W.nsIn K mainGlobals "TooMany" = some (some (.ref C19)))
    (kC19 : PySem.W.keepIn K (.ref C19) = true)
    (eC19 : PySem.W.excIn K C19 PySem.HandSPX.veTail "ValueError.__new__" = true)
    (aC20 : PySem.W.nsIn K mainGlobals "NothingToUndo" = some (some (.ref C20)))
    (kC20 : PySem.W.keepIn K (.ref C20) = true)
    (eC20 : PySem.W.excIn K C20 PySem.HandSPX.veTail "ValueError.__new__" = true)
    (z_len : PySem.W.nsIn K mainGlobals "len" = some none)
    (z_all : PySem.W.nsIn K mainGlobals "all" = some none)
    (z_abs : PySem.W.nsIn K mainGlobals "abs" = some none)
    (z_max : PySem.W.nsIn K mainGlobals "max" = some none)
    (z_min : PySem.W.nsIn K mainGlobals "min" = some none)
    (z_isinstance : PySem.W.nsIn K mainGlobals "isinstance" = some none)
    (z_int : PySem.W.nsIn K mainGlobals "int" = some none)
    (z_tuple : PySem.W.nsIn K mainGlobals "tuple" = some none)
    (z_list : PySem.W.nsIn K mainGlobals "list" = some none)
    (z_bool : PySem.W.nsIn K mainGlobals "bool" = some none)
    (z_str : PySem.W.nsIn K mainGlobals "str" = some none)
    (z_dict : PySem.W.nsIn K mainGlobals "dict" = some none)
    (z_range : PySem.W.nsIn K mainGlobals "range" = some none)
    (z_enumerate : PySem.W.nsIn K mainGlobals "enumerate" = some none)
    (z_ValueError : PySem.W.nsIn K mainGlobals "ValueError" = some none)
    (hall : allB K [C0, C1, C2, C3, C4, C5, C6, C7, C8, C9, C10, C11, C12, C13, C14, C15, C16, C17, C18, C19, C20] = true) :
    ∃ fd : FuncData, (∀ (s : Shared) (v : Value), BindsTo s fd ⟨[v], []⟩ [("script", v)]) ∧ ∀ base : Heap, K.In base → base.Ns mainGlobals mg → FnOk l.prog w K mg base CX0 7 fa fd ["script"] (VM.spLaw K) := by
  have e := hfa.symm.trans (PySem.W.mg_of X G alaw)
  cases e
  have T : ∀ base : Heap, Txt l.prog w K mg base (fun i => [0, 0, 0, 0, 0, 0, 0, 0, 0, 0, 0, 0, 0, 0, 0, 0, 0, 0, 0, 0, 0, 0, 0, uqpool, uqtake, uqalike, uqone, uqheld, uqplaced, uqmade, uqkinds_of, uqright, fa].getD i 0) (fun i => [default, default, default, default, default, default, default, default, default, default, default, default, default, default, default, default, default, default, default, default, default, default, default, (PySem.W.fnOf "_law_pool" "_law_pool" (defArgs s__law_pool) (defBody s__law_pool) (defScope s__law_pool) .none kVqpool dcqpool pmqpool anqpool cdqpool ctqpool), (PySem.W.fnOf "_law_take" "_law_take" (defArgs s__law_take) (defBody s__law_take) (defScope s__law_take) .none kVqtake dcqtake pmqtake anqtake cdqtake ctqtake), (PySem.W.fnOf "_law_alike" "_law_alike" (defArgs s__law_alike) (defBody s__law_alike) (defScope s__law_alike) .none kVqalike dcqalike pmqalike anqalike cdqalike ctqalike), (PySem.W.fnOf "_law_one" "_law_one" (defArgs s__law_one) (defBody s__law_one) (defScope s__law_one) .none kVqone dcqone pmqone anqone cdqone ctqone), (PySem.W.fnOf "_law_held" "_law_held" (defArgs s__law_held) (defBody s__law_held) (defScope s__law_held) .none kVqheld dcqheld pmqheld anqheld cdqheld ctqheld), (PySem.W.fnOf "_law_placed" "_law_placed" (defArgs s__law_placed) (defBody s__law_placed) (defScope s__law_placed) .none kVqplaced dcqplaced pmqplaced anqplaced cdqplaced ctqplaced), (PySem.W.fnOf "_law_made" "_law_made" (defArgs s__law_made) (defBody s__law_made) (defScope s__law_made) .none kVqmade dcqmade pmqmade anqmade cdqmade ctqmade), (PySem.W.fnOf "_law_kinds_of" "_law_kinds_of" (defArgs s__law_kinds_of) (defBody s__law_kinds_of) (defScope s__law_kinds_of) .none kVqkinds_of dcqkinds_of pmqkinds_of anqkinds_of cdqkinds_of ctqkinds_of), (PySem.W.fnOf "_law_right" "_law_right" (defArgs s__law_right) (defBody s__law_right) (defScope s__law_right) .none kVqright dcqright pmqright anqright cdqright ctqright), (PySem.W.fnOf "law" "law" (defArgs s_law) (defBody s_law) (defScope s_law) .none kVlaw dclaw pmlaw anlaw cdlaw ctlaw)].getD i default) (fun i => [C0, C1, C2, C3, C4, C5, C6, C7, C8, C9, C10, C11, C12, C13, C14, C15, C16, C17, C18, C19, C20].getD i 0) (fun i => [0, v1, v2, v3, v4, v5, v6, v7, v8, v9, v10, v11, v12, v13, v14, v15, v16, v17, v18, 0, 0].getD i 0) (fun i => [default, (PySem.W.fnOf "__init__" "InvalidPlaces.__init__" (defArgs i_InvalidPlaces) (defBody i_InvalidPlaces) (defScope i_InvalidPlaces) .none kV_1 dc_1 pm_1 an_1 cd_1 ct_1), (PySem.W.fnOf "__init__" "InvalidZone.__init__" (defArgs i_InvalidZone) (defBody i_InvalidZone) (defScope i_InvalidZone) .none kV_2 dc_2 pm_2 an_2 cd_2 ct_2), (PySem.W.fnOf "__init__" "InvalidStand.__init__" (defArgs i_InvalidStand) (defBody i_InvalidStand) (defScope i_InvalidStand) .none kV_3 dc_3 pm_3 an_3 cd_3 ct_3), (PySem.W.fnOf "__init__" "InvalidNumber.__init__" (defArgs i_InvalidNumber) (defBody i_InvalidNumber) (defScope i_InvalidNumber) .none kV_4 dc_4 pm_4 an_4 cd_4 ct_4), (PySem.W.fnOf "__init__" "InvalidPoint.__init__" (defArgs i_InvalidPoint) (defBody i_InvalidPoint) (defScope i_InvalidPoint) .none kV_5 dc_5 pm_5 an_5 cd_5 ct_5), (PySem.W.fnOf "__init__" "InvalidGreatest.__init__" (defArgs i_InvalidGreatest) (defBody i_InvalidGreatest) (defScope i_InvalidGreatest) .none kV_6 dc_6 pm_6 an_6 cd_6 ct_6), (PySem.W.fnOf "__init__" "InvalidLine.__init__" (defArgs i_InvalidLine) (defBody i_InvalidLine) (defScope i_InvalidLine) .none kV_7 dc_7 pm_7 an_7 cd_7 ct_7), (PySem.W.fnOf "__init__" "NotADesk.__init__" (defArgs i_NotADesk) (defBody i_NotADesk) (defScope i_NotADesk) .none kV_8 dc_8 pm_8 an_8 cd_8 ct_8), (PySem.W.fnOf "__init__" "NotNow.__init__" (defArgs i_NotNow) (defBody i_NotNow) (defScope i_NotNow) .none kV_9 dc_9 pm_9 an_9 cd_9 ct_9), (PySem.W.fnOf "__init__" "InvalidText.__init__" (defArgs i_InvalidText) (defBody i_InvalidText) (defScope i_InvalidText) .none kV_10 dc_10 pm_10 an_10 cd_10 ct_10), (PySem.W.fnOf "__init__" "InvalidPlan.__init__" (defArgs i_InvalidPlan) (defBody i_InvalidPlan) (defScope i_InvalidPlan) .none kV_11 dc_11 pm_11 an_11 cd_11 ct_11), (PySem.W.fnOf "__init__" "Misfit.__init__" (defArgs i_Misfit) (defBody i_Misfit) (defScope i_Misfit) .none kV_12 dc_12 pm_12 an_12 cd_12 ct_12), (PySem.W.fnOf "__init__" "InvalidLimits.__init__" (defArgs i_InvalidLimits) (defBody i_InvalidLimits) (defScope i_InvalidLimits) .none kV_13 dc_13 pm_13 an_13 cd_13 ct_13), (PySem.W.fnOf "__init__" "InvalidWay.__init__" (defArgs i_InvalidWay) (defBody i_InvalidWay) (defScope i_InvalidWay) .none kV_14 dc_14 pm_14 an_14 cd_14 ct_14), (PySem.W.fnOf "__init__" "InvalidRun.__init__" (defArgs i_InvalidRun) (defBody i_InvalidRun) (defScope i_InvalidRun) .none kV_15 dc_15 pm_15 an_15 cd_15 ct_15), (PySem.W.fnOf "__init__" "InvalidWord.__init__" (defArgs i_InvalidWord) (defBody i_InvalidWord) (defScope i_InvalidWord) .none kV_16 dc_16 pm_16 an_16 cd_16 ct_16), (PySem.W.fnOf "__init__" "InvalidPapers.__init__" (defArgs i_InvalidPapers) (defBody i_InvalidPapers) (defScope i_InvalidPapers) .none kV_17 dc_17 pm_17 an_17 cd_17 ct_17), (PySem.W.fnOf "__init__" "Broken.__init__" (defArgs i_Broken) (defBody i_Broken) (defScope i_Broken) .none kV_18 dc_18 pm_18 an_18 cd_18 ct_18), default, default].getD i default) := fun base => {
    F__law_pool := fun_mk (st := s__law_pool) lqpool cqpool kqpool
    g__law_pool := PySem.W.mg_of X G aqpool
    F__law_take := fun_mk (st := s__law_take) lqtake cqtake kqtake
    g__law_take := PySem.W.mg_of X G aqtake
    F__law_alike := fun_mk (st := s__law_alike) lqalike cqalike kqalike
    g__law_alike := PySem.W.mg_of X G aqalike
    F__law_one := fun_mk (st := s__law_one) lqone cqone kqone
    g__law_one := PySem.W.mg_of X G aqone
    F__law_held := fun_mk (st := s__law_held) lqheld cqheld kqheld
    g__law_held := PySem.W.mg_of X G aqheld
    F__law_placed := fun_mk (st := s__law_placed) lqplaced cqplaced kqplaced
    g__law_placed := PySem.W.mg_of X G aqplaced
    F__law_made := fun_mk (st := s__law_made) lqmade cqmade kqmade
    g__law_made := PySem.W.mg_of X G aqmade
    F__law_kinds_of := fun_mk (st := s__law_kinds_of) lqkinds_of cqkinds_of kqkinds_of
    g__law_kinds_of := PySem.W.mg_of X G aqkinds_of
    F__law_right := fun_mk (st := s__law_right) lqright cqright kqright
    g__law_right := PySem.W.mg_of X G aqright
    F_law := fun_mk (st := s_law) llaw claw klaw
    g_law := PySem.W.mg_of X G alaw
    b_len := PySem.W.mg_none_of X G z_len
    b_all := PySem.W.mg_none_of X G z_all
    b_abs := PySem.W.mg_none_of X G z_abs
    b_max := PySem.W.mg_none_of X G z_max
    b_min := PySem.W.mg_none_of X G z_min
    b_isinstance := PySem.W.mg_none_of X G z_isinstance
    b_int := PySem.W.mg_none_of X G z_int
    b_tuple := PySem.W.mg_none_of X G z_tuple
    b_list := PySem.W.mg_none_of X G z_list
    b_bool := PySem.W.mg_none_of X G z_bool
    b_str := PySem.W.mg_none_of X G z_str
    b_dict := PySem.W.mg_none_of X G z_dict
    b_range := PySem.W.mg_none_of X G z_range
    b_enumerate := PySem.W.mg_none_of X G z_enumerate
    b_ValueError := PySem.W.mg_none_of X G z_ValueError
    g_RoomError := PySem.W.mg_of X G aC0
    e_RoomError := eC0
    k_RoomError := kC0
    g_InvalidPlaces := PySem.W.mg_of X G aC1
    O_InvalidPlaces := ⟨⟨_, _, _, _, _, _, _, _, _, _, _, _, _, _, _, lC1, rC1⟩, sC1, xC1, tC1, kC1⟩
    iC_InvalidPlaces := iC1
    tI_InvalidPlaces := tI1
    Fi_InvalidPlaces := fun_mk (st := i_InvalidPlaces) lI1 cI1 kI1
    g_InvalidZone := PySem.W.mg_of X G aC2
    O_InvalidZone := ⟨⟨_, _, _, _, _, _, _, _, _, _, _, _, _, _, _, lC2, rC2⟩, sC2, xC2, tC2, kC2⟩
    iC_InvalidZone := iC2
    tI_InvalidZone := tI2
    Fi_InvalidZone := fun_mk (st := i_InvalidZone) lI2 cI2 kI2
    g_InvalidStand := PySem.W.mg_of X G aC3
    O_InvalidStand := ⟨⟨_, _, _, _, _, _, _, _, _, _, _, _, _, _, _, lC3, rC3⟩, sC3, xC3, tC3, kC3⟩
    iC_InvalidStand := iC3
    tI_InvalidStand := tI3
    Fi_InvalidStand := fun_mk (st := i_InvalidStand) lI3 cI3 kI3
    g_InvalidNumber := PySem.W.mg_of X G aC4
    O_InvalidNumber := ⟨⟨_, _, _, _, _, _, _, _, _, _, _, _, _, _, _, lC4, rC4⟩, sC4, xC4, tC4, kC4⟩
    iC_InvalidNumber := iC4
    tI_InvalidNumber := tI4
    Fi_InvalidNumber := fun_mk (st := i_InvalidNumber) lI4 cI4 kI4
    g_InvalidPoint := PySem.W.mg_of X G aC5
    O_InvalidPoint := ⟨⟨_, _, _, _, _, _, _, _, _, _, _, _, _, _, _, lC5, rC5⟩, sC5, xC5, tC5, kC5⟩
    iC_InvalidPoint := iC5
    tI_InvalidPoint := tI5
    Fi_InvalidPoint := fun_mk (st := i_InvalidPoint) lI5 cI5 kI5
    g_InvalidGreatest := PySem.W.mg_of X G aC6
    O_InvalidGreatest := ⟨⟨_, _, _, _, _, _, _, _, _, _, _, _, _, _, _, lC6, rC6⟩, sC6, xC6, tC6, kC6⟩
    iC_InvalidGreatest := iC6
    tI_InvalidGreatest := tI6
    Fi_InvalidGreatest := fun_mk (st := i_InvalidGreatest) lI6 cI6 kI6
    g_InvalidLine := PySem.W.mg_of X G aC7
    O_InvalidLine := ⟨⟨_, _, _, _, _, _, _, _, _, _, _, _, _, _, _, lC7, rC7⟩, sC7, xC7, tC7, kC7⟩
    iC_InvalidLine := iC7
    tI_InvalidLine := tI7
    Fi_InvalidLine := fun_mk (st := i_InvalidLine) lI7 cI7 kI7
    g_NotADesk := PySem.W.mg_of X G aC8
    O_NotADesk := ⟨⟨_, _, _, _, _, _, _, _, _, _, _, _, _, _, _, lC8, rC8⟩, sC8, xC8, tC8, kC8⟩
    iC_NotADesk := iC8
    tI_NotADesk := tI8
    Fi_NotADesk := fun_mk (st := i_NotADesk) lI8 cI8 kI8
    g_NotNow := PySem.W.mg_of X G aC9
    O_NotNow := ⟨⟨_, _, _, _, _, _, _, _, _, _, _, _, _, _, _, lC9, rC9⟩, sC9, xC9, tC9, kC9⟩
    iC_NotNow := iC9
    tI_NotNow := tI9
    Fi_NotNow := fun_mk (st := i_NotNow) lI9 cI9 kI9
    g_InvalidText := PySem.W.mg_of X G aC10
    O_InvalidText := ⟨⟨_, _, _, _, _, _, _, _, _, _, _, _, _, _, _, lC10, rC10⟩, sC10, xC10, tC10, kC10⟩
    iC_InvalidText := iC10
    tI_InvalidText := tI10
    Fi_InvalidText := fun_mk (st := i_InvalidText) lI10 cI10 kI10
    g_InvalidPlan := PySem.W.mg_of X G aC11
    O_InvalidPlan := ⟨⟨_, _, _, _, _, _, _, _, _, _, _, _, _, _, _, lC11, rC11⟩, sC11, xC11, tC11, kC11⟩
    iC_InvalidPlan := iC11
    tI_InvalidPlan := tI11
    Fi_InvalidPlan := fun_mk (st := i_InvalidPlan) lI11 cI11 kI11
    g_Misfit := PySem.W.mg_of X G aC12
    O_Misfit := ⟨⟨_, _, _, _, _, _, _, _, _, _, _, _, _, _, _, lC12, rC12⟩, sC12, xC12, tC12, kC12⟩
    iC_Misfit := iC12
    tI_Misfit := tI12
    Fi_Misfit := fun_mk (st := i_Misfit) lI12 cI12 kI12
    g_InvalidLimits := PySem.W.mg_of X G aC13
    O_InvalidLimits := ⟨⟨_, _, _, _, _, _, _, _, _, _, _, _, _, _, _, lC13, rC13⟩, sC13, xC13, tC13, kC13⟩
    iC_InvalidLimits := iC13
    tI_InvalidLimits := tI13
    Fi_InvalidLimits := fun_mk (st := i_InvalidLimits) lI13 cI13 kI13
    g_InvalidWay := PySem.W.mg_of X G aC14
    O_InvalidWay := ⟨⟨_, _, _, _, _, _, _, _, _, _, _, _, _, _, _, lC14, rC14⟩, sC14, xC14, tC14, kC14⟩
    iC_InvalidWay := iC14
    tI_InvalidWay := tI14
    Fi_InvalidWay := fun_mk (st := i_InvalidWay) lI14 cI14 kI14
    g_InvalidRun := PySem.W.mg_of X G aC15
    O_InvalidRun := ⟨⟨_, _, _, _, _, _, _, _, _, _, _, _, _, _, _, lC15, rC15⟩, sC15, xC15, tC15, kC15⟩
    iC_InvalidRun := iC15
    tI_InvalidRun := tI15
    Fi_InvalidRun := fun_mk (st := i_InvalidRun) lI15 cI15 kI15
    g_InvalidWord := PySem.W.mg_of X G aC16
    O_InvalidWord := ⟨⟨_, _, _, _, _, _, _, _, _, _, _, _, _, _, _, lC16, rC16⟩, sC16, xC16, tC16, kC16⟩
    iC_InvalidWord := iC16
    tI_InvalidWord := tI16
    Fi_InvalidWord := fun_mk (st := i_InvalidWord) lI16 cI16 kI16
    g_InvalidPapers := PySem.W.mg_of X G aC17
    O_InvalidPapers := ⟨⟨_, _, _, _, _, _, _, _, _, _, _, _, _, _, _, lC17, rC17⟩, sC17, xC17, tC17, kC17⟩
    iC_InvalidPapers := iC17
    tI_InvalidPapers := tI17
    Fi_InvalidPapers := fun_mk (st := i_InvalidPapers) lI17 cI17 kI17
    g_Broken := PySem.W.mg_of X G aC18
    O_Broken := ⟨⟨_, _, _, _, _, _, _, _, _, _, _, _, _, _, _, lC18, rC18⟩, sC18, xC18, tC18, kC18⟩
    iC_Broken := iC18
    tI_Broken := tI18
    Fi_Broken := fun_mk (st := i_Broken) lI18 cI18 kI18
    g_TooMany := PySem.W.mg_of X G aC19
    e_TooMany := eC19
    k_TooMany := kC19
    g_NothingToUndo := PySem.W.mg_of X G aC20
    e_NothingToUndo := eC20
    k_NothingToUndo := kC20
    x_given := fun i h1 h2 => (allB_at hall (show i < 21 by omega)).2.2.2.1 h1 h2
    x_index := fun i h1 h2 => (allB_at hall (show i < 21 by omega)).2.2.2.2 h1 h2
    x_all := fun i hi => ⟨(allB_at hall hi).1, (allB_at hall hi).2.1, (allB_at hall hi).2.2.1⟩ }
  exact ⟨_, fun s v => .of_eq rfl, fun base _ _ => law_of (ok_law (T base)) hL⟩
theorem walk {l : PySem.W.OpenLaw} {q : Program} {loose : List Str} {XP : (Str → Option Value) → Heap → Prop} {YP : World → Heap → Prop} {d : DefRec} {K : Params → PySem.W.Frag} (hn : l.most = some 63) (hdf : d.params.defaults = [])
    (hY : ∀ (w : World) (h : Heap), YP w h → (K w.params).In h)
    (F : ∀ (w : World) (mg : Str → Option Value) (fa : Addr) (h : Heap), (K w.params).In h → h.Ns mainGlobals mg → mg d.name = some (.ref fa) →
      ∃ fd : FuncData, (∀ (s : Shared) (u : Value), BindsTo s fd ⟨[u], []⟩ [("script", u)]) ∧ ∀ base : Heap, (K w.params).In base → base.Ns mainGlobals mg → FnOk l.prog w (K w.params) mg base CX0 7 fa fd ["script"] (VM.spLaw (K w.params))) :
    PySem.W.WalkO q loose XP YP l.row.toRowW d [] (fun f vs => PySem.call f vs) :=
  L2.walk_of (n := 63) (k := 7) (x := "script") (CX := fun _ => CX0) (sp := fun w => VM.spLaw (K w.params)) hn (by decide) hdf ⟨rfl, by decide, by decide⟩ hY F (fun w H a ns hl hO hS => ⟨a, ns, rfl, VM.fz_of hO hS, hl, fun _ => rfl⟩) fun _ _ _ _ _ z => z
end X0
namespace X0
open PySem VM
theorem pool_ok {ns : List Int} {k : Nat} {M : Mem} (hM : clM M.length M = true) : ∃ a b : Int, G__law_pool [.fl (ns.map Va.int), .int k] M = some (.ref M.length, M ++ [.lst [.int a, .int b]]) := by
  have key : ∃ a b : Int, rawG 2 5 B__law_pool [.fl (ns.map Va.int), .int k] M = some (.ref M.length, M ++ [.lst [.int a, .int b]]) := by
    by_cases h : k < ns.length
    · have e : ns[k]? = some ns[k] := by simp [h]
      have h' : ((k : Int) < (ns.length : Int)) := by omega
      simp -implicitDefEqProofs only [B__law_pool, s_c, s_var, s_nil, s_cons, s_tup, s_lst, s_trk, s_op, s_lop, s_op1, s_un, s_unM, s_tB, s_asB, s_and, s_or, s_not, s_if, s_chain, s_tand, s_tor, s_tnot, s_tyes, s_cb, s_lcb, s_of, s_call, s_add, s_sub, s_pow, s_lt, s_le, s_gt, s_ge, s_neg, s_ixT, s_ixL, s_ixt, s_ixr, s_ixf, s_atR, s_atF, s_ix0, s_ix1, s_ix2, s_ix3, s_lenT, s_lenR, s_lenF, s_int, s_intB, s_abs, s_max, s_min, s_tupG, s_seqT, s_seqR, s_seqF, s_cat, s_eqII, s_neII, s_eqBB, s_neBB, s_isN0, s_isNb, s_isNi, s_isNs, s_isNt, s_isNr, s_gN, s_gsNil, s_gsCons, s_gT, s_gSb, s_putM, s_asg, s_ret, s_retN, s_nx, s_drop, s_thnN, s_thnR, s_seq, s_ifS, s_par, s_for, s_forN, s_forC, s_gok, s_while, s_iT, s_iL, s_iNL, s_iR1, s_iR2, s_iEn, s_iZT, s_lc, s_lcN, s_lcC, s_raw, s_outN, s_outR, s_mulL, s_mulR, s_modP, s_divP, k_NoneType_bool, k_NoneType_int, k_NoneType_str, k_NoneType_dict, k_NoneType_tuple, k_NoneType_list, k_bool_bool, k_bool_int, k_bool_str, k_bool_dict, k_bool_tuple, k_bool_list, k_int_bool, k_int_int, k_int_str, k_int_dict, k_int_tuple, k_int_list, k_str_bool, k_str_int, k_str_str, k_str_dict, k_str_tuple, k_str_list, k_tuple_bool, k_tuple_int, k_tuple_str, k_tuple_dict, k_tuple_tuple, k_tuple_list, k_list_bool, k_list_int, k_list_str, k_list_dict, k_list_tuple, k_list_list, k_dict_bool, k_dict_int, k_dict_str, k_dict_dict, k_dict_tuple, k_dict_list, s_isG, s_isG2, s_tyN, s_tyB, s_tyI, s_tyS, s_tyT, s_tyF, s_tyR, s_lenD, s_emp, s_isX, s_gf, s_mkX, s_mk0, s_resR, s_gok1, s_gdR, s_gdF, s_enN, s_enC, s_bsN, s_bsC, s_anyL, s_allL, s_rng0, s_rng1, s_rng2, s_rng3, s_rng4, s_cast, s_cast0, s_cast1, s_toNat0, s_toNat1, s_toNat2, startR, List.length_cons, List.length_nil, List.map_cons, List.map_nil, List.replicate, List.cons_append, List.nil_append, bnd_some, bnd_none, List.length_map, List.getElem?_cons_zero, List.getElem?_cons_succ, List.getElem?_nil, List.set_cons_zero, List.set_cons_succ, if_true, if_false, Int.reducePow, Int.reduceNeg, Int.reduceLT, Int.reduceLE, Int.reduceAdd, Int.reduceMul, Int.reduceSub, Nat.reduceLT, Nat.reduceLeDiff, Nat.reduceEqDiff, Int.reduceEq, and_self, and_true, true_and, Int.cast_ofNat_Int, Int.reduceToNat, Nat.sub_self, get_at, get_at0, List.length_append, List.append_assoc, Bool.or_false, Bool.false_or, Bool.or_true, Bool.true_or, Bool.and_true, Bool.true_and, Bool.not_true, Bool.not_false, beq_self_eq_true, List.all_cons, List.all_nil, List.any_cons, List.any_nil, id, Nat.reduceAdd, Bool.false_eq_true, decide_eq_true_eq, wipeR, if_pos h', atI_nat, List.getElem?_map, e, Option.map_some]
      generalize (if ns[k] < 0 then -ns[k] else ns[k]) = sz
      by_cases h2 : 1000000000000000000 ≤ sz
      · simp -implicitDefEqProofs only [s_c, s_var, s_nil, s_cons, s_tup, s_lst, s_trk, s_op, s_lop, s_op1, s_un, s_unM, s_tB, s_asB, s_and, s_or, s_not, s_if, s_chain, s_tand, s_tor, s_tnot, s_tyes, s_cb, s_lcb, s_of, s_call, s_add, s_sub, s_pow, s_lt, s_le, s_gt, s_ge, s_neg, s_ixT, s_ixL, s_ixt, s_ixr, s_ixf, s_atR, s_atF, s_ix0, s_ix1, s_ix2, s_ix3, s_lenT, s_lenR, s_lenF, s_int, s_intB, s_abs, s_max, s_min, s_tupG, s_seqT, s_seqR, s_seqF, s_cat, s_eqII, s_neII, s_eqBB, s_neBB, s_isN0, s_isNb, s_isNi, s_isNs, s_isNt, s_isNr, s_gN, s_gsNil, s_gsCons, s_gT, s_gSb, s_putM, s_asg, s_ret, s_retN, s_nx, s_drop, s_thnN, s_thnR, s_seq, s_ifS, s_par, s_for, s_forN, s_forC, s_gok, s_while, s_iT, s_iL, s_iNL, s_iR1, s_iR2, s_iEn, s_iZT, s_lc, s_lcN, s_lcC, s_raw, s_outN, s_outR, s_mulL, s_mulR, s_modP, s_divP, k_NoneType_bool, k_NoneType_int, k_NoneType_str, k_NoneType_dict, k_NoneType_tuple, k_NoneType_list, k_bool_bool, k_bool_int, k_bool_str, k_bool_dict, k_bool_tuple, k_bool_list, k_int_bool, k_int_int, k_int_str, k_int_dict, k_int_tuple, k_int_list, k_str_bool, k_str_int, k_str_str, k_str_dict, k_str_tuple, k_str_list, k_tuple_bool, k_tuple_int, k_tuple_str, k_tuple_dict, k_tuple_tuple, k_tuple_list, k_list_bool, k_list_int, k_list_str, k_list_dict, k_list_tuple, k_list_list, k_dict_bool, k_dict_int, k_dict_str, k_dict_dict, k_dict_tuple, k_dict_list, s_isG, s_isG2, s_tyN, s_tyB, s_tyI, s_tyS, s_tyT, s_tyF, s_tyR, s_lenD, s_emp, s_isX, s_gf, s_mkX, s_mk0, s_resR, s_gok1, s_gdR, s_gdF, s_enN, s_enC, s_bsN, s_bsC, s_anyL, s_allL, s_rng0, s_rng1, s_rng2, s_rng3, s_rng4, s_cast, s_cast0, s_cast1, s_toNat0, s_toNat1, s_toNat2, startR, List.length_cons, List.length_nil, List.map_cons, List.map_nil, List.replicate, List.cons_append, List.nil_append, bnd_some, bnd_none, List.length_map, List.getElem?_cons_zero, List.getElem?_cons_succ, List.getElem?_nil, List.set_cons_zero, List.set_cons_succ, if_true, if_false, Int.reducePow, Int.reduceNeg, Int.reduceLT, Int.reduceLE, Int.reduceAdd, Int.reduceMul, Int.reduceSub, Nat.reduceLT, Nat.reduceLeDiff, Nat.reduceEqDiff, Int.reduceEq, and_self, and_true, true_and, Int.cast_ofNat_Int, Int.reduceToNat, Nat.sub_self, get_at, get_at0, List.length_append, List.append_assoc, Bool.or_false, Bool.false_or, Bool.or_true, Bool.true_or, Bool.and_true, Bool.true_and, Bool.not_true, Bool.not_false, beq_self_eq_true, List.all_cons, List.all_nil, List.any_cons, List.any_nil, id, Nat.reduceAdd, Bool.false_eq_true, decide_eq_true_eq, wipeR, if_pos h2]
        exact ⟨_, _, rfl⟩
      · simp -implicitDefEqProofs only [s_c, s_var, s_nil, s_cons, s_tup, s_lst, s_trk, s_op, s_lop, s_op1, s_un, s_unM, s_tB, s_asB, s_and, s_or, s_not, s_if, s_chain, s_tand, s_tor, s_tnot, s_tyes, s_cb, s_lcb, s_of, s_call, s_add, s_sub, s_pow, s_lt, s_le, s_gt, s_ge, s_neg, s_ixT, s_ixL, s_ixt, s_ixr, s_ixf, s_atR, s_atF, s_ix0, s_ix1, s_ix2, s_ix3, s_lenT, s_lenR, s_lenF, s_int, s_intB, s_abs, s_max, s_min, s_tupG, s_seqT, s_seqR, s_seqF, s_cat, s_eqII, s_neII, s_eqBB, s_neBB, s_isN0, s_isNb, s_isNi, s_isNs, s_isNt, s_isNr, s_gN, s_gsNil, s_gsCons, s_gT, s_gSb, s_putM, s_asg, s_ret, s_retN, s_nx, s_drop, s_thnN, s_thnR, s_seq, s_ifS, s_par, s_for, s_forN, s_forC, s_gok, s_while, s_iT, s_iL, s_iNL, s_iR1, s_iR2, s_iEn, s_iZT, s_lc, s_lcN, s_lcC, s_raw, s_outN, s_outR, s_mulL, s_mulR, s_modP, s_divP, k_NoneType_bool, k_NoneType_int, k_NoneType_str, k_NoneType_dict, k_NoneType_tuple, k_NoneType_list, k_bool_bool, k_bool_int, k_bool_str, k_bool_dict, k_bool_tuple, k_bool_list, k_int_bool, k_int_int, k_int_str, k_int_dict, k_int_tuple, k_int_list, k_str_bool, k_str_int, k_str_str, k_str_dict, k_str_tuple, k_str_list, k_tuple_bool, k_tuple_int, k_tuple_str, k_tuple_dict, k_tuple_tuple, k_tuple_list, k_list_bool, k_list_int, k_list_str, k_list_dict, k_list_tuple, k_list_list, k_dict_bool, k_dict_int, k_dict_str, k_dict_dict, k_dict_tuple, k_dict_list, s_isG, s_isG2, s_tyN, s_tyB, s_tyI, s_tyS, s_tyT, s_tyF, s_tyR, s_lenD, s_emp, s_isX, s_gf, s_mkX, s_mk0, s_resR, s_gok1, s_gdR, s_gdF, s_enN, s_enC, s_bsN, s_bsC, s_anyL, s_allL, s_rng0, s_rng1, s_rng2, s_rng3, s_rng4, s_cast, s_cast0, s_cast1, s_toNat0, s_toNat1, s_toNat2, startR, List.length_cons, List.length_nil, List.map_cons, List.map_nil, List.replicate, List.cons_append, List.nil_append, bnd_some, bnd_none, List.length_map, List.getElem?_cons_zero, List.getElem?_cons_succ, List.getElem?_nil, List.set_cons_zero, List.set_cons_succ, if_true, if_false, Int.reducePow, Int.reduceNeg, Int.reduceLT, Int.reduceLE, Int.reduceAdd, Int.reduceMul, Int.reduceSub, Nat.reduceLT, Nat.reduceLeDiff, Nat.reduceEqDiff, Int.reduceEq, and_self, and_true, true_and, Int.cast_ofNat_Int, Int.reduceToNat, Nat.sub_self, get_at, get_at0, List.length_append, List.append_assoc, Bool.or_false, Bool.false_or, Bool.or_true, Bool.true_or, Bool.and_true, Bool.true_and, Bool.not_true, Bool.not_false, beq_self_eq_true, List.all_cons, List.all_nil, List.any_cons, List.any_nil, id, Nat.reduceAdd, Bool.false_eq_true, decide_eq_true_eq, wipeR, if_neg h2]
        exact ⟨_, _, rfl⟩
    · have h' : ¬ ((k : Int) < (ns.length : Int)) := by omega
      simp -implicitDefEqProofs only [B__law_pool, s_c, s_var, s_nil, s_cons, s_tup, s_lst, s_trk, s_op, s_lop, s_op1, s_un, s_unM, s_tB, s_asB, s_and, s_or, s_not, s_if, s_chain, s_tand, s_tor, s_tnot, s_tyes, s_cb, s_lcb, s_of, s_call, s_add, s_sub, s_pow, s_lt, s_le, s_gt, s_ge, s_neg, s_ixT, s_ixL, s_ixt, s_ixr, s_ixf, s_atR, s_atF, s_ix0, s_ix1, s_ix2, s_ix3, s_lenT, s_lenR, s_lenF, s_int, s_intB, s_abs, s_max, s_min, s_tupG, s_seqT, s_seqR, s_seqF, s_cat, s_eqII, s_neII, s_eqBB, s_neBB, s_isN0, s_isNb, s_isNi, s_isNs, s_isNt, s_isNr, s_gN, s_gsNil, s_gsCons, s_gT, s_gSb, s_putM, s_asg, s_ret, s_retN, s_nx, s_drop, s_thnN, s_thnR, s_seq, s_ifS, s_par, s_for, s_forN, s_forC, s_gok, s_while, s_iT, s_iL, s_iNL, s_iR1, s_iR2, s_iEn, s_iZT, s_lc, s_lcN, s_lcC, s_raw, s_outN, s_outR, s_mulL, s_mulR, s_modP, s_divP, k_NoneType_bool, k_NoneType_int, k_NoneType_str, k_NoneType_dict, k_NoneType_tuple, k_NoneType_list, k_bool_bool, k_bool_int, k_bool_str, k_bool_dict, k_bool_tuple, k_bool_list, k_int_bool, k_int_int, k_int_str, k_int_dict, k_int_tuple, k_int_list, k_str_bool, k_str_int, k_str_str, k_str_dict, k_str_tuple, k_str_list, k_tuple_bool, k_tuple_int, k_tuple_str, k_tuple_dict, k_tuple_tuple, k_tuple_list, k_list_bool, k_list_int, k_list_str, k_list_dict, k_list_tuple, k_list_list, k_dict_bool, k_dict_int, k_dict_str, k_dict_dict, k_dict_tuple, k_dict_list, s_isG, s_isG2, s_tyN, s_tyB, s_tyI, s_tyS, s_tyT, s_tyF, s_tyR, s_lenD, s_emp, s_isX, s_gf, s_mkX, s_mk0, s_resR, s_gok1, s_gdR, s_gdF, s_enN, s_enC, s_bsN, s_bsC, s_anyL, s_allL, s_rng0, s_rng1, s_rng2, s_rng3, s_rng4, s_cast, s_cast0, s_cast1, s_toNat0, s_toNat1, s_toNat2, startR, List.length_cons, List.length_nil, List.map_cons, List.map_nil, List.replicate, List.cons_append, List.nil_append, bnd_some, bnd_none, List.length_map, List.getElem?_cons_zero, List.getElem?_cons_succ, List.getElem?_nil, List.set_cons_zero, List.set_cons_succ, if_true, if_false, Int.reducePow, Int.reduceNeg, Int.reduceLT, Int.reduceLE, Int.reduceAdd, Int.reduceMul, Int.reduceSub, Nat.reduceLT, Nat.reduceLeDiff, Nat.reduceEqDiff, Int.reduceEq, and_self, and_true, true_and, Int.cast_ofNat_Int, Int.reduceToNat, Nat.sub_self, get_at, get_at0, List.length_append, List.append_assoc, Bool.or_false, Bool.false_or, Bool.or_true, Bool.true_or, Bool.and_true, Bool.true_and, Bool.not_true, Bool.not_false, beq_self_eq_true, List.all_cons, List.all_nil, List.any_cons, List.any_nil, id, Nat.reduceAdd, Bool.false_eq_true, decide_eq_true_eq, wipeR, if_neg h']
      generalize (if (7 * (k : Int) + 3 * (ns.length : Int)) < 0 then -(7 * (k : Int) + 3 * (ns.length : Int)) else (7 * (k : Int) + 3 * (ns.length : Int))) = sz
      by_cases h2 : 1000000000000000000 ≤ sz
      · simp -implicitDefEqProofs only [s_c, s_var, s_nil, s_cons, s_tup, s_lst, s_trk, s_op, s_lop, s_op1, s_un, s_unM, s_tB, s_asB, s_and, s_or, s_not, s_if, s_chain, s_tand, s_tor, s_tnot, s_tyes, s_cb, s_lcb, s_of, s_call, s_add, s_sub, s_pow, s_lt, s_le, s_gt, s_ge, s_neg, s_ixT, s_ixL, s_ixt, s_ixr, s_ixf, s_atR, s_atF, s_ix0, s_ix1, s_ix2, s_ix3, s_lenT, s_lenR, s_lenF, s_int, s_intB, s_abs, s_max, s_min, s_tupG, s_seqT, s_seqR, s_seqF, s_cat, s_eqII, s_neII, s_eqBB, s_neBB, s_isN0, s_isNb, s_isNi, s_isNs, s_isNt, s_isNr, s_gN, s_gsNil, s_gsCons, s_gT, s_gSb, s_putM, s_asg, s_ret, s_retN, s_nx, s_drop, s_thnN, s_thnR, s_seq, s_ifS, s_par, s_for, s_forN, s_forC, s_gok, s_while, s_iT, s_iL, s_iNL, s_iR1, s_iR2, s_iEn, s_iZT, s_lc, s_lcN, s_lcC, s_raw, s_outN, s_outR, s_mulL, s_mulR, s_modP, s_divP, k_NoneType_bool, k_NoneType_int, k_NoneType_str, k_NoneType_dict, k_NoneType_tuple, k_NoneType_list, k_bool_bool, k_bool_int, k_bool_str, k_bool_dict, k_bool_tuple, k_bool_list, k_int_bool, k_int_int, k_int_str, k_int_dict, k_int_tuple, k_int_list, k_str_bool, k_str_int, k_str_str, k_str_dict, k_str_tuple, k_str_list, k_tuple_bool, k_tuple_int, k_tuple_str, k_tuple_dict, k_tuple_tuple, k_tuple_list, k_list_bool, k_list_int, k_list_str, k_list_dict, k_list_tuple, k_list_list, k_dict_bool, k_dict_int, k_dict_str, k_dict_dict, k_dict_tuple, k_dict_list, s_isG, s_isG2, s_tyN, s_tyB, s_tyI, s_tyS, s_tyT, s_tyF, s_tyR, s_lenD, s_emp, s_isX, s_gf, s_mkX, s_mk0, s_resR, s_gok1, s_gdR, s_gdF, s_enN, s_enC, s_bsN, s_bsC, s_anyL, s_allL, s_rng0, s_rng1, s_rng2, s_rng3, s_rng4, s_cast, s_cast0, s_cast1, s_toNat0, s_toNat1, s_toNat2, startR, List.length_cons, List.length_nil, List.map_cons, List.map_nil, List.replicate, List.cons_append, List.nil_append, bnd_some, bnd_none, List.length_map, List.getElem?_cons_zero, List.getElem?_cons_succ, List.getElem?_nil, List.set_cons_zero, List.set_cons_succ, if_true, if_false, Int.reducePow, Int.reduceNeg, Int.reduceLT, Int.reduceLE, Int.reduceAdd, Int.reduceMul, Int.reduceSub, Nat.reduceLT, Nat.reduceLeDiff, Nat.reduceEqDiff, Int.reduceEq, and_self, and_true, true_and, Int.cast_ofNat_Int, Int.reduceToNat, Nat.sub_self, get_at, get_at0, List.length_append, List.append_assoc, Bool.or_false, Bool.false_or, Bool.or_true, Bool.true_or, Bool.and_true, Bool.true_and, Bool.not_true, Bool.not_false, beq_self_eq_true, List.all_cons, List.all_nil, List.any_cons, List.any_nil, id, Nat.reduceAdd, Bool.false_eq_true, decide_eq_true_eq, wipeR, if_pos h2]
        exact ⟨_, _, rfl⟩
      · simp -implicitDefEqProofs only [s_c, s_var, s_nil, s_cons, s_tup, s_lst, s_trk, s_op, s_lop, s_op1, s_un, s_unM, s_tB, s_asB, s_and, s_or, s_not, s_if, s_chain, s_tand, s_tor, s_tnot, s_tyes, s_cb, s_lcb, s_of, s_call, s_add, s_sub, s_pow, s_lt, s_le, s_gt, s_ge, s_neg, s_ixT, s_ixL, s_ixt, s_ixr, s_ixf, s_atR, s_atF, s_ix0, s_ix1, s_ix2, s_ix3, s_lenT, s_lenR, s_lenF, s_int, s_intB, s_abs, s_max, s_min, s_tupG, s_seqT, s_seqR, s_seqF, s_cat, s_eqII, s_neII, s_eqBB, s_neBB, s_isN0, s_isNb, s_isNi, s_isNs, s_isNt, s_isNr, s_gN, s_gsNil, s_gsCons, s_gT, s_gSb, s_putM, s_asg, s_ret, s_retN, s_nx, s_drop, s_thnN, s_thnR, s_seq, s_ifS, s_par, s_for, s_forN, s_forC, s_gok, s_while, s_iT, s_iL, s_iNL, s_iR1, s_iR2, s_iEn, s_iZT, s_lc, s_lcN, s_lcC, s_raw, s_outN, s_outR, s_mulL, s_mulR, s_modP, s_divP, k_NoneType_bool, k_NoneType_int, k_NoneType_str, k_NoneType_dict, k_NoneType_tuple, k_NoneType_list, k_bool_bool, k_bool_int, k_bool_str, k_bool_dict, k_bool_tuple, k_bool_list, k_int_bool, k_int_int, k_int_str, k_int_dict, k_int_tuple, k_int_list, k_str_bool, k_str_int, k_str_str, k_str_dict, k_str_tuple, k_str_list, k_tuple_bool, k_tuple_int, k_tuple_str, k_tuple_dict, k_tuple_tuple, k_tuple_list, k_list_bool, k_list_int, k_list_str, k_list_dict, k_list_tuple, k_list_list, k_dict_bool, k_dict_int, k_dict_str, k_dict_dict, k_dict_tuple, k_dict_list, s_isG, s_isG2, s_tyN, s_tyB, s_tyI, s_tyS, s_tyT, s_tyF, s_tyR, s_lenD, s_emp, s_isX, s_gf, s_mkX, s_mk0, s_resR, s_gok1, s_gdR, s_gdF, s_enN, s_enC, s_bsN, s_bsC, s_anyL, s_allL, s_rng0, s_rng1, s_rng2, s_rng3, s_rng4, s_cast, s_cast0, s_cast1, s_toNat0, s_toNat1, s_toNat2, startR, List.length_cons, List.length_nil, List.map_cons, List.map_nil, List.replicate, List.cons_append, List.nil_append, bnd_some, bnd_none, List.length_map, List.getElem?_cons_zero, List.getElem?_cons_succ, List.getElem?_nil, List.set_cons_zero, List.set_cons_succ, if_true, if_false, Int.reducePow, Int.reduceNeg, Int.reduceLT, Int.reduceLE, Int.reduceAdd, Int.reduceMul, Int.reduceSub, Nat.reduceLT, Nat.reduceLeDiff, Nat.reduceEqDiff, Int.reduceEq, and_self, and_true, true_and, Int.cast_ofNat_Int, Int.reduceToNat, Nat.sub_self, get_at, get_at0, List.length_append, List.append_assoc, Bool.or_false, Bool.false_or, Bool.or_true, Bool.true_or, Bool.and_true, Bool.true_and, Bool.not_true, Bool.not_false, beq_self_eq_true, List.all_cons, List.all_nil, List.any_cons, List.any_nil, id, Nat.reduceAdd, Bool.false_eq_true, decide_eq_true_eq, wipeR, if_neg h2]
        exact ⟨_, _, rfl⟩
  obtain ⟨a, b, e⟩ := key
  refine ⟨a, b, newG_of (J := [.lst [.int a, .int b]]) e (Nat.le_refl _) (by rw [get_at0]; rfl) rfl hM⟩
theorem take_ok {j : Nat} {a b many : Int} {M : Mem} (hM : clM M.length M = true) (hj : M[j]? = some (.lst [.int a, .int b])) (h1 : 2 ≤ many) (h2 : many ≤ 1000) :
    ∃ r a' b' : Int, 0 ≤ r ∧ r < many ∧ G__law_take [.ref j, .int many] M = some (.int r, M.set j (.lst [.int a', .int b'])) := by
  have hl : j < M.length := (List.getElem?_eq_some_iff.mp hj).1
  have hs : ∀ x, (M.set j x)[j]? = some x := fun x => List.getElem?_set_self hl
  have hp : 0 < many := by omega
  have hq : many < 2 ^ 62 := by omega
  have key : ∃ r a' b' : Int, 0 ≤ r ∧ r < many ∧ rawG 2 4 B__law_take [.ref j, .int many] M = some (.int r, M.set j (.lst [.int a', .int b'])) := by
    by_cases h : 1 < a
    · refine ⟨a % many, a / many, b, Int.emod_nonneg _ (by omega), Int.emod_lt_of_pos _ hp, ?_⟩
      simp -implicitDefEqProofs only [B__law_take, L1__law_take, s_c, s_var, s_nil, s_cons, s_tup, s_lst, s_trk, s_op, s_lop, s_op1, s_un, s_unM, s_tB, s_asB, s_and, s_or, s_not, s_if, s_chain, s_tand, s_tor, s_tnot, s_tyes, s_cb, s_lcb, s_of, s_call, s_add, s_sub, s_pow, s_lt, s_le, s_gt, s_ge, s_neg, s_ixT, s_ixL, s_ixt, s_ixr, s_ixf, s_atR, s_atF, s_ix0, s_ix1, s_ix2, s_ix3, s_lenT, s_lenR, s_lenF, s_int, s_intB, s_abs, s_max, s_min, s_tupG, s_seqT, s_seqR, s_seqF, s_cat, s_eqII, s_neII, s_eqBB, s_neBB, s_isN0, s_isNb, s_isNi, s_isNs, s_isNt, s_isNr, s_gN, s_gsNil, s_gsCons, s_gT, s_gSb, s_putM, s_asg, s_ret, s_retN, s_nx, s_drop, s_thnN, s_thnR, s_seq, s_ifS, s_par, s_for, s_forN, s_forC, s_gok, s_while, s_iT, s_iL, s_iNL, s_iR1, s_iR2, s_iEn, s_iZT, s_lc, s_lcN, s_lcC, s_raw, s_outN, s_outR, s_mulL, s_mulR, s_modP, s_divP, k_NoneType_bool, k_NoneType_int, k_NoneType_str, k_NoneType_dict, k_NoneType_tuple, k_NoneType_list, k_bool_bool, k_bool_int, k_bool_str, k_bool_dict, k_bool_tuple, k_bool_list, k_int_bool, k_int_int, k_int_str, k_int_dict, k_int_tuple, k_int_list, k_str_bool, k_str_int, k_str_str, k_str_dict, k_str_tuple, k_str_list, k_tuple_bool, k_tuple_int, k_tuple_str, k_tuple_dict, k_tuple_tuple, k_tuple_list, k_list_bool, k_list_int, k_list_str, k_list_dict, k_list_tuple, k_list_list, k_dict_bool, k_dict_int, k_dict_str, k_dict_dict, k_dict_tuple, k_dict_list, s_isG, s_isG2, s_tyN, s_tyB, s_tyI, s_tyS, s_tyT, s_tyF, s_tyR, s_lenD, s_emp, s_isX, s_gf, s_mkX, s_mk0, s_resR, s_gok1, s_gdR, s_gdF, s_enN, s_enC, s_bsN, s_bsC, s_anyL, s_allL, s_rng0, s_rng1, s_rng2, s_rng3, s_rng4, s_cast, s_cast0, s_cast1, s_toNat0, s_toNat1, s_toNat2, startR, List.length_cons, List.length_nil, List.map_cons, List.map_nil, List.replicate, List.cons_append, List.nil_append, bnd_some, bnd_none, List.length_map, List.getElem?_cons_zero, List.getElem?_cons_succ, List.getElem?_nil, List.set_cons_zero, List.set_cons_succ, if_true, if_false, Int.reducePow, Int.reduceNeg, Int.reduceLT, Int.reduceLE, Int.reduceAdd, Int.reduceMul, Int.reduceSub, Nat.reduceLT, Nat.reduceLeDiff, Nat.reduceEqDiff, Int.reduceEq, and_self, and_true, true_and, Int.cast_ofNat_Int, Int.reduceToNat, Nat.sub_self, get_at, get_at0, List.length_append, List.append_assoc, Bool.or_false, Bool.false_or, Bool.or_true, Bool.true_or, Bool.and_true, Bool.true_and, Bool.not_true, Bool.not_false, beq_self_eq_true, List.all_cons, List.all_nil, List.any_cons, List.any_nil, id, Nat.reduceAdd, Bool.false_eq_true, decide_eq_true_eq, wipeR, hj, if_pos h, s_modP hp, s_divP hp hq, ixN_ok (n := 2) (i := 0) (by decide) (by decide), Int.toNat_zero]
    · have c1 : (1 : Int) < 16777216 * many := by omega
      have c2 : (16777216 : Int) < 16777216 * many := by omega
      have c3 : ¬ ((281474976710656 : Int) < 16777216 * many) := by omega
      have e : ∃ t a' b' : Int, rawG 2 4 B__law_take [.ref j, .int many] M = some (.int (t % many), M.set j (.lst [.int a', .int b'])) := by
        simp -implicitDefEqProofs only [B__law_take, L1__law_take, s_c, s_var, s_nil, s_cons, s_tup, s_lst, s_trk, s_op, s_lop, s_op1, s_un, s_unM, s_tB, s_asB, s_and, s_or, s_not, s_if, s_chain, s_tand, s_tor, s_tnot, s_tyes, s_cb, s_lcb, s_of, s_call, s_add, s_sub, s_pow, s_lt, s_le, s_gt, s_ge, s_neg, s_ixT, s_ixL, s_ixt, s_ixr, s_ixf, s_atR, s_atF, s_ix0, s_ix1, s_ix2, s_ix3, s_lenT, s_lenR, s_lenF, s_int, s_intB, s_abs, s_max, s_min, s_tupG, s_seqT, s_seqR, s_seqF, s_cat, s_eqII, s_neII, s_eqBB, s_neBB, s_isN0, s_isNb, s_isNi, s_isNs, s_isNt, s_isNr, s_gN, s_gsNil, s_gsCons, s_gT, s_gSb, s_putM, s_asg, s_ret, s_retN, s_nx, s_drop, s_thnN, s_thnR, s_seq, s_ifS, s_par, s_for, s_forN, s_forC, s_gok, s_while, s_iT, s_iL, s_iNL, s_iR1, s_iR2, s_iEn, s_iZT, s_lc, s_lcN, s_lcC, s_raw, s_outN, s_outR, s_mulL, s_mulR, s_modP, s_divP, k_NoneType_bool, k_NoneType_int, k_NoneType_str, k_NoneType_dict, k_NoneType_tuple, k_NoneType_list, k_bool_bool, k_bool_int, k_bool_str, k_bool_dict, k_bool_tuple, k_bool_list, k_int_bool, k_int_int, k_int_str, k_int_dict, k_int_tuple, k_int_list, k_str_bool, k_str_int, k_str_str, k_str_dict, k_str_tuple, k_str_list, k_tuple_bool, k_tuple_int, k_tuple_str, k_tuple_dict, k_tuple_tuple, k_tuple_list, k_list_bool, k_list_int, k_list_str, k_list_dict, k_list_tuple, k_list_list, k_dict_bool, k_dict_int, k_dict_str, k_dict_dict, k_dict_tuple, k_dict_list, s_isG, s_isG2, s_tyN, s_tyB, s_tyI, s_tyS, s_tyT, s_tyF, s_tyR, s_lenD, s_emp, s_isX, s_gf, s_mkX, s_mk0, s_resR, s_gok1, s_gdR, s_gdF, s_enN, s_enC, s_bsN, s_bsC, s_anyL, s_allL, s_rng0, s_rng1, s_rng2, s_rng3, s_rng4, s_cast, s_cast0, s_cast1, s_toNat0, s_toNat1, s_toNat2, startR, List.length_cons, List.length_nil, List.map_cons, List.map_nil, List.replicate, List.cons_append, List.nil_append, bnd_some, bnd_none, List.length_map, List.getElem?_cons_zero, List.getElem?_cons_succ, List.getElem?_nil, List.set_cons_zero, List.set_cons_succ, if_true, if_false, Int.reducePow, Int.reduceNeg, Int.reduceLT, Int.reduceLE, Int.reduceAdd, Int.reduceMul, Int.reduceSub, Nat.reduceLT, Nat.reduceLeDiff, Nat.reduceEqDiff, Int.reduceEq, and_self, and_true, true_and, Int.cast_ofNat_Int, Int.reduceToNat, Nat.sub_self, get_at, get_at0, List.length_append, List.append_assoc, Bool.or_false, Bool.false_or, Bool.or_true, Bool.true_or, Bool.and_true, Bool.true_and, Bool.not_true, Bool.not_false, beq_self_eq_true, List.all_cons, List.all_nil, List.any_cons, List.any_nil, id, Nat.reduceAdd, Bool.false_eq_true, decide_eq_true_eq, wipeR, hj, if_neg h, s_modP hp, s_divP hp hq, ixN_ok (n := 2) (i := 1) (by decide) (by decide), c1, c2, c3, hs, List.set_set]
        exact ⟨_, _, _, rfl⟩
      obtain ⟨t, a', b', e⟩ := e
      exact ⟨_, a', b', Int.emod_nonneg _ (by omega), Int.emod_lt_of_pos _ hp, e⟩
  obtain ⟨r, a', b', h3, h4, e⟩ := key
  exact ⟨r, a', b', h3, h4, cutG_of (J := []) (by rw [List.append_nil]; exact e) (by rw [List.length_set]) rfl (clM_set hM rfl)⟩
end X0
namespace X0
open PySem VM
def fld (C : Nat) : Str := if C < 10 then "given" else "index"
theorem held_ok {k : Nat} {v : Va} {b : Bool} {M : Mem} (hk : k < 9) : G__law_held [.int k, v, .bl b] M = some (.ref M.length, M ++ [.exc (1 + k) [("given", v)]]) := by
  have hk' : k = 0 ∨ k = 1 ∨ k = 2 ∨ k = 3 ∨ k = 4 ∨ k = 5 ∨ k = 6 ∨ k = 7 ∨ k = 8 := by omega
  rcases hk' with rfl | rfl | rfl | rfl | rfl | rfl | rfl | rfl | rfl <;> cases b <;> simp -implicitDefEqProofs only [G__law_held, B__law_held, Int.cast_ofNat_Int, decide_true, decide_false, s_c, s_var, s_nil, s_cons, s_tup, s_lst, s_trk, s_op, s_lop, s_op1, s_un, s_unM, s_tB, s_asB, s_and, s_or, s_not, s_if, s_chain, s_tand, s_tor, s_tnot, s_tyes, s_cb, s_lcb, s_of, s_call, s_add, s_sub, s_pow, s_lt, s_le, s_gt, s_ge, s_neg, s_ixT, s_ixL, s_ixt, s_ixr, s_ixf, s_atR, s_atF, s_ix0, s_ix1, s_ix2, s_ix3, s_lenT, s_lenR, s_lenF, s_int, s_intB, s_abs, s_max, s_min, s_tupG, s_seqT, s_seqR, s_seqF, s_cat, s_eqII, s_neII, s_eqBB, s_neBB, s_isN0, s_isNb, s_isNi, s_isNs, s_isNt, s_isNr, s_gN, s_gsNil, s_gsCons, s_gT, s_gSb, s_putM, s_asg, s_ret, s_retN, s_nx, s_drop, s_thnN, s_thnR, s_seq, s_ifS, s_par, s_for, s_forN, s_forC, s_gok, s_while, s_iT, s_iL, s_iNL, s_iR1, s_iR2, s_iEn, s_iZT, s_lc, s_lcN, s_lcC, s_raw, s_outN, s_outR, s_mulL, s_mulR, s_modP, s_divP, k_NoneType_bool, k_NoneType_int, k_NoneType_str, k_NoneType_dict, k_NoneType_tuple, k_NoneType_list, k_bool_bool, k_bool_int, k_bool_str, k_bool_dict, k_bool_tuple, k_bool_list, k_int_bool, k_int_int, k_int_str, k_int_dict, k_int_tuple, k_int_list, k_str_bool, k_str_int, k_str_str, k_str_dict, k_str_tuple, k_str_list, k_tuple_bool, k_tuple_int, k_tuple_str, k_tuple_dict, k_tuple_tuple, k_tuple_list, k_list_bool, k_list_int, k_list_str, k_list_dict, k_list_tuple, k_list_list, k_dict_bool, k_dict_int, k_dict_str, k_dict_dict, k_dict_tuple, k_dict_list, s_isG, s_isG2, s_tyN, s_tyB, s_tyI, s_tyS, s_tyT, s_tyF, s_tyR, s_lenD, s_emp, s_isX, s_gf, s_mkX, s_mk0, s_resR, s_gok1, s_gdR, s_gdF, s_enN, s_enC, s_bsN, s_bsC, s_anyL, s_allL, s_rng0, s_rng1, s_rng2, s_rng3, s_rng4, s_cast, s_cast0, s_cast1, s_toNat0, s_toNat1, s_toNat2, startR, List.length_cons, List.length_nil, List.map_cons, List.map_nil, List.replicate, List.cons_append, List.nil_append, bnd_some, bnd_none, List.length_map, List.getElem?_cons_zero, List.getElem?_cons_succ, List.getElem?_nil, List.set_cons_zero, List.set_cons_succ, if_true, if_false, Int.reducePow, Int.reduceNeg, Int.reduceLT, Int.reduceLE, Int.reduceAdd, Int.reduceMul, Int.reduceSub, Nat.reduceLT, Nat.reduceLeDiff, Nat.reduceEqDiff, Int.reduceEq, and_self, and_true, true_and, Int.cast_ofNat_Int, Int.reduceToNat, Nat.sub_self, get_at, get_at0, List.length_append, List.append_assoc, Bool.or_false, Bool.false_or, Bool.or_true, Bool.true_or, Bool.and_true, Bool.true_and, Bool.not_true, Bool.not_false, beq_self_eq_true, List.all_cons, List.all_nil, List.any_cons, List.any_nil, id, Nat.reduceAdd, Bool.false_eq_true, decide_eq_true_eq, wipeR]
theorem placed_ok {k : Nat} {v : Va} {b : Bool} {M : Mem} (hk : k < 9) : G__law_placed [.int k, v, .bl b] M = some (.ref M.length, M ++ [.exc (10 + k) [("index", v)]]) := by
  have hk' : k = 0 ∨ k = 1 ∨ k = 2 ∨ k = 3 ∨ k = 4 ∨ k = 5 ∨ k = 6 ∨ k = 7 ∨ k = 8 := by omega
  rcases hk' with rfl | rfl | rfl | rfl | rfl | rfl | rfl | rfl | rfl <;> cases b <;> simp -implicitDefEqProofs only [G__law_placed, B__law_placed, Int.cast_ofNat_Int, decide_true, decide_false, s_c, s_var, s_nil, s_cons, s_tup, s_lst, s_trk, s_op, s_lop, s_op1, s_un, s_unM, s_tB, s_asB, s_and, s_or, s_not, s_if, s_chain, s_tand, s_tor, s_tnot, s_tyes, s_cb, s_lcb, s_of, s_call, s_add, s_sub, s_pow, s_lt, s_le, s_gt, s_ge, s_neg, s_ixT, s_ixL, s_ixt, s_ixr, s_ixf, s_atR, s_atF, s_ix0, s_ix1, s_ix2, s_ix3, s_lenT, s_lenR, s_lenF, s_int, s_intB, s_abs, s_max, s_min, s_tupG, s_seqT, s_seqR, s_seqF, s_cat, s_eqII, s_neII, s_eqBB, s_neBB, s_isN0, s_isNb, s_isNi, s_isNs, s_isNt, s_isNr, s_gN, s_gsNil, s_gsCons, s_gT, s_gSb, s_putM, s_asg, s_ret, s_retN, s_nx, s_drop, s_thnN, s_thnR, s_seq, s_ifS, s_par, s_for, s_forN, s_forC, s_gok, s_while, s_iT, s_iL, s_iNL, s_iR1, s_iR2, s_iEn, s_iZT, s_lc, s_lcN, s_lcC, s_raw, s_outN, s_outR, s_mulL, s_mulR, s_modP, s_divP, k_NoneType_bool, k_NoneType_int, k_NoneType_str, k_NoneType_dict, k_NoneType_tuple, k_NoneType_list, k_bool_bool, k_bool_int, k_bool_str, k_bool_dict, k_bool_tuple, k_bool_list, k_int_bool, k_int_int, k_int_str, k_int_dict, k_int_tuple, k_int_list, k_str_bool, k_str_int, k_str_str, k_str_dict, k_str_tuple, k_str_list, k_tuple_bool, k_tuple_int, k_tuple_str, k_tuple_dict, k_tuple_tuple, k_tuple_list, k_list_bool, k_list_int, k_list_str, k_list_dict, k_list_tuple, k_list_list, k_dict_bool, k_dict_int, k_dict_str, k_dict_dict, k_dict_tuple, k_dict_list, s_isG, s_isG2, s_tyN, s_tyB, s_tyI, s_tyS, s_tyT, s_tyF, s_tyR, s_lenD, s_emp, s_isX, s_gf, s_mkX, s_mk0, s_resR, s_gok1, s_gdR, s_gdF, s_enN, s_enC, s_bsN, s_bsC, s_anyL, s_allL, s_rng0, s_rng1, s_rng2, s_rng3, s_rng4, s_cast, s_cast0, s_cast1, s_toNat0, s_toNat1, s_toNat2, startR, List.length_cons, List.length_nil, List.map_cons, List.map_nil, List.replicate, List.cons_append, List.nil_append, bnd_some, bnd_none, List.length_map, List.getElem?_cons_zero, List.getElem?_cons_succ, List.getElem?_nil, List.set_cons_zero, List.set_cons_succ, if_true, if_false, Int.reducePow, Int.reduceNeg, Int.reduceLT, Int.reduceLE, Int.reduceAdd, Int.reduceMul, Int.reduceSub, Nat.reduceLT, Nat.reduceLeDiff, Nat.reduceEqDiff, Int.reduceEq, and_self, and_true, true_and, Int.cast_ofNat_Int, Int.reduceToNat, Nat.sub_self, get_at, get_at0, List.length_append, List.append_assoc, Bool.or_false, Bool.false_or, Bool.or_true, Bool.true_or, Bool.and_true, Bool.true_and, Bool.not_true, Bool.not_false, beq_self_eq_true, List.all_cons, List.all_nil, List.any_cons, List.any_nil, id, Nat.reduceAdd, Bool.false_eq_true, decide_eq_true_eq, wipeR]
theorem made_ok {k : Nat} {v : Va} {b : Bool} {M : Mem} (hk : k < 18) : G__law_made [.int k, v, .bl b] M = some (.tup [.ref M.length, v], M ++ [.exc (1 + k) [(fld (1 + k), v)]]) := by
  by_cases h : k < 9
  · have h1 : ((k : Int) < 9) := by omega
    have h2 : fld (1 + k) = "given" := if_pos (by omega)
    have h3 : (1 ≤ 1 + k ∧ 1 + k < 10) := by omega
    simp -implicitDefEqProofs only [G__law_made, B__law_made, s_c, s_var, s_nil, s_cons, s_tup, s_lst, s_trk, s_op, s_lop, s_op1, s_un, s_unM, s_tB, s_asB, s_and, s_or, s_not, s_if, s_chain, s_tand, s_tor, s_tnot, s_tyes, s_cb, s_lcb, s_of, s_call, s_add, s_sub, s_pow, s_lt, s_le, s_gt, s_ge, s_neg, s_ixT, s_ixL, s_ixt, s_ixr, s_ixf, s_atR, s_atF, s_ix0, s_ix1, s_ix2, s_ix3, s_lenT, s_lenR, s_lenF, s_int, s_intB, s_abs, s_max, s_min, s_tupG, s_seqT, s_seqR, s_seqF, s_cat, s_eqII, s_neII, s_eqBB, s_neBB, s_isN0, s_isNb, s_isNi, s_isNs, s_isNt, s_isNr, s_gN, s_gsNil, s_gsCons, s_gT, s_gSb, s_putM, s_asg, s_ret, s_retN, s_nx, s_drop, s_thnN, s_thnR, s_seq, s_ifS, s_par, s_for, s_forN, s_forC, s_gok, s_while, s_iT, s_iL, s_iNL, s_iR1, s_iR2, s_iEn, s_iZT, s_lc, s_lcN, s_lcC, s_raw, s_outN, s_outR, s_mulL, s_mulR, s_modP, s_divP, k_NoneType_bool, k_NoneType_int, k_NoneType_str, k_NoneType_dict, k_NoneType_tuple, k_NoneType_list, k_bool_bool, k_bool_int, k_bool_str, k_bool_dict, k_bool_tuple, k_bool_list, k_int_bool, k_int_int, k_int_str, k_int_dict, k_int_tuple, k_int_list, k_str_bool, k_str_int, k_str_str, k_str_dict, k_str_tuple, k_str_list, k_tuple_bool, k_tuple_int, k_tuple_str, k_tuple_dict, k_tuple_tuple, k_tuple_list, k_list_bool, k_list_int, k_list_str, k_list_dict, k_list_tuple, k_list_list, k_dict_bool, k_dict_int, k_dict_str, k_dict_dict, k_dict_tuple, k_dict_list, s_isG, s_isG2, s_tyN, s_tyB, s_tyI, s_tyS, s_tyT, s_tyF, s_tyR, s_lenD, s_emp, s_isX, s_gf, s_mkX, s_mk0, s_resR, s_gok1, s_gdR, s_gdF, s_enN, s_enC, s_bsN, s_bsC, s_anyL, s_allL, s_rng0, s_rng1, s_rng2, s_rng3, s_rng4, s_cast, s_cast0, s_cast1, s_toNat0, s_toNat1, s_toNat2, startR, List.length_cons, List.length_nil, List.map_cons, List.map_nil, List.replicate, List.cons_append, List.nil_append, bnd_some, bnd_none, List.length_map, List.getElem?_cons_zero, List.getElem?_cons_succ, List.getElem?_nil, List.set_cons_zero, List.set_cons_succ, if_true, if_false, Int.reducePow, Int.reduceNeg, Int.reduceLT, Int.reduceLE, Int.reduceAdd, Int.reduceMul, Int.reduceSub, Nat.reduceLT, Nat.reduceLeDiff, Nat.reduceEqDiff, Int.reduceEq, and_self, and_true, true_and, Int.cast_ofNat_Int, Int.reduceToNat, Nat.sub_self, get_at, get_at0, List.length_append, List.append_assoc, Bool.or_false, Bool.false_or, Bool.or_true, Bool.true_or, Bool.and_true, Bool.true_and, Bool.not_true, Bool.not_false, beq_self_eq_true, List.all_cons, List.all_nil, List.any_cons, List.any_nil, id, Nat.reduceAdd, Bool.false_eq_true, decide_eq_true_eq, wipeR, h1, held_ok h, h2, h3, and_self, List.lookup]
  · have h1 : ¬ ((k : Int) < 9) := by omega
    have h2 : fld (1 + k) = "index" := if_neg (by omega)
    have h3 : (10 ≤ 1 + k ∧ 1 + k < 19) := by omega
    have h4 : k - 9 < 9 := by omega
    have h5 : (k : Int) - 9 = ((k - 9 : Nat) : Int) := by omega
    have h6 : 10 + (k - 9) = 1 + k := by omega
    simp -implicitDefEqProofs only [G__law_made, B__law_made, s_c, s_var, s_nil, s_cons, s_tup, s_lst, s_trk, s_op, s_lop, s_op1, s_un, s_unM, s_tB, s_asB, s_and, s_or, s_not, s_if, s_chain, s_tand, s_tor, s_tnot, s_tyes, s_cb, s_lcb, s_of, s_call, s_add, s_sub, s_pow, s_lt, s_le, s_gt, s_ge, s_neg, s_ixT, s_ixL, s_ixt, s_ixr, s_ixf, s_atR, s_atF, s_ix0, s_ix1, s_ix2, s_ix3, s_lenT, s_lenR, s_lenF, s_int, s_intB, s_abs, s_max, s_min, s_tupG, s_seqT, s_seqR, s_seqF, s_cat, s_eqII, s_neII, s_eqBB, s_neBB, s_isN0, s_isNb, s_isNi, s_isNs, s_isNt, s_isNr, s_gN, s_gsNil, s_gsCons, s_gT, s_gSb, s_putM, s_asg, s_ret, s_retN, s_nx, s_drop, s_thnN, s_thnR, s_seq, s_ifS, s_par, s_for, s_forN, s_forC, s_gok, s_while, s_iT, s_iL, s_iNL, s_iR1, s_iR2, s_iEn, s_iZT, s_lc, s_lcN, s_lcC, s_raw, s_outN, s_outR, s_mulL, s_mulR, s_modP, s_divP, k_NoneType_bool, k_NoneType_int, k_NoneType_str, k_NoneType_dict, k_NoneType_tuple, k_NoneType_list, k_bool_bool, k_bool_int, k_bool_str, k_bool_dict, k_bool_tuple, k_bool_list, k_int_bool, k_int_int, k_int_str, k_int_dict, k_int_tuple, k_int_list, k_str_bool, k_str_int, k_str_str, k_str_dict, k_str_tuple, k_str_list, k_tuple_bool, k_tuple_int, k_tuple_str, k_tuple_dict, k_tuple_tuple, k_tuple_list, k_list_bool, k_list_int, k_list_str, k_list_dict, k_list_tuple, k_list_list, k_dict_bool, k_dict_int, k_dict_str, k_dict_dict, k_dict_tuple, k_dict_list, s_isG, s_isG2, s_tyN, s_tyB, s_tyI, s_tyS, s_tyT, s_tyF, s_tyR, s_lenD, s_emp, s_isX, s_gf, s_mkX, s_mk0, s_resR, s_gok1, s_gdR, s_gdF, s_enN, s_enC, s_bsN, s_bsC, s_anyL, s_allL, s_rng0, s_rng1, s_rng2, s_rng3, s_rng4, s_cast, s_cast0, s_cast1, s_toNat0, s_toNat1, s_toNat2, startR, List.length_cons, List.length_nil, List.map_cons, List.map_nil, List.replicate, List.cons_append, List.nil_append, bnd_some, bnd_none, List.length_map, List.getElem?_cons_zero, List.getElem?_cons_succ, List.getElem?_nil, List.set_cons_zero, List.set_cons_succ, if_true, if_false, Int.reducePow, Int.reduceNeg, Int.reduceLT, Int.reduceLE, Int.reduceAdd, Int.reduceMul, Int.reduceSub, Nat.reduceLT, Nat.reduceLeDiff, Nat.reduceEqDiff, Int.reduceEq, and_self, and_true, true_and, Int.cast_ofNat_Int, Int.reduceToNat, Nat.sub_self, get_at, get_at0, List.length_append, List.append_assoc, Bool.or_false, Bool.false_or, Bool.or_true, Bool.true_or, Bool.and_true, Bool.true_and, Bool.not_true, Bool.not_false, beq_self_eq_true, List.all_cons, List.all_nil, List.any_cons, List.any_nil, id, Nat.reduceAdd, Bool.false_eq_true, decide_eq_true_eq, wipeR, h1, h5, placed_ok h4, h6, h2, h3, and_self, List.lookup]
theorem one_ok {j t : Nat} {a b : Int} {ws : List Va} {M : Mem} (hM : clM M.length M = true) (hj : M[j]? = some (.lst [.int a, .int b])) (ht : M[t]? = some (.lst ws)) (hne : j ≠ t) (hw : ws.length = 12) :
    ∃ (i : Nat) (v : Va) (a' b' : Int), i < 12 ∧ ws[i]? = some v ∧ G__law_one [.ref j, .ref t] M = some (v, M.set j (.lst [.int a', .int b'])) := by
  obtain ⟨r, a', b', h3, h4, e⟩ := take_ok hM hj (many := 12) (by decide) (by decide)
  have hr : r.toNat < ws.length := by omega
  have ht' : ∀ x, (M.set j x)[t]? = some (.lst ws) := fun x => by rw [List.getElem?_set_ne hne]; exact ht
  have hg : ws[r.toNat]? = some ws[r.toNat] := by simp [hr]
  refine ⟨r.toNat, ws[r.toNat], a', b', by omega, hg, cutG_of (J := []) ?_ (by rw [List.length_set]) ?_ (clM_set hM rfl)⟩
  · have hc : ((ws.length : Int)) = 12 := by omega
    rw [List.append_nil]
    simp -implicitDefEqProofs only [B__law_one, s_c, s_var, s_nil, s_cons, s_tup, s_lst, s_trk, s_op, s_lop, s_op1, s_un, s_unM, s_tB, s_asB, s_and, s_or, s_not, s_if, s_chain, s_tand, s_tor, s_tnot, s_tyes, s_cb, s_lcb, s_of, s_call, s_add, s_sub, s_pow, s_lt, s_le, s_gt, s_ge, s_neg, s_ixT, s_ixL, s_ixt, s_ixr, s_ixf, s_atR, s_atF, s_ix0, s_ix1, s_ix2, s_ix3, s_lenT, s_lenR, s_lenF, s_int, s_intB, s_abs, s_max, s_min, s_tupG, s_seqT, s_seqR, s_seqF, s_cat, s_eqII, s_neII, s_eqBB, s_neBB, s_isN0, s_isNb, s_isNi, s_isNs, s_isNt, s_isNr, s_gN, s_gsNil, s_gsCons, s_gT, s_gSb, s_putM, s_asg, s_ret, s_retN, s_nx, s_drop, s_thnN, s_thnR, s_seq, s_ifS, s_par, s_for, s_forN, s_forC, s_gok, s_while, s_iT, s_iL, s_iNL, s_iR1, s_iR2, s_iEn, s_iZT, s_lc, s_lcN, s_lcC, s_raw, s_outN, s_outR, s_mulL, s_mulR, s_modP, s_divP, k_NoneType_bool, k_NoneType_int, k_NoneType_str, k_NoneType_dict, k_NoneType_tuple, k_NoneType_list, k_bool_bool, k_bool_int, k_bool_str, k_bool_dict, k_bool_tuple, k_bool_list, k_int_bool, k_int_int, k_int_str, k_int_dict, k_int_tuple, k_int_list, k_str_bool, k_str_int, k_str_str, k_str_dict, k_str_tuple, k_str_list, k_tuple_bool, k_tuple_int, k_tuple_str, k_tuple_dict, k_tuple_tuple, k_tuple_list, k_list_bool, k_list_int, k_list_str, k_list_dict, k_list_tuple, k_list_list, k_dict_bool, k_dict_int, k_dict_str, k_dict_dict, k_dict_tuple, k_dict_list, s_isG, s_isG2, s_tyN, s_tyB, s_tyI, s_tyS, s_tyT, s_tyF, s_tyR, s_lenD, s_emp, s_isX, s_gf, s_mkX, s_mk0, s_resR, s_gok1, s_gdR, s_gdF, s_enN, s_enC, s_bsN, s_bsC, s_anyL, s_allL, s_rng0, s_rng1, s_rng2, s_rng3, s_rng4, s_cast, s_cast0, s_cast1, s_toNat0, s_toNat1, s_toNat2, startR, List.length_cons, List.length_nil, List.map_cons, List.map_nil, List.replicate, List.cons_append, List.nil_append, bnd_some, bnd_none, List.length_map, List.getElem?_cons_zero, List.getElem?_cons_succ, List.getElem?_nil, List.set_cons_zero, List.set_cons_succ, if_true, if_false, Int.reducePow, Int.reduceNeg, Int.reduceLT, Int.reduceLE, Int.reduceAdd, Int.reduceMul, Int.reduceSub, Nat.reduceLT, Nat.reduceLeDiff, Nat.reduceEqDiff, Int.reduceEq, and_self, and_true, true_and, Int.cast_ofNat_Int, Int.reduceToNat, Nat.sub_self, get_at, get_at0, List.length_append, List.append_assoc, Bool.or_false, Bool.false_or, Bool.or_true, Bool.true_or, Bool.and_true, Bool.true_and, Bool.not_true, Bool.not_false, beq_self_eq_true, List.all_cons, List.all_nil, List.any_cons, List.any_nil, id, Nat.reduceAdd, Bool.false_eq_true, decide_eq_true_eq, wipeR, ht, hc, e, ht', atI_pos h3, hg]
  · have q := clM_get hM ht
    have key : ∀ {us : List Va} {i : Nat} {u : Va}, clAll M.length us = true → us[i]? = some u → cl M.length u = true := by
      intro us
      induction us with
      | nil => intro i u _ h; cases h
      | cons x xs ih =>
        intro i u hc h
        have hc' := Bool.and_eq_true_iff.mp (show (cl M.length x && clAll M.length xs) = true from hc)
        cases i with
        | zero => cases h; exact hc'.1
        | succ i => exact ih hc'.2 h
    exact key q hg
/-- what the law tells of the classes -/
def kinds (C : Nat) : List Va := if C = 0 then [] else [.int ((C : Int) - 1)]
def pick : Nat → List Bool → List Va
  | _, [] => []
  | n, b :: bs => if b = true then .int n :: pick (n + 1) bs else pick (n + 1) bs
theorem lc_bools {gd : Gd} {a b : Va} {M : Mem} (hg : gok gd M = true) : ∀ (n : Nat) (bs : List Bool), lcGo gd (gT 2 (gsCons (gN 2) (gsCons (gN 3) gsNil))) (tB' (vVar 3)) (vVar 2) [some a, some b, none, none] (enumV n (bs.map Va.bl)) M = some (pick n bs, M)
  | n, [] => by
    show lcGo _ _ _ _ _ [] M = _
    rw [s_lcN, if_pos hg]
    rfl
  | n, x :: bs => by
    show lcGo _ _ _ _ _ (.tup [.int n, .bl x] :: enumV (n + 1) (bs.map Va.bl)) M = _
    have ih := lc_bools (a := a) (b := b) hg (n + 1) bs
    rw [s_lcC, if_pos hg]
    cases x with
    | true =>
      show bnd (lcGo _ _ _ _ _ (enumV (n + 1) (bs.map Va.bl)) M) (fun xs => some (Va.int n :: xs.1, xs.2)) = _
      rw [ih]
      rfl
    | false =>
      show lcGo _ _ _ _ _ (enumV (n + 1) (bs.map Va.bl)) M = _
      rw [ih]
      rfl
theorem kinds_ok {j C : Nat} {fs : List (Str × Va)} {M : Mem} (hM : clM M.length M = true) (hj : M[j]? = some (.exc C fs)) (hC : C < 21) : G__law_kinds_of [.ref j] M = some (.ref M.length, M ++ [.lst (kinds C)]) := by
  have hl : j < M.length := (List.getElem?_eq_some_iff.mp hj).1
  have ha : ∀ X : Mem, (M ++ X)[j]? = some (.exc C fs) := fun X => get_app hj
  have hs : ∀ i : Nat, ansC i C = some (i == 0 || C == i) := fun i => if_pos hC
  have hk : pick 0 [C == 1, C == 2, C == 3, C == 4, C == 5, C == 6, C == 7, C == 8, C == 9, C == 10, C == 11, C == 12, C == 13, C == 14, C == 15, C == 16, C == 17, C == 18, C == 19, C == 20] = kinds C := by
    have hC' : C = 0 ∨ C = 1 ∨ C = 2 ∨ C = 3 ∨ C = 4 ∨ C = 5 ∨ C = 6 ∨ C = 7 ∨ C = 8 ∨ C = 9 ∨ C = 10 ∨ C = 11 ∨ C = 12 ∨ C = 13 ∨ C = 14 ∨ C = 15 ∨ C = 16 ∨ C = 17 ∨ C = 18 ∨ C = 19 ∨ C = 20 := by omega
    rcases hC' with rfl | rfl | rfl | rfl | rfl | rfl | rfl | rfl | rfl | rfl | rfl | rfl | rfl | rfl | rfl | rfl | rfl | rfl | rfl | rfl | rfl <;> rfl
  have key : ∃ x1 x2 x3 x4 x5 x6 x7 x8 x9, rawG 1 4 B__law_kinds_of [.ref j] M = some (.ref (M.length + 9), M ++ [x1, x2, x3, x4, x5, x6, x7, x8, x9, .lst (kinds C)]) := by
    have q := fun (gd : Gd) (a b : Va) (X : Mem) (hg : gok gd X = true) => lc_bools (gd := gd) (a := a) (b := b) (M := X) hg 0 [C == 1, C == 2, C == 3, C == 4, C == 5, C == 6, C == 7, C == 8, C == 9, C == 10, C == 11, C == 12, C == 13, C == 14, C == 15, C == 16, C == 17, C == 18, C == 19, C == 20]
    simp -implicitDefEqProofs only [List.map_cons, List.map_nil] at q
    simp -implicitDefEqProofs only [B__law_kinds_of, s_c, s_var, s_nil, s_cons, s_tup, s_lst, s_trk, s_op, s_lop, s_op1, s_un, s_unM, s_tB, s_asB, s_and, s_or, s_not, s_if, s_chain, s_tand, s_tor, s_tnot, s_tyes, s_cb, s_lcb, s_of, s_call, s_add, s_sub, s_pow, s_lt, s_le, s_gt, s_ge, s_neg, s_ixT, s_ixL, s_ixt, s_ixr, s_ixf, s_atR, s_atF, s_ix0, s_ix1, s_ix2, s_ix3, s_lenT, s_lenR, s_lenF, s_int, s_intB, s_abs, s_max, s_min, s_tupG, s_seqT, s_seqR, s_seqF, s_cat, s_eqII, s_neII, s_eqBB, s_neBB, s_isN0, s_isNb, s_isNi, s_isNs, s_isNt, s_isNr, s_gN, s_gsNil, s_gsCons, s_gT, s_gSb, s_putM, s_asg, s_ret, s_retN, s_nx, s_drop, s_thnN, s_thnR, s_seq, s_ifS, s_par, s_for, s_forN, s_forC, s_gok, s_while, s_iT, s_iL, s_iNL, s_iR1, s_iR2, s_iEn, s_iZT, s_lc, s_raw, s_outN, s_outR, s_mulL, s_mulR, s_modP, s_divP, k_NoneType_bool, k_NoneType_int, k_NoneType_str, k_NoneType_dict, k_NoneType_tuple, k_NoneType_list, k_bool_bool, k_bool_int, k_bool_str, k_bool_dict, k_bool_tuple, k_bool_list, k_int_bool, k_int_int, k_int_str, k_int_dict, k_int_tuple, k_int_list, k_str_bool, k_str_int, k_str_str, k_str_dict, k_str_tuple, k_str_list, k_tuple_bool, k_tuple_int, k_tuple_str, k_tuple_dict, k_tuple_tuple, k_tuple_list, k_list_bool, k_list_int, k_list_str, k_list_dict, k_list_tuple, k_list_list, k_dict_bool, k_dict_int, k_dict_str, k_dict_dict, k_dict_tuple, k_dict_list, s_isG, s_isG2, s_tyN, s_tyB, s_tyI, s_tyS, s_tyT, s_tyF, s_tyR, s_lenD, s_emp, s_isX, s_gf, s_mkX, s_mk0, s_resR, s_gok1, s_gdR, s_gdF, s_bsN, s_bsC, s_anyL, s_allL, s_rng0, s_rng1, s_rng2, s_rng3, s_rng4, s_cast, s_cast0, s_cast1, s_toNat0, s_toNat1, s_toNat2, startR, List.length_cons, List.length_nil, List.map_cons, List.map_nil, List.replicate, List.cons_append, List.nil_append, bnd_some, bnd_none, List.length_map, List.getElem?_cons_zero, List.getElem?_cons_succ, List.getElem?_nil, List.set_cons_zero, List.set_cons_succ, if_true, if_false, Int.reducePow, Int.reduceNeg, Int.reduceLT, Int.reduceLE, Int.reduceAdd, Int.reduceMul, Int.reduceSub, Nat.reduceLT, Nat.reduceLeDiff, Nat.reduceEqDiff, Int.reduceEq, and_self, and_true, true_and, Int.cast_ofNat_Int, Int.reduceToNat, Nat.sub_self, get_at, get_at0, List.length_append, List.append_assoc, Bool.or_false, Bool.false_or, Bool.or_true, Bool.true_or, Bool.and_true, Bool.true_and, Bool.not_true, Bool.not_false, beq_self_eq_true, List.all_cons, List.all_nil, List.any_cons, List.any_nil, id, Nat.reduceAdd, Bool.false_eq_true, decide_eq_true_eq, wipeR, ha, hj, hs, Nat.reduceBEq, q, hk, enumV_len]
    exact ⟨_, _, _, _, _, _, _, _, _, rfl⟩
  obtain ⟨x1, x2, x3, x4, x5, x6, x7, x8, x9, e⟩ := key
  refine newG_of e (by omega) (by rw [get_at]; rfl) ?_ hM
  unfold kinds
  split <;> rfl
end X0
namespace X0
open PySem VM
/-- alike to itself at level n -/
def Same (n : Nat) (M : Mem) (v : Va) : Prop := G__law_alike n [v, v] M = some (.bl true, M)
theorem same_of {n : Nat} {M : Mem} {v : Va} (hM : clM M.length M = true) (h : rawG 2 3 (B__law_alike (G__law_alike n)) [v, v] M = some (.bl true, M)) : Same (n + 1) M v := cutG_of (J := []) (by rw [List.append_nil]; exact h) rfl rfl hM
theorem same_int {n : Nat} {M : Mem} {i : Int} (hM : clM M.length M = true) : Same (n + 1) M (.int i) := same_of hM (by
  simp -implicitDefEqProofs only [B__law_alike, s_c, s_var, s_nil, s_cons, s_tup, s_lst, s_trk, s_op, s_lop, s_op1, s_un, s_unM, s_tB, s_asB, s_and, s_or, s_not, s_if, s_chain, s_tand, s_tor, s_tnot, s_tyes, s_cb, s_lcb, s_of, s_call, s_add, s_sub, s_pow, s_lt, s_le, s_gt, s_ge, s_neg, s_ixT, s_ixL, s_ixt, s_ixr, s_ixf, s_atR, s_atF, s_ix0, s_ix1, s_ix2, s_ix3, s_lenT, s_lenR, s_lenF, s_int, s_intB, s_abs, s_max, s_min, s_tupG, s_seqT, s_seqR, s_seqF, s_cat, s_eqII, s_neII, s_eqBB, s_neBB, s_isN0, s_isNb, s_isNi, s_isNs, s_isNt, s_isNr, s_gN, s_gsNil, s_gsCons, s_gT, s_gSb, s_putM, s_asg, s_ret, s_retN, s_nx, s_drop, s_thnN, s_thnR, s_seq, s_ifS, s_par, s_for, s_forN, s_forC, s_gok, s_while, s_iT, s_iL, s_iNL, s_iR1, s_iR2, s_iEn, s_iZT, s_lc, s_lcN, s_lcC, s_raw, s_outN, s_outR, s_mulL, s_mulR, s_modP, s_divP, k_NoneType_bool, k_NoneType_int, k_NoneType_str, k_NoneType_dict, k_NoneType_tuple, k_NoneType_list, k_bool_bool, k_bool_int, k_bool_str, k_bool_dict, k_bool_tuple, k_bool_list, k_int_bool, k_int_int, k_int_str, k_int_dict, k_int_tuple, k_int_list, k_str_bool, k_str_int, k_str_str, k_str_dict, k_str_tuple, k_str_list, k_tuple_bool, k_tuple_int, k_tuple_str, k_tuple_dict, k_tuple_tuple, k_tuple_list, k_list_bool, k_list_int, k_list_str, k_list_dict, k_list_tuple, k_list_list, k_dict_bool, k_dict_int, k_dict_str, k_dict_dict, k_dict_tuple, k_dict_list, s_isG, s_isG2, s_tyN, s_tyB, s_tyI, s_tyS, s_tyT, s_tyF, s_tyR, s_lenD, s_emp, s_isX, s_gf, s_mkX, s_mk0, s_resR, s_gok1, s_gdR, s_gdF, s_enN, s_enC, s_bsN, s_bsC, s_anyL, s_allL, s_rng0, s_rng1, s_rng2, s_rng3, s_rng4, s_cast, s_cast0, s_cast1, s_toNat0, s_toNat1, s_toNat2, startR, List.length_cons, List.length_nil, List.map_cons, List.map_nil, List.replicate, List.cons_append, List.nil_append, bnd_some, bnd_none, List.length_map, List.getElem?_cons_zero, List.getElem?_cons_succ, List.getElem?_nil, List.set_cons_zero, List.set_cons_succ, if_true, if_false, Int.reducePow, Int.reduceNeg, Int.reduceLT, Int.reduceLE, Int.reduceAdd, Int.reduceMul, Int.reduceSub, Nat.reduceLT, Nat.reduceLeDiff, Nat.reduceEqDiff, Int.reduceEq, and_self, and_true, true_and, Int.cast_ofNat_Int, Int.reduceToNat, Nat.sub_self, get_at, get_at0, List.length_append, List.append_assoc, Bool.or_false, Bool.false_or, Bool.or_true, Bool.true_or, Bool.and_true, Bool.true_and, Bool.not_true, Bool.not_false, beq_self_eq_true, List.all_cons, List.all_nil, List.any_cons, List.any_nil, id, Nat.reduceAdd, Bool.false_eq_true, decide_eq_true_eq, wipeR, decide_true])
theorem same_non {n : Nat} {M : Mem} (hM : clM M.length M = true) : Same (n + 1) M .non := same_of hM (by
  simp -implicitDefEqProofs only [B__law_alike, s_c, s_var, s_nil, s_cons, s_tup, s_lst, s_trk, s_op, s_lop, s_op1, s_un, s_unM, s_tB, s_asB, s_and, s_or, s_not, s_if, s_chain, s_tand, s_tor, s_tnot, s_tyes, s_cb, s_lcb, s_of, s_call, s_add, s_sub, s_pow, s_lt, s_le, s_gt, s_ge, s_neg, s_ixT, s_ixL, s_ixt, s_ixr, s_ixf, s_atR, s_atF, s_ix0, s_ix1, s_ix2, s_ix3, s_lenT, s_lenR, s_lenF, s_int, s_intB, s_abs, s_max, s_min, s_tupG, s_seqT, s_seqR, s_seqF, s_cat, s_eqII, s_neII, s_eqBB, s_neBB, s_isN0, s_isNb, s_isNi, s_isNs, s_isNt, s_isNr, s_gN, s_gsNil, s_gsCons, s_gT, s_gSb, s_putM, s_asg, s_ret, s_retN, s_nx, s_drop, s_thnN, s_thnR, s_seq, s_ifS, s_par, s_for, s_forN, s_forC, s_gok, s_while, s_iT, s_iL, s_iNL, s_iR1, s_iR2, s_iEn, s_iZT, s_lc, s_lcN, s_lcC, s_raw, s_outN, s_outR, s_mulL, s_mulR, s_modP, s_divP, k_NoneType_bool, k_NoneType_int, k_NoneType_str, k_NoneType_dict, k_NoneType_tuple, k_NoneType_list, k_bool_bool, k_bool_int, k_bool_str, k_bool_dict, k_bool_tuple, k_bool_list, k_int_bool, k_int_int, k_int_str, k_int_dict, k_int_tuple, k_int_list, k_str_bool, k_str_int, k_str_str, k_str_dict, k_str_tuple, k_str_list, k_tuple_bool, k_tuple_int, k_tuple_str, k_tuple_dict, k_tuple_tuple, k_tuple_list, k_list_bool, k_list_int, k_list_str, k_list_dict, k_list_tuple, k_list_list, k_dict_bool, k_dict_int, k_dict_str, k_dict_dict, k_dict_tuple, k_dict_list, s_isG, s_isG2, s_tyN, s_tyB, s_tyI, s_tyS, s_tyT, s_tyF, s_tyR, s_lenD, s_emp, s_isX, s_gf, s_mkX, s_mk0, s_resR, s_gok1, s_gdR, s_gdF, s_enN, s_enC, s_bsN, s_bsC, s_anyL, s_allL, s_rng0, s_rng1, s_rng2, s_rng3, s_rng4, s_cast, s_cast0, s_cast1, s_toNat0, s_toNat1, s_toNat2, startR, List.length_cons, List.length_nil, List.map_cons, List.map_nil, List.replicate, List.cons_append, List.nil_append, bnd_some, bnd_none, List.length_map, List.getElem?_cons_zero, List.getElem?_cons_succ, List.getElem?_nil, List.set_cons_zero, List.set_cons_succ, if_true, if_false, Int.reducePow, Int.reduceNeg, Int.reduceLT, Int.reduceLE, Int.reduceAdd, Int.reduceMul, Int.reduceSub, Nat.reduceLT, Nat.reduceLeDiff, Nat.reduceEqDiff, Int.reduceEq, and_self, and_true, true_and, Int.cast_ofNat_Int, Int.reduceToNat, Nat.sub_self, get_at, get_at0, List.length_append, List.append_assoc, Bool.or_false, Bool.false_or, Bool.or_true, Bool.true_or, Bool.and_true, Bool.true_and, Bool.not_true, Bool.not_false, beq_self_eq_true, List.all_cons, List.all_nil, List.any_cons, List.any_nil, id, Nat.reduceAdd, Bool.false_eq_true, decide_eq_true_eq, wipeR, decide_true])
theorem same_bl {n : Nat} {M : Mem} {b : Bool} (hM : clM M.length M = true) : Same (n + 1) M (.bl b) := same_of hM (by
  simp -implicitDefEqProofs only [B__law_alike, s_c, s_var, s_nil, s_cons, s_tup, s_lst, s_trk, s_op, s_lop, s_op1, s_un, s_unM, s_tB, s_asB, s_and, s_or, s_not, s_if, s_chain, s_tand, s_tor, s_tnot, s_tyes, s_cb, s_lcb, s_of, s_call, s_add, s_sub, s_pow, s_lt, s_le, s_gt, s_ge, s_neg, s_ixT, s_ixL, s_ixt, s_ixr, s_ixf, s_atR, s_atF, s_ix0, s_ix1, s_ix2, s_ix3, s_lenT, s_lenR, s_lenF, s_int, s_intB, s_abs, s_max, s_min, s_tupG, s_seqT, s_seqR, s_seqF, s_cat, s_eqII, s_neII, s_eqBB, s_neBB, s_isN0, s_isNb, s_isNi, s_isNs, s_isNt, s_isNr, s_gN, s_gsNil, s_gsCons, s_gT, s_gSb, s_putM, s_asg, s_ret, s_retN, s_nx, s_drop, s_thnN, s_thnR, s_seq, s_ifS, s_par, s_for, s_forN, s_forC, s_gok, s_while, s_iT, s_iL, s_iNL, s_iR1, s_iR2, s_iEn, s_iZT, s_lc, s_lcN, s_lcC, s_raw, s_outN, s_outR, s_mulL, s_mulR, s_modP, s_divP, k_NoneType_bool, k_NoneType_int, k_NoneType_str, k_NoneType_dict, k_NoneType_tuple, k_NoneType_list, k_bool_bool, k_bool_int, k_bool_str, k_bool_dict, k_bool_tuple, k_bool_list, k_int_bool, k_int_int, k_int_str, k_int_dict, k_int_tuple, k_int_list, k_str_bool, k_str_int, k_str_str, k_str_dict, k_str_tuple, k_str_list, k_tuple_bool, k_tuple_int, k_tuple_str, k_tuple_dict, k_tuple_tuple, k_tuple_list, k_list_bool, k_list_int, k_list_str, k_list_dict, k_list_tuple, k_list_list, k_dict_bool, k_dict_int, k_dict_str, k_dict_dict, k_dict_tuple, k_dict_list, s_isG, s_isG2, s_tyN, s_tyB, s_tyI, s_tyS, s_tyT, s_tyF, s_tyR, s_lenD, s_emp, s_isX, s_gf, s_mkX, s_mk0, s_resR, s_gok1, s_gdR, s_gdF, s_enN, s_enC, s_bsN, s_bsC, s_anyL, s_allL, s_rng0, s_rng1, s_rng2, s_rng3, s_rng4, s_cast, s_cast0, s_cast1, s_toNat0, s_toNat1, s_toNat2, startR, List.length_cons, List.length_nil, List.map_cons, List.map_nil, List.replicate, List.cons_append, List.nil_append, bnd_some, bnd_none, List.length_map, List.getElem?_cons_zero, List.getElem?_cons_succ, List.getElem?_nil, List.set_cons_zero, List.set_cons_succ, if_true, if_false, Int.reducePow, Int.reduceNeg, Int.reduceLT, Int.reduceLE, Int.reduceAdd, Int.reduceMul, Int.reduceSub, Nat.reduceLT, Nat.reduceLeDiff, Nat.reduceEqDiff, Int.reduceEq, and_self, and_true, true_and, Int.cast_ofNat_Int, Int.reduceToNat, Nat.sub_self, get_at, get_at0, List.length_append, List.append_assoc, Bool.or_false, Bool.false_or, Bool.or_true, Bool.true_or, Bool.and_true, Bool.true_and, Bool.not_true, Bool.not_false, beq_self_eq_true, List.all_cons, List.all_nil, List.any_cons, List.any_nil, id, Nat.reduceAdd, Bool.false_eq_true, decide_eq_true_eq, wipeR, decide_true])
theorem same_str {n : Nat} {M : Mem} {x : Str} (hM : clM M.length M = true) (hx : gEq M (.str x) (.str x) = some (.bl true)) : Same (n + 1) M (.str x) := same_of hM (by
  simp -implicitDefEqProofs only [B__law_alike, s_c, s_var, s_nil, s_cons, s_tup, s_lst, s_trk, s_op, s_lop, s_op1, s_un, s_unM, s_tB, s_asB, s_and, s_or, s_not, s_if, s_chain, s_tand, s_tor, s_tnot, s_tyes, s_cb, s_lcb, s_of, s_call, s_add, s_sub, s_pow, s_lt, s_le, s_gt, s_ge, s_neg, s_ixT, s_ixL, s_ixt, s_ixr, s_ixf, s_atR, s_atF, s_ix0, s_ix1, s_ix2, s_ix3, s_lenT, s_lenR, s_lenF, s_int, s_intB, s_abs, s_max, s_min, s_tupG, s_seqT, s_seqR, s_seqF, s_cat, s_eqII, s_neII, s_eqBB, s_neBB, s_isN0, s_isNb, s_isNi, s_isNs, s_isNt, s_isNr, s_gN, s_gsNil, s_gsCons, s_gT, s_gSb, s_putM, s_asg, s_ret, s_retN, s_nx, s_drop, s_thnN, s_thnR, s_seq, s_ifS, s_par, s_for, s_forN, s_forC, s_gok, s_while, s_iT, s_iL, s_iNL, s_iR1, s_iR2, s_iEn, s_iZT, s_lc, s_lcN, s_lcC, s_raw, s_outN, s_outR, s_mulL, s_mulR, s_modP, s_divP, k_NoneType_bool, k_NoneType_int, k_NoneType_str, k_NoneType_dict, k_NoneType_tuple, k_NoneType_list, k_bool_bool, k_bool_int, k_bool_str, k_bool_dict, k_bool_tuple, k_bool_list, k_int_bool, k_int_int, k_int_str, k_int_dict, k_int_tuple, k_int_list, k_str_bool, k_str_int, k_str_str, k_str_dict, k_str_tuple, k_str_list, k_tuple_bool, k_tuple_int, k_tuple_str, k_tuple_dict, k_tuple_tuple, k_tuple_list, k_list_bool, k_list_int, k_list_str, k_list_dict, k_list_tuple, k_list_list, k_dict_bool, k_dict_int, k_dict_str, k_dict_dict, k_dict_tuple, k_dict_list, s_isG, s_isG2, s_tyN, s_tyB, s_tyI, s_tyS, s_tyT, s_tyF, s_tyR, s_lenD, s_emp, s_isX, s_gf, s_mkX, s_mk0, s_resR, s_gok1, s_gdR, s_gdF, s_enN, s_enC, s_bsN, s_bsC, s_anyL, s_allL, s_rng0, s_rng1, s_rng2, s_rng3, s_rng4, s_cast, s_cast0, s_cast1, s_toNat0, s_toNat1, s_toNat2, startR, List.length_cons, List.length_nil, List.map_cons, List.map_nil, List.replicate, List.cons_append, List.nil_append, bnd_some, bnd_none, List.length_map, List.getElem?_cons_zero, List.getElem?_cons_succ, List.getElem?_nil, List.set_cons_zero, List.set_cons_succ, if_true, if_false, Int.reducePow, Int.reduceNeg, Int.reduceLT, Int.reduceLE, Int.reduceAdd, Int.reduceMul, Int.reduceSub, Nat.reduceLT, Nat.reduceLeDiff, Nat.reduceEqDiff, Int.reduceEq, and_self, and_true, true_and, Int.cast_ofNat_Int, Int.reduceToNat, Nat.sub_self, get_at, get_at0, List.length_append, List.append_assoc, Bool.or_false, Bool.false_or, Bool.or_true, Bool.true_or, Bool.and_true, Bool.true_and, Bool.not_true, Bool.not_false, beq_self_eq_true, List.all_cons, List.all_nil, List.any_cons, List.any_nil, id, Nat.reduceAdd, Bool.false_eq_true, decide_eq_true_eq, wipeR, decide_true, hx])
theorem same_tup0 {n : Nat} {M : Mem} (hM : clM M.length M = true) : Same (n + 1) M (.tup []) := same_of hM (by
  simp -implicitDefEqProofs only [B__law_alike, s_c, s_var, s_nil, s_cons, s_tup, s_lst, s_trk, s_op, s_lop, s_op1, s_un, s_unM, s_tB, s_asB, s_and, s_or, s_not, s_if, s_chain, s_tand, s_tor, s_tnot, s_tyes, s_cb, s_lcb, s_of, s_call, s_add, s_sub, s_pow, s_lt, s_le, s_gt, s_ge, s_neg, s_ixT, s_ixL, s_ixt, s_ixr, s_ixf, s_atR, s_atF, s_ix0, s_ix1, s_ix2, s_ix3, s_lenT, s_lenR, s_lenF, s_int, s_intB, s_abs, s_max, s_min, s_tupG, s_seqT, s_seqR, s_seqF, s_cat, s_eqII, s_neII, s_eqBB, s_neBB, s_isN0, s_isNb, s_isNi, s_isNs, s_isNt, s_isNr, s_gN, s_gsNil, s_gsCons, s_gT, s_gSb, s_putM, s_asg, s_ret, s_retN, s_nx, s_drop, s_thnN, s_thnR, s_seq, s_ifS, s_par, s_for, s_forN, s_forC, s_gok, s_while, s_iT, s_iL, s_iNL, s_iR1, s_iR2, s_iEn, s_iZT, s_lc, s_lcN, s_lcC, s_raw, s_outN, s_outR, s_mulL, s_mulR, s_modP, s_divP, k_NoneType_bool, k_NoneType_int, k_NoneType_str, k_NoneType_dict, k_NoneType_tuple, k_NoneType_list, k_bool_bool, k_bool_int, k_bool_str, k_bool_dict, k_bool_tuple, k_bool_list, k_int_bool, k_int_int, k_int_str, k_int_dict, k_int_tuple, k_int_list, k_str_bool, k_str_int, k_str_str, k_str_dict, k_str_tuple, k_str_list, k_tuple_bool, k_tuple_int, k_tuple_str, k_tuple_dict, k_tuple_tuple, k_tuple_list, k_list_bool, k_list_int, k_list_str, k_list_dict, k_list_tuple, k_list_list, k_dict_bool, k_dict_int, k_dict_str, k_dict_dict, k_dict_tuple, k_dict_list, s_isG, s_isG2, s_tyN, s_tyB, s_tyI, s_tyS, s_tyT, s_tyF, s_tyR, s_lenD, s_emp, s_isX, s_gf, s_mkX, s_mk0, s_resR, s_gok1, s_gdR, s_gdF, s_enN, s_enC, s_bsN, s_bsC, s_anyL, s_allL, s_rng0, s_rng1, s_rng2, s_rng3, s_rng4, s_cast, s_cast0, s_cast1, s_toNat0, s_toNat1, s_toNat2, startR, List.length_cons, List.length_nil, List.map_cons, List.map_nil, List.replicate, List.cons_append, List.nil_append, bnd_some, bnd_none, List.length_map, List.getElem?_cons_zero, List.getElem?_cons_succ, List.getElem?_nil, List.set_cons_zero, List.set_cons_succ, if_true, if_false, Int.reducePow, Int.reduceNeg, Int.reduceLT, Int.reduceLE, Int.reduceAdd, Int.reduceMul, Int.reduceSub, Nat.reduceLT, Nat.reduceLeDiff, Nat.reduceEqDiff, Int.reduceEq, and_self, and_true, true_and, Int.cast_ofNat_Int, Int.reduceToNat, Nat.sub_self, get_at, get_at0, List.length_append, List.append_assoc, Bool.or_false, Bool.false_or, Bool.or_true, Bool.true_or, Bool.and_true, Bool.true_and, Bool.not_true, Bool.not_false, beq_self_eq_true, List.all_cons, List.all_nil, List.any_cons, List.any_nil, id, Nat.reduceAdd, Bool.false_eq_true, decide_eq_true_eq, wipeR, decide_true, Nat.zero_le])
theorem same_tup2 {n : Nat} {M : Mem} {a b : Va} (hM : clM M.length M = true) (ha : Same n M a) (hb : Same n M b) : Same (n + 1) M (.tup [a, b]) := same_of hM (by
  have ha' : G__law_alike n [a, a] M = some (.bl true, M) := ha
  have hb' : G__law_alike n [b, b] M = some (.bl true, M) := hb
  simp -implicitDefEqProofs only [B__law_alike, s_c, s_var, s_nil, s_cons, s_tup, s_lst, s_trk, s_op, s_lop, s_op1, s_un, s_unM, s_tB, s_asB, s_and, s_or, s_not, s_if, s_chain, s_tand, s_tor, s_tnot, s_tyes, s_cb, s_lcb, s_of, s_call, s_add, s_sub, s_pow, s_lt, s_le, s_gt, s_ge, s_neg, s_ixT, s_ixL, s_ixt, s_ixr, s_ixf, s_atR, s_atF, s_ix0, s_ix1, s_ix2, s_ix3, s_lenT, s_lenR, s_lenF, s_int, s_intB, s_abs, s_max, s_min, s_tupG, s_seqT, s_seqR, s_seqF, s_cat, s_eqII, s_neII, s_eqBB, s_neBB, s_isN0, s_isNb, s_isNi, s_isNs, s_isNt, s_isNr, s_gN, s_gsNil, s_gsCons, s_gT, s_gSb, s_putM, s_asg, s_ret, s_retN, s_nx, s_drop, s_thnN, s_thnR, s_seq, s_ifS, s_par, s_for, s_forN, s_forC, s_gok, s_while, s_iT, s_iL, s_iNL, s_iR1, s_iR2, s_iEn, s_iZT, s_lc, s_lcN, s_lcC, s_raw, s_outN, s_outR, s_mulL, s_mulR, s_modP, s_divP, k_NoneType_bool, k_NoneType_int, k_NoneType_str, k_NoneType_dict, k_NoneType_tuple, k_NoneType_list, k_bool_bool, k_bool_int, k_bool_str, k_bool_dict, k_bool_tuple, k_bool_list, k_int_bool, k_int_int, k_int_str, k_int_dict, k_int_tuple, k_int_list, k_str_bool, k_str_int, k_str_str, k_str_dict, k_str_tuple, k_str_list, k_tuple_bool, k_tuple_int, k_tuple_str, k_tuple_dict, k_tuple_tuple, k_tuple_list, k_list_bool, k_list_int, k_list_str, k_list_dict, k_list_tuple, k_list_list, k_dict_bool, k_dict_int, k_dict_str, k_dict_dict, k_dict_tuple, k_dict_list, s_isG, s_isG2, s_tyN, s_tyB, s_tyI, s_tyS, s_tyT, s_tyF, s_tyR, s_lenD, s_emp, s_isX, s_gf, s_mkX, s_mk0, s_resR, s_gok1, s_gdR, s_gdF, s_enN, s_enC, s_bsN, s_bsC, s_anyL, s_allL, s_rng0, s_rng1, s_rng2, s_rng3, s_rng4, s_cast, s_cast0, s_cast1, s_toNat0, s_toNat1, s_toNat2, startR, List.length_cons, List.length_nil, List.map_cons, List.map_nil, List.replicate, List.cons_append, List.nil_append, bnd_some, bnd_none, List.length_map, List.getElem?_cons_zero, List.getElem?_cons_succ, List.getElem?_nil, List.set_cons_zero, List.set_cons_succ, if_true, if_false, Int.reducePow, Int.reduceNeg, Int.reduceLT, Int.reduceLE, Int.reduceAdd, Int.reduceMul, Int.reduceSub, Nat.reduceLT, Nat.reduceLeDiff, Nat.reduceEqDiff, Int.reduceEq, and_self, and_true, true_and, Int.cast_ofNat_Int, Int.reduceToNat, Nat.sub_self, get_at, get_at0, List.length_append, List.append_assoc, Bool.or_false, Bool.false_or, Bool.or_true, Bool.true_or, Bool.and_true, Bool.true_and, Bool.not_true, Bool.not_false, beq_self_eq_true, List.all_cons, List.all_nil, List.any_cons, List.any_nil, id, Nat.reduceAdd, Bool.false_eq_true, decide_eq_true_eq, wipeR, decide_true, ha', hb'])
theorem same_lst1 {n k : Nat} {M : Mem} {a : Va} (hM : clM M.length M = true) (hk : M[k]? = some (.lst [a])) (ha : Same n M a) : Same (n + 1) M (.ref k) := same_of hM (by
  have ha' : G__law_alike n [a, a] M = some (.bl true, M) := ha
  simp -implicitDefEqProofs only [B__law_alike, s_c, s_var, s_nil, s_cons, s_tup, s_lst, s_trk, s_op, s_lop, s_op1, s_un, s_unM, s_tB, s_asB, s_and, s_or, s_not, s_if, s_chain, s_tand, s_tor, s_tnot, s_tyes, s_cb, s_lcb, s_of, s_call, s_add, s_sub, s_pow, s_lt, s_le, s_gt, s_ge, s_neg, s_ixT, s_ixL, s_ixt, s_ixr, s_ixf, s_atR, s_atF, s_ix0, s_ix1, s_ix2, s_ix3, s_lenT, s_lenR, s_lenF, s_int, s_intB, s_abs, s_max, s_min, s_tupG, s_seqT, s_seqR, s_seqF, s_cat, s_eqII, s_neII, s_eqBB, s_neBB, s_isN0, s_isNb, s_isNi, s_isNs, s_isNt, s_isNr, s_gN, s_gsNil, s_gsCons, s_gT, s_gSb, s_putM, s_asg, s_ret, s_retN, s_nx, s_drop, s_thnN, s_thnR, s_seq, s_ifS, s_par, s_for, s_forN, s_forC, s_gok, s_while, s_iT, s_iL, s_iNL, s_iR1, s_iR2, s_iEn, s_iZT, s_lc, s_lcN, s_lcC, s_raw, s_outN, s_outR, s_mulL, s_mulR, s_modP, s_divP, k_NoneType_bool, k_NoneType_int, k_NoneType_str, k_NoneType_dict, k_NoneType_tuple, k_NoneType_list, k_bool_bool, k_bool_int, k_bool_str, k_bool_dict, k_bool_tuple, k_bool_list, k_int_bool, k_int_int, k_int_str, k_int_dict, k_int_tuple, k_int_list, k_str_bool, k_str_int, k_str_str, k_str_dict, k_str_tuple, k_str_list, k_tuple_bool, k_tuple_int, k_tuple_str, k_tuple_dict, k_tuple_tuple, k_tuple_list, k_list_bool, k_list_int, k_list_str, k_list_dict, k_list_tuple, k_list_list, k_dict_bool, k_dict_int, k_dict_str, k_dict_dict, k_dict_tuple, k_dict_list, s_isG, s_isG2, s_tyN, s_tyB, s_tyI, s_tyS, s_tyT, s_tyF, s_tyR, s_lenD, s_emp, s_isX, s_gf, s_mkX, s_mk0, s_resR, s_gok1, s_gdR, s_gdF, s_enN, s_enC, s_bsN, s_bsC, s_anyL, s_allL, s_rng0, s_rng1, s_rng2, s_rng3, s_rng4, s_cast, s_cast0, s_cast1, s_toNat0, s_toNat1, s_toNat2, startR, List.length_cons, List.length_nil, List.map_cons, List.map_nil, List.replicate, List.cons_append, List.nil_append, bnd_some, bnd_none, List.length_map, List.getElem?_cons_zero, List.getElem?_cons_succ, List.getElem?_nil, List.set_cons_zero, List.set_cons_succ, if_true, if_false, Int.reducePow, Int.reduceNeg, Int.reduceLT, Int.reduceLE, Int.reduceAdd, Int.reduceMul, Int.reduceSub, Nat.reduceLT, Nat.reduceLeDiff, Nat.reduceEqDiff, Int.reduceEq, and_self, and_true, true_and, Int.cast_ofNat_Int, Int.reduceToNat, Nat.sub_self, get_at, get_at0, List.length_append, List.append_assoc, Bool.or_false, Bool.false_or, Bool.or_true, Bool.true_or, Bool.and_true, Bool.true_and, Bool.not_true, Bool.not_false, beq_self_eq_true, List.all_cons, List.all_nil, List.any_cons, List.any_nil, id, Nat.reduceAdd, Bool.false_eq_true, decide_eq_true_eq, wipeR, decide_true, ha', hk])
theorem same_emp {n k : Nat} {M : Mem} (hM : clM M.length M = true) (hk : M[k]? = some .emp) : Same (n + 1) M (.ref k) := same_of hM (by
  simp -implicitDefEqProofs only [B__law_alike, s_c, s_var, s_nil, s_cons, s_tup, s_lst, s_trk, s_op, s_lop, s_op1, s_un, s_unM, s_tB, s_asB, s_and, s_or, s_not, s_if, s_chain, s_tand, s_tor, s_tnot, s_tyes, s_cb, s_lcb, s_of, s_call, s_add, s_sub, s_pow, s_lt, s_le, s_gt, s_ge, s_neg, s_ixT, s_ixL, s_ixt, s_ixr, s_ixf, s_atR, s_atF, s_ix0, s_ix1, s_ix2, s_ix3, s_lenT, s_lenR, s_lenF, s_int, s_intB, s_abs, s_max, s_min, s_tupG, s_seqT, s_seqR, s_seqF, s_cat, s_eqII, s_neII, s_eqBB, s_neBB, s_isN0, s_isNb, s_isNi, s_isNs, s_isNt, s_isNr, s_gN, s_gsNil, s_gsCons, s_gT, s_gSb, s_putM, s_asg, s_ret, s_retN, s_nx, s_drop, s_thnN, s_thnR, s_seq, s_ifS, s_par, s_for, s_forN, s_forC, s_gok, s_while, s_iT, s_iL, s_iNL, s_iR1, s_iR2, s_iEn, s_iZT, s_lc, s_lcN, s_lcC, s_raw, s_outN, s_outR, s_mulL, s_mulR, s_modP, s_divP, k_NoneType_bool, k_NoneType_int, k_NoneType_str, k_NoneType_dict, k_NoneType_tuple, k_NoneType_list, k_bool_bool, k_bool_int, k_bool_str, k_bool_dict, k_bool_tuple, k_bool_list, k_int_bool, k_int_int, k_int_str, k_int_dict, k_int_tuple, k_int_list, k_str_bool, k_str_int, k_str_str, k_str_dict, k_str_tuple, k_str_list, k_tuple_bool, k_tuple_int, k_tuple_str, k_tuple_dict, k_tuple_tuple, k_tuple_list, k_list_bool, k_list_int, k_list_str, k_list_dict, k_list_tuple, k_list_list, k_dict_bool, k_dict_int, k_dict_str, k_dict_dict, k_dict_tuple, k_dict_list, s_isG, s_isG2, s_tyN, s_tyB, s_tyI, s_tyS, s_tyT, s_tyF, s_tyR, s_lenD, s_emp, s_isX, s_gf, s_mkX, s_mk0, s_resR, s_gok1, s_gdR, s_gdF, s_enN, s_enC, s_bsN, s_bsC, s_anyL, s_allL, s_rng0, s_rng1, s_rng2, s_rng3, s_rng4, s_cast, s_cast0, s_cast1, s_toNat0, s_toNat1, s_toNat2, startR, List.length_cons, List.length_nil, List.map_cons, List.map_nil, List.replicate, List.cons_append, List.nil_append, bnd_some, bnd_none, List.length_map, List.getElem?_cons_zero, List.getElem?_cons_succ, List.getElem?_nil, List.set_cons_zero, List.set_cons_succ, if_true, if_false, Int.reducePow, Int.reduceNeg, Int.reduceLT, Int.reduceLE, Int.reduceAdd, Int.reduceMul, Int.reduceSub, Nat.reduceLT, Nat.reduceLeDiff, Nat.reduceEqDiff, Int.reduceEq, and_self, and_true, true_and, Int.cast_ofNat_Int, Int.reduceToNat, Nat.sub_self, get_at, get_at0, List.length_append, List.append_assoc, Bool.or_false, Bool.false_or, Bool.or_true, Bool.true_or, Bool.and_true, Bool.true_and, Bool.not_true, Bool.not_false, beq_self_eq_true, List.all_cons, List.all_nil, List.any_cons, List.any_nil, id, Nat.reduceAdd, Bool.false_eq_true, decide_eq_true_eq, wipeR, decide_true, hk])
theorem str_same {M : Mem} {x : Str} (h : SeqAt.shaped (.str x) = true) : gEq M (.str x) (.str x) = some (.bl true) := by
  rw [s_eq]
  show (if (SeqAt.shaped (.str x) && SeqAt.shaped (.str x)) = true then some (Va.bl (x == x)) else none) = _
  rw [h, beq_self_eq_true]
  rfl
/-- the values that are given: t, the lists at p and q -/
def vals (p q : Nat) (t : Int) : List Va := [.non, .int 0, .int (-1), .bl true, .str "", .str "reach any\n", .tup [], .tup [.int 1, .tup [.int 2, .str "a"]], .ref p, .ref q, .int 100000000000000000000000000000, .int t]
theorem vals_same {p q : Nat} {t : Int} {M : Mem} (hM : clM M.length M = true) (hp : M[p]? = some (.lst [.int 3])) (hq : M[q]? = some .emp) {i : Nat} {v : Va} (h : (vals p q t)[i]? = some v) : Same 4 M v := by
  have s1 : gEq M (.str "") (.str "") = some (.bl true) := str_same (by decide +kernel)
  have s2 : gEq M (.str "reach any\n") (.str "reach any\n") = some (.bl true) := str_same (by decide +kernel)
  have s3 : gEq M (.str "a") (.str "a") = some (.bl true) := str_same (by decide +kernel)
  have hi : i < 12 := by
    have := (List.getElem?_eq_some_iff.mp h).1
    exact this
  have hi' : i = 0 ∨ i = 1 ∨ i = 2 ∨ i = 3 ∨ i = 4 ∨ i = 5 ∨ i = 6 ∨ i = 7 ∨ i = 8 ∨ i = 9 ∨ i = 10 ∨ i = 11 := by omega
  rcases hi' with rfl | rfl | rfl | rfl | rfl | rfl | rfl | rfl | rfl | rfl | rfl | rfl <;> cases h
  · exact same_non hM
  · exact same_int hM
  · exact same_int hM
  · exact same_bl hM
  · exact same_str hM s1
  · exact same_str hM s2
  · exact same_tup0 hM
  · exact same_tup2 hM (same_int hM) (same_tup2 hM (same_int hM) (same_str hM s3))
  · exact same_lst1 hM hp (same_int hM)
  · exact same_emp hM hq
  · exact same_int hM
  · exact same_int hM
end X0
namespace X0
open PySem VM
/-- the store while the law looks: the pool at j, behind the old ones the values, then what was let lie -/
def st (M : Mem) (j : Nat) (t a b : Int) (J : Mem) : Mem := M.set j (.lst [.int a, .int b]) ++ (.lst [.int 3] :: .emp :: .lst (vals M.length (M.length + 1) t) :: J)
structure Good (M : Mem) (j : Nat) (t : Int) (M' : Mem) : Prop where
  form : ∃ a b J, M' = st M j t a b J
  cl : clM M'.length M' = true
section
variable {M M' : Mem} {j : Nat} {t : Int}
theorem Good.pool (g : Good M j t M') (hj : j < M.length) : ∃ a b : Int, M'[j]? = some (.lst [.int a, .int b]) := by
  obtain ⟨a, b, J, rfl⟩ := g.form
  exact ⟨a, b, get_app (List.getElem?_set_self hj)⟩
theorem Good.at (g : Good M j t M') (i : Nat) (o : Ob) (h : ([.lst [.int 3], .emp, .lst (vals M.length (M.length + 1) t)] : Mem)[i]? = some o) : M'[M.length + i]? = some o := by
  obtain ⟨a, b, J, rfl⟩ := g.form
  have e : (M.set j (.lst [.int a, .int b])).length = M.length := List.length_set
  unfold st
  rw [← e, get_at]
  exact get_app (M := [.lst [.int 3], .emp, .lst (vals (M.set j (.lst [.int a, .int b])).length ((M.set j (.lst [.int a, .int b])).length + 1) t)]) (by rw [e]; exact h)
theorem Good.set (g : Good M j t M') (hj : j < M.length) (a b : Int) : Good M j t (M'.set j (.lst [.int a, .int b])) := by
  obtain ⟨a', b', J, rfl⟩ := g.form
  refine ⟨⟨a, b, J, ?_⟩, ?_⟩
  · unfold st
    rw [List.set_append_left _ _ (by rw [List.length_set]; exact hj), List.set_set]
  · rw [List.length_set]
    exact clM_set g.cl rfl
theorem Good.app (g : Good M j t M') {o : Ob} (ho : clO M'.length o = true) : Good M j t (M' ++ [o]) := by
  obtain ⟨a', b', J, e⟩ := g.form
  refine ⟨⟨a', b', J ++ [o], by rw [e]; unfold st; simp⟩, ?_⟩
  rw [clM_app, List.length_append]
  have h1 := clM_mono (show M'.length ≤ M'.length + [o].length by omega) g.cl
  have h2 := clO_mono (show M'.length ≤ M'.length + [o].length by omega) ho
  rw [h1]
  show (true && (clO _ o && true)) = true
  rw [h2]
  rfl
theorem Good.len (g : Good M j t M') : M.length + 3 ≤ M'.length := by
  obtain ⟨a', b', J, rfl⟩ := g.form
  unfold st
  rw [List.length_append, List.length_set]
  simp
theorem clAll_get {n : Nat} : ∀ {us : List Va} {i : Nat} {u : Va}, VM.clAll n us = true → us[i]? = some u → VM.cl n u = true
  | [], _, _, _, h => by cases h
  | x :: xs, 0, _, hc, h => by
    cases h
    exact (Bool.and_eq_true_iff.mp (show (VM.cl n x && VM.clAll n xs) = true from hc)).1
  | x :: xs, i + 1, _, hc, h => clAll_get (us := xs) (i := i) (Bool.and_eq_true_iff.mp (show (VM.cl n x && VM.clAll n xs) = true from hc)).2 h
theorem neq_ok {M : Mem} {r : Nat} {k : Nat} (h : M[r]? = some (.lst (kinds (1 + k)))) : gNeL M (.ref r) [.int k] = some (.bl false) := by
  have e : kinds (1 + k) = [.int k] := by
    unfold kinds
    rw [if_neg (by omega)]
    have : ((1 + k : Nat) : Int) - 1 = k := by omega
    rw [this]
  rw [s_neL, s_resR, h, e]
  show (if (SeqAt.shaped (.list [.int (k : Int)]) && SeqAt.shaped (.list [.int (k : Int)])) = true then some (Va.bl (!(((k : Int) == (k : Int)) && true))) else none) = _
  rw [show SeqAt.shaped (.list [.int (k : Int)]) = true from rfl, beq_self_eq_true]
  rfl
theorem turn_ok (hj : j < M.length) (g : Good M j t M') {k : Nat} (hk : k < 18) (x3 x4 x5 : Option Va) :
    ∃ v e M'', L2__law_right [some (.ref j), some (.ref (M.length + 2)), some (.int k), x3, x4, x5] M' = some (.nx [some (.ref j), some (.ref (M.length + 2)), some (.int k), some v, some e, some v] M'') ∧ Good M j t M'' := by
  obtain ⟨a, b, hp⟩ := g.pool hj
  obtain ⟨i, v, a1, b1, hi, hv, e1⟩ := one_ok g.cl hp (g.at 2 _ rfl) (by omega) rfl
  have g1 := g.set hj a1 b1
  obtain ⟨a, b, hp1⟩ := g1.pool hj
  obtain ⟨r, a2, b2, h1, h2, e2⟩ := take_ok g1.cl hp1 (many := 2) (by decide) (by decide)
  have g2 := g1.set hj a2 b2
  generalize M'.set j (.lst [.int a1, .int b1]) = M1 at *
  generalize M1.set j (.lst [.int a2, .int b2]) = M2 at *
  have e3 := fun x : Bool => made_ok (k := k) (v := v) (b := x) (M := M2) hk
  have hl2 := g2.len
  have hcv2 : cl M2.length v = true := clAll_get (clM_get g2.cl (g2.at 2 _ rfl)) hv
  have g3 : Good M j t (M2 ++ [.exc (1 + k) [(fld (1 + k), v)]]) := g2.app (by show (cl _ v && true) = true; rw [hcv2]; rfl)
  have e4 : G__law_alike 4 [v, v] (M2 ++ [.exc (1 + k) [(fld (1 + k), v)]]) = some (.bl true, M2 ++ [.exc (1 + k) [(fld (1 + k), v)]]) := vals_same g3.cl (g3.at 0 _ rfl) (g3.at 1 _ rfl) hv
  have hx : (M2 ++ [.exc (1 + k) [(fld (1 + k), v)]] : Mem)[M2.length]? = some (.exc (1 + k) [(fld (1 + k), v)]) := get_at0
  have e5 := kinds_ok g3.cl hx (by omega)
  have g4 : Good M j t ((M2 ++ [.exc (1 + k) [(fld (1 + k), v)]]) ++ [.lst (kinds (1 + k))]) := g3.app (by unfold kinds; split <;> rfl)
  have e6 : gNeL ((M2 ++ [.exc (1 + k) [(fld (1 + k), v)]]) ++ [.lst (kinds (1 + k))]) (.ref (M2 ++ [.exc (1 + k) [(fld (1 + k), v)]] : Mem).length) [.int k] = some (.bl false) := neq_ok get_at0
  have hy := get_app (X := [.lst (kinds (1 + k))]) hx
  have a1 : ansC 0 (1 + k) = some true := if_pos (by omega)
  have a2 : ansV (1 + k) = some true := if_pos (by omega)
  generalize M2 ++ [.exc (1 + k) [(fld (1 + k), v)]] = M3 at *
  generalize M3 ++ [.lst (kinds (1 + k))] = M4 at *
  refine ⟨v, .ref M2.length, M4, ?_, g4⟩
  simp -implicitDefEqProofs only [L2__law_right, s_c, s_var, s_nil, s_cons, s_tup, s_lst, s_trk, s_op, s_lop, s_op1, s_un, s_unM, s_tB, s_asB, s_and, s_or, s_not, s_if, s_chain, s_tand, s_tor, s_tnot, s_tyes, s_cb, s_lcb, s_of, s_call, s_add, s_sub, s_pow, s_lt, s_le, s_gt, s_ge, s_neg, s_ixT, s_ixL, s_ixt, s_ixr, s_ixf, s_atR, s_atF, s_ix0, s_ix1, s_ix2, s_ix3, s_lenT, s_lenR, s_lenF, s_int, s_intB, s_abs, s_max, s_min, s_tupG, s_seqT, s_seqR, s_seqF, s_cat, s_eqII, s_neII, s_eqBB, s_neBB, s_isN0, s_isNb, s_isNi, s_isNs, s_isNt, s_isNr, s_gN, s_gsNil, s_gsCons, s_gT, s_gSb, s_putM, s_asg, s_ret, s_retN, s_nx, s_drop, s_thnN, s_thnR, s_seq, s_ifS, s_par, s_for, s_forN, s_forC, s_gok, s_while, s_iT, s_iL, s_iNL, s_iR1, s_iR2, s_iEn, s_iZT, s_lc, s_lcN, s_lcC, s_raw, s_outN, s_outR, s_mulL, s_mulR, s_modP, s_divP, k_NoneType_bool, k_NoneType_int, k_NoneType_str, k_NoneType_dict, k_NoneType_tuple, k_NoneType_list, k_bool_bool, k_bool_int, k_bool_str, k_bool_dict, k_bool_tuple, k_bool_list, k_int_bool, k_int_int, k_int_str, k_int_dict, k_int_tuple, k_int_list, k_str_bool, k_str_int, k_str_str, k_str_dict, k_str_tuple, k_str_list, k_tuple_bool, k_tuple_int, k_tuple_str, k_tuple_dict, k_tuple_tuple, k_tuple_list, k_list_bool, k_list_int, k_list_str, k_list_dict, k_list_tuple, k_list_list, k_dict_bool, k_dict_int, k_dict_str, k_dict_dict, k_dict_tuple, k_dict_list, s_isG, s_isG2, s_tyN, s_tyB, s_tyI, s_tyS, s_tyT, s_tyF, s_tyR, s_lenD, s_emp, s_isX, s_gf, s_mkX, s_mk0, s_resR, s_gok1, s_gdR, s_gdF, s_enN, s_enC, s_bsN, s_bsC, s_anyL, s_allL, s_rng0, s_rng1, s_rng2, s_rng3, s_rng4, s_cast, s_cast0, s_cast1, s_toNat0, s_toNat1, s_toNat2, startR, List.length_cons, List.length_nil, List.map_cons, List.map_nil, List.replicate, List.cons_append, List.nil_append, bnd_some, bnd_none, List.length_map, List.getElem?_cons_zero, List.getElem?_cons_succ, List.getElem?_nil, List.set_cons_zero, List.set_cons_succ, if_true, if_false, Int.reducePow, Int.reduceNeg, Int.reduceLT, Int.reduceLE, Int.reduceAdd, Int.reduceMul, Int.reduceSub, Nat.reduceLT, Nat.reduceLeDiff, Nat.reduceEqDiff, Int.reduceEq, and_self, and_true, true_and, Int.cast_ofNat_Int, Int.reduceToNat, Nat.sub_self, get_at, get_at0, List.length_append, List.append_assoc, Bool.or_false, Bool.false_or, Bool.or_true, Bool.true_or, Bool.and_true, Bool.true_and, Bool.not_true, Bool.not_false, beq_self_eq_true, List.all_cons, List.all_nil, List.any_cons, List.any_nil, id, Nat.reduceAdd, Bool.false_eq_true, decide_eq_true_eq, wipeR, e1, e2, e3, e4, e5, e6, hy, a1, a2]
theorem loop_ok (hj : j < M.length) : ∀ (ks : List Nat) {M' : Mem} (x2 x3 x4 x5 : Option Va), (∀ k ∈ ks, k < 18) → Good M j t M' → ∃ y2 y3 y4 y5 M'', forGo [] (gN 2) L2__law_right (ks.map fun (k : Nat) => Va.int (k : Int)) [some (.ref j), some (.ref (M.length + 2)), x2, x3, x4, x5] M' = some (.nx [some (.ref j), some (.ref (M.length + 2)), y2, y3, y4, y5] M'') ∧ Good M j t M''
  | [], M', x2, x3, x4, x5, _, g => ⟨x2, x3, x4, x5, M', rfl, g⟩
  | k :: ks, M', x2, x3, x4, x5, hk, g => by
    obtain ⟨v, e, M1, h1, g1⟩ := turn_ok hj g (hk k (by simp)) x3 x4 x5
    obtain ⟨y2, y3, y4, y5, M2, h2, g2⟩ := loop_ok hj ks (some (.int k)) (some v) (some e) (some v) (fun i hi => hk i (by simp [hi])) g1
    refine ⟨y2, y3, y4, y5, M2, ?_, g2⟩
    show (if gok [] M' = true then bnd (L2__law_right [some (.ref j), some (.ref (M.length + 2)), some (.int k), x3, x4, x5] M') (thenO (forGo [] (gN 2) L2__law_right (ks.map fun (k : Nat) => Va.int (k : Int)))) else none) = _
    rw [if_pos s_gok, h1]
    exact h2
theorem neqc_ok {M : Mem} {r : Nat} {k : Nat} (h : M[r]? = some (.lst (kinds (1 + k)))) {i : Int} (hi : i = k) : gNeL M (.ref r) [.int i] = some (.bl false) := by
  rw [hi]
  exact neq_ok h
theorem right_ok {a b : Int} (hM : clM M.length M = true) (hj : M[j]? = some (.lst [.int a, .int b])) : ∃ a' b' : Int, G__law_right [.ref j] M = some (.bl true, M.set j (.lst [.int a', .int b'])) := by
  have hl : j < M.length := (List.getElem?_eq_some_iff.mp hj).1
  have key : ∃ (t : Int) (M' : Mem), Good M j t M' ∧ rawG 1 6 B__law_right [.ref j] M = some (.bl true, M') := by
    -- the values
    have hM1 : clM (M ++ [.lst [.int 3], .emp] : Mem).length (M ++ [.lst [.int 3], .emp]) = true := by
      rw [clM_app, List.length_append]
      rw [clM_mono (Nat.le_add_right _ _) hM]
      rfl
    obtain ⟨r, a1, b1, _, _, e1⟩ := take_ok hM1 (get_app (X := [.lst [.int 3], .emp]) hj) (many := 99) (by decide) (by decide)
    rw [List.set_append_left _ _ hl] at e1
    have g0 : Good M j r (st M j r a1 b1 []) := ⟨⟨a1, b1, [], rfl⟩, by
      unfold st
      rw [clM_app, List.length_append, List.length_set]
      rw [clM_set (clM_mono (Nat.le_add_right _ _) hM) rfl]
      simp [clM, clO, vals, clAll, VM.cl]⟩
    obtain ⟨y2, y3, y4, y5, M2, e2, g2⟩ := loop_ok hl (List.range 18) none none none none (fun k hk => List.mem_range.mp hk) g0
    have e2' : forGo [] (gN 2) L2__law_right (rngV 0 18) [some (.ref j), some (.ref (M.length + 2)), none, none, none, none] (st M j r a1 b1 []) = some (.nx [some (.ref j), some (.ref (M.length + 2)), y2, y3, y4, y5] M2) := e2
    -- the two without anything
    have g3 := (g2.app (o := .exc 19 []) rfl).app (o := .exc 20 []) rfl
    rw [List.append_assoc] at g3
    have h3 : (M2 ++ ([.exc 19 []] ++ [.exc 20 []]) : Mem)[M2.length]? = some (.exc 19 []) := get_at0
    have h4 : (M2 ++ ([.exc 19 []] ++ [.exc 20 []]) : Mem)[M2.length + 1]? = some (.exc 20 []) := get_at
    generalize hM3 : M2 ++ ([.exc 19 []] ++ [.exc 20 []]) = M3 at *
    have e5 := kinds_ok g3.cl h3 (by decide)
    have g5 := g3.app (o := .lst (kinds 19)) (by rfl)
    have n5 := neqc_ok (k := 18) (get_at0 (M := M3) (X := [.lst (kinds 19)])) (i := 18) rfl
    have h5 := get_app (X := [.lst (kinds 19)]) h3
    have h6 := get_app (X := [.lst (kinds 19)]) h4
    generalize hM5 : M3 ++ [.lst (kinds 19)] = M5 at *
    have e6 := kinds_ok g5.cl h6 (by decide)
    have g6 := g5.app (o := .lst (kinds 20)) (by rfl)
    have n6 := neqc_ok (k := 19) (get_at0 (M := M5) (X := [.lst (kinds 20)])) (i := 19) rfl
    have h7 := get_app (X := [.lst (kinds 20)]) h6
    generalize hM6 : M5 ++ [.lst (kinds 20)] = M6 at *
    -- RoomError()
    have g7 := g6.app (o := .exc 0 []) rfl
    have h8 : (M6 ++ [.exc 0 []] : Mem)[M6.length]? = some (.exc 0 []) := get_at0
    generalize hM7 : M6 ++ [.exc 0 []] = M7 at *
    have g8 := g7.app (o := .exc 0 []) rfl
    have h9 : (M7 ++ [.exc 0 []] : Mem)[M7.length]? = some (.exc 0 []) := get_at0
    generalize hM8 : M7 ++ [.exc 0 []] = M8 at *
    have e9 := kinds_ok g8.cl h9 (by decide)
    have g9 := g8.app (o := .lst (kinds 0)) (by rfl)
    have n9 : gEqL (M8 ++ [.lst (kinds 0)]) (.ref M8.length) [] = some (.bl true) := by
      rw [s_eqL, s_resR, get_at0]
      rfl
    generalize hM9 : M8 ++ [.lst (kinds 0)] = M9 at *
    have c1 : ansC 0 19 = some true := rfl
    have c2 : ansC 0 20 = some true := rfl
    have c3 : ansV 19 = some true := rfl
    have c4 : ansV 20 = some true := rfl
    have c5 : ansV 0 = some true := rfl
    have p1 : gPow (M ++ [.lst [.int 3], .emp]) (.int 10) (.int 29) = some (.int 100000000000000000000000000000) := by rfl
    refine ⟨r, M9, g9, ?_⟩
    have q1 : st M j r a1 b1 [] = M.set j (.lst [.int a1, .int b1]) ++ [.lst [.int 3], .emp, .lst (vals M.length (M.length + 1) r)] := rfl
    rw [q1] at e2'
    simp -implicitDefEqProofs only [vals] at e2'
    have hM3' : M2 ++ [.exc 19 [], .exc 20 []] = M3 := hM3
    simp -implicitDefEqProofs only [B__law_right, L1__law_right, s_c, s_var, s_nil, s_cons, s_tup, s_lst, s_trk, s_op, s_lop, s_op1, s_un, s_unM, s_tB, s_asB, s_and, s_or, s_not, s_if, s_chain, s_tand, s_tor, s_tnot, s_tyes, s_cb, s_lcb, s_of, s_call, s_add, s_sub, s_lt, s_le, s_gt, s_ge, s_neg, s_ixT, s_ixL, s_ixt, s_ixr, s_ixf, s_atR, s_atF, s_ix0, s_ix1, s_ix2, s_ix3, s_lenT, s_lenR, s_lenF, s_int, s_intB, s_abs, s_max, s_min, s_tupG, s_seqT, s_seqR, s_seqF, s_cat, s_eqII, s_neII, s_eqBB, s_neBB, s_isN0, s_isNb, s_isNi, s_isNs, s_isNt, s_isNr, s_gN, s_gsNil, s_gsCons, s_gT, s_gSb, s_putM, s_asg, s_ret, s_retN, s_nx, s_drop, s_thnN, s_thnR, s_seq, s_ifS, s_par, s_for, s_forN, s_forC, s_gok, s_while, s_iT, s_iL, s_iNL, s_iR1, s_iR2, s_iEn, s_iZT, s_lc, s_lcN, s_lcC, s_raw, s_outN, s_outR, s_mulL, s_mulR, s_modP, s_divP, k_NoneType_bool, k_NoneType_int, k_NoneType_str, k_NoneType_dict, k_NoneType_tuple, k_NoneType_list, k_bool_bool, k_bool_int, k_bool_str, k_bool_dict, k_bool_tuple, k_bool_list, k_int_bool, k_int_int, k_int_str, k_int_dict, k_int_tuple, k_int_list, k_str_bool, k_str_int, k_str_str, k_str_dict, k_str_tuple, k_str_list, k_tuple_bool, k_tuple_int, k_tuple_str, k_tuple_dict, k_tuple_tuple, k_tuple_list, k_list_bool, k_list_int, k_list_str, k_list_dict, k_list_tuple, k_list_list, k_dict_bool, k_dict_int, k_dict_str, k_dict_dict, k_dict_tuple, k_dict_list, s_isG, s_isG2, s_tyN, s_tyB, s_tyI, s_tyS, s_tyT, s_tyF, s_tyR, s_lenD, s_emp, s_isX, s_gf, s_mkX, s_mk0, s_resR, s_gok1, s_gdR, s_gdF, s_enN, s_enC, s_bsN, s_bsC, s_anyL, s_allL, s_rng0, s_rng1, s_rng2, s_rng3, s_rng4, s_cast, s_cast0, s_cast1, s_toNat0, s_toNat1, s_toNat2, startR, List.length_cons, List.length_nil, List.map_cons, List.map_nil, List.replicate, List.cons_append, List.nil_append, bnd_some, bnd_none, List.length_map, List.getElem?_cons_zero, List.getElem?_cons_succ, List.getElem?_nil, List.set_cons_zero, List.set_cons_succ, if_true, if_false, Int.reducePow, Int.reduceNeg, Int.reduceLT, Int.reduceLE, Int.reduceAdd, Int.reduceMul, Int.reduceSub, Nat.reduceLT, Nat.reduceLeDiff, Nat.reduceEqDiff, Int.reduceEq, and_self, and_true, true_and, Int.cast_ofNat_Int, Int.reduceToNat, Nat.sub_self, get_at, get_at0, List.length_append, List.append_assoc, Bool.or_false, Bool.false_or, Bool.or_true, Bool.true_or, Bool.and_true, Bool.true_and, Bool.not_true, Bool.not_false, beq_self_eq_true, List.all_cons, List.all_nil, List.any_cons, List.any_nil, id, Nat.reduceAdd, Bool.false_eq_true, decide_eq_true_eq, wipeR, e1, List.length_set, p1, e2', Int.reduceToNat, hM3', e5, n5, h5, e6, n6, h7, c1, c2, c3, c4, c5, hM7, h8, hM8, e9, n9]
  obtain ⟨t, M', g, e⟩ := key
  obtain ⟨a', b', J, rfl⟩ := g.form
  exact ⟨a', b', cutG_of e (by rw [List.length_set]) rfl (clM_set hM rfl)⟩
end
end X0
namespace X0
open PySem VM
theorem turns_ok {ns : List Int} : ∀ (ks : List Nat) {M : Mem} (x1 : Option Va), clM M.length M = true → ∃ y1 M', forGo [] (gN 1) L1_law (ks.map fun (k : Nat) => Va.int (k : Int)) [some (.fl (ns.map Va.int)), x1] M = some (.nx [some (.fl (ns.map Va.int)), y1] M')
  | [], M, x1, _ => ⟨x1, M, rfl⟩
  | k :: ks, M, x1, hM => by
    obtain ⟨a, b, e1⟩ := pool_ok (ns := ns) (k := k) hM
    have hM1 : clM (M ++ [.lst [.int a, .int b]] : Mem).length (M ++ [.lst [.int a, .int b]]) = true := by
      rw [clM_app, List.length_append]
      rw [clM_mono (Nat.le_add_right _ _) hM]
      rfl
    obtain ⟨a', b', e2⟩ := right_ok hM1 (j := M.length) get_at0
    have hM2 : clM ((M ++ [.lst [.int a, .int b]] : Mem).set M.length (.lst [.int a', .int b'])).length ((M ++ [.lst [.int a, .int b]] : Mem).set M.length (.lst [.int a', .int b'])) = true := by
      rw [List.length_set]
      exact clM_set hM1 rfl
    obtain ⟨y1, M', e3⟩ := turns_ok (ns := ns) ks (some (.int k)) hM2
    refine ⟨y1, M', ?_⟩
    show (if gok [] M = true then bnd (L1_law [some (.fl (ns.map Va.int)), some (.int k)] M) (thenO (forGo [] (gN 1) L1_law (ks.map fun (k : Nat) => Va.int (k : Int)))) else none) = _
    have e4 : L1_law [some (.fl (ns.map Va.int)), some (.int k)] M = some (.nx [some (.fl (ns.map Va.int)), some (.int k)] ((M ++ [.lst [.int a, .int b]] : Mem).set M.length (.lst [.int a', .int b']))) := by
      simp -implicitDefEqProofs only [L1_law, s_c, s_var, s_nil, s_cons, s_tup, s_lst, s_trk, s_op, s_lop, s_op1, s_un, s_unM, s_tB, s_asB, s_and, s_or, s_not, s_if, s_chain, s_tand, s_tor, s_tnot, s_tyes, s_cb, s_lcb, s_of, s_call, s_add, s_sub, s_pow, s_lt, s_le, s_gt, s_ge, s_neg, s_ixT, s_ixL, s_ixt, s_ixr, s_ixf, s_atR, s_atF, s_ix0, s_ix1, s_ix2, s_ix3, s_lenT, s_lenR, s_lenF, s_int, s_intB, s_abs, s_max, s_min, s_tupG, s_seqT, s_seqR, s_seqF, s_cat, s_eqII, s_neII, s_eqBB, s_neBB, s_isN0, s_isNb, s_isNi, s_isNs, s_isNt, s_isNr, s_gN, s_gsNil, s_gsCons, s_gT, s_gSb, s_putM, s_asg, s_ret, s_retN, s_nx, s_drop, s_thnN, s_thnR, s_seq, s_ifS, s_par, s_for, s_forN, s_forC, s_gok, s_while, s_iT, s_iL, s_iNL, s_iR1, s_iR2, s_iEn, s_iZT, s_lc, s_lcN, s_lcC, s_raw, s_outN, s_outR, s_mulL, s_mulR, s_modP, s_divP, k_NoneType_bool, k_NoneType_int, k_NoneType_str, k_NoneType_dict, k_NoneType_tuple, k_NoneType_list, k_bool_bool, k_bool_int, k_bool_str, k_bool_dict, k_bool_tuple, k_bool_list, k_int_bool, k_int_int, k_int_str, k_int_dict, k_int_tuple, k_int_list, k_str_bool, k_str_int, k_str_str, k_str_dict, k_str_tuple, k_str_list, k_tuple_bool, k_tuple_int, k_tuple_str, k_tuple_dict, k_tuple_tuple, k_tuple_list, k_list_bool, k_list_int, k_list_str, k_list_dict, k_list_tuple, k_list_list, k_dict_bool, k_dict_int, k_dict_str, k_dict_dict, k_dict_tuple, k_dict_list, s_isG, s_isG2, s_tyN, s_tyB, s_tyI, s_tyS, s_tyT, s_tyF, s_tyR, s_lenD, s_emp, s_isX, s_gf, s_mkX, s_mk0, s_resR, s_gok1, s_gdR, s_gdF, s_enN, s_enC, s_bsN, s_bsC, s_anyL, s_allL, s_rng0, s_rng1, s_rng2, s_rng3, s_rng4, s_cast, s_cast0, s_cast1, s_toNat0, s_toNat1, s_toNat2, startR, List.length_cons, List.length_nil, List.map_cons, List.map_nil, List.replicate, List.cons_append, List.nil_append, bnd_some, bnd_none, List.length_map, List.getElem?_cons_zero, List.getElem?_cons_succ, List.getElem?_nil, List.set_cons_zero, List.set_cons_succ, if_true, if_false, Int.reducePow, Int.reduceNeg, Int.reduceLT, Int.reduceLE, Int.reduceAdd, Int.reduceMul, Int.reduceSub, Nat.reduceLT, Nat.reduceLeDiff, Nat.reduceEqDiff, Int.reduceEq, and_self, and_true, true_and, Int.cast_ofNat_Int, Int.reduceToNat, Nat.sub_self, get_at, get_at0, List.length_append, List.append_assoc, Bool.or_false, Bool.false_or, Bool.or_true, Bool.true_or, Bool.and_true, Bool.true_and, Bool.not_true, Bool.not_false, beq_self_eq_true, List.all_cons, List.all_nil, List.any_cons, List.any_nil, id, Nat.reduceAdd, Bool.false_eq_true, decide_eq_true_eq, wipeR, e1, e2]
    rw [if_pos s_gok, e4]
    exact e3
theorem law_true (ns : List Int) (h : ns.length ≤ 63) : ∃ M', G_law [.fl (ns.map Va.int)] [] = some (.bl true, M') := by
  have key : ∃ M', rawG 1 2 B_law [.fl (ns.map Va.int)] [] = some (.bl true, M') := by
    have hn : ∃ n : Nat, (if (if (ns.length : Int) > 3 then (ns.length : Int) else 3) < 8 then (if (ns.length : Int) > 3 then (ns.length : Int) else 3) else 8) = (n : Int) ∧ n ≤ 8 := by
      refine ⟨(if (if (ns.length : Int) > 3 then (ns.length : Int) else 3) < 8 then (if (ns.length : Int) > 3 then (ns.length : Int) else 3) else 8).toNat, ?_, ?_⟩
      · split <;> (try split) <;> omega
      · split <;> (try split) <;> omega
    obtain ⟨n, e, hn⟩ := hn
    obtain ⟨y1, M', e3⟩ := turns_ok (ns := ns) (List.range n) (M := []) none rfl
    have e3' : forGo [] (gN 1) L1_law (rngV 0 n) [some (.fl (ns.map Va.int)), none] [] = some (.nx [some (.fl (ns.map Va.int)), y1] M') := by
      rw [← e3]
      unfold rngV
      simp
    have b1 : -4611686018427387904 ≤ (n : Int) := by omega
    have b2 : (n : Int) < 4611686018427387904 := by omega
    refine ⟨M', ?_⟩
    simp -implicitDefEqProofs only [B_law, s_c, s_var, s_nil, s_cons, s_tup, s_lst, s_trk, s_op, s_lop, s_op1, s_un, s_unM, s_tB, s_asB, s_and, s_or, s_not, s_if, s_chain, s_tand, s_tor, s_tnot, s_tyes, s_cb, s_lcb, s_of, s_call, s_add, s_sub, s_pow, s_lt, s_le, s_gt, s_ge, s_neg, s_ixT, s_ixL, s_ixt, s_ixr, s_ixf, s_atR, s_atF, s_ix0, s_ix1, s_ix2, s_ix3, s_lenT, s_lenR, s_lenF, s_int, s_intB, s_abs, s_max, s_min, s_tupG, s_seqT, s_seqR, s_seqF, s_cat, s_eqII, s_neII, s_eqBB, s_neBB, s_isN0, s_isNb, s_isNi, s_isNs, s_isNt, s_isNr, s_gN, s_gsNil, s_gsCons, s_gT, s_gSb, s_putM, s_asg, s_ret, s_retN, s_nx, s_drop, s_thnN, s_thnR, s_seq, s_ifS, s_par, s_for, s_forN, s_forC, s_gok, s_while, s_iT, s_iL, s_iNL, s_iR1, s_iR2, s_iEn, s_iZT, s_lc, s_lcN, s_lcC, s_raw, s_outN, s_outR, s_mulL, s_mulR, s_modP, s_divP, k_NoneType_bool, k_NoneType_int, k_NoneType_str, k_NoneType_dict, k_NoneType_tuple, k_NoneType_list, k_bool_bool, k_bool_int, k_bool_str, k_bool_dict, k_bool_tuple, k_bool_list, k_int_bool, k_int_int, k_int_str, k_int_dict, k_int_tuple, k_int_list, k_str_bool, k_str_int, k_str_str, k_str_dict, k_str_tuple, k_str_list, k_tuple_bool, k_tuple_int, k_tuple_str, k_tuple_dict, k_tuple_tuple, k_tuple_list, k_list_bool, k_list_int, k_list_str, k_list_dict, k_list_tuple, k_list_list, k_dict_bool, k_dict_int, k_dict_str, k_dict_dict, k_dict_tuple, k_dict_list, s_isG, s_isG2, s_tyN, s_tyB, s_tyI, s_tyS, s_tyT, s_tyF, s_tyR, s_lenD, s_emp, s_isX, s_gf, s_mkX, s_mk0, s_resR, s_gok1, s_gdR, s_gdF, s_enN, s_enC, s_bsN, s_bsC, s_anyL, s_allL, s_rng0, s_rng1, s_rng2, s_rng3, s_rng4, s_cast, s_cast0, s_cast1, s_toNat0, s_toNat1, s_toNat2, startR, List.length_cons, List.length_nil, List.map_cons, List.map_nil, List.replicate, List.cons_append, List.nil_append, bnd_some, bnd_none, List.length_map, List.getElem?_cons_zero, List.getElem?_cons_succ, List.getElem?_nil, List.set_cons_zero, List.set_cons_succ, if_true, if_false, Int.reducePow, Int.reduceNeg, Int.reduceLT, Int.reduceLE, Int.reduceAdd, Int.reduceMul, Int.reduceSub, Nat.reduceLT, Nat.reduceLeDiff, Nat.reduceEqDiff, Int.reduceEq, and_self, and_true, true_and, Int.cast_ofNat_Int, Int.reduceToNat, Nat.sub_self, get_at, get_at0, List.length_append, List.append_assoc, Bool.or_false, Bool.false_or, Bool.or_true, Bool.true_or, Bool.and_true, Bool.true_and, Bool.not_true, Bool.not_false, beq_self_eq_true, List.all_cons, List.all_nil, List.any_cons, List.any_nil, id, Nat.reduceAdd, Bool.false_eq_true, decide_eq_true_eq, wipeR, e, b1, b2, Int.toNat_natCast, e3']
  obtain ⟨M', e⟩ := key
  exact ⟨[], cutG_of (M' := []) (J := M') e rfl rfl rfl⟩
end X0
open PySem PySem.W PyProof.Rows
set_option maxRecDepth 100000 in
set_option maxHeartbeats 0 in
theorem PySem.Challenge.cw_clockrooms_k00_errors_each_of_its_own_holds : PySem.Challenge.rw_clockrooms_k00_errors_each_of_its_own.Holds := by
  w_on; o_law; k_head; (case hw => w_witness2)
  k_fill
  refine X0.walk (l := PySem.Challenge.rw_clockrooms_k00_errors_each_of_its_own) rfl rfl (fun w h Y => PySem.W.kIn_of Y) ?F
  case F =>
    intro w mg fa h KX G hmg
    refine' X0.all_mk KX G hmg X0.law_true ?aqpool ?lqpool ?cqpool ?kqpool ?aqtake ?lqtake ?cqtake ?kqtake ?aqalike ?lqalike ?cqalike ?kqalike ?aqone ?lqone ?cqone ?kqone ?aqheld ?lqheld ?cqheld ?kqheld ?aqplaced ?lqplaced ?cqplaced ?kqplaced ?aqmade ?lqmade ?cqmade ?kqmade ?aqkinds_of ?lqkinds_of ?cqkinds_of ?kqkinds_of ?aqright ?lqright ?cqright ?kqright ?alaw ?llaw ?claw ?klaw ?aC0 ?kC0 ?eC0 ?aC1 ?kC1 ?lC1 ?rC1 ?sC1 ?xC1 ?tC1 ?iC1 ?tI1 ?lI1 ?cI1 ?kI1 ?aC2 ?kC2 ?lC2 ?rC2 ?sC2 ?xC2 ?tC2 ?iC2 ?tI2 ?lI2 ?cI2 ?kI2 ?aC3 ?kC3 ?lC3 ?rC3 ?sC3 ?xC3 ?tC3 ?iC3 ?tI3 ?lI3 ?cI3 ?kI3 ?aC4 ?kC4 ?lC4 ?rC4 ?sC4 ?xC4 ?tC4 ?iC4 ?tI4 ?lI4 ?cI4 ?kI4 ?aC5 ?kC5 ?lC5 ?rC5 ?sC5 ?xC5 ?tC5 ?iC5 ?tI5 ?lI5 ?cI5 ?kI5 ?aC6 ?kC6 ?lC6 ?rC6 ?sC6 ?xC6 ?tC6 ?iC6 ?tI6 ?lI6 ?cI6 ?kI6 ?aC7 ?kC7 ?lC7 ?rC7 ?sC7 ?xC7 ?tC7 ?iC7 ?tI7 ?lI7 ?cI7 ?kI7 ?aC8 ?kC8 ?lC8 ?rC8 ?sC8 ?xC8 ?tC8 ?iC8 ?tI8 ?lI8 ?cI8 ?kI8 ?aC9 ?kC9 ?lC9 ?rC9 ?sC9 ?xC9 ?tC9 ?iC9 ?tI9 ?lI9 ?cI9 ?kI9 ?aC10 ?kC10 ?lC10 ?rC10 ?sC10 ?xC10 ?tC10 ?iC10 ?tI10 ?lI10 ?cI10 ?kI10 ?aC11 ?kC11 ?lC11 ?rC11 ?sC11 ?xC11 ?tC11 ?iC11 ?tI11 ?lI11 ?cI11 ?kI11 ?aC12 ?kC12 ?lC12 ?rC12 ?sC12 ?xC12 ?tC12 ?iC12 ?tI12 ?lI12 ?cI12 ?kI12 ?aC13 ?kC13 ?lC13 ?rC13 ?sC13 ?xC13 ?tC13 ?iC13 ?tI13 ?lI13 ?cI13 ?kI13 ?aC14 ?kC14 ?lC14 ?rC14 ?sC14 ?xC14 ?tC14 ?iC14 ?tI14 ?lI14 ?cI14 ?kI14 ?aC15 ?kC15 ?lC15 ?rC15 ?sC15 ?xC15 ?tC15 ?iC15 ?tI15 ?lI15 ?cI15 ?kI15 ?aC16 ?kC16 ?lC16 ?rC16 ?sC16 ?xC16 ?tC16 ?iC16 ?tI16 ?lI16 ?cI16 ?kI16 ?aC17 ?kC17 ?lC17 ?rC17 ?sC17 ?xC17 ?tC17 ?iC17 ?tI17 ?lI17 ?cI17 ?kI17 ?aC18 ?kC18 ?lC18 ?rC18 ?sC18 ?xC18 ?tC18 ?iC18 ?tI18 ?lI18 ?cI18 ?kI18 ?aC19 ?kC19 ?eC19 ?aC20 ?kC20 ?eC20 ?z_len ?z_all ?z_abs ?z_max ?z_min ?z_isinstance ?z_int ?z_tuple ?z_list ?z_bool ?z_str ?z_dict ?z_range ?z_enumerate ?z_ValueError ?hall
    (case aqpool => k_is)
    (case lqpool => k_is)
    (case cqpool => k_is)
    (case kqpool => k_is)
    (case aqtake => k_is)
    (case lqtake => k_is)
    (case cqtake => k_is)
    (case kqtake => k_is)
    (case aqalike => k_is)
    (case lqalike => k_is)
    (case cqalike => k_is)
    (case kqalike => k_is)
    (case aqone => k_is)
    (case lqone => k_is)
    (case cqone => k_is)
    (case kqone => k_is)
    (case aqheld => k_is)
    (case lqheld => k_is)
    (case cqheld => k_is)
    (case kqheld => k_is)
    (case aqplaced => k_is)
    (case lqplaced => k_is)
    (case cqplaced => k_is)
    (case kqplaced => k_is)
    (case aqmade => k_is)
    (case lqmade => k_is)
    (case cqmade => k_is)
    (case kqmade => k_is)
    (case aqkinds_of => k_is)
    (case lqkinds_of => k_is)
    (case cqkinds_of => k_is)
    (case kqkinds_of => k_is)
    (case aqright => k_is)
    (case lqright => k_is)
    (case cqright => k_is)
    (case kqright => k_is)
    (case alaw => k_is)
    (case llaw => k_is)
    (case claw => k_is)
    (case klaw => k_is)
    (case aC0 => k_is)
    (case kC0 => k_is)
    (case eC0 => kernel_rfl)
    (case aC1 => k_is)
    (case kC1 => k_is)
    (case lC1 => k_is)
    (case rC1 => rfl)
    (case sC1 => k_is)
    (case xC1 => k_is)
    (case tC1 => k_is)
    (case iC1 => k_is)
    (case tI1 => k_is)
    (case lI1 => k_is)
    (case cI1 => k_is)
    (case kI1 => k_is)
    (case aC2 => k_is)
    (case kC2 => k_is)
    (case lC2 => k_is)
    (case rC2 => rfl)
    (case sC2 => k_is)
    (case xC2 => k_is)
    (case tC2 => k_is)
    (case iC2 => k_is)
    (case tI2 => k_is)
    (case lI2 => k_is)
    (case cI2 => k_is)
    (case kI2 => k_is)
    (case aC3 => k_is)
    (case kC3 => k_is)
    (case lC3 => k_is)
    (case rC3 => rfl)
    (case sC3 => k_is)
    (case xC3 => k_is)
    (case tC3 => k_is)
    (case iC3 => k_is)
    (case tI3 => k_is)
    (case lI3 => k_is)
    (case cI3 => k_is)
    (case kI3 => k_is)
    (case aC4 => k_is)
    (case kC4 => k_is)
    (case lC4 => k_is)
    (case rC4 => rfl)
    (case sC4 => k_is)
    (case xC4 => k_is)
    (case tC4 => k_is)
    (case iC4 => k_is)
    (case tI4 => k_is)
    (case lI4 => k_is)
    (case cI4 => k_is)
    (case kI4 => k_is)
    (case aC5 => k_is)
    (case kC5 => k_is)
    (case lC5 => k_is)
    (case rC5 => rfl)
    (case sC5 => k_is)
    (case xC5 => k_is)
    (case tC5 => k_is)
    (case iC5 => k_is)
    (case tI5 => k_is)
    (case lI5 => k_is)
    (case cI5 => k_is)
    (case kI5 => k_is)
    (case aC6 => k_is)
    (case kC6 => k_is)
    (case lC6 => k_is)
    (case rC6 => rfl)
    (case sC6 => k_is)
    (case xC6 => k_is)
    (case tC6 => k_is)
    (case iC6 => k_is)
    (case tI6 => k_is)
    (case lI6 => k_is)
    (case cI6 => k_is)
    (case kI6 => k_is)
    (case aC7 => k_is)
    (case kC7 => k_is)
    (case lC7 => k_is)
    (case rC7 => rfl)
    (case sC7 => k_is)
    (case xC7 => k_is)
    (case tC7 => k_is)
    (case iC7 => k_is)
    (case tI7 => k_is)
    (case lI7 => k_is)
    (case cI7 => k_is)
    (case kI7 => k_is)
    (case aC8 => k_is)
    (case kC8 => k_is)
    (case lC8 => k_is)
    (case rC8 => rfl)
    (case sC8 => k_is)
    (case xC8 => k_is)
    (case tC8 => k_is)
    (case iC8 => k_is)
    (case tI8 => k_is)
    (case lI8 => k_is)
    (case cI8 => k_is)
    (case kI8 => k_is)
    (case aC9 => k_is)
    (case kC9 => k_is)
    (case lC9 => k_is)
    (case rC9 => rfl)
    (case sC9 => k_is)
    (case xC9 => k_is)
    (case tC9 => k_is)
    (case iC9 => k_is)
    (case tI9 => k_is)
    (case lI9 => k_is)
    (case cI9 => k_is)
    (case kI9 => k_is)
    (case aC10 => k_is)
    (case kC10 => k_is)
    (case lC10 => k_is)
    (case rC10 => rfl)
    (case sC10 => k_is)
    (case xC10 => k_is)
    (case tC10 => k_is)
    (case iC10 => k_is)
    (case tI10 => k_is)
    (case lI10 => k_is)
    (case cI10 => k_is)
    (case kI10 => k_is)
    (case aC11 => k_is)
    (case kC11 => k_is)
    (case lC11 => k_is)
    (case rC11 => rfl)
    (case sC11 => k_is)
    (case xC11 => k_is)
    (case tC11 => k_is)
    (case iC11 => k_is)
    (case tI11 => k_is)
    (case lI11 => k_is)
    (case cI11 => k_is)
    (case kI11 => k_is)
    (case aC12 => k_is)
    (case kC12 => k_is)
    (case lC12 => k_is)
    (case rC12 => rfl)
    (case sC12 => k_is)
    (case xC12 => k_is)
    (case tC12 => k_is)
    (case iC12 => k_is)
    (case tI12 => k_is)
    (case lI12 => k_is)
    (case cI12 => k_is)
    (case kI12 => k_is)
    (case aC13 => k_is)
    (case kC13 => k_is)
    (case lC13 => k_is)
    (case rC13 => rfl)
    (case sC13 => k_is)
    (case xC13 => k_is)
    (case tC13 => k_is)
    (case iC13 => k_is)
    (case tI13 => k_is)
    (case lI13 => k_is)
    (case cI13 => k_is)
    (case kI13 => k_is)
    (case aC14 => k_is)
    (case kC14 => k_is)
    (case lC14 => k_is)
    (case rC14 => rfl)
    (case sC14 => k_is)
    (case xC14 => k_is)
    (case tC14 => k_is)
    (case iC14 => k_is)
    (case tI14 => k_is)
    (case lI14 => k_is)
    (case cI14 => k_is)
    (case kI14 => k_is)
    (case aC15 => k_is)
    (case kC15 => k_is)
    (case lC15 => k_is)
    (case rC15 => rfl)
    (case sC15 => k_is)
    (case xC15 => k_is)
    (case tC15 => k_is)
    (case iC15 => k_is)
    (case tI15 => k_is)
    (case lI15 => k_is)
    (case cI15 => k_is)
    (case kI15 => k_is)
    (case aC16 => k_is)
    (case kC16 => k_is)
    (case lC16 => k_is)
    (case rC16 => rfl)
    (case sC16 => k_is)
    (case xC16 => k_is)
    (case tC16 => k_is)
    (case iC16 => k_is)
    (case tI16 => k_is)
    (case lI16 => k_is)
    (case cI16 => k_is)
    (case kI16 => k_is)
    (case aC17 => k_is)
    (case kC17 => k_is)
    (case lC17 => k_is)
    (case rC17 => rfl)
    (case sC17 => k_is)
    (case xC17 => k_is)
    (case tC17 => k_is)
    (case iC17 => k_is)
    (case tI17 => k_is)
    (case lI17 => k_is)
    (case cI17 => k_is)
    (case kI17 => k_is)
    (case aC18 => k_is)
    (case kC18 => k_is)
    (case lC18 => k_is)
    (case rC18 => rfl)
    (case sC18 => k_is)
    (case xC18 => k_is)
    (case tC18 => k_is)
    (case iC18 => k_is)
    (case tI18 => k_is)
    (case lI18 => k_is)
    (case cI18 => k_is)
    (case kI18 => k_is)
    (case aC19 => k_is)
    (case kC19 => k_is)
    (case eC19 => kernel_rfl)
    (case aC20 => k_is)
    (case kC20 => k_is)
    (case eC20 => kernel_rfl)
    (case z_len => k_is)
    (case z_all => k_is)
    (case z_abs => k_is)
    (case z_max => k_is)
    (case z_min => k_is)
    (case z_isinstance => k_is)
    (case z_int => k_is)
    (case z_tuple => k_is)
    (case z_list => k_is)
    (case z_bool => k_is)
    (case z_str => k_is)
    (case z_dict => k_is)
    (case z_range => k_is)
    (case z_enumerate => k_is)
    (case z_ValueError => k_is)
    (case hall => kernel_rfl)
