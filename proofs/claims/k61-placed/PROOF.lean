import PyProof.Rows.All
import Wide.All
import OpenK.AllK
import Wide.FinOn
import HandS.ForMost
import HandS.Exc
import HandS.ExcOwn
import HandS.TryOnly
import HandS.WordsExc
import HandS.IsInst
import HandS.Deep
import HandS.Rev
import HandS.RevRange
import HandS.Zip
import HandS.Conv
import HandS.TupAny
import HandS.Wide
import HandS.HeadHook4
import KE.SortData
import HandS.Head2
import HandS.HeadEnd
import PySem.Challenge.RW_ken_k61_placed
set_option Elab.async false
set_option linter.all false
set_option maxRecDepth 100000
set_option maxHeartbeats 0
namespace Dl
open PySem PySem.Spec L2

/-! ### results -/
inductive R (α : Type) where
  | ok (a : α)
  | err (c : Str) (x : Option (Str × Int))
  | bad
def R.bind {α β : Type} (r : R α) (f : α → R β) : R β := match r with
  | .ok a => f a
  | .err c x => .err c x
  | .bad => .bad
abbrev Ev := List (Option PyData)
abbrev FE := Ev → R PyData
abbrev FT := Ev → R Bool
inductive SR where
  | nx (e : Ev)
  | rt (d : PyData)
  | bk (e : Ev)
  | ct (e : Ev)
  | err (c : Str) (x : Option (Str × Int)) (e : Ev)
  | bad
abbrev FS := Ev → SR

/-! ### values as data -/
def kD : Key → PyData
  | .inl i => .int i
  | .inr x => .str x
mutual
inductive Rp (K : PySem.W.Frag) (H : Hp) (av : Addr → Prop) : V → PyData → Prop
  | non : Rp K H av .non .none
  | bl (b : Bool) : Rp K H av (.bl b) (.bool b)
  | int (i : Int) : Rp K H av (.int i) (.int i)
  | str (x : Str) : Rp K H av (.str x) (.str x)
  | lst {a : Addr} {xs : List V} {ds : List PyData} : Rd H a (.lst xs) → ¬ av a → RpAll K H av xs ds → Rp K H av (.ref a) (.list ds)
  | tup {a : Addr} {xs : List V} {ds : List PyData} : SqT K H a xs → RpAll K H av xs ds → Rp K H av (.ref a) (.tuple ds)
  | dct {a : Addr} {kvs : List (Key × V)} {ds : List PyData} : H a = some (.dK kvs) → ¬ av a → RpAll K H av (kvs.map (·.2)) ds → Rp K H av (.ref a) (.dict ((kvs.map fun p => kD p.1).zip ds))
inductive RpAll (K : PySem.W.Frag) (H : Hp) (av : Addr → Prop) : List V → List PyData → Prop
  | nil : RpAll K H av [] []
  | cons {v : V} {vs : List V} {d : PyData} {ds : List PyData} : Rp K H av v d → RpAll K H av vs ds → RpAll K H av (v :: vs) (d :: ds)
end

/-- what is not avoided, and each tuple, stays -/
def Kp (av : Addr → Prop) (H H' : Hp) : Prop := ∀ b o, H b = some o → (¬ av b ∨ ∃ xs, Rd H b (.tup xs)) → H' b = some o
theorem Kp.of_same {av : Addr → Prop} {H H' : Hp} (s : Same H H') : Kp av H H' := fun b o h _ => s b o h

section
variable {K : PySem.W.Frag} {H H' : Hp} {av av' : Addr → Prop}
theorem rd_kp {a : Addr} {u : HO} (k : Kp av H H') (h : Rd H a u) (n : ¬ av a ∨ ∃ xs, Rd H a (.tup xs)) : Rd H' a u := by
  rcases h with h | ⟨o, h⟩
  · exact .inl (k _ _ h n)
  · exact .inr ⟨o, k _ _ h n⟩
theorem sqT_kp {a : Addr} {xs : List V} (k : Kp av H H') (h : SqT K H a xs) : SqT K H' a xs := by
  rcases h with h | h
  · exact .inl (rd_kp k h (.inr ⟨xs, h⟩))
  · exact .inr h
mutual
/-- the heap goes on; fewer or other addresses are avoided -/
theorem Rp.mono (k : Kp av H H') (ha : ∀ a, H a ≠ none → ¬ av a → ¬ av' a) : ∀ {v : V} {d : PyData}, Rp K H av v d → Rp K H' av' v d
  | _, _, .non => .non
  | _, _, .bl b => .bl b
  | _, _, .int i => .int i
  | _, _, .str x => .str x
  | _, _, .lst h n r => .lst (rd_kp k h (.inl n)) (ha _ (by rcases h with h | ⟨o, h⟩ <;> rw [h] <;> simp) n) (RpAll.mono k ha r)
  | _, _, .tup h r => .tup (sqT_kp k h) (RpAll.mono k ha r)
  | _, _, .dct h n r => .dct (k _ _ h (.inl n)) (ha _ (by rw [h]; simp) n) (RpAll.mono k ha r)
theorem RpAll.mono (k : Kp av H H') (ha : ∀ a, H a ≠ none → ¬ av a → ¬ av' a) : ∀ {vs : List V} {ds : List PyData}, RpAll K H av vs ds → RpAll K H' av' vs ds
  | _, _, .nil => .nil
  | _, _, .cons h r => .cons (Rp.mono k ha h) (RpAll.mono k ha r)
end
theorem Rp.same {v : V} {d : PyData} (s : Same H H') (h : Rp K H av v d) : Rp K H' av v d := h.mono (Kp.of_same s) fun _ _ n => n
theorem RpAll.same {vs : List V} {ds : List PyData} (s : Same H H') (h : RpAll K H av vs ds) : RpAll K H' av vs ds := h.mono (Kp.of_same s) fun _ _ n => n
theorem Rp.weak {v : V} {d : PyData} (w : ∀ a, av' a → av a) (h : Rp K H av v d) : Rp K H av' v d := h.mono (Kp.of_same (Same.refl H)) fun a _ n z => n (w a z)
theorem RpAll.weak {vs : List V} {ds : List PyData} (w : ∀ a, av' a → av a) (h : RpAll K H av vs ds) : RpAll K H av' vs ds := h.mono (Kp.of_same (Same.refl H)) fun a _ n z => n (w a z)
/-- a new address is avoided by all that stood -/
theorem Rp.fresh {v : V} {d : PyData} {p : Addr} (hp : H p = none) (s : Same H H') (h : Rp K H av v d) : Rp K H' (fun a => av a ∨ a = p) v d :=
  h.mono (Kp.of_same s) fun a e n z => z.elim n fun q => e (q ▸ hp)
theorem RpAll.fresh {vs : List V} {ds : List PyData} {p : Addr} (hp : H p = none) (s : Same H H') (h : RpAll K H av vs ds) : RpAll K H' (fun a => av a ∨ a = p) vs ds :=
  h.mono (Kp.of_same s) fun a e n z => z.elim n fun q => e (q ▸ hp)
theorem RpAll.length {vs : List V} {ds : List PyData} (h : RpAll K H av vs ds) : vs.length = ds.length := by
  induction vs generalizing ds with
  | nil => cases h; rfl
  | cons v vs ih => cases h with | cons h r => simp [ih r]
theorem RpAll.get {vs : List V} {ds : List PyData} {i : Nat} {v : V} (h : RpAll K H av vs ds) (e : vs[i]? = some v) : ∃ d, ds[i]? = some d ∧ Rp K H av v d := by
  induction vs generalizing ds i with
  | nil => simp at e
  | cons w vs ih =>
    cases h with
    | cons h r =>
      cases i with
      | zero => simp at e; subst e; exact ⟨_, rfl, h⟩
      | succ i =>
        obtain ⟨d, h1, h2⟩ := ih r (by simpa using e)
        exact ⟨d, by simpa using h1, h2⟩
theorem RpAll.get' {vs : List V} {ds : List PyData} {i : Nat} {d : PyData} (h : RpAll K H av vs ds) (e : ds[i]? = some d) : ∃ v, vs[i]? = some v ∧ Rp K H av v d := by
  induction vs generalizing ds i with
  | nil => cases h; simp at e
  | cons w vs ih =>
    cases h with
    | cons h r =>
      cases i with
      | zero => simp at e; subst e; exact ⟨_, rfl, h⟩
      | succ i =>
        obtain ⟨d, h1, h2⟩ := ih r (by simpa using e)
        exact ⟨d, by simpa using h1, h2⟩
theorem RpAll.append {vs ws : List V} {ds es : List PyData} (h : RpAll K H av vs ds) (g : RpAll K H av ws es) : RpAll K H av (vs ++ ws) (ds ++ es) := by
  induction vs generalizing ds with
  | nil => cases h; exact g
  | cons v vs ih => cases h with | cons h r => exact .cons h (ih r)
theorem RpAll.take {vs : List V} {ds : List PyData} (h : RpAll K H av vs ds) (n : Nat) : RpAll K H av (vs.take n) (ds.take n) := by
  induction vs generalizing ds n with
  | nil => cases h; simp; exact .nil
  | cons v vs ih => cases h with | cons h r => cases n with
    | zero => exact .nil
    | succ n => exact .cons h (ih r n)
theorem RpAll.drop {vs : List V} {ds : List PyData} (h : RpAll K H av vs ds) (n : Nat) : RpAll K H av (vs.drop n) (ds.drop n) := by
  induction vs generalizing ds n with
  | nil => cases h; simp; exact .nil
  | cons v vs ih => cases h with | cons h r => cases n with
    | zero => exact .cons h r
    | succ n => exact ih r n
theorem RpAll.set {vs : List V} {ds : List PyData} {v : V} {d : PyData} (h : RpAll K H av vs ds) (g : Rp K H av v d) (i : Nat) : RpAll K H av (vs.set i v) (ds.set i d) := by
  induction vs generalizing ds i with
  | nil => cases h; exact .nil
  | cons w vs ih => cases h with | cons h r => cases i with
    | zero => exact .cons g r
    | succ i => exact .cons h (ih r i)
theorem RpAll.dropLast {vs : List V} {ds : List PyData} (h : RpAll K H av vs ds) : RpAll K H av vs.dropLast ds.dropLast := by
  rw [List.dropLast_eq_take, List.dropLast_eq_take, h.length]; exact h.take _
theorem RpAll.reverse {vs : List V} {ds : List PyData} (h : RpAll K H av vs ds) : RpAll K H av vs.reverse ds.reverse := by
  induction vs generalizing ds with
  | nil => cases h; exact .nil
  | cons w vs ih => cases h with | cons h r => simpa using (ih r).append (.cons h .nil)

mutual
theorem Rp.dp : ∀ {v : V} {d : PyData}, Rp K H av v d → d.canLay0 = true → Dp K H v d
  | _, _, .non, _ => .non
  | _, _, .bl b, _ => .bl b
  | _, _, .int i, _ => .int i
  | _, _, .str x, _ => .str x
  | _, _, .lst h _ r, c => .lst (.inl h) (RpAll.dp r (by simpa [PyData.canLay0] using c))
  | _, _, .tup h r, c => .tup h (RpAll.dp r (by simpa [PyData.canLay0] using c))
  | _, _, .dct _ _ _, c => by simp [PyData.canLay0] at c
theorem RpAll.dp : ∀ {vs : List V} {ds : List PyData}, RpAll K H av vs ds → PyData.canLayAll0 ds = true → DpAll K H vs ds
  | _, _, .nil, _ => .nil
  | _, _, .cons h r, c => by
    rw [PyData.canLayAll0, Bool.and_eq_true] at c
    exact .cons (Rp.dp h c.1) (RpAll.dp r c.2)
end
end

/-! ### what is owned -/
def Own (K : PySem.W.Frag) (H : Hp) (av : Addr → Prop) (a : Addr) : PyData → Prop
  | .list ds => ∃ vs, H a = some (.lst vs) ∧ RpAll K H av vs ds
  | .dict kds => ∃ (kvs : List (Key × V)) (ds : List PyData), H a = some (.dK kvs) ∧ RpAll K H av (kvs.map (·.2)) ds ∧ kds = (kvs.map fun p => kD p.1).zip ds
  | _ => False
theorem Own.mono {K : PySem.W.Frag} {H H' : Hp} {av av' : Addr → Prop} {a : Addr} {d : PyData} (o : Own K H av a d) (k : Kp av H H') (ha : ∀ a, H a ≠ none → ¬ av a → ¬ av' a) (s : H' a = H a) : Own K H' av' a d := by
  cases d with
  | list ds => obtain ⟨vs, h, r⟩ := o; exact ⟨vs, s.trans h, r.mono k ha⟩
  | dict kds => obtain ⟨kvs, ds, h, r, e⟩ := o; exact ⟨kvs, ds, s.trans h, r.mono k ha, e⟩
  | _ => exact o.elim
theorem Own.some {K : PySem.W.Frag} {H : Hp} {av : Addr → Prop} {a : Addr} {d : PyData} (o : Own K H av a d) : ∃ u, H a = some u ∧ Mut (some u) := by
  cases d with
  | list ds => obtain ⟨vs, h, r⟩ := o; exact ⟨_, h, trivial⟩
  | dict kds => obtain ⟨kvs, ds, h, r, e⟩ := o; exact ⟨_, h, trivial⟩
  | _ => exact o.elim
theorem Own.rp {K : PySem.W.Frag} {H : Hp} {av av' : Addr → Prop} {a : Addr} {d : PyData} (o : Own K H av a d) (w : ∀ a, av' a → av a) (n : ¬ av' a) : Rp K H av' (.ref a) d := by
  cases d with
  | list ds => obtain ⟨vs, h, r⟩ := o; exact .lst (.inl h) n (r.weak w)
  | dict kds => obtain ⟨kvs, ds, h, r, e⟩ := o; subst e; exact .dct h n (r.weak w)
  | _ => exact o.elim
theorem Own.notTup {K : PySem.W.Frag} {H : Hp} {av : Addr → Prop} {a : Addr} {d : PyData} (o : Own K H av a d) {xs : List V} : ¬ Rd H a (.tup xs) := by
  intro z
  cases d with
  | list ds => obtain ⟨vs, h, r⟩ := o; rcases z with z | ⟨_, z⟩ <;> (rw [h] at z; cases z)
  | dict kds => obtain ⟨kvs, ds, h, r, e⟩ := o; rcases z with z | ⟨_, z⟩ <;> (rw [h] at z; cases z)
  | _ => exact o.elim

/-- the frame of a def's body: K, the entry's heap, what the caller owns, whether the answer is the caller's own; what is owned at a break, a continue; what is owned at a raise; the wish of a raise -/
structure Bs where
  H0 : Hp
  av0 : Addr → Prop
structure Cc where
  n : Nat
  ow : Bool
  Ol : List Nat
  Oe : List Nat
  W : WX
def avO (B : Bs) (O : List Nat) (ad : Nat → Addr) : Addr → Prop := fun a => B.av0 a ∨ ∃ i, i ∈ O ∧ a = ad i

structure Rl (K : PySem.W.Frag) (n : Nat) (B : Bs) (O : List Nat) (ad : Nat → Addr) (δ : Ev) (σ : St) (H : Hp) : Prop where
  len : σ.length = δ.length
  lenN : δ.length = n
  inj : ∀ i ∈ O, ∀ j ∈ O, ad i = ad j → i = j
  new : ∀ i ∈ O, B.H0 (ad i) = none
  fro : ∀ i d, i ∉ O → δ[i]? = some (some d) → ∃ v, σ[i]? = some (some v) ∧ Rp K H (avO B O ad) v d
  own : ∀ i ∈ O, ∃ d, δ[i]? = some (some d) ∧ σ[i]? = some (some (.ref (ad i))) ∧ Own K H (avO B O ad) (ad i) d
  keep : Same B.H0 H
  dom : ∀ a, B.av0 a → H a ≠ none ∧ ∀ i ∈ O, a ≠ ad i

section
variable {K : PySem.W.Frag} {n : Nat} {B : Bs} {O : List Nat} {ad : Nat → Addr} {δ : Ev} {σ : St} {H H' : Hp}
theorem Rl.avdom (r : Rl K n B O ad δ σ H) : ∀ a, avO B O ad a → H a ≠ none := by
  rintro a (h | ⟨i, hi, rfl⟩)
  · exact (r.dom a h).1
  · obtain ⟨d, _, _, o⟩ := r.own i hi
    obtain ⟨u, e, _⟩ := o.some
    rw [e]; simp
theorem Rl.same (r : Rl K n B O ad δ σ H) (s : Same H H') : Rl K n B O ad δ σ H' where
  len := r.len
  lenN := r.lenN
  inj := r.inj
  new := r.new
  fro := fun i d hi e => let ⟨v, h1, h2⟩ := r.fro i d hi e; ⟨v, h1, h2.same s⟩
  own := fun i hi => by
    obtain ⟨d, h1, h2, o⟩ := r.own i hi
    obtain ⟨u, e, _⟩ := o.some
    exact ⟨d, h1, h2, o.mono (Kp.of_same s) (fun _ _ n => n) ((s _ _ e).trans e.symm)⟩
  keep := r.keep.trans s
  dom := fun a h => ⟨fun z => (r.dom a h).1 (s.free z), (r.dom a h).2⟩
theorem Rl.notAv (r : Rl K n B O ad δ σ H) {p : Addr} (hp : H p = none) : ¬ avO B O ad p := fun z => r.avdom p z hp
/-- some are owned no more -/
theorem Rl.freeze {O' : List Nat} (r : Rl K n B O ad δ σ H) (hs : ∀ i ∈ O', i ∈ O) : Rl K n B O' ad δ σ H where
  len := r.len
  lenN := r.lenN
  inj := fun i hi j hj => r.inj i (hs i hi) j (hs j hj)
  new := fun i hi => r.new i (hs i hi)
  fro := fun i d hi e => by
    have w : ∀ a, avO B O' ad a → avO B O ad a := fun a z => z.elim .inl fun ⟨j, hj, q⟩ => .inr ⟨j, hs j hj, q⟩
    by_cases hio : i ∈ O
    · obtain ⟨d', h1, h2, o⟩ := r.own i hio
      rw [e] at h1; cases h1
      refine ⟨_, h2, o.rp w ?_⟩
      rintro (z | ⟨j, hj, q⟩)
      · exact (r.dom _ z).2 i hio rfl
      · exact hi (r.inj i hio j (hs j hj) q ▸ hj)
    · obtain ⟨v, h1, h2⟩ := r.fro i d hio e
      exact ⟨v, h1, h2.weak w⟩
  own := fun i hi => by
    have w : ∀ a, avO B O' ad a → avO B O ad a := fun a z => z.elim .inl fun ⟨j, hj, q⟩ => .inr ⟨j, hs j hj, q⟩
    obtain ⟨d, h1, h2, o⟩ := r.own i (hs i hi)
    exact ⟨d, h1, h2, o.mono (Kp.of_same (Same.refl H)) (fun a _ n z => n (w a z)) rfl⟩
  keep := r.keep
  dom := fun a h => ⟨(r.dom a h).1, fun i hi => (r.dom a h).2 i (hs i hi)⟩
end
/-! ### borrowed: data, or an owned thing of data -/
def Bw (K : PySem.W.Frag) (H : Hp) (av : Addr → Prop) (v : V) (d : PyData) : Prop := Rp K H av v d ∨ ∃ a, v = .ref a ∧ Own K H av a d
section
variable {K : PySem.W.Frag} {H H' : Hp} {av : Addr → Prop} {v : V} {d : PyData}
theorem Rp.bw (h : Rp K H av v d) : Bw K H av v d := .inl h
theorem Own.same {a : Addr} (o : Own K H av a d) (s : Same H H') : Own K H' av a d := by
  obtain ⟨u, e, _⟩ := o.some
  exact o.mono (Kp.of_same s) (fun _ _ n => n) ((s _ _ e).trans e.symm)
theorem Bw.same (h : Bw K H av v d) (s : Same H H') : Bw K H' av v d := by
  rcases h with h | ⟨a, rfl, o⟩
  · exact .inl (h.same s)
  · exact .inr ⟨a, rfl, o.same s⟩
theorem Bw.list {ds : List PyData} (h : Bw K H av v (.list ds)) : ∃ a xs, v = .ref a ∧ Rd H a (.lst xs) ∧ RpAll K H av xs ds := by
  rcases h with h | ⟨a, rfl, vs, e, r⟩
  · cases h with
    | lst h n r => exact ⟨_, _, rfl, h, r⟩
  · exact ⟨a, vs, rfl, .inl e, r⟩
theorem Bw.tuple {ds : List PyData} (h : Bw K H av v (.tuple ds)) : ∃ a xs, v = .ref a ∧ SqT K H a xs ∧ RpAll K H av xs ds := by
  rcases h with h | ⟨a, rfl, o⟩
  · cases h with
    | tup h r => exact ⟨_, _, rfl, h, r⟩
  · exact o.elim
theorem Bw.int {i : Int} (h : Bw K H av v (.int i)) : v = .int i := by
  rcases h with h | ⟨a, rfl, o⟩
  · cases h; rfl
  · exact o.elim
theorem Bw.str {x : Str} (h : Bw K H av v (.str x)) : v = .str x := by
  rcases h with h | ⟨a, rfl, o⟩
  · cases h; rfl
  · exact o.elim
theorem Bw.bool {b : Bool} (h : Bw K H av v (.bool b)) : v = .bl b := by
  rcases h with h | ⟨a, rfl, o⟩
  · cases h; rfl
  · exact o.elim
theorem Bw.none (h : Bw K H av v .none) : v = .non := by
  rcases h with h | ⟨a, rfl, o⟩
  · cases h; rfl
  · exact o.elim
theorem Bw.dp (h : Bw K H av v d) (c : d.canLay0 = true) : Dp K H v d := by
  rcases h with h | ⟨a, rfl, o⟩
  · exact h.dp c
  · cases d with
    | list ds => obtain ⟨vs, e, r⟩ := o; exact .lst (.inl (.inl e)) (r.dp (by simpa [PyData.canLay0] using c))
    | dict kds => simp [PyData.canLay0] at c
    | _ => exact o.elim
end
end Dl

namespace Dl
open PySem PySem.Spec L2

/-! ### judgements -/
def Rk {α : Type} (r : R α) (q : α → Prop) (e : Str → Option (Str × Int) → Prop) : Prop := match r with
  | .ok a => q a
  | .err c x => e c x
  | .bad => False
theorem Rk.bind {α β : Type} {r : R α} {f : α → R β} {q : β → Prop} {e : Str → Option (Str × Int) → Prop} (h : Rk (r.bind f) q e) : Rk r (fun a => Rk (f a) q e) e := by
  cases r with
  | ok a => exact h
  | err c x => exact h
  | bad => exact h
theorem Rk.imp {α : Type} {r : R α} {q q' : α → Prop} {e e' : Str → Option (Str × Int) → Prop} (h : Rk r q e) (hq : ∀ a, r = .ok a → q a → q' a) (he : ∀ c x, e c x → e' c x) : Rk r q' e' := by
  cases r with
  | ok a => exact hq a rfl h
  | err c x => exact he c x h
  | bad => exact h
def ofO {α : Type} : Option α → R α
  | some a => .ok a
  | none => .bad
theorem Rk.ofO {α : Type} {o : Option α} {q : α → Prop} {e : Str → Option (Str × Int) → Prop} (h : Rk (Dl.ofO o) q e) : ∃ a, o = some a ∧ q a := by
  cases o with
  | none => exact h.elim
  | some a => exact ⟨a, rfl, h⟩
def Er (K : PySem.W.Frag) (c : Str) (x : Option (Str × Int)) (cls : Value) (dd : Option Addr) (H : Hp) : Prop :=
  cls = .ref (He.ga K c) ∧ match x with
    | none => dd = none
    | some (f, i) => ∃ a, dd = some a ∧ H a = some (.xd [(f, .int i)])
abbrev Rel3 := Hp → Hp → (Addr → Prop) → V → PyData → Prop
def relE (K : PySem.W.Frag) : Rel3 := fun _ H' av v d => Rp K H' av v d
def relB (K : PySem.W.Frag) : Rel3 := fun _ H' av v d => Bw K H' av v d
def relF (K : PySem.W.Frag) : Rel3 := fun H H' av v d => ∃ a, v = .ref a ∧ H a = none ∧ Own K H' (fun b => av b ∨ b = a) a d
def tX (K : PySem.W.Frag) (C : Cc) (O : List Nat) (rel : Rel3) (f : FE) : TE := fun σ H Q => ∃ B δ ad, Rl K C.n B O ad δ σ H ∧
  Rk (f δ) (fun d => ∀ v H', Same H H' → rel H H' (avO B O ad) v d → Q v H') (fun c x => ∀ cls dd H', Same H H' → Er K c x cls dd H' → C.W cls dd σ H')
def tT (K : PySem.W.Frag) (C : Cc) (O : List Nat) (f : FT) : TT := fun σ H Q => ∃ B δ ad, Rl K C.n B O ad δ σ H ∧
  Rk (f δ) (fun b => ∀ H', Same H H' → Q b H') (fun c x => ∀ cls dd H', Same H H' → Er K c x cls dd H' → C.W cls dd σ H')
abbrev DE (X : Cx) (C : Cc) (O : List Nat) (e : Expr) (f : FE) : Prop := PE X e (tX X.K C O (relE X.K) f)
abbrev DB (X : Cx) (C : Cc) (O : List Nat) (e : Expr) (f : FE) : Prop := PE X e (tX X.K C O (relB X.K) f)
abbrev DF (X : Cx) (C : Cc) (O : List Nat) (e : Expr) (f : FE) : Prop := PE X e (tX X.K C O (relF X.K) f)
abbrev DT (X : Cx) (C : Cc) (O : List Nat) (e : Expr) (f : FT) : Prop := PT X e (tT X.K C O f)
theorem pe_imp {X : Cx} {e : Expr} {t t' : TE} (h : PE X e t) (i : ∀ σ H Q, t' σ H Q → t σ H Q) : PE X e t' := ⟨fun pins s σ H Q I q => h.run pins s σ H Q I (i _ _ _ q)⟩
theorem pt_imp {X : Cx} {e : Expr} {t t' : TT} (h : PT X e t) (i : ∀ σ H Q, t' σ H Q → t σ H Q) : PT X e t' := ⟨fun pins s σ H Q I q => h.run pins s σ H Q I (i _ _ _ q)⟩
theorem pw_imp {X : Cx} {e : Expr} {t t' : TT} (h : PW X e t) (i : ∀ σ H Q, t' σ H Q → t σ H Q) : PW X e t' := ⟨fun whole pins s σ H Q I q => h.run whole pins s σ H Q I (i _ _ _ q)⟩
theorem pa_imp {X : Cx} {es : List Expr} {t t' : TA} (h : PA X es t) (i : ∀ σ H Q, t' σ H Q → t σ H Q) : PA X es t' := ⟨fun pos pins s σ H Q I q => h.run pos pins s σ H Q I (i _ _ _ q)⟩
section
variable {K : PySem.W.Frag} {C : Cc} {O : List Nat} {f : FE} {σ : L2.St} {H : Hp}
theorem tX.rel {rel rel' : Rel3} {Q : VK} (hr : ∀ B ad δ H' v d, Rl K C.n B O ad δ σ H → Same H H' → rel' H H' (avO B O ad) v d → rel H H' (avO B O ad) v d) (h : tX K C O rel f σ H Q) : tX K C O rel' f σ H Q := by
  obtain ⟨B, δ, ad, r, k⟩ := h
  exact ⟨B, δ, ad, r, k.imp (fun d _ q v H' s z => q v H' s (hr B ad δ H' v d r s z)) fun _ _ z => z⟩
end
section
variable {X : Cx} {C : Cc} {O : List Nat} {e : Expr} {f : FE}
/-- data is borrowed -/
theorem e2b (h : DE X C O e f) : DB X C O e f := pe_imp h fun σ H Q => tX.rel fun B ad δ H' v d _ _ z => Rp.bw z
/-- a new owned thing is data -/
theorem f2e (h : DF X C O e f) : DE X C O e f := pe_imp h fun σ H Q => tX.rel fun B ad δ H' v d r s z => by
  obtain ⟨a, rfl, n, o⟩ := z
  exact o.rp (fun b q => .inl q) (r.notAv n)
theorem f2b (h : DF X C O e f) : DB X C O e f := e2b (f2e h)
end

/-! ### names, constants -/
def vr (i : Nat) : FE := fun δ => match δ[i]? with
  | some (some d) => .ok d
  | _ => .bad
def cst (d : PyData) : FE := fun _ => .ok d
section
variable {X : Cx} {C : Cc} {O : List Nat}
theorem de_var {i : Nat} {e : Expr} (h : PE X e (tVar i)) (hi : i ∉ O) : DE X C O e (vr i) := pe_imp h fun σ H Q ⟨B, δ, ad, r, k⟩ => by
  unfold vr at k
  split at k
  · rename_i d e
    obtain ⟨v, h1, h2⟩ := r.fro i d hi e
    exact ⟨v, h1, k v H (Same.refl H) h2⟩
  · exact k.elim
theorem db_var {i : Nat} {e : Expr} (h : PE X e (tVar i)) : DB X C O e (vr i) := pe_imp h fun σ H Q ⟨B, δ, ad, r, k⟩ => by
  unfold vr at k
  split at k
  · rename_i d e
    by_cases hi : i ∈ O
    · obtain ⟨d', h1, h2, o⟩ := r.own i hi
      rw [e] at h1; cases h1
      exact ⟨_, h2, k _ H (Same.refl H) (.inr ⟨_, rfl, o⟩)⟩
    · obtain ⟨v, h1, h2⟩ := r.fro i d hi e
      exact ⟨v, h1, k v H (Same.refl H) h2.bw⟩
  · exact k.elim
def toD : V → Option PyData
  | .non => some .none
  | .bl b => some (.bool b)
  | .int i => some (.int i)
  | .str x => some (.str x)
  | _ => none
theorem de_cst {v : V} {d : PyData} {e : Expr} (h : PE X e (tC v)) (hv : toD v = some d) : DE X C O e (cst d) := pe_imp h fun σ H Q ⟨B, δ, ad, r, k⟩ => by
  refine k v H (Same.refl H) ?_
  cases v <;> cases hv <;> constructor
/-- a tuple of the module's top -/
theorem de_glob {v : V} {d : PyData} {e : Expr} (h : PE X e (tC v)) (hv : ∀ H av, Rp X.K H av v d) : DE X C O e (cst d) := pe_imp h fun σ H Q ⟨B, δ, ad, r, k⟩ => k v H (Same.refl H) (hv _ _)
end

/-! ### two in a row -/
section
variable {X : Cx} {C : Cc} {O : List Nat} {a b : Expr} {fa fb : FE}
theorem two {K : PySem.W.Frag} {ra rb : Rel3} {g : PyData → PyData → R PyData} {rel : Rel3} {σ : L2.St} {H : Hp} {Q : VK} {RR : V → V → Hp → Prop}
    (h : tX K C O rel (fun δ => (fa δ).bind fun d => (fb δ).bind fun e => g d e) σ H Q)
    (k : ∀ B ad δ x y d e H1 H2, Rl K C.n B O ad δ σ H → Same H H1 → Same H1 H2 → ra H H1 (avO B O ad) x d → rb H1 H2 (avO B O ad) y e →
      Rk (g d e) (fun d => ∀ v H', Same H H' → rel H H' (avO B O ad) v d → Q v H') (fun c x => ∀ cls dd H', Same H H' → Er K c x cls dd H' → C.W cls dd σ H') → RR x y H2) :
    tX K C O ra fa σ H fun x H1 => tX K C O rb fb σ H1 fun y H2 => RR x y H2 := by
  obtain ⟨B, δ, ad, r, q⟩ := h
  refine ⟨B, δ, ad, r, q.bind.imp (fun d _ q x H1 s1 r1 => ?_) fun _ _ z => z⟩
  refine ⟨B, δ, ad, r.same s1, q.bind.imp (fun e _ q y H2 s2 r2 => ?_) fun c x z cls dd H' s => z cls dd H' (s1.trans s)⟩
  exact k B ad δ x y d e H1 H2 r s1 s2 r1 r2 q
/-- an operation on data -/
def OpD (X : Cx) (f : Value → Value → Sem Value) (sem : PyData → PyData → Option PyData) : Prop :=
  ∀ (pins : List (Addr × Obj)) (s : Shared) (σ : L2.St) (H : Hp) (x y : V) (v u : Value) (Q : VK) (av : Addr → Prop) (d e z : PyData), Inv X pins σ H s → RelV x v → RelV y u →
    (∀ a, av a → H a ≠ none) → Bw X.K H av x d → Bw X.K H av y e → sem d e = some z → (∀ v H', Same H H' → Rp X.K H' av v z → Q v H') → wpAny (model X.prog X.w) X.A (f v u) (EP X pins σ Q) X.xe s
def op2 (sem : PyData → PyData → Option PyData) (fa fb : FE) : FE := fun δ => (fa δ).bind fun d => (fb δ).bind fun e => ofO (sem d e)
/-- the operation at its operands -/
theorem OpD.two {f : Value → Value → Sem Value} {sem : PyData → PyData → Option PyData} (ho : OpD X f sem) {pins : List (Addr × Obj)} {σ : L2.St} {H : Hp} {Q : VK} (h : tX X.K C O (relE X.K) (op2 sem fa fb) σ H Q) :
    tX X.K C O (relB X.K) fa σ H fun x H1 => tX X.K C O (relB X.K) fb σ H1 fun y H2 => ∀ v u s2, Inv X pins σ H2 s2 → RelV x v → RelV y u → wpAny (model X.prog X.w) X.A (f v u) (EP X pins σ Q) X.xe s2 :=
  Dl.two h fun B ad δ x y d e H1 H2 r s1 s2 r1 r2 q v u st I rx ry => by
    obtain ⟨z, ez, q⟩ := q.ofO
    have s12 := s1.trans s2
    exact ho pins st σ H2 x y v u Q (avO B O ad) d e z I rx ry ((r.same s12).avdom) (r1.same s2) r2 ez fun w H' s3 rz => q w H' (s12.trans s3) rz
theorem de_op {op : Operator} {sem : PyData → PyData → Option PyData} {pos : Pos} (ho : OpD X (binaryOp op) sem) (ha : DB X C O a fa) (hb : DB X C O b fb) : DE X C O (.BinOp a op b pos) (op2 sem fa fb) := by
  refine ⟨fun pins s σ H Q I h => ?_⟩
  exact wpAny_BinOp (binT ha hb I (ho.two (pins := pins) h) fun v u s2 x y H2 I2 rx ry q => q v u s2 I2 rx ry)
theorem de_cmp {op : CmpOp} {sem : PyData → PyData → Option PyData} {pos : Pos} (ho : OpD X (compareOp op) sem) (ha : DB X C O a fa) (hb : DB X C O b fb) (hm : behindInMarks op b = false := by rfl) : DE X C O (.Compare a [op] [b] pos) (op2 sem fa fb) := by
  refine ⟨fun pins s σ H Q I h => ?_⟩
  exact wpAny_Compare1 (bin ha hb I (ho.two (pins := pins) h) fun v u s2 x y H2 I2 rx ry q => q v u s2 I2 rx ry) hm
end

/-! ### tests -/
def asB : PyData → R Bool
  | .bool b => .ok b
  | _ => .bad
def tst (f : FE) : FT := fun δ => (f δ).bind asB
def andT (f g : FT) : FT := fun δ => (f δ).bind fun b => if b = true then g δ else .ok false
def orT (f g : FT) : FT := fun δ => (f δ).bind fun b => if b = true then .ok true else g δ
def notT (f : FT) : FT := fun δ => (f δ).bind fun b => .ok (!b)
def andV (f g : FE) : FE := fun δ => (f δ).bind fun d => (asB d).bind fun b => if b = true then g δ else .ok (.bool false)
def orV (f g : FE) : FE := fun δ => (f δ).bind fun d => (asB d).bind fun b => if b = true then .ok (.bool true) else g δ
def notV (f : FE) : FE := fun δ => (f δ).bind fun d => (asB d).bind fun b => .ok (.bool !b)
theorem Rk.asB {d : PyData} {q : Bool → Prop} {e : Str → Option (Str × Int) → Prop} (h : Rk (Dl.asB d) q e) : ∃ b, d = .bool b ∧ q b := by
  cases d with
  | bool b => exact ⟨b, rfl, h⟩
  | _ => exact h.elim
section
variable {X : Cx} {C : Cc} {O : List Nat} {a b : Expr} {f : FE} {fa fb : FT} {ga gb : FE}
theorem dt_val {e : Expr} (h : DB X C O e f) (he : ∀ whole, isTrue e X.env whole = (do let v ← whole; standAt e.pos; holding [v] (truthy v)) := by intro _; rfl) : DT X C O e (tst f) := pt_imp (pt_val h he) fun σ H Q ⟨B, δ, ad, r, k⟩ => by
  refine ⟨B, δ, ad, r, k.bind.imp (fun d _ q v H' s z => ?_) fun _ _ z => z⟩
  obtain ⟨b, rfl, q⟩ := q.asB
  exact ⟨b, z.bool, q H' s⟩
theorem dt_cmp {op : CmpOp} {sem : PyData → PyData → Option PyData} {pos : Pos} {x y : Expr} {fx fy : FE} (ho : OpD X (compareOp op) sem) (ha : DB X C O x fx) (hb : DB X C O y fy) (hm : behindInMarks op y = false := by rfl) : DT X C O (.Compare x [op] [y] pos) (tst (op2 sem fx fy)) := by
  refine ⟨fun pins s σ H Q I h => ?_⟩
  have h' : tX X.K C O (relE X.K) (op2 sem fx fy) σ H (fun v H' => ∃ k, v = .bl k ∧ Q k H') := by
    obtain ⟨B, δ, ad, r, k⟩ := h
    refine ⟨B, δ, ad, r, k.bind.imp (fun d _ q v H' s z => ?_) fun _ _ z => z⟩
    obtain ⟨b, rfl, q⟩ := q.asB
    exact ⟨b, z.bw.bool, q H' s⟩
  refine wpAny_isTrue_Compare1 (bin ha hb I (ho.two (pins := pins) h') fun v u s2 x y H2 I2 rx ry q => ?_) hm
  refine thn (q v u s2 I2 rx ry) fun c s3 ⟨z, H3, I3, r3, k, e, q3⟩ => ?_
  subst e
  cases r3
  exact wpAny_truthy_bool ⟨H3, I3, q3⟩
theorem dt_not {pos : Pos} (h : DT X C O a fa) : DT X C O (.UnaryOp .Not a pos) (notT fa) := pt_imp (pt_not h) fun σ H Q ⟨B, δ, ad, r, k⟩ => ⟨B, δ, ad, r, k.bind⟩
theorem tand {K : PySem.W.Frag} {σ : L2.St} {H : Hp} {Q : Bool → Hp → Prop} (h : tT K C O (andT fa fb) σ H Q) : tAnd (tT K C O fa) (tT K C O fb) σ H Q := by
  obtain ⟨B, δ, ad, r, k⟩ := h
  refine ⟨B, δ, ad, r, k.bind.imp (fun b _ q H' s => ?_) fun _ _ z => z⟩
  cases b with
  | true =>
    rw [if_pos rfl] at q ⊢
    exact ⟨B, δ, ad, r.same s, q.imp (fun c _ q H2 s2 => q H2 (s.trans s2)) fun c x z cls dd H2 s2 => z cls dd H2 (s.trans s2)⟩
  | false =>
    rw [if_neg Bool.false_ne_true] at q ⊢
    exact q H' s
theorem tor {K : PySem.W.Frag} {σ : L2.St} {H : Hp} {Q : Bool → Hp → Prop} (h : tT K C O (orT fa fb) σ H Q) : tOr (tT K C O fa) (tT K C O fb) σ H Q := by
  obtain ⟨B, δ, ad, r, k⟩ := h
  refine ⟨B, δ, ad, r, k.bind.imp (fun b _ q H' s => ?_) fun _ _ z => z⟩
  cases b with
  | false =>
    rw [if_neg Bool.false_ne_true] at q ⊢
    exact ⟨B, δ, ad, r.same s, q.imp (fun c _ q H2 s2 => q H2 (s.trans s2)) fun c x z cls dd H2 s2 => z cls dd H2 (s.trans s2)⟩
  | true =>
    rw [if_pos rfl] at q ⊢
    exact q H' s
abbrev DW (X : Cx) (C : Cc) (O : List Nat) (e : Expr) (f : FT) : Prop := PW X e (tT X.K C O f)
theorem dw_and1 {pos : Pos} (h : DT X C O a fa) : DW X C O (.BoolOp .And [a] pos) fa := pw_and1 h
theorem dw_or1 {pos : Pos} (h : DT X C O a fa) : DW X C O (.BoolOp .Or [a] pos) fa := pw_or1 h
theorem dw_and {pos : Pos} {rest : List Expr} (ha : DT X C O a fa) (hb : DW X C O (.BoolOp .And (b :: rest) pos) fb) : DW X C O (.BoolOp .And (a :: b :: rest) pos) (andT fa fb) := pw_imp (pw_and ha hb) fun _ _ _ => tand
theorem dw_or {pos : Pos} {rest : List Expr} (ha : DT X C O a fa) (hb : DW X C O (.BoolOp .Or (b :: rest) pos) fb) : DW X C O (.BoolOp .Or (a :: b :: rest) pos) (orT fa fb) := pw_imp (pw_or ha hb) fun _ _ _ => tor
theorem w2t {e : Expr} (h : DW X C O e fa) : DT X C O e fa := h.pt
theorem de_one {op : BoolOp} {pos : Pos} (h : DE X C O a ga) : DE X C O (.BoolOp op [a] pos) ga := pe_one h
theorem de_and {pos : Pos} {rest : List Expr} (ha : DB X C O a ga) (hb : DE X C O (.BoolOp .And (b :: rest) pos) gb) : DE X C O (.BoolOp .And (a :: b :: rest) pos) (andV ga gb) := pe_imp (pe_and ha hb) fun σ H Q ⟨B, δ, ad, r, k⟩ => by
  refine ⟨B, δ, ad, r, k.bind.imp (fun d _ q v H' s z => ?_) fun _ _ z => z⟩
  obtain ⟨b, rfl, q'⟩ := q.bind.asB
  clear q
  have q := q'
  clear q'
  refine ⟨b, z.bool, ?_⟩
  cases b with
  | true =>
    rw [if_pos rfl] at q ⊢
    exact ⟨B, δ, ad, r.same s, q.imp (fun c _ q v H2 s2 => q v H2 (s.trans s2)) fun c x z cls dd H2 s2 => z cls dd H2 (s.trans s2)⟩
  | false =>
    rw [if_neg Bool.false_ne_true] at q ⊢
    exact q _ H' s (.bl false)
theorem de_or {pos : Pos} {rest : List Expr} (ha : DB X C O a ga) (hb : DE X C O (.BoolOp .Or (b :: rest) pos) gb) : DE X C O (.BoolOp .Or (a :: b :: rest) pos) (orV ga gb) := pe_imp (pe_or ha hb) fun σ H Q ⟨B, δ, ad, r, k⟩ => by
  refine ⟨B, δ, ad, r, k.bind.imp (fun d _ q v H' s z => ?_) fun _ _ z => z⟩
  obtain ⟨b, rfl, q'⟩ := q.bind.asB
  clear q
  have q := q'
  clear q'
  refine ⟨b, z.bool, ?_⟩
  cases b with
  | false =>
    rw [if_neg Bool.false_ne_true] at q ⊢
    exact ⟨B, δ, ad, r.same s, q.imp (fun c _ q v H2 s2 => q v H2 (s.trans s2)) fun c x z cls dd H2 s2 => z cls dd H2 (s.trans s2)⟩
  | true =>
    rw [if_pos rfl] at q ⊢
    exact q _ H' s (.bl true)
theorem de_not {pos : Pos} (ha : DB X C O a ga) : DE X C O (.UnaryOp .Not a pos) (notV ga) := pe_imp (pe_not ha) fun σ H Q ⟨B, δ, ad, r, k⟩ => by
  refine ⟨B, δ, ad, r, k.bind.imp (fun d _ q v H' s z => ?_) fun _ _ z => z⟩
  obtain ⟨b, rfl, q⟩ := q.bind.asB
  exact ⟨b, z.bool, q _ H' s (.bl _)⟩
def un1 (sem : PyData → Option PyData) (f : FE) : FE := fun δ => (f δ).bind fun d => ofO (sem d)
def negD : PyData → Option PyData
  | .int i => some (.int (-i))
  | _ => none
theorem de_neg {pos : Pos} (ha : DB X C O a ga) : DE X C O (.UnaryOp .USub a pos) (un1 negD ga) := pe_imp (pe_un un_neg ha) fun σ H Q ⟨B, δ, ad, r, k⟩ => by
  refine ⟨B, δ, ad, r, k.bind.imp (fun d _ q v H' s z => ?_) fun _ _ z => z⟩
  obtain ⟨w, e, q⟩ := q.ofO
  cases d with
  | int i => cases e; exact ⟨i, z.int, q _ H' s (.int _)⟩
  | _ => cases e
end

/-! ### argument lists, displays -/
def evs : List FE → Ev → R (List PyData)
  | [], _ => .ok []
  | f :: fs, δ => (f δ).bind fun d => (evs fs δ).bind fun ds => .ok (d :: ds)
def tAll (K : PySem.W.Frag) (C : Cc) (O : List Nat) (fs : List FE) : TA := fun σ H Q => ∃ B δ ad, Rl K C.n B O ad δ σ H ∧
  Rk (evs fs δ) (fun ds => ∀ vs H', Same H H' → RpAll K H' (avO B O ad) vs ds → Q vs H') (fun c x => ∀ cls dd H', Same H H' → Er K c x cls dd H' → C.W cls dd σ H')
abbrev DA (X : Cx) (C : Cc) (O : List Nat) (es : List Expr) (fs : List FE) : Prop := PA X es (tAll X.K C O fs)
theorem evs_length {fs : List FE} {δ : Ev} {ds : List PyData} (h : evs fs δ = .ok ds) : ds.length = fs.length := by
  induction fs generalizing ds with
  | nil => cases h; rfl
  | cons f fs ih =>
    unfold evs at h
    cases e : f δ with
    | ok d =>
      rw [e] at h
      cases e2 : evs fs δ with
      | ok ds' => simp only [R.bind, e2] at h; cases h; simp [ih e2]
      | err c x => simp only [R.bind, e2] at h; cases h
      | bad => simp only [R.bind, e2] at h; cases h
    | err c x => rw [e] at h; cases h
    | bad => rw [e] at h; cases h
def mkT (fs : List FE) : FE := fun δ => (evs fs δ).bind fun ds => .ok (.tuple ds)
def mkL (fs : List FE) : FE := fun δ => (evs fs δ).bind fun ds => .ok (.list ds)
theorem same_new {H : Hp} {p : Addr} (h : H p = none) (o : HO) : Same H (upd H p o) := fun b u q => by rw [upd_ne (ne_of_none q h)]; exact q
section
variable {X : Cx} {C : Cc} {O : List Nat} {e : Expr} {es : List Expr} {f : FE} {fs : List FE} {pos : Pos}
theorem da_nil : DA X C O [] [] := pa_imp pa_nil fun σ H Q ⟨B, δ, ad, r, k⟩ => k [] H (Same.refl H) .nil
theorem da_cons (he : DE X C O e f) (hr : DA X C O es fs) (hs : starEach (e :: es) X.env = (false, eval e X.env) :: starEach es X.env := by rfl) : DA X C O (e :: es) (f :: fs) := pa_imp (pa_cons he hr hs) fun σ H Q ⟨B, δ, ad, r, k⟩ => by
  unfold evs at k
  refine ⟨B, δ, ad, r, k.bind.imp (fun d _ q v H1 s1 z => ?_) fun _ _ z => z⟩
  refine ⟨B, δ, ad, r.same s1, q.bind.imp (fun ds _ q vs H2 s2 zs => ?_) fun c x z cls dd H2 s2 => z cls dd H2 (s1.trans s2)⟩
  exact q (v :: vs) H2 (s1.trans s2) (.cons (Rp.same s2 z) zs)
theorem de_tup {x1 : Nat} (h : DA X C O es fs) (hl : decide (fs.length ≤ 1000) = true := by rfl) : DE X C O (.Tuple es x1 pos) (mkT fs) := pe_imp (pe_tup h) fun σ H Q ⟨B, δ, ad, r, k⟩ => by
  refine ⟨B, δ, ad, r, k.bind.imp (fun ds e q vs H1 s1 zs => ?_) fun _ _ z => z⟩
  refine ⟨?_, fun p hp => q _ _ (s1.trans (same_new hp _)) (.tup (SqT.of upd_same) (zs.same (same_new hp _)))⟩
  rw [zs.length, evs_length e]
  exact Nat.le_of_lt (small1000 (of_decide_eq_true hl))
theorem df_lst (h : DA X C O es fs) (hl : decide (fs.length ≤ 1000) = true := by rfl) : DF X C O (.List es pos) (mkL fs) := pe_imp (pe_lst h) fun σ H Q ⟨B, δ, ad, r, k⟩ => by
  refine ⟨B, δ, ad, r, k.bind.imp (fun ds e q vs H1 s1 zs => ?_) fun _ _ z => z⟩
  refine ⟨?_, fun p hp => q _ _ (s1.trans (same_new hp _)) ⟨p, rfl, s1.free hp, vs, upd_same, zs.fresh hp (same_new hp _)⟩⟩
  rw [zs.length, evs_length e]
  exact Nat.le_of_lt (small1000 (of_decide_eq_true hl))
end
end Dl

namespace Dl
open PySem PySem.Spec L2

/-! ### arithmetic on data -/
def addD : PyData → PyData → Option PyData
  | .int i, .int j => some (.int (i + j))
  | .str x, .str y => if x.length + y.length ≤ sizeLine then some (.str (x ++ y)) else none
  | .list xs, .list ys => if xs.length + ys.length ≤ sizeLine then some (.list (xs ++ ys)) else none
  | .tuple xs, .tuple ys => if xs.length + ys.length ≤ sizeLine then some (.tuple (xs ++ ys)) else none
  | _, _ => none
def subD : PyData → PyData → Option PyData
  | .int i, .int j => some (.int (i - j))
  | _, _ => none
def mulOk (i j : Int) : Bool := (decide (-(2 ^ 64) < i) && decide (i < 2 ^ 64)) || (decide (-(2 ^ 64) < j) && decide (j < 2 ^ 64))
def mulD : PyData → PyData → Option PyData
  | .int i, .int j => if mulOk i j then some (.int (i * j)) else none
  | .str x, .int n => if 0 ≤ n ∧ n ≤ 1000 ∧ x.length ≤ 1000 then some (.str (Txt.mul x n)) else none
  | _, _ => none
def modD : PyData → PyData → Option PyData
  | .int i, .int j => if 0 < j then some (.int (i % j)) else none
  | _, _ => none
def fdivD : PyData → PyData → Option PyData
  | .int i, .int j => if 0 < j ∧ j < 2 ^ 63 then some (.int (i / j)) else none
  | _, _ => none
def shlD : PyData → PyData → Option PyData
  | .int i, .int j => if 0 ≤ j ∧ j ≤ 1000 ∧ 0 ≤ i ∧ i < 1000 then some (.int (i * 2 ^ j.toNat)) else none
  | _, _ => none
def powD : PyData → PyData → Option PyData
  | .int i, .int j => if 0 ≤ j ∧ j ≤ 1000 ∧ 0 ≤ i ∧ i < 1000 then some (.int (i ^ j.toNat)) else none
  | _, _ => none
def shrD : PyData → PyData → Option PyData
  | .int i, .int j => if 0 ≤ j then some (.int (i / 2 ^ j.toNat)) else none
  | _, _ => none
def bandD : PyData → PyData → Option PyData
  | .int i, .int j => some (.int (Builtin.bitAnd i j))
  | _, _ => none
section
variable {X : Cx}
/-- by a rule on two ints -/
theorem OpD.ofI {f : Value → Value → Sem Value} {sem : PyData → PyData → Option PyData} {c : Int → Int → Prop} {g : Int → Int → V} {gd : Int → Int → PyData} (ho : OpR X f (rI c g))
    (hs : ∀ d e z, sem d e = some z → ∃ i j, d = .int i ∧ e = .int j ∧ c i j ∧ z = gd i j) (hg : ∀ (K : PySem.W.Frag) H av i j, Rp K H av (g i j) (gd i j)) : OpD X f sem := by
  intro pins s σ H x y v u Q av d e z I rx ry hav hd he hz q
  obtain ⟨i, j, rfl, rfl, hc, rfl⟩ := hs d e z hz
  exact ho pins s σ H x y v u Q I rx ry ⟨i, j, hd.int, he.int, hc, q _ H (Same.refl H) (hg _ _ _ _ _)⟩
theorem OpD.ofI0 {f : Value → Value → Sem Value} {sem : PyData → PyData → Option PyData} {g : Int → Int → V} {gd : Int → Int → PyData} (ho : OpR X f (rI0 g))
    (hs : ∀ d e z, sem d e = some z → ∃ i j, d = .int i ∧ e = .int j ∧ z = gd i j) (hg : ∀ (K : PySem.W.Frag) H av i j, Rp K H av (g i j) (gd i j)) : OpD X f sem := by
  intro pins s σ H x y v u Q av d e z I rx ry hav hd he hz q
  obtain ⟨i, j, rfl, rfl, rfl⟩ := hs d e z hz
  exact ho pins s σ H x y v u Q I rx ry ⟨i, j, hd.int, he.int, q _ H (Same.refl H) (hg _ _ _ _ _)⟩
theorem od_sub : OpD X (binaryOp .Sub) subD := OpD.ofI0 (gd := fun i j => .int (i - j)) op_sub (fun d e z h => by
  unfold subD at h; split at h
  · cases h; exact ⟨_, _, rfl, rfl, rfl⟩
  · cases h) fun _ _ _ _ _ => .int _
theorem od_mod : OpD X (binaryOp .Mod) modD := OpD.ofI (gd := fun i j => .int (i % j)) op_mod (fun d e z h => by
  unfold modD at h; split at h
  · split at h
    · cases h; exact ⟨_, _, rfl, rfl, by assumption, rfl⟩
    · cases h
  · cases h) fun _ _ _ _ _ => .int _
theorem od_fdiv : OpD X (binaryOp .FloorDiv) fdivD := OpD.ofI (gd := fun i j => .int (i / j)) op_fdivW (fun d e z h => by
  unfold fdivD at h; split at h
  · split at h
    · rename_i i j hc
      cases h
      refine ⟨_, _, rfl, rfl, wide_div (b := 63) hc.1 ?_ (by decide) (by decide), rfl⟩
      omega
    · cases h
  · cases h) fun _ _ _ _ _ => .int _
theorem od_shl : OpD X (binaryOp .LShift) shlD := OpD.ofI (gd := fun i j => .int (i * 2 ^ j.toNat)) op_shl (fun d e z h => by
  unfold shlD at h; split at h
  · split at h
    · rename_i i j hc
      cases h
      exact ⟨_, _, rfl, rfl, ⟨hc.1, by omega, by omega⟩, rfl⟩
    · cases h
  · cases h) fun _ _ _ _ _ => .int _
theorem od_pow : OpD X (binaryOp .Pow) powD := OpD.ofI (gd := fun i j => .int (i ^ j.toNat)) op_pow (fun d e z h => by
  unfold powD at h; split at h
  · split at h
    · rename_i i j hc
      cases h
      exact ⟨_, _, rfl, rfl, ⟨hc.1, by omega, by omega⟩, rfl⟩
    · cases h
  · cases h) fun _ _ _ _ _ => .int _
theorem od_shr : OpD X (binaryOp .RShift) shrD := OpD.ofI (gd := fun i j => .int (i / 2 ^ j.toNat)) op_shr (fun d e z h => by
  unfold shrD at h; split at h
  · split at h
    · cases h; exact ⟨_, _, rfl, rfl, by assumption, rfl⟩
    · cases h
  · cases h) fun _ _ _ _ _ => .int _
theorem od_band : OpD X (binaryOp .BitAnd) bandD := OpD.ofI0 (gd := fun i j => .int (Builtin.bitAnd i j)) op_and (fun d e z h => by
  unfold bandD at h; split at h
  · cases h; exact ⟨_, _, rfl, rfl, rfl⟩
  · cases h) fun _ _ _ _ _ => .int _
theorem od_mul : OpD X (binaryOp .Mult) mulD := by
  intro pins s σ H x y v u Q av d e z I rx ry hav hd he hz q
  unfold mulD at hz
  split at hz
  · split at hz
    · rename_i i j hc
      cases hz
      refine op_mul pins s σ H x y v u Q I rx ry ⟨_, _, hd.int, he.int, ?_, q _ H (Same.refl H) (.int _)⟩
      unfold mulOk at hc
      rw [Bool.or_eq_true, Bool.and_eq_true, Bool.and_eq_true, decide_eq_true_eq, decide_eq_true_eq, decide_eq_true_eq, decide_eq_true_eq] at hc
      exact hc
    · cases hz
  · split at hz
    · rename_i a n hc
      cases hz
      have e1 := hd.str
      subst e1
      have e2 := he.int
      subst e2
      obtain ⟨t, rfl⟩ := rx
      obtain ⟨t2, rfl⟩ := ry
      obtain ⟨h0, h1, h2⟩ := hc
      have hmul : a.length * n.toNat ≤ 1000 * 1000 := Nat.mul_le_mul h2 (by omega)
      refine PySem.SB.mul ⟨?_, ?_, ?_⟩ fun t' k => ⟨.str _, H, I.tok _, ⟨_, rfl⟩, q _ H (Same.refl H) (.str _)⟩
      · simp only [Bool.or_eq_false_iff, decide_eq_false_iff_not]; omega
      · intro h3 h4 h5
        have h6 : n ≤ (2 ^ 63 - 1) / (a.length : Int) ∨ (a.length : Int) = 0 := by
          rcases Nat.eq_zero_or_pos a.length with z | z
          · exact .inr (by omega)
          · refine .inl ((Int.le_ediv_iff_mul_le (by omega)).mpr ?_)
            have : n * (a.length : Int) ≤ 1000 * 1000 := Int.mul_le_mul h1 (by omega) (by omega) (by omega)
            omega
        have h7 : (a.length : Int) ≤ (2 ^ 63 - 1) / n := (Int.le_ediv_iff_mul_le (by omega)).mpr (by
            have : (a.length : Int) * n ≤ 1000 * 1000 := Int.mul_le_mul (by omega) h1 (by omega) (by omega)
            omega)
        omega
      · intro h3 h4
        have : sizeLine = 16777216 := sizeLine_eq
        unfold Builtin.Str.tooLong
        simp only [decide_eq_false_iff_not]
        omega
    · cases hz
  · cases hz
theorem od_add : OpD X (binaryOp .Add) addD := by
  intro pins s σ H x y v u Q av d e z I rx ry hav hd he hz q
  unfold addD at hz
  split at hz
  · cases hz
    exact op_add pins s σ H x y v u Q I rx ry ⟨_, _, hd.int, he.int, q _ H (Same.refl H) (.int _)⟩
  · split at hz
    · cases hz
      exact op_add_str pins s σ H x y v u Q I rx ry ⟨_, _, hd.str, he.str, by assumption, q _ H (Same.refl H) (.str _)⟩
    · cases hz
  · split at hz
    · rename_i xs ys hc
      cases hz
      obtain ⟨a, vs, rfl, ha, ra⟩ := hd.list
      obtain ⟨b, ws, rfl, hb, rb⟩ := he.list
      cases rx
      cases ry
      obtain ⟨z1, its, n, r, e1⟩ := ha.ok I.hok
      obtain ⟨z2, its2, n2, r2, e2⟩ := hb.ok I.hok
      have l1 := r.length
      have l2 := r2.length
      rw [← ra.length, ← rb.length] at hc
      refine PySem.P.add_list e1 e2 ?_ (by rw [List.size_toArray, List.size_toArray]; omega)
      have ea : its.toArray ++ its2.toArray = (its ++ its2).toArray := by simp
      rw [ea]
      have hf := I.fresh
      exact ⟨.ref _, _, I.lnew (t' := s.toks) (r.append r2) (by rw [List.length_append]; omega), rfl,
        q _ _ (same_new hf _) (.lst (.inl upd_same) (fun z => hav _ z hf) ((ra.append rb).same (same_new hf _)))⟩
    · cases hz
  · split at hz
    · rename_i xs ys hc
      cases hz
      obtain ⟨a, vs, rfl, ha, ra⟩ := hd.tuple
      obtain ⟨b, ws, rfl, hb, rb⟩ := he.tuple
      refine op_catA pins s σ H _ _ v u Q I rx ry ⟨a, b, vs, ws, rfl, rfl, ha, hb, by rw [ra.length, rb.length]; exact hc, fun e => ?_, fun _ e => ?_, fun _ _ p hp => ?_⟩
      · subst e; cases ra; exact q _ H (Same.refl H) (.tup hb rb)
      · subst e; cases rb; rw [List.append_nil] at q; exact q _ H (Same.refl H) (.tup ha ra)
      · exact q _ _ (same_new hp _) (.tup (SqT.of upd_same) ((ra.append rb).same (same_new hp _)))
    · cases hz
  · cases hz

/-! ### comparisons -/
def ltD : PyData → PyData → Option PyData
  | .int i, .int j => some (.bool (decide (i < j)))
  | .str x, .str y => some (.bool (decide (x.cps.toList < y.cps.toList)))
  | _, _ => none
def leD : PyData → PyData → Option PyData
  | .int i, .int j => some (.bool (decide (i ≤ j)))
  | _, _ => none
def gtD : PyData → PyData → Option PyData
  | .int i, .int j => some (.bool (decide (j < i)))
  | _, _ => none
def geD : PyData → PyData → Option PyData
  | .int i, .int j => some (.bool (decide (j ≤ i)))
  | _, _ => none
theorem od_lt : OpD X (compareOp .Lt) ltD := by
  intro pins s σ H x y v u Q av d e z I rx ry hav hd he hz q
  unfold ltD at hz
  split at hz
  · cases hz; exact op_lt pins s σ H x y v u Q I rx ry ⟨_, _, hd.int, he.int, q _ H (Same.refl H) (.bl _)⟩
  · cases hz; exact op_lt_str pins s σ H x y v u Q I rx ry ⟨_, _, hd.str, he.str, q _ H (Same.refl H) (.bl _)⟩
  · cases hz
theorem od_le : OpD X (compareOp .LtE) leD := OpD.ofI0 (gd := fun i j => .bool (decide (i ≤ j))) op_le (fun d e z h => by
  unfold leD at h; split at h
  · cases h; exact ⟨_, _, rfl, rfl, rfl⟩
  · cases h) fun _ _ _ _ _ => .bl _
theorem od_gt : OpD X (compareOp .Gt) gtD := OpD.ofI0 (gd := fun i j => .bool (decide (j < i))) op_gt (fun d e z h => by
  unfold gtD at h; split at h
  · cases h; exact ⟨_, _, rfl, rfl, rfl⟩
  · cases h) fun _ _ _ _ _ => .bl _
theorem od_ge : OpD X (compareOp .GtE) geD := OpD.ofI0 (gd := fun i j => .bool (decide (j ≤ i))) op_ge (fun d e z h => by
  unfold geD at h; split at h
  · cases h; exact ⟨_, _, rfl, rfl, rfl⟩
  · cases h) fun _ _ _ _ _ => .bl _
/-- two scalars that == tells apart as data does -/
def scalD : PyData → PyData → Bool
  | .none, .none => true | .none, .int _ => true | .int _, .none => true | .none, .bool _ => true | .bool _, .none => true | .none, .str _ => true | .str _, .none => true
  | .int _, .int _ => true | .bool _, .bool _ => true | .str _, .str _ => true
  | .int _, .str _ => true | .str _, .int _ => true | .bool _, .str _ => true | .str _, .bool _ => true
  | _, _ => false
def eqOk (d e : PyData) : Bool := scalD d e || (SeqAt.shaped d && SeqAt.shaped e)
def eqD (d e : PyData) : Option PyData := if eqOk d e then some (.bool (PyData.eqv d e)) else none
def neD (d e : PyData) : Option PyData := if eqOk d e then some (.bool (!PyData.eqv d e)) else none
theorem scal_of {K : PySem.W.Frag} {H : Hp} {av : Addr → Prop} {x y : V} {d e : PyData} (hd : Bw K H av x d) (he : Bw K H av y e) (h : scalD d e = true) : scal x y = true ∧ decide (x = y) = PyData.eqv d e := by
  cases d <;> cases e <;> first
    | (cases h; done)
    | (first | (have h1 := hd.none) | (have h1 := hd.int) | (have h1 := hd.bool) | (have h1 := hd.str)
       first | (have h2 := he.none) | (have h2 := he.int) | (have h2 := he.bool) | (have h2 := he.str)
       subst h1 h2
       refine ⟨rfl, ?_⟩
       rw [Bool.eq_iff_iff]
       simp [PyData.eqv])
theorem od_eq (hu : X.A.units + 64 < cLine) : OpD X (compareOp .Eq) eqD := by
  intro pins s σ H x y v u Q av d e z I rx ry hav hd he hz q
  unfold eqD at hz
  split at hz
  · rename_i hc
    cases hz
    unfold eqOk at hc
    rcases Bool.or_eq_true_iff.mp hc with hc | hc
    · obtain ⟨h1, h2⟩ := scal_of hd he hc
      exact op_eq pins s σ H x y v u Q I rx ry ⟨h1, by rw [h2]; exact q _ H (Same.refl H) (.bl _)⟩
    · obtain ⟨h1, h2⟩ := Bool.and_eq_true_iff.mp hc
      exact op_eqD hu pins s σ H x y v u Q I rx ry ⟨d, e, hd.dp (SeqAt.canLay_of_shaped h1), he.dp (SeqAt.canLay_of_shaped h2), h1, h2, q _ H (Same.refl H) (.bl _)⟩
  · cases hz
theorem od_ne (hu : X.A.units + 64 < cLine) : OpD X (compareOp .NotEq) neD := by
  intro pins s σ H x y v u Q av d e z I rx ry hav hd he hz q
  unfold neD at hz
  split at hz
  · rename_i hc
    cases hz
    unfold eqOk at hc
    rcases Bool.or_eq_true_iff.mp hc with hc | hc
    · obtain ⟨h1, h2⟩ := scal_of hd he hc
      exact op_ne pins s σ H x y v u Q I rx ry ⟨h1, by rw [h2]; exact q _ H (Same.refl H) (.bl _)⟩
    · obtain ⟨h1, h2⟩ := Bool.and_eq_true_iff.mp hc
      exact op_neD hu pins s σ H x y v u Q I rx ry ⟨d, e, hd.dp (SeqAt.canLay_of_shaped h1), he.dp (SeqAt.canLay_of_shaped h2), h1, h2, q _ H (Same.refl H) (.bl _)⟩
  · cases hz
/-- is None -/
def isNone : PyData → Bool
  | .none => true
  | _ => false
def isD : PyData → PyData → Option PyData
  | d, .none => some (.bool (isNone d))
  | _, _ => none
def isntD : PyData → PyData → Option PyData
  | d, .none => some (.bool (!isNone d))
  | _, _ => none
theorem isNone_of {K : PySem.W.Frag} {H : Hp} {av : Addr → Prop} {x : V} {d : PyData} (hd : Bw K H av x d) : decide (x = .non) = isNone d := by
  cases d with
  | none => rw [hd.none]; rfl
  | bool b => rw [hd.bool]; rfl
  | int b => rw [hd.int]; rfl
  | str b => rw [hd.str]; rfl
  | list b => obtain ⟨a, xs, rfl, _⟩ := hd.list; rfl
  | tuple b => obtain ⟨a, xs, rfl, _⟩ := hd.tuple; rfl
  | dict b =>
    rcases hd with hd | ⟨a, rfl, _⟩
    · cases hd; rfl
    · rfl
theorem od_is : OpD X (compareOp .Is) isD := by
  intro pins s σ H x y v u Q av d e z I rx ry hav hd he hz q
  unfold isD at hz
  split at hz
  · cases hz; exact op_isN pins s σ H x y v u Q I rx ry ⟨he.none, by rw [isNone_of hd]; exact q _ H (Same.refl H) (.bl _)⟩
  · cases hz
theorem od_isnt : OpD X (compareOp .IsNot) isntD := by
  intro pins s σ H x y v u Q av d e z I rx ry hav hd he hz q
  unfold isntD at hz
  split at hz
  · cases hz; exact op_notN pins s σ H x y v u Q I rx ry ⟨he.none, by rw [isNone_of hd]; exact q _ H (Same.refl H) (.bl _)⟩
  · cases hz

/-! ### in -/
def flatD : PyData → Bool
  | .none | .bool _ | .int _ | .str _ => true
  | _ => false
theorem flat_of {K : PySem.W.Frag} {H : Hp} {av : Addr → Prop} {x : V} {d : PyData} (hd : Bw K H av x d) (h : flatD d = true) : flatV x = true ∧ ∃ H av, Rp K H av x d := by
  cases d <;> first
    | (cases h; done)
    | (rcases hd with hd | ⟨a, rfl, o⟩
       · exact ⟨by cases hd <;> rfl, _, _, hd⟩
       · exact o.elim)
theorem eqV_of {K : PySem.W.Frag} {H H' : Hp} {av av' : Addr → Prop} {x y : V} {d e : PyData} (hd : Rp K H av x d) (he : Rp K H' av' y e) (h1 : flatD d = true) (h2 : flatD e = true) : eqV x y = PyData.eqv d e := by
  cases d <;> first
    | (cases h1; done)
    | (cases e <;> first
        | (cases h2; done)
        | (have e1 := hd.bw; have e2 := he.bw
           first | (have z1 := e1.none) | (have z1 := e1.int) | (have z1 := e1.bool) | (have z1 := e1.str)
           first | (have z2 := e2.none) | (have z2 := e2.int) | (have z2 := e2.bool) | (have z2 := e2.str)
           subst z1 z2
           first
             | rfl
             | (rw [Bool.eq_iff_iff]; simp [eqV, PyData.eqv]; done)
             | (rename_i a b _ _ _ _; cases a <;> cases b <;> rfl)
             | (rename_i a b _ _ _ _; cases a <;> (rw [Bool.eq_iff_iff]; simp [eqV, PyData.eqv]; done))
             | (rename_i a b _ _ _ _; cases b <;> (rw [Bool.eq_iff_iff]; simp [eqV, PyData.eqv]; done))))
theorem inV_of {K : PySem.W.Frag} {H H' : Hp} {av av' : Addr → Prop} {x : V} {d : PyData} (hd : Rp K H av x d) (h1 : flatD d = true) : ∀ {ys : List V} {es : List PyData}, RpAll K H' av' ys es → es.all flatD = true →
    ys.all flatV = true ∧ inV x ys = es.any fun z => PyData.eqv z d
  | _, _, .nil, _ => ⟨rfl, rfl⟩
  | _, _, .cons h r, c => by
    rw [List.all_cons, Bool.and_eq_true] at c
    obtain ⟨q1, q2⟩ := inV_of hd h1 r c.2
    refine ⟨?_, ?_⟩
    · rw [List.all_cons, (flat_of h.bw c.1).1, q1]; rfl
    · unfold inV at q2 ⊢
      rw [List.any_cons, List.any_cons, q2, eqV_of h hd c.1 h1]
def inL (d : PyData) (ds : List PyData) : Option Bool :=
  if flatD d && ds.all flatD then some (ds.any fun z => PyData.eqv z d)
  else if SeqAt.shaped d && SeqAt.shaped (.list ds) then some (ds.any fun z => PyData.eqv z d) else none
def inB : PyData → PyData → Option Bool
  | .str x, .str y => some (!(Builtin.Str.occurrences y x 0 y.length 1).isEmpty)
  | d, .list ds => inL d ds
  | d, .tuple ds => if flatD d && ds.all flatD then some (ds.any fun z => PyData.eqv z d) else none
  | _, _ => none
def inD (d e : PyData) : Option PyData := (inB d e).map .bool
def notInD (d e : PyData) : Option PyData := (inB d e).map fun b => .bool !b
theorem od_inG (hu : X.A.units + 65 < cLine) (neg : Bool) (op : CmpOp) (hop : op = if neg then CmpOp.NotIn else CmpOp.In) : OpD X (compareOp op) (fun d e => (inB d e).map fun b => .bool (if neg then !b else b)) := by
  intro pins s σ H x y v u Q av d e z I rx ry hav hd he hz q
  replace hz : (inB d e).map (fun b => PyData.bool (if neg then !b else b)) = some z := hz
  cases hb : inB d e with
  | none => rw [hb] at hz; cases hz
  | some b =>
    rw [hb] at hz
    have hz' : z = .bool (if neg then !b else b) := by cases hz; rfl
    subst hz'
    have fin := q _ H (Same.refl H) (.bl _)
    unfold inB at hb
    split at hb
    · cases hb
      have e1 := hd.str
      have e2 := he.str
      cases neg with
      | false => subst hop; exact op_in_str pins s σ H x y v u Q I rx ry ⟨_, _, e1, e2, fin⟩
      | true => subst hop; exact op_notIn_str pins s σ H x y v u Q I rx ry ⟨_, _, e1, e2, fin⟩
    · rename_i ds
      unfold inL at hb
      split at hb
      · rename_i hc
        cases hb
        obtain ⟨c1, c2⟩ := Bool.and_eq_true_iff.mp hc
        obtain ⟨a, ys, rfl, ha, ra⟩ := he.list
        obtain ⟨f1, _, _, rd⟩ := flat_of hd c1
        obtain ⟨f2, f3⟩ := inV_of rd c1 ra c2
        cases neg with
        | false => subst hop; exact op_in_seq pins s σ H x _ v u Q I rx ry ⟨a, ys, rfl, .inl (.inl ha), f1, f2, by rw [f3]; exact fin⟩
        | true => subst hop; exact op_notIn_seq pins s σ H x _ v u Q I rx ry ⟨a, ys, rfl, .inl (.inl ha), f1, f2, by rw [f3]; exact fin⟩
      · split at hb
        · rename_i hc
          cases hb
          obtain ⟨c1, c2⟩ := Bool.and_eq_true_iff.mp hc
          have p1 := hd.dp (SeqAt.canLay_of_shaped c1)
          have p2 := he.dp (SeqAt.canLay_of_shaped c2)
          cases neg with
          | false => subst hop; exact op_inD hu pins s σ H x y v u Q I rx ry ⟨d, ds, p1, p2, c1, c2, fin⟩
          | true => subst hop; exact op_notInD hu pins s σ H x y v u Q I rx ry ⟨d, ds, p1, p2, c1, c2, fin⟩
        · cases hb
    · split at hb
      · rename_i hc
        cases hb
        obtain ⟨c1, c2⟩ := Bool.and_eq_true_iff.mp hc
        obtain ⟨a, ys, rfl, ha, ra⟩ := he.tuple
        obtain ⟨f1, _, _, rd⟩ := flat_of hd c1
        obtain ⟨f2, f3⟩ := inV_of rd c1 ra c2
        cases neg with
        | false => subst hop; exact op_in_seq pins s σ H x _ v u Q I rx ry ⟨a, ys, rfl, .inr ha, f1, f2, by rw [f3]; exact fin⟩
        | true => subst hop; exact op_notIn_seq pins s σ H x _ v u Q I rx ry ⟨a, ys, rfl, .inr ha, f1, f2, by rw [f3]; exact fin⟩
      · cases hb
    · cases hb
theorem od_in (hu : X.A.units + 65 < cLine) : OpD X (compareOp .In) inD := od_inG hu false .In rfl
theorem od_notin (hu : X.A.units + 65 < cLine) : OpD X (compareOp .NotIn) notInD := od_inG hu true .NotIn rfl
end
end Dl

namespace Dl
open PySem PySem.Spec L2

/-! ### subscripts, slices -/
def ixD : PyData → PyData → Option PyData
  | .list ds, .int i => atI ds i
  | .tuple ds, .int i => atI ds i
  | .str x, .int i => if x.length ≤ sizeLine then (atI x.cps.toList i).map fun c => .str ⟨#[c]⟩ else none
  | _, _ => none
theorem atI_of {K : PySem.W.Frag} {H : Hp} {av : Addr → Prop} {vs : List V} {ds : List PyData} {i : Int} {z : PyData} (r : RpAll K H av vs ds) (h : atI ds i = some z) : ∃ v, atI vs i = some v ∧ Rp K H av v z := by
  unfold atI at h ⊢
  rw [r.length]
  cases e : ixN ds.length i with
  | none => rw [e] at h; cases h
  | some j => rw [e] at h; exact r.get' h
def cutL {α : Type} (xs : List α) (lo hi : Option Int) : List α := (xs.drop (HT.sIx xs.length 0 lo)).take (HT.sIx xs.length xs.length hi - HT.sIx xs.length 0 lo)
def slD : PyData → Option Int → Option Int → Option PyData
  | .list ds, lo, hi => some (.list (cutL ds lo hi))
  | .tuple ds, lo, hi => some (.tuple (cutL ds lo hi))
  | .str x, lo, hi => if x.length ≤ sizeLine then some (.str (cutS x lo hi)) else none
  | _, _, _ => none
abbrev FO := Ev → R (Option Int)
def noP : FO := fun _ => .ok none
def asI : PyData → R Int
  | .int i => .ok i
  | _ => .bad
def prt (f : FE) : FO := fun δ => (f δ).bind fun d => (asI d).bind fun i => .ok (some i)
def slc (f : FE) (lo hi : FO) : FE := fun δ => (f δ).bind fun d => (lo δ).bind fun l => (hi δ).bind fun u => ofO (slD d l u)
theorem Rk.asI {d : PyData} {q : Int → Prop} {e : Str → Option (Str × Int) → Prop} (h : Rk (Dl.asI d) q e) : ∃ b, d = .int b ∧ q b := by
  cases d with
  | int b => exact ⟨b, rfl, h⟩
  | _ => exact h.elim
def tO (K : PySem.W.Frag) (C : Cc) (O : List Nat) (f : FO) : TO := fun σ H Q => ∃ B δ ad, Rl K C.n B O ad δ σ H ∧
  Rk (f δ) (fun b => ∀ H', Same H H' → Q b H') (fun c x => ∀ cls dd H', Same H H' → Er K c x cls dd H' → C.W cls dd σ H')
abbrev DO (X : Cx) (C : Cc) (O : List Nat) (e : Option Expr) (f : FO) : Prop := PO X e (tO X.K C O f)
theorem cutL_rp {K : PySem.W.Frag} {H : Hp} {av : Addr → Prop} {vs : List V} {ds : List PyData} (r : RpAll K H av vs ds) (lo hi : Option Int) : RpAll K H av (cutV vs lo hi) (cutL ds lo hi) := by
  unfold cutV cutL
  rw [r.length]
  exact (r.drop _).take _
section
variable {X : Cx} {C : Cc} {O : List Nat} {a b : Expr} {fa fb : FE} {pos : Pos}
theorem de_ix (ha : DB X C O a fa) (hb : DB X C O b fb) (hs : PlainIx b := by exact fun _ _ => rfl) : DE X C O (.Subscript a b pos) (op2 ixD fa fb) := pe_imp (pe_ix ix_seq ha hb hs) fun σ H Q h => two h fun B ad δ x y d e H1 H2 r s1 s2 r1 r2 q => by
  obtain ⟨z, ez, qq⟩ := q.ofO
  clear q
  have b1 : Bw X.K H2 (avO B O ad) x d := Bw.same r1 s2
  have b2 : Bw X.K H2 (avO B O ad) y e := r2
  unfold ixD at ez
  split at ez
  · obtain ⟨p, vs, rfl, hp, rp⟩ := b1.list
    obtain ⟨v, h1, h2⟩ := atI_of rp ez
    exact .inl ⟨p, vs, _, v, rfl, b2.int, .inl hp, h1, qq v H2 (s1.trans s2) h2⟩
  · obtain ⟨p, vs, rfl, hp, rp⟩ := b1.tuple
    obtain ⟨v, h1, h2⟩ := atI_of rp ez
    exact .inr (.inl ⟨p, vs, _, v, rfl, b2.int, hp, h1, qq v H2 (s1.trans s2) h2⟩)
  · split at ez
    · rename_i t i hl
      cases e3 : atI t.cps.toList i with
      | none => rw [e3] at ez; cases ez
      | some c =>
        rw [e3] at ez
        cases ez
        exact .inr (.inr ⟨_, _, c, b1.str, b2.int, hl, e3, qq _ H2 (s1.trans s2) (.str _)⟩)
    · cases ez
  · cases ez
theorem do_none : DO X C O none noP := ⟨fun pins s σ H Q I h => po_none.run pins s σ H Q I (by
  obtain ⟨B, δ, ad, r, k⟩ := h
  exact k H (Same.refl H))⟩
theorem do_some (h : DB X C O a fa) : DO X C O (some a) (prt fa) := ⟨fun pins s σ H Q I q => (po_some h).run pins s σ H Q I (by
  obtain ⟨B, δ, ad, r, k⟩ := q
  refine ⟨B, δ, ad, r, k.bind.imp (fun d _ q v H' s z => ?_) fun _ _ z => z⟩
  obtain ⟨b, rfl, q⟩ := q.bind.asI
  exact ⟨b, z.int, q H' s⟩)⟩
theorem sl_any : SlR X (fun x lo hi H Q => rSlL X.K x lo hi H Q ∨ rSlA X.K x lo hi H Q ∨ rSlS x lo hi H Q) := sl_list.or (sl_tupA.or sl_str)
theorem tslc {K : PySem.W.Frag} {lo hi : FO} {rel : Rel3} {σ : L2.St} {H : Hp} {Q : VK} {RR : V → Option Int → Option Int → Hp → Prop} (h : tX K C O rel (slc fa lo hi) σ H Q)
    (k : ∀ B ad δ x d l u z H3, Rl K C.n B O ad δ σ H → Same H H3 → Bw K H3 (avO B O ad) x d → slD d l u = some z → (∀ v H', Same H H' → rel H H' (avO B O ad) v z → Q v H') → RR x l u H3) :
    tX K C O (relB K) fa σ H fun x H1 => tO K C O lo σ H1 fun l H2 => tO K C O hi σ H2 fun u H3 => RR x l u H3 := by
  obtain ⟨B, δ, ad, r, q⟩ := h
  refine ⟨B, δ, ad, r, q.bind.imp (fun d _ q x H1 s1 r1 => ?_) fun _ _ z => z⟩
  refine ⟨B, δ, ad, r.same s1, q.bind.imp (fun l _ q H2 s2 => ?_) fun c x z cls dd H' s => z cls dd H' (s1.trans s)⟩
  refine ⟨B, δ, ad, (r.same s1).same s2, q.bind.imp (fun u _ q H3 s3 => ?_) fun c x z cls dd H' s => z cls dd H' (s1.trans (s2.trans s))⟩
  obtain ⟨z, ez, q⟩ := q.ofO
  exact k B ad δ x d l u z H3 r (s1.trans (s2.trans s3)) (Bw.same r1 (s2.trans s3)) ez q
theorem de_slc {lo hi : Option Expr} {flo fhi : FO} {p2 : Pos} (ha : DB X C O a fa) (hl : DO X C O lo flo) (hu : DO X C O hi fhi) : DE X C O (.Subscript a (.Slice lo hi none p2) pos) (slc fa flo fhi) := pe_imp (pe_slice sl_any ha hl hu) fun σ H Q h => tslc h fun B ad δ x d l u z H3 r s b1 ez q => by
  unfold slD at ez
  split at ez
  · cases ez
    obtain ⟨p, vs, rfl, hp, rp⟩ := b1.list
    refine .inl ⟨p, vs, rfl, .inl hp, fun p' hp' => q _ _ (s.trans (same_new hp' _)) (.lst (.inl upd_same) ((r.same s).notAv hp') ((cutL_rp rp _ _).same (same_new hp' _)))⟩
  · cases ez
    obtain ⟨p, vs, rfl, hp, rp⟩ := b1.tuple
    refine .inr (.inl ⟨p, vs, rfl, hp, fun hw => ?_, fun _ p' hp' => q _ _ (s.trans (same_new hp' _)) (.tup (SqT.of upd_same) ((cutL_rp rp _ _).same (same_new hp' _)))⟩)
    refine q _ H3 s ?_
    rename_i ds
    have e : cutL ds l u = ds := by
      rw [rp.length] at hw
      unfold cutL
      rw [hw.1, hw.2]; simp
    rw [e]
    exact .tup hp rp
  · split at ez
    · rename_i hl
      cases ez
      exact .inr (.inr ⟨_, b1.str, hl, q _ H3 s (.str _)⟩)
    · cases ez
  · cases ez
/-- a slice of a list is new -/
def slL (f : FE) (lo hi : FO) : FE := fun δ => (f δ).bind fun d => (lo δ).bind fun l => (hi δ).bind fun u => match d with
  | .list ds => .ok (.list (cutL ds l u))
  | _ => .bad
theorem df_slc {lo hi : Option Expr} {flo fhi : FO} {p2 : Pos} (ha : DB X C O a fa) (hl : DO X C O lo flo) (hu : DO X C O hi fhi) : DF X C O (.Subscript a (.Slice lo hi none p2) pos) (slL fa flo fhi) := pe_imp (pe_slice sl_list ha hl hu) fun σ H Q ⟨B, δ, ad, r, q⟩ => by
  refine ⟨B, δ, ad, r, q.bind.imp (fun d _ q x H1 s1 r1 => ?_) fun _ _ z => z⟩
  refine ⟨B, δ, ad, r.same s1, q.bind.imp (fun l _ q H2 s2 => ?_) fun c x z cls dd H' s => z cls dd H' (s1.trans s)⟩
  refine ⟨B, δ, ad, (r.same s1).same s2, q.bind.imp (fun u _ q H3 s3 => ?_) fun c x z cls dd H' s => z cls dd H' (s1.trans (s2.trans s))⟩
  cases d with
  | list ds =>
    obtain ⟨p, vs, rfl, hp, rp⟩ := (Bw.same r1 (s2.trans s3)).list
    have s := s1.trans (s2.trans s3)
    exact ⟨p, vs, rfl, .inl hp, fun p' hp' => q _ _ (s.trans (same_new hp' _)) ⟨p', rfl, s.free hp', _, upd_same, (cutL_rp rp _ _).fresh hp' (same_new hp' _)⟩⟩
  | _ => exact q.elim
end

/-! ### calls of built-ins -/
def BwAll (K : PySem.W.Frag) (H : Hp) (av : Addr → Prop) : List V → List PyData → Prop := Paired (Bw K H av)
theorem BwAll.same {K : PySem.W.Frag} {H H' : Hp} {av : Addr → Prop} (s : Same H H') : ∀ {vs : List V} {ds : List PyData}, BwAll K H av vs ds → BwAll K H' av vs ds
  | _, _, .nil => .nil
  | _, _, .cons h r => .cons (Bw.same h s) (BwAll.same s r)
def tAllB (K : PySem.W.Frag) (C : Cc) (O : List Nat) (fs : List FE) : TA := fun σ H Q => ∃ B δ ad, Rl K C.n B O ad δ σ H ∧
  Rk (evs fs δ) (fun ds => ∀ vs H', Same H H' → BwAll K H' (avO B O ad) vs ds → Q vs H') (fun c x => ∀ cls dd H', Same H H' → Er K c x cls dd H' → C.W cls dd σ H')
abbrev DAB (X : Cx) (C : Cc) (O : List Nat) (es : List Expr) (fs : List FE) : Prop := PA X es (tAllB X.K C O fs)
def cal (sem : List PyData → Option PyData) (fs : List FE) : FE := fun δ => (evs fs δ).bind fun ds => ofO (sem ds)
def CallG (X : Cx) (rel : Rel3) (f : Value) (sem : List PyData → Option PyData) : Prop :=
  ∀ (pins : List (Addr × Obj)) (s : Shared) (σ : L2.St) (H : Hp) (xs : List V) (us : List Value) (Q : VK) (av : Addr → Prop) (ds : List PyData) (z : PyData), Inv X pins σ H s → Vals xs us →
    (∀ a, av a → H a ≠ none) → BwAll X.K H av xs ds → sem ds = some z → (∀ v H', Same H H' → rel H H' av v z → Q v H') → wpAny (model X.prog X.w) X.A (call f us) (EP X pins σ Q) X.xe s
abbrev CallD (X : Cx) (f : Value) (sem : List PyData → Option PyData) : Prop := CallG X (relE X.K) f sem
abbrev CallF (X : Cx) (f : Value) (sem : List PyData → Option PyData) : Prop := CallG X (relF X.K) f sem
/-- a result relation that may start earlier -/
def RelOk (rel : Rel3) : Prop := ∀ H H1 H' av v d, Same H H1 → rel H1 H' av v d → rel H H' av v d
theorem relE_ok {K : PySem.W.Frag} : RelOk (relE K) := fun _ _ _ _ _ _ _ h => h
theorem relF_ok {K : PySem.W.Frag} : RelOk (relF K) := fun _ _ _ _ _ _ s ⟨a, e, n, o⟩ => ⟨a, e, s.free n, o⟩
section
variable {X : Cx} {C : Cc} {O : List Nat} {e : Expr} {es : List Expr} {f : FE} {fs : List FE} {p pos : Pos} {x : Str} {sem : List PyData → Option PyData} {rel : Rel3}
theorem dab_nil : DAB X C O [] [] := pa_imp pa_nil fun σ H Q ⟨B, δ, ad, r, k⟩ => k [] H (Same.refl H) .nil
theorem dab_cons (he : DB X C O e f) (hr : DAB X C O es fs) (hs : starEach (e :: es) X.env = (false, eval e X.env) :: starEach es X.env := by rfl) : DAB X C O (e :: es) (f :: fs) := pa_imp (pa_cons he hr hs) fun σ H Q ⟨B, δ, ad, r, k⟩ => by
  unfold evs at k
  refine ⟨B, δ, ad, r, k.bind.imp (fun d _ q v H1 s1 z => ?_) fun _ _ z => z⟩
  refine ⟨B, δ, ad, r.same s1, q.bind.imp (fun ds _ q vs H2 s2 zs => ?_) fun c x z cls dd H2 s2 => z cls dd H2 (s1.trans s2)⟩
  exact q (v :: vs) H2 (s1.trans s2) (.cons (Bw.same z s2) zs)
theorem CallG.args {g : Value} (ho : RelOk rel) (hc : CallG X rel g sem) {pins : List (Addr × Obj)} {σ : L2.St} {H : Hp} {Q : VK} (h : tX X.K C O rel (cal sem fs) σ H Q) :
    tAllB X.K C O fs σ H fun vs H1 => ∀ us s1, Inv X pins σ H1 s1 → Vals vs us → wpAny (model X.prog X.w) X.A (call g us) (EP X pins σ Q) X.xe s1 := by
  obtain ⟨B, δ, ad, r, k⟩ := h
  refine ⟨B, δ, ad, r, k.bind.imp (fun ds _ q vs H1 s1 zs us st I rv => ?_) fun _ _ z => z⟩
  obtain ⟨z, ez, q⟩ := q.ofO
  exact hc pins st σ H1 vs us Q _ ds z I rv (r.same s1).avdom zs ez fun v H' s2 rz => q v H' (s1.trans s2) (ho _ _ _ _ _ _ s1 rz)
theorem dx_callB {id : String} (ho : RelOk rel) (hc : CallG X rel (.builtin id) sem) (hg : Gl X x) (hm : X.mg x = none) (hv : bootBuiltins x = some (.builtin id)) (ha : DAB X C O (e :: es) fs) (hn : x ≠ "__name__" := by decide) (hdb : (x == ("__debug__" : Str)) = false := by decide)
    (he : starEach (e :: es) X.env = (false, eval e X.env) :: starEach es X.env := by rfl) (hpl : (backTo pos (starEach es X.env)).any (·.1) = false := by rfl) : PE X (.Call (.Name x p) (e :: es) [] pos) (tX X.K C O rel (cal sem fs)) := by
  refine ⟨fun pins s σ H Q I h => ?_⟩
  refine wpAny_Call_Name_kw (ld_blt I hg hm hv ?_ hn hdb)
  exact PyProof.Rows.callWith_builtin1 (thn (ha.run pos pins s σ H _ I (hc.args ho (pins := pins) h)) fun us s1 ⟨vs, H1, I1, r1, q1⟩ => q1 us s1 I1 r1) he hpl
theorem dx_callTy {T : String} (ho : RelOk rel) (hc : CallG X rel (.type T) sem) (hg : Gl X x) (hm : X.mg x = none) (hv : bootBuiltins x = some (.type T)) (ha : DAB X C O (e :: es) fs) (hn : x ≠ "__name__" := by decide) (hdb : (x == ("__debug__" : Str)) = false := by decide)
    (he : starEach (e :: es) X.env = (false, eval e X.env) :: starEach es X.env := by rfl) (hpl : (backTo pos (starEach es X.env)).any (·.1) = false := by rfl) : PE X (.Call (.Name x p) (e :: es) [] pos) (tX X.K C O rel (cal sem fs)) := by
  refine ⟨fun pins s σ H Q I h => ?_⟩
  refine wpAny_Call_Name_kw (ld_blt I hg hm hv ?_ hn hdb)
  exact PyProof.Rows.callWith_type1 (thn (ha.run pos pins s σ H _ I (hc.args ho (pins := pins) h)) fun us s1 ⟨vs, H1, I1, r1, q1⟩ => q1 us s1 I1 r1) he hpl
end
/-! the built-ins -/
def lenD : List PyData → Option PyData
  | [.list ds] => some (.int ds.length)
  | [.tuple ds] => some (.int ds.length)
  | [.str x] => if x.length ≤ sizeLine then some (.int x.length) else none
  | _ => none
def ints? : List PyData → Option (List Int)
  | [] => some []
  | .int i :: r => (ints? r).map (i :: ·)
  | _ => none
def bools? : List PyData → Option (List Bool)
  | [] => some []
  | .bool b :: r => (bools? r).map (b :: ·)
  | _ => none
def strs? : List PyData → Option (List Str)
  | [] => some []
  | .str x :: r => (strs? r).map (x :: ·)
  | _ => none
def sumD : List PyData → Option PyData
  | [.list ds] => (ints? ds).map fun ns => .int ns.sum
  | _ => none
def allD : List PyData → Option PyData
  | [.list ds] => (bools? ds).map fun bs => .bool (bs.all id)
  | _ => none
def maxZ : List Int → Int
  | [] => 0
  | [a] => a
  | a :: r => max a (maxZ r)
def minZ : List Int → Int
  | [] => 0
  | [a] => a
  | a :: r => min a (minZ r)
def maxD : List PyData → Option PyData
  | [.int i, .int j] => some (.int (max i j))
  | [.list ds] => match ints? ds with
    | some (n :: ns) => some (.int (maxZ (n :: ns)))
    | _ => none
  | _ => none
def minD : List PyData → Option PyData
  | [.int i, .int j] => some (.int (min i j))
  | [.list ds] => match ints? ds with
    | some (n :: ns) => some (.int (minZ (n :: ns)))
    | _ => none
  | _ => none
def intD : List PyData → Option PyData
  | [.int i] => some (.int i)
  | [.bool b] => some (.int (if b then 1 else 0))
  | _ => none
def listD : List PyData → Option PyData
  | [.list ds] => some (.list ds)
  | [.tuple ds] => some (.list ds)
  | _ => none
def tupleD : List PyData → Option PyData
  | [.list ds] => some (.tuple ds)
  | [.tuple ds] => some (.tuple ds)
  | _ => none
theorem ints_of {K : PySem.W.Frag} {H : Hp} {av : Addr → Prop} : ∀ {vs : List V} {ds : List PyData} {ns : List Int}, RpAll K H av vs ds → ints? ds = some ns → vs = ns.map V.int
  | _, _, _, .nil, e => by cases e; rfl
  | _, _, _, .cons (d := d) (ds := ds) h r, e => by
    cases d with
    | int i =>
      cases q : ints? ds with
      | none => simp [ints?, q] at e
      | some ms =>
        simp [ints?, q] at e
        subst e
        rw [ints_of r q, h.bw.int]; rfl
    | _ => cases e
theorem bools_of {K : PySem.W.Frag} {H : Hp} {av : Addr → Prop} : ∀ {vs : List V} {ds : List PyData} {ns : List Bool}, RpAll K H av vs ds → bools? ds = some ns → vs = ns.map V.bl
  | _, _, _, .nil, e => by cases e; rfl
  | _, _, _, .cons (d := d) (ds := ds) h r, e => by
    cases d with
    | bool i =>
      cases q : bools? ds with
      | none => simp [bools?, q] at e
      | some ms =>
        simp [bools?, q] at e
        subst e
        rw [bools_of r q, h.bw.bool]; rfl
    | _ => cases e
theorem strs_of {K : PySem.W.Frag} {H : Hp} {av : Addr → Prop} : ∀ {vs : List V} {ds : List PyData} {ns : List Str}, RpAll K H av vs ds → strs? ds = some ns → vs = ns.map V.str
  | _, _, _, .nil, e => by cases e; rfl
  | _, _, _, .cons (d := d) (ds := ds) h r, e => by
    cases d with
    | str i =>
      cases q : strs? ds with
      | none => simp [strs?, q] at e
      | some ms =>
        simp [strs?, q] at e
        subst e
        rw [strs_of r q, h.bw.str]; rfl
    | _ => cases e
theorem BwAll.one {K : PySem.W.Frag} {H : Hp} {av : Addr → Prop} {vs : List V} {d : PyData} (h : BwAll K H av vs [d]) : ∃ v, vs = [v] ∧ Bw K H av v d := by
  cases h with
  | cons h r => cases r; exact ⟨_, rfl, h⟩
theorem BwAll.two {K : PySem.W.Frag} {H : Hp} {av : Addr → Prop} {vs : List V} {d e : PyData} (h : BwAll K H av vs [d, e]) : ∃ v w, vs = [v, w] ∧ Bw K H av v d ∧ Bw K H av w e := by
  cases h with
  | cons h r =>
    obtain ⟨w, rfl, q⟩ := BwAll.one r
    exact ⟨_, _, rfl, h, q⟩
theorem maxZ_spec : ∀ (n : Int) (ns : List Int), maxZ (n :: ns) ∈ n :: ns ∧ ∀ y ∈ n :: ns, y ≤ maxZ (n :: ns)
  | n, [] => ⟨by simp [maxZ], by simp [maxZ]⟩
  | n, m :: ns => by
    obtain ⟨h1, h2⟩ := maxZ_spec m ns
    have e : maxZ (n :: m :: ns) = max n (maxZ (m :: ns)) := rfl
    rw [e]
    refine ⟨?_, fun y hy => ?_⟩
    · by_cases h : n ≤ maxZ (m :: ns)
      · rw [Int.max_eq_right h]; exact List.mem_cons_of_mem _ h1
      · rw [Int.max_eq_left (by omega)]; exact List.mem_cons_self
    · rcases List.mem_cons.mp hy with rfl | hy
      · exact Int.le_max_left ..
      · exact Int.le_trans (h2 y hy) (Int.le_max_right ..)
theorem minZ_spec : ∀ (n : Int) (ns : List Int), minZ (n :: ns) ∈ n :: ns ∧ ∀ y ∈ n :: ns, minZ (n :: ns) ≤ y
  | n, [] => ⟨by simp [minZ], by simp [minZ]⟩
  | n, m :: ns => by
    obtain ⟨h1, h2⟩ := minZ_spec m ns
    have e : minZ (n :: m :: ns) = min n (minZ (m :: ns)) := rfl
    rw [e]
    refine ⟨?_, fun y hy => ?_⟩
    · by_cases h : n ≤ minZ (m :: ns)
      · rw [Int.min_eq_left h]; exact List.mem_cons_self
      · rw [Int.min_eq_right (by omega)]; exact List.mem_cons_of_mem _ h1
    · rcases List.mem_cons.mp hy with rfl | hy
      · exact Int.min_le_left ..
      · exact Int.le_trans (Int.min_le_right ..) (h2 y hy)
section
variable {X : Cx}
theorem cd_len : CallD X (.builtin "len") lenD := by
  intro pins s σ H xs us Q av ds z I rv hav hb hz q
  unfold lenD at hz
  split at hz
  · cases hz
    obtain ⟨v, rfl, b⟩ := hb.one
    obtain ⟨p, vs, rfl, hp, rp⟩ := b.list
    refine call_len pins s σ H _ us Q I rv ⟨_, vs.length, rfl, .inl ⟨vs, .inl hp, rfl⟩, ?_⟩
    rw [rp.length]; exact q _ H (Same.refl H) (.int _)
  · cases hz
    obtain ⟨v, rfl, b⟩ := hb.one
    obtain ⟨p, vs, rfl, hp, rp⟩ := b.tuple
    refine call_len pins s σ H _ us Q I rv ⟨_, vs.length, rfl, .inr ⟨vs, hp, rfl⟩, ?_⟩
    rw [rp.length]; exact q _ H (Same.refl H) (.int _)
  · split at hz
    · rename_i x hl
      cases hz
      obtain ⟨v, rfl, b⟩ := hb.one
      have e := b.str
      subst e
      exact call_len pins s σ H _ us Q I rv ⟨_, x.length, rfl, ⟨hl, rfl⟩, q _ H (Same.refl H) (.int _)⟩
    · cases hz
  · cases hz
theorem cd_sum (hc : X.calm = true) : CallD X (.builtin "sum") sumD := by
  intro pins s σ H xs us Q av ds z I rv hav hb hz q
  unfold sumD at hz
  split at hz
  · rename_i l
    cases e : ints? l with
    | none => rw [e] at hz; cases hz
    | some ns =>
      rw [e] at hz; cases hz
      obtain ⟨v, rfl, b⟩ := hb.one
      obtain ⟨p, vs, rfl, hp, rp⟩ := b.list
      have e2 := ints_of rp e
      subst e2
      exact cr_sum hc pins s σ H _ us Q I rv ⟨p, ns, rfl, .inl hp, q _ H (Same.refl H) (.int _)⟩
  · cases hz
theorem cd_all (hc : X.calm = true) : CallD X (.builtin "all") allD := by
  intro pins s σ H xs us Q av ds z I rv hav hb hz q
  unfold allD at hz
  split at hz
  · rename_i l
    cases e : bools? l with
    | none => rw [e] at hz; cases hz
    | some ns =>
      rw [e] at hz; cases hz
      obtain ⟨v, rfl, b⟩ := hb.one
      obtain ⟨p, vs, rfl, hp, rp⟩ := b.list
      have e2 := bools_of rp e
      subst e2
      exact cr_all hc pins s σ H _ us Q I rv ⟨p, ns, rfl, .inl hp, q _ H (Same.refl H) (.bl _)⟩
  · cases hz
theorem cd_max (hc : X.calm = true) : CallD X (.builtin "max") maxD := by
  intro pins s σ H xs us Q av ds z I rv hav hb hz q
  unfold maxD at hz
  split at hz
  · rename_i i j
    cases hz
    obtain ⟨v, w, rfl, b1, b2⟩ := hb.two
    have e1 := b1.int
    have e2 := b2.int
    subst e1 e2
    refine call_max2 hc pins s σ H _ us Q I rv ⟨i, j, rfl, ?_⟩
    have e : (if j > i then j else i) = max i j := by
      split
      · rw [Int.max_eq_right (by omega)]
      · rw [Int.max_eq_left (by omega)]
    rw [e]
    exact q _ H (Same.refl H) (.int _)
  · rename_i l
    split at hz
    · rename_i n ns e
      cases hz
      obtain ⟨v, rfl, b⟩ := hb.one
      obtain ⟨p, vs, rfl, hp, rp⟩ := b.list
      have e2 := ints_of rp e
      subst e2
      refine cr_max hc pins s σ H _ us Q I rv ⟨p, n :: ns, rfl, .inl hp, by simp, fun m hm hle => ?_⟩
      obtain ⟨h1, h2⟩ := maxZ_spec n ns
      have e3 : m = maxZ (n :: ns) := Int.le_antisymm (h2 m hm) (hle _ h1)
      rw [e3]
      exact q _ H (Same.refl H) (.int _)
    · cases hz
  · cases hz
theorem cd_min (hc : X.calm = true) : CallD X (.builtin "min") minD := by
  intro pins s σ H xs us Q av ds z I rv hav hb hz q
  unfold minD at hz
  split at hz
  · rename_i i j
    cases hz
    obtain ⟨v, w, rfl, b1, b2⟩ := hb.two
    have e1 := b1.int
    have e2 := b2.int
    subst e1 e2
    refine call_min2 hc pins s σ H _ us Q I rv ⟨i, j, rfl, ?_⟩
    have e : (if j < i then j else i) = min i j := by
      split
      · rw [Int.min_eq_right (by omega)]
      · rw [Int.min_eq_left (by omega)]
    rw [e]
    exact q _ H (Same.refl H) (.int _)
  · rename_i l
    split at hz
    · rename_i n ns e
      cases hz
      obtain ⟨v, rfl, b⟩ := hb.one
      obtain ⟨p, vs, rfl, hp, rp⟩ := b.list
      have e2 := ints_of rp e
      subst e2
      refine cr_min hc pins s σ H _ us Q I rv ⟨p, n :: ns, rfl, .inl hp, by simp, fun m hm hle => ?_⟩
      obtain ⟨h1, h2⟩ := minZ_spec n ns
      have e3 : m = minZ (n :: ns) := Int.le_antisymm (hle _ h1) (h2 m hm)
      rw [e3]
      exact q _ H (Same.refl H) (.int _)
    · cases hz
  · cases hz
theorem cd_int : CallD X (.type "int") intD := by
  intro pins s σ H xs us Q av ds z I rv hav hb hz q
  unfold intD at hz
  split at hz
  · cases hz
    obtain ⟨v, rfl, b⟩ := hb.one
    have e := b.int
    subst e
    exact call_int1 pins s σ H _ us Q I rv (.inl ⟨_, rfl, q _ H (Same.refl H) (.int _)⟩)
  · cases hz
    obtain ⟨v, rfl, b⟩ := hb.one
    have e := b.bool
    subst e
    exact call_int1 pins s σ H _ us Q I rv (.inr ⟨_, rfl, q _ H (Same.refl H) (.int _)⟩)
  · cases hz
theorem cf_list : CallF X (.type "list") listD := by
  intro pins s σ H xs us Q av ds z I rv hav hb hz q
  unfold listD at hz
  split at hz
  · cases hz
    obtain ⟨v, rfl, b⟩ := hb.one
    obtain ⟨p, vs, rfl, hp, rp⟩ := b.list
    exact call_list_of pins s σ H _ us Q I rv ⟨p, vs, rfl, .inl (.inl hp), fun l hl => q _ _ (same_new hl _) ⟨l, rfl, hl, vs, upd_same, rp.fresh hl (same_new hl _)⟩⟩
  · cases hz
    obtain ⟨v, rfl, b⟩ := hb.one
    obtain ⟨p, vs, rfl, hp, rp⟩ := b.tuple
    exact call_list_of pins s σ H _ us Q I rv ⟨p, vs, rfl, .inr hp, fun l hl => q _ _ (same_new hl _) ⟨l, rfl, hl, vs, upd_same, rp.fresh hl (same_new hl _)⟩⟩
  · cases hz
theorem cd_tuple : CallD X (.type "tuple") tupleD := by
  intro pins s σ H xs us Q av ds z I rv hav hb hz q
  unfold tupleD at hz
  split at hz
  · cases hz
    obtain ⟨v, rfl, b⟩ := hb.one
    obtain ⟨p, vs, rfl, hp, rp⟩ := b.list
    exact call_tuple_of pins s σ H _ us Q I rv ⟨p, vs, rfl, .inl ⟨.inl hp, fun l hl => q _ _ (same_new hl _) (.tup (SqT.of upd_same) (rp.same (same_new hl _)))⟩⟩
  · cases hz
    obtain ⟨v, rfl, b⟩ := hb.one
    obtain ⟨p, vs, rfl, hp, rp⟩ := b.tuple
    exact call_tuple_of pins s σ H _ us Q I rv ⟨p, vs, rfl, .inr ⟨hp, q _ H (Same.refl H) (.tup hp rp)⟩⟩
  · cases hz
end
end Dl

namespace Dl
open PySem PySem.Spec L2

/-! ### steps -/
structure Stp (B : Bs) (O : List Nat) (ad : Nat → Addr) (O' : List Nat) (ad' : Nat → Addr) (H H' : Hp) : Prop where
  kp : Kp (avO B O ad) H H'
  sub : ∀ a, avO B O' ad' a → avO B O ad a ∨ H a = none
section
variable {K : PySem.W.Frag} {n : Nat} {B : Bs} {O O' O'' : List Nat} {ad ad' ad'' : Nat → Addr} {δ δ' : Ev} {σ σ' : L2.St} {H H' H'' : Hp}
theorem Stp.same (s : Same H H') : Stp B O ad O ad H H' := ⟨Kp.of_same s, fun a h => .inl h⟩
theorem Stp.refl : Stp B O ad O ad H H := Stp.same (Same.refl H)
theorem Stp.trans (a : Stp B O ad O' ad' H H') (b : Stp B O' ad' O'' ad'' H' H'') : Stp B O ad O'' ad'' H H'' where
  kp := fun c o e n => by
    have e1 := a.kp c o e n
    refine b.kp c o e1 ?_
    rcases n with n | ⟨xs, n⟩
    · refine .inl fun z => ?_
      rcases a.sub c z with z | z
      · exact n z
      · rw [e] at z; cases z
    · exact .inr ⟨xs, rd_kp a.kp n (.inr ⟨xs, n⟩)⟩
  sub := fun c h => by
    rcases b.sub c h with z | z
    · exact a.sub c z
    · by_cases hc : avO B O ad c
      · exact .inl hc
      · refine .inr ?_
        cases e : H c with
        | none => rfl
        | some o => rw [a.kp c o e (.inl hc)] at z; cases z
theorem Stp.frz (hs : ∀ i ∈ O', i ∈ O) : Stp B O ad O' ad H H := ⟨Kp.of_same (Same.refl H), fun a h => .inl (h.elim .inl fun ⟨i, hi, e⟩ => .inr ⟨i, hs i hi, e⟩)⟩
theorem Stp.keep (r : Rl K n B O ad δ σ H) (s : Stp B O ad O' ad' H H') : Same B.H0 H' → True := fun _ => trivial
/-- a slot takes data -/
theorem Rl.set {i : Nat} {v : V} {d : PyData} (r : Rl K n B O ad δ σ H) (hi : i ∉ O) (h : Rp K H (avO B O ad) v d) : Rl K n B O ad (δ.set i (some d)) (σ.set i (some v)) H where
  len := by rw [List.length_set, List.length_set]; exact r.len
  lenN := by rw [List.length_set]; exact r.lenN
  inj := r.inj
  new := r.new
  fro := fun j e hj q => by
    by_cases hij : i = j
    · subst hij
      by_cases hl : i < δ.length
      · rw [List.getElem?_set_self hl] at q
        cases q
        exact ⟨v, List.getElem?_set_self (by rw [r.len]; exact hl), h⟩
      · rw [List.getElem?_eq_none (by simpa using hl)] at q; cases q
    · rw [List.getElem?_set_ne hij] at q ⊢
      exact r.fro j e hj q
  own := fun j hj => by
    have hij : i ≠ j := fun z => hi (z ▸ hj)
    obtain ⟨d', h1, h2, o⟩ := r.own j hj
    exact ⟨d', by rw [List.getElem?_set_ne hij]; exact h1, by rw [List.getElem?_set_ne hij]; exact h2, o⟩
  keep := r.keep
  dom := r.dom
def adS (ad : Nat → Addr) (i : Nat) (a : Addr) : Nat → Addr := fun j => if j = i then a else ad j
/-- a slot takes a new owned thing -/
theorem Rl.setF {i : Nat} {a : Addr} {d : PyData} (r : Rl K n B O ad δ σ H) (hi : i < n) (s : Same H H') (hn : H a = none) (o : Own K H' (fun b => avO B O ad b ∨ b = a) a d) :
    Rl K n B (i :: O.erase i) (adS ad i a) (δ.set i (some d)) (σ.set i (some (.ref a))) H' ∧ Stp B O ad (i :: O.erase i) (adS ad i a) H H' := by
  have sub : ∀ b, avO B (i :: O.erase i) (adS ad i a) b → avO B O ad b ∨ b = a := by
    rintro b (h | ⟨j, hj, e⟩)
    · exact .inl (.inl h)
    · unfold adS at e
      split at e
      · exact .inr e
      · rename_i hji
        rcases List.mem_cons.mp hj with rfl | hj
        · exact absurd rfl hji
        · exact .inl (.inr ⟨j, List.mem_of_mem_erase hj, e⟩)
  have hnew : B.H0 a = none := r.keep.free hn
  have hne : ∀ j ∈ O, ad j ≠ a := fun j hj e => by
    obtain ⟨d', _, _, o'⟩ := r.own j hj
    obtain ⟨u, e', _⟩ := o'.some
    rw [e, hn] at e'; cases e'
  have old : ∀ {b d}, Rp K H (avO B O ad) b d → Rp K H' (avO B (i :: O.erase i) (adS ad i a)) b d := fun h => (Rp.fresh hn s h).weak sub
  have mem : ∀ {j}, j ∈ i :: O.erase i → j ≠ i → j ∈ O := fun {j} hj hji => by
    rcases List.mem_cons.mp hj with e | h
    · exact absurd e hji
    · exact List.mem_of_mem_erase h
  have dom' : ∀ b, B.av0 b → H' b ≠ none ∧ ∀ j ∈ i :: O.erase i, b ≠ adS ad i a j := fun b h => by
    refine ⟨fun z => (r.dom b h).1 (s.free z), fun j hj e => ?_⟩
    unfold adS at e
    split at e
    · subst e; exact (r.dom b h).1 hn
    · rename_i h1; exact (r.dom b h).2 j (mem hj h1) e
  refine ⟨⟨by rw [List.length_set, List.length_set]; exact r.len, by rw [List.length_set]; exact r.lenN, ?_, ?_, ?_, ?_, r.keep.trans s, dom'⟩, ⟨Kp.of_same s, fun b h => (sub b h).elim (fun z => .inl z) fun (e : b = a) => .inr (by rw [e]; exact hn)⟩⟩
  · intro j hj k hk e
    unfold adS at e
    split at e
    · rename_i h1
      split at e
      · rename_i h2; rw [h1, h2]
      · rename_i h2; exact absurd e.symm (hne k (mem hk h2))
    · rename_i h1
      split at e
      · rename_i h2; exact absurd e (hne j (mem hj h1))
      · rename_i h2; exact r.inj j (mem hj h1) k (mem hk h2) e
  · intro j hj
    unfold adS
    split
    · exact hnew
    · rename_i h1; exact r.new j (mem hj h1)
  · intro j e hj q
    have hij : i ≠ j := fun z => hj (z ▸ List.mem_cons_self)
    rw [List.getElem?_set_ne hij] at q ⊢
    have hjO : j ∉ O := fun z => hj (List.mem_cons_of_mem _ ((List.mem_erase_of_ne (Ne.symm hij)).mpr z))
    obtain ⟨v, h1, h2⟩ := r.fro j e hjO q
    exact ⟨v, h1, old h2⟩
  · intro j hj
    by_cases hij : j = i
    · subst hij
      refine ⟨d, List.getElem?_set_self (by rw [r.lenN]; exact hi), ?_, ?_⟩
      · rw [List.getElem?_set_self (by rw [r.len, r.lenN]; exact hi)]; unfold adS; rw [if_pos rfl]
      · unfold adS
        rw [if_pos rfl]
        exact o.mono (Kp.of_same (Same.refl H')) (fun b _ n z => n (sub b z)) rfl
    · obtain ⟨d', h1, h2, o'⟩ := r.own j (mem hj hij)
      refine ⟨d', by rw [List.getElem?_set_ne (Ne.symm hij)]; exact h1, ?_, ?_⟩
      · rw [List.getElem?_set_ne (Ne.symm hij), h2]; unfold adS; rw [if_neg hij]
      · unfold adS
        rw [if_neg hij]
        obtain ⟨u, e', _⟩ := o'.some
        refine o'.mono (Kp.of_same s) (fun b e n z => ?_) ((s _ _ e').trans e'.symm)
        rcases sub b z with z | z
        · exact n z
        · exact e (z ▸ hn)
/-- the owned thing in slot i is changed -/
theorem Rl.mut {i : Nat} {o : HO} {d : PyData} (r : Rl K n B O ad δ σ H) (hi : i ∈ O) (hm : Mut (some o)) (ho : Own K (upd H (ad i) o) (avO B O ad) (ad i) d) :
    Rl K n B O ad (δ.set i (some d)) σ (upd H (ad i) o) ∧ Stp B O ad O ad H (upd H (ad i) o) := by
  obtain ⟨d0, i1, i2, o0⟩ := r.own i hi
  have hl : i < δ.length := by
    by_cases h : i < δ.length
    · exact h
    · rw [List.getElem?_eq_none (by simpa using h)] at i1; cases i1
  have kp : Kp (avO B O ad) H (upd H (ad i) o) := fun b u e n => by
    refine (upd_ne fun z => ?_).trans e
    subst z
    rcases n with n | ⟨xs, n⟩
    · exact n (.inr ⟨i, hi, rfl⟩)
    · exact o0.notTup n
  refine ⟨⟨by rw [List.length_set]; exact r.len, by rw [List.length_set]; exact r.lenN, r.inj, r.new, ?_, ?_, ?_, fun a h => ⟨by rw [upd_ne ((r.dom a h).2 i hi)]; exact (r.dom a h).1, (r.dom a h).2⟩⟩, ⟨kp, fun a h => .inl h⟩⟩
  · intro j e hj q
    have hij : i ≠ j := fun z => hj (z ▸ hi)
    rw [List.getElem?_set_ne hij] at q
    obtain ⟨v, h1, h2⟩ := r.fro j e hj q
    exact ⟨v, h1, h2.mono kp fun _ _ n => n⟩
  · intro j hj
    by_cases hij : i = j
    · subst hij
      exact ⟨d, List.getElem?_set_self hl, i2, ho⟩
    · obtain ⟨d', h1, h2, o'⟩ := r.own j hj
      exact ⟨d', by rw [List.getElem?_set_ne hij]; exact h1, h2, o'.mono kp (fun _ _ n => n) (upd_ne fun z => hij (r.inj j hj i hi z).symm)⟩
  · intro b u e
    refine (upd_ne fun z => ?_).trans (r.keep b u e)
    subst z
    rw [r.new i hi] at e; cases e
end

/-! ### statements -/
def Ret (K : PySem.W.Frag) (C : Cc) (B : Bs) (H' : Hp) (v : V) (d : PyData) : Prop :=
  if C.ow = true then ∃ a, v = .ref a ∧ B.H0 a = none ∧ Own K H' (fun b => B.av0 b ∨ b = a) a d else Rp K H' B.av0 v d
def Sk (K : PySem.W.Frag) (C : Cc) (B : Bs) (O : List Nat) (ad : Nat → Addr) (O' : List Nat) (H : Hp) (D : Ends) : SR → Prop
  | .nx δ' => ∀ ad' σ' H', Stp B O ad O' ad' H H' → Rl K C.n B O' ad' δ' σ' H' → D.nx σ' H'
  | .rt d => ∀ v H', Same B.H0 H' → Ret K C B H' v d → D.rt v H'
  | .bk δ' => ∀ ad' σ' H', Stp B O ad C.Ol ad' H H' → Rl K C.n B C.Ol ad' δ' σ' H' → D.bk σ' H'
  | .ct δ' => ∀ ad' σ' H', Stp B O ad C.Ol ad' H H' → Rl K C.n B C.Ol ad' δ' σ' H' → D.ct σ' H'
  | .err c x δ' => ∀ cls dd ad' σ' H', Stp B O ad C.Oe ad' H H' → Rl K C.n B C.Oe ad' δ' σ' H' → Er K c x cls dd H' → C.W cls dd σ' H'
  | .bad => False
def tS (K : PySem.W.Frag) (C : Cc) (O O' : List Nat) (g : FS) : TS := fun D σ H => ∃ B δ ad, Rl K C.n B O ad δ σ H ∧ Sk K C B O ad O' H D (g δ)
abbrev DS (X : Cx) (C : Cc) (O O' : List Nat) (s : Stmt) (g : FS) : Prop := PS X s (tS X.K C O O' g)
abbrev DSs (X : Cx) (C : Cc) (O O' : List Nat) (s : List Stmt) (g : FS) : Prop := PSs X s (tS X.K C O O' g)
theorem ps_imp {X : Cx} {s : Stmt} {t t' : TS} (h : PS X s t) (i : ∀ D σ H, t' D σ H → t D σ H) : PS X s t' := ⟨fun pins st σ H D I q => h.run pins st σ H D I (i _ _ _ q)⟩
theorem pss_imp {X : Cx} {s : List Stmt} {t t' : TS} (h : PSs X s t) (i : ∀ D σ H, t' D σ H → t D σ H) : PSs X s t' := ⟨fun pins st σ H D I q => h.run pins st σ H D I (i _ _ _ q)⟩
theorem Sk.ends {K : PySem.W.Frag} {C : Cc} {B : Bs} {O O' : List Nat} {ad : Nat → Addr} {H : Hp} {D D' : Ends} {r : SR} (h : Sk K C B O ad O' H D r)
    (hn : ∀ δ', r = .nx δ' → (∀ ad' σ' H', Stp B O ad O' ad' H H' → Rl K C.n B O' ad' δ' σ' H' → D.nx σ' H') → ∀ ad' σ' H', Stp B O ad O' ad' H H' → Rl K C.n B O' ad' δ' σ' H' → D'.nx σ' H')
    (hr : ∀ v H', D.rt v H' → D'.rt v H') (hb : ∀ σ H, D.bk σ H → D'.bk σ H) (hc : ∀ σ H, D.ct σ H → D'.ct σ H) : Sk K C B O ad O' H D' r := by
  cases r with
  | nx δ' => exact hn δ' rfl h
  | rt d => exact fun v H' s q => hr _ _ (h v H' s q)
  | bk δ' => exact fun ad' σ' H' s q => hb _ _ (h ad' σ' H' s q)
  | ct δ' => exact fun ad' σ' H' s q => hc _ _ (h ad' σ' H' s q)
  | err c x δ' => exact h
  | bad => exact h
/-- the wish, as a later start sees it -/
theorem Sk.from {K : PySem.W.Frag} {C : Cc} {B : Bs} {O O1 O' : List Nat} {ad ad1 : Nat → Addr} {H H1 : Hp} {D : Ends} {r : SR} (s : Stp B O ad O1 ad1 H H1) (h : Sk K C B O ad O' H D r) : Sk K C B O1 ad1 O' H1 D r := by
  cases r with
  | nx δ' => exact fun ad' σ' H' s2 q => h ad' σ' H' (s.trans s2) q
  | rt d => exact h
  | bk δ' => exact fun ad' σ' H' s2 q => h ad' σ' H' (s.trans s2) q
  | ct δ' => exact fun ad' σ' H' s2 q => h ad' σ' H' (s.trans s2) q
  | err c x δ' => exact fun cls dd ad' σ' H' s2 q => h cls dd ad' σ' H' (s.trans s2) q
  | bad => exact h
def sq (g h : FS) : FS := fun δ => match g δ with
  | .nx δ' => h δ'
  | r => r
def skp : FS := fun δ => .nx δ
section
variable {X : Cx} {C : Cc} {B : Bs} {O O1 O' : List Nat} {st : Stmt} {sts : List Stmt} {g h : FS}
theorem dss_cons (h1 : DS X C O O1 st g) (h2 : DSs X C O1 O' sts h) : DSs X C O O' (st :: sts) (sq g h) := pss_imp (pss_cons h1 h2) fun D σ H ⟨B, δ, ad, r, k⟩ => by
  refine ⟨B, δ, ad, r, ?_⟩
  unfold sq at k
  cases e : g δ with
  | nx δ1 => rw [e] at k; exact fun ad' σ' H' s r' => ⟨B, δ1, ad', r', k.from s⟩
  | rt d => rw [e] at k; exact k
  | bk δ1 => rw [e] at k; exact k
  | ct δ1 => rw [e] at k; exact k
  | err c x δ1 => rw [e] at k; exact k
  | bad => rw [e] at k; exact k
theorem dss_one (h1 : DS X C O O1 st g) : DSs X C O O1 [st] g := pss_one h1
theorem dss_nil : DSs X C O O [] skp := pss_imp pss_nil fun D σ H ⟨B, δ, ad, r, k⟩ => k ad σ H Stp.refl r
/-- some are owned no more, ahead -/
theorem dss_frz {O2 : List Nat} (h : DSs X C O2 O' sts g) (hs : ∀ i ∈ O2, i ∈ O := by decide) : DSs X C O O' sts g := pss_imp h fun D σ H ⟨B, δ, ad, r, k⟩ => ⟨B, δ, ad, r.freeze hs, k.from (Stp.frz hs)⟩
theorem ds_frz {O2 : List Nat} (h : DS X C O2 O' st g) (hs : ∀ i ∈ O2, i ∈ O := by decide) : DS X C O O' st g := ps_imp h fun D σ H ⟨B, δ, ad, r, k⟩ => ⟨B, δ, ad, r.freeze hs, k.from (Stp.frz hs)⟩
/-- .. behind -/
theorem Sk.weak {K : PySem.W.Frag} {B : Bs} {ad : Nat → Addr} {O2 : List Nat} {H : Hp} {D : Ends} {r : SR} (hs : ∀ i ∈ O2, i ∈ O') (h : Sk K C B O ad O2 H D r) : Sk K C B O ad O' H D r := by
  cases r with
  | nx δ' => exact fun ad' σ' H' s q => h ad' σ' H' (s.trans (Stp.frz hs)) (q.freeze hs)
  | rt d => exact h
  | bk δ' => exact h
  | ct δ' => exact h
  | err c x δ' => exact h
  | bad => exact h
theorem ds_end {O2 : List Nat} (h : DS X C O O' st g) (hs : ∀ i ∈ O2, i ∈ O' := by decide) : DS X C O O2 st g := ps_imp h fun D σ H ⟨B, δ, ad, r, k⟩ => ⟨B, δ, ad, r, k.weak hs⟩
theorem dss_end {O2 : List Nat} (h : DSs X C O O' sts g) (hs : ∀ i ∈ O2, i ∈ O' := by decide) : DSs X C O O2 sts g := pss_imp h fun D σ H ⟨B, δ, ad, r, k⟩ => ⟨B, δ, ad, r, k.weak hs⟩
theorem ds_pass {pos : Pos} : DS X C O O (.Pass pos) skp := ps_imp ps_pass fun D σ H ⟨B, δ, ad, r, k⟩ => k ad σ H Stp.refl r
def brk : FS := fun δ => .bk δ
def cnt : FS := fun δ => .ct δ
theorem ds_break {pos : Pos} (hs : ∀ i ∈ C.Ol, i ∈ O := by decide) : DS X C O O' (.Break pos) brk := ps_imp ps_break fun D σ H ⟨B, δ, ad, r, k⟩ => k ad σ H (Stp.frz hs) (r.freeze hs)
theorem ds_continue {pos : Pos} (hs : ∀ i ∈ C.Ol, i ∈ O := by decide) : DS X C O O' (.Continue pos) cnt := ps_imp ps_continue fun D σ H ⟨B, δ, ad, r, k⟩ => k ad σ H (Stp.frz hs) (r.freeze hs)
/-- an expression's answer goes on -/
def exS (f : FE) (k : PyData → SR) : FS := fun δ => match f δ with
  | .ok d => k d
  | .err c x => .err c x δ
  | .bad => .bad
theorem exS_ok {f : FE} {kk : PyData → SR} {rel : Rel3} {σ : L2.St} {H : Hp} {D : Ends} {Q : VK} {K : PySem.W.Frag} (hOe : ∀ i ∈ C.Oe, i ∈ O) (r : ∃ B δ ad, Rl K C.n B O ad δ σ H ∧ Sk K C B O ad O' H D (exS f kk δ))
    (hq : ∀ B δ ad v H' d, Rl K C.n B O ad δ σ H → f δ = .ok d → Same H H' → rel H H' (avO B O ad) v d → Sk K C B O ad O' H D (kk d) → Q v H') : tX K C O rel f σ H Q := by
  obtain ⟨B, δ, ad, r, k⟩ := r
  refine ⟨B, δ, ad, r, ?_⟩
  unfold exS at k
  cases e : f δ with
  | ok d => rw [e] at k; exact fun v H' s z => hq B δ ad v H' d r e s z k
  | err c x => rw [e] at k; exact fun cls dd H' s z => k cls dd ad σ H' ((Stp.same s).trans (Stp.frz hOe)) ((r.same s).freeze hOe) z
  | bad => rw [e] at k; exact k
def retS (f : FE) : FS := exS f .rt
theorem ds_ret {e : Expr} {f : FE} {pos : Pos} (he : DE X C O e f) (hw : C.ow = false := by rfl) (hOe : ∀ i ∈ C.Oe, i ∈ O := by exact fun _ h => nomatch h) : DS X C O O' (.Return (some e) pos) (retS f) := ps_imp (ps_ret he) fun D σ H r => exS_ok hOe r fun B δ ad v H' d rl _ s z k => by
  refine k v H' (rl.keep.trans s) ?_
  unfold Ret
  rw [hw]
  exact Rp.weak (fun a h => .inl h) z
theorem ds_retF {e : Expr} {f : FE} {pos : Pos} (he : DF X C O e f) (hw : C.ow = true := by rfl) (hOe : ∀ i ∈ C.Oe, i ∈ O := by exact fun _ h => nomatch h) : DS X C O O' (.Return (some e) pos) (retS f) := ps_imp (ps_ret he) fun D σ H r => exS_ok hOe r fun B δ ad v H' d rl _ s z k => by
  obtain ⟨a, rfl, n, o⟩ := z
  refine k _ H' (rl.keep.trans s) ?_
  unfold Ret
  rw [hw]
  exact ⟨a, rfl, rl.keep.free n, o.mono (Kp.of_same (Same.refl H')) (fun b _ n z => n (z.imp .inl id)) rfl⟩
/-- an owned name is given back -/
theorem ds_retO {e : Expr} {i : Nat} {pos : Pos} (he : PE X e (tVar i)) (hi : i ∈ O := by decide) (hw : C.ow = true := by rfl) : DS X C O O' (.Return (some e) pos) (retS (vr i)) := ps_imp (ps_ret he) fun D σ H ⟨B, δ, ad, r, k⟩ => by
  obtain ⟨d, h1, h2, o⟩ := r.own i hi
  have e : vr i δ = .ok d := by unfold vr; rw [h1]
  unfold retS exS at k
  rw [e] at k
  refine ⟨_, h2, k _ H r.keep ?_⟩
  unfold Ret
  rw [hw]
  refine ⟨_, rfl, r.new i hi, o.mono (Kp.of_same (Same.refl H)) (fun b _ n z => n ?_) rfl⟩
  exact z.imp id fun e => ⟨i, hi, e⟩
/-- an owned name given back as data -/
theorem ds_retD {e : Expr} {i : Nat} {pos : Pos} (he : PE X e (tVar i)) (hw : C.ow = false := by rfl) : DS X C O O' (.Return (some e) pos) (retS (vr i)) := ps_imp (ps_ret he) fun D σ H ⟨B, δ, ad, r, k⟩ => by
  have r0 := r.freeze (O' := []) (fun i h => by cases h)
  unfold retS exS vr at k
  split at k
  · rename_i d e
    split at e
    · rename_i d' e'
      cases e
      obtain ⟨v, h1, h2⟩ := r0.fro i _ (by simp) e'
      refine ⟨v, h1, k v H r.keep ?_⟩
      unfold Ret
      rw [hw]
      exact Rp.weak (fun a h => .inl h) h2
    · cases e
  · rename_i e; split at e <;> cases e
  · exact k.elim
def setS (i : Nat) (f : FE) : FS := fun δ => exS f (fun d => .nx (δ.set i (some d))) δ
theorem ds_set {f : FE} {i : Nat} (hp : PS X st (tAsg (tX X.K C O (relE X.K) f) (gName i))) (hi : i ∉ O := by decide) (hOe : ∀ i ∈ C.Oe, i ∈ O := by exact fun _ h => nomatch h) : DS X C O O st (setS i f) := ps_imp hp fun D σ H ⟨B, δ, ad, r, k⟩ => by
  refine ⟨B, δ, ad, r, ?_⟩
  unfold setS exS at k
  cases e : f δ with
  | ok d => rw [e] at k; exact fun v H' s z => k ad _ H' (Stp.same s) ((r.same s).set hi z)
  | err c x => rw [e] at k; exact fun cls dd H' s z => k cls dd ad σ H' ((Stp.same s).trans (Stp.frz hOe)) ((r.same s).freeze hOe) z
  | bad => rw [e] at k; exact k
theorem ds_setF {f : FE} {i : Nat} (hp : PS X st (tAsg (tX X.K C O (relF X.K) f) (gName i))) (hO : i :: O.erase i = O' := by rfl) (hi : i < C.n := by exact Nat.le_of_ble_eq_true rfl) (hOe : ∀ i ∈ C.Oe, i ∈ O := by exact fun _ h => nomatch h) : DS X C O O' st (setS i f) := ps_imp hp fun D σ H ⟨B, δ, ad, r, k⟩ => by
  subst hO
  refine ⟨B, δ, ad, r, ?_⟩
  unfold setS exS at k
  cases e : f δ with
  | ok d =>
    rw [e] at k
    intro v H' s z
    obtain ⟨a, rfl, n, o⟩ := z
    obtain ⟨h1, h2⟩ := r.setF hi s n o
    exact k _ _ H' h2 h1
  | err c x => rw [e] at k; exact fun cls dd H' s z => k cls dd ad σ H' ((Stp.same s).trans (Stp.frz hOe)) ((r.same s).freeze hOe) z
  | bad => rw [e] at k; exact k
def ifS (c : FT) (a b : FS) : FS := fun δ => match c δ with
  | .ok true => a δ
  | .ok false => b δ
  | .err c x => .err c x δ
  | .bad => .bad
theorem ds_if {e : Expr} {c : FT} {a b : FS} {ta tb : List Stmt} {pos : Pos} (hc : DT X C O e c) (ha : DSs X C O O' ta a) (hb : DSs X C O O' tb b) (hOe : ∀ i ∈ C.Oe, i ∈ O := by exact fun _ h => nomatch h) : DS X C O O' (.If e ta tb pos) (ifS c a b) := ps_imp (ps_if hc ha hb) fun D σ H ⟨B, δ, ad, r, k⟩ => by
  refine ⟨B, δ, ad, r, ?_⟩
  unfold ifS at k
  cases e : c δ with
  | ok t =>
    rw [e] at k
    intro H' s
    cases t with
    | true => rw [if_pos rfl]; exact ⟨B, δ, ad, r.same s, k.from (Stp.same s)⟩
    | false => rw [if_neg Bool.false_ne_true]; exact ⟨B, δ, ad, r.same s, k.from (Stp.same s)⟩
  | err c x => rw [e] at k; exact fun cls dd H' s z => k cls dd ad σ H' ((Stp.same s).trans (Stp.frz hOe)) ((r.same s).freeze hOe) z
  | bad => rw [e] at k; exact k
def expS (f : FE) : FS := fun δ => exS f (fun _ => .nx δ) δ
theorem ds_expr {e : Expr} {f : FE} {pos : Pos} (he : DB X C O e f) (hOe : ∀ i ∈ C.Oe, i ∈ O := by exact fun _ h => nomatch h) (hs : swapsWith e none pos.line X.env = pure false := by rfl) : DS X C O O (.Expr e pos) (expS f) := ps_imp (ps_expr he hs) fun D σ H ⟨B, δ, ad, r, k⟩ => by
  refine ⟨B, δ, ad, r, ?_⟩
  unfold expS exS at k
  cases e : f δ with
  | ok d => rw [e] at k; exact fun v H' s z => k ad _ H' (Stp.same s) (r.same s)
  | err c x => rw [e] at k; exact fun cls dd H' s z => k cls dd ad σ H' ((Stp.same s).trans (Stp.frz hOe)) ((r.same s).freeze hOe) z
  | bad => rw [e] at k; exact k
end
end Dl

namespace Dl
open PySem PySem.Spec L2

/-! ### targets -/
abbrev FB := PyData → Ev → Option Ev
def bN (i : Nat) : FB := fun d δ => some (δ.set i (some d))
def sets : List Nat → List PyData → Ev → Ev
  | i :: is, d :: ds, δ => sets is ds (δ.set i (some d))
  | _, _, δ => δ
def bT (is : List Nat) : FB := fun d δ => match d with
  | .tuple ds => if ds.length = is.length then some (sets is ds δ) else none
  | _ => none
def gNames : List Nat → TGs
  | [] => gNil
  | i :: is => gCons (gName i) (gNames is)
def EqBut (is : List Nat) (σ σ' : L2.St) : Prop := σ'.length = σ.length ∧ ∀ j, j ∉ is → σ'[j]? = σ[j]?
theorem EqBut.refl {is : List Nat} {σ : L2.St} : EqBut is σ σ := ⟨rfl, fun _ _ => rfl⟩
theorem EqBut.set {is : List Nat} {σ σ' : L2.St} {i : Nat} {v : Option V} (h : EqBut is (σ.set i v) σ') : EqBut (i :: is) σ σ' := ⟨by rw [h.1, List.length_set], fun j hj => by
  rw [h.2 j fun z => hj (List.mem_cons_of_mem _ z), List.getElem?_set_ne (show i ≠ j from fun z => hj (by rw [z]; exact List.mem_cons_self))]⟩
def tG (K : PySem.W.Frag) (C : Cc) (O : List Nat) (is : List Nat) (b : FB) : TG := fun v σ H Q => ∃ B δ ad d δ', Rl K C.n B O ad δ σ H ∧ Rp K H (avO B O ad) v d ∧ b d δ = some δ' ∧ ∀ σ', Rl K C.n B O ad δ' σ' H → EqBut is σ σ' → Q σ' H
abbrev DG (X : Cx) (C : Cc) (O : List Nat) (tg : Expr) (is : List Nat) (b : FB) : Prop := PG X tg (tG X.K C O is b)
theorem pg_imp {X : Cx} {tg : Expr} {t t' : TG} (h : PG X tg t) (i : ∀ v σ H Q, t' v σ H Q → t v σ H Q) : PG X tg t' := ⟨fun pins s σ H v u Q I r q => h.run pins s σ H v u Q I r (i _ _ _ _ q)⟩
section
variable {X : Cx} {C : Cc} {O is : List Nat} {tg : Expr}
theorem dg_name {i : Nat} (h : PG X tg (gName i)) (hi : i ∉ O := by decide) : DG X C O tg [i] (bN i) := pg_imp h fun v σ H Q ⟨B, δ, ad, d, δ', r, z, e, q⟩ => by
  cases e
  exact q _ (r.set hi z) (EqBut.set EqBut.refl)
theorem gNames_ok {K : PySem.W.Frag} {B : Bs} {ad : Nat → Addr} {H : Hp} {Q : L2.St → Hp → Prop} : ∀ {is : List Nat} {vs : List V} {ds : List PyData} {δ : Ev} {σ : L2.St}, (∀ i ∈ is, i ∉ O) → Rl K C.n B O ad δ σ H → RpAll K H (avO B O ad) vs ds → ds.length = is.length →
    (∀ σ', Rl K C.n B O ad (sets is ds δ) σ' H → EqBut is σ σ' → Q σ' H) → gNames is vs σ H Q
  | [], _, _, _, _, _, r, .nil, _, q => ⟨rfl, q _ r EqBut.refl⟩
  | i :: is, _, _, _, _, hi, r, .cons h t, hl, q => ⟨_, _, rfl, gNames_ok (fun j hj => hi j (List.mem_cons_of_mem _ hj)) (r.set (hi i List.mem_cons_self) h) t (by simpa using hl) fun σ' r' e => q σ' r' e.set⟩
  | [], _, _, _, _, _, _, .cons _ _, hl, _ => by simp at hl
  | _ :: _, _, _, _, _, _, _, .nil, hl, _ => by simp at hl
theorem dg_tup {is : List Nat} (h : PG X tg (gTup X.K is.length (gNames is))) (hi : ∀ i ∈ is, i ∉ O := by decide) : DG X C O tg is (bT is) := pg_imp h fun v σ H Q ⟨B, δ, ad, d, δ', r, z, e, q⟩ => by
  unfold bT at e
  split at e
  · split at e
    · rename_i hl
      cases e
      obtain ⟨a, xs, rfl, ha, ra⟩ := z.bw.tuple
      exact ⟨a, xs, rfl, ha, by rw [ra.length]; exact hl, gNames_ok hi r ra hl q⟩
    · cases e
  · cases e
def asgS (b : FB) (f : FE) : FS := fun δ => exS f (fun d => match b d δ with | some δ' => .nx δ' | none => .bad) δ
/-- a, b = e -/
theorem ds_asg {e : Expr} {st : Stmt} {f : FE} {b : FB} (hp : ∀ te g, PE X e te → PG X tg g → PS X st (tAsg te g)) (hg : DG X C O tg is b) (he : DE X C O e f) (hOe : ∀ i ∈ C.Oe, i ∈ O := by exact fun _ h => nomatch h) : DS X C O O st (asgS b f) := ps_imp (hp _ _ he hg) fun D σ H ⟨B, δ, ad, r, k⟩ => by
  refine ⟨B, δ, ad, r, ?_⟩
  unfold asgS exS at k
  cases e : f δ with
  | ok d =>
    rw [e] at k
    intro v H' s z
    cases e2 : b d δ with
    | none => simp only [e2] at k; exact k.elim
    | some δ' => simp only [e2] at k; exact ⟨B, δ, ad, d, δ', r.same s, z, e2, fun σ' r' _ => k ad σ' H' (Stp.same s) r'⟩
  | err c x => rw [e] at k; exact fun cls dd H' s z => k cls dd ad σ H' ((Stp.same s).trans (Stp.frz hOe)) ((r.same s).freeze hOe) z
  | bad => rw [e] at k; exact k
end

/-! ### what is walked -/
abbrev FI := Ev → R (List PyData)
abbrev OkH := Hp → (Addr → Prop) → Prop
def okL (av : Addr → Prop) (H1 : Hp) : OkH := fun H' av' => Kp av H1 H' ∧ ∀ a, av' a → av a ∨ H1 a = none
def okC (av : Addr → Prop) (H1 : Hp) : OkH := fun H' av' => Same H1 H' ∧ ∀ a, av' a → av a ∨ H1 a = none
def ItD (K : PySem.W.Frag) (ok : OkH) (J : It) (ds : List PyData) : Prop := ∀ H' av', ok H' av' → (∀ i, i < ds.length → J.go i H') ∧ J.stop ds.length H' ∧
  ∀ i x H'', i < ds.length → J.yld i H' x H'' → Same H' H'' ∧ ∃ d, ds[i]? = some d ∧ Rp K H'' av' x d
def tI (ok : (Addr → Prop) → Hp → OkH) (K : PySem.W.Frag) (C : Cc) (O : List Nat) (f : FI) : TI := fun σ H Q => ∃ B δ ad, Rl K C.n B O ad δ σ H ∧
  Rk (f δ) (fun ds => ∀ J H1, Same H H1 → ItD K (ok (avO B O ad) H1) J ds → Q J H1) (fun c x => ∀ cls dd H', Same H H' → Er K c x cls dd H' → C.W cls dd σ H')
abbrev DI (X : Cx) (C : Cc) (O : List Nat) (tg e : Expr) (f : FI) : Prop := PI X tg e (tI okL X.K C O f)
abbrev DC (X : Cx) (C : Cc) (O : List Nat) (tg e : Expr) (f : FI) : Prop := PI X tg e (tI okC X.K C O f)
theorem pi_imp {X : Cx} {tg e : Expr} {t t' : TI} (h : PI X tg e t) (i : ∀ σ H Q, t' σ H Q → t σ H Q) : PI X tg e t' := ⟨fun pins s σ H R I q => h.run pins s σ H R I (i _ _ _ q)⟩
section
variable {K : PySem.W.Frag} {ok : OkH} {ds : List PyData}
theorem ItD.list {a : Addr} {xs : List V} (h : ∀ H' av', ok H' av' → SqL K H' a xs ∧ RpAll K H' av' xs ds) : ItD K ok (Itl K a) ds := fun H' av' o => by
  obtain ⟨h1, h2⟩ := h H' av' o
  refine ⟨fun i hi => ?_, ⟨xs, h1, Nat.le_of_eq h2.length⟩, fun i x H'' hi y => ?_⟩
  · rw [← h2.length] at hi
    exact ⟨xs, xs[i], h1, by simp [hi]⟩
  · obtain ⟨e, y⟩ := y
    subst e
    obtain ⟨d, e1, e2⟩ := h2.get (y xs h1)
    exact ⟨Same.refl _, d, e1, e2⟩
theorem ItD.tup {a : Addr} {xs : List V} (h : ∀ H' av', ok H' av' → SqT K H' a xs ∧ RpAll K H' av' xs ds) : ItD K ok (Itt K a) ds := fun H' av' o => by
  obtain ⟨h1, h2⟩ := h H' av' o
  refine ⟨fun i hi => ?_, ⟨xs, h1, Nat.le_of_eq h2.length⟩, fun i x H'' hi y => ?_⟩
  · rw [← h2.length] at hi
    exact ⟨xs, xs[i], h1, by simp [hi]⟩
  · obtain ⟨e, y⟩ := y
    subst e
    obtain ⟨d, e1, e2⟩ := h2.get (y xs h1)
    exact ⟨Same.refl _, d, e1, e2⟩
def rangeL (lo : Int) (n : Nat) : List PyData := (List.range n).map fun i => .int (lo + (i : Nat))
theorem ItD.range {lo : Int} {n : Nat} : ItD K ok (Itr lo n) (rangeL lo n) := fun H' av' o => by
  refine ⟨fun i hi => by show i < n; simpa [rangeL] using hi, by show n ≤ _; simp [rangeL], fun i x H'' hi y => ?_⟩
  obtain ⟨e, y⟩ := y
  subst e y
  have hi' : i < n := by simpa [rangeL] using hi
  exact ⟨Same.refl _, .int (lo + (i : Nat)), by simp [rangeL, hi'], .int _⟩
def zipL (xs ys : List PyData) : List PyData := (xs.zip ys).map fun p => .tuple [p.1, p.2]
theorem zipL_get {xs ys : List PyData} {i : Nat} {x y : PyData} (h1 : xs[i]? = some x) (h2 : ys[i]? = some y) : (zipL xs ys)[i]? = some (.tuple [x, y]) := by
  simp [zipL, List.getElem?_zip_eq_some, List.getElem?_map, h1, h2]
theorem ItD.zip {a b : Addr} {xs ys : List V} {es : List PyData} (h : ∀ H' av', ok H' av' → SqL K H' a xs ∧ RpAll K H' av' xs ds ∧ SqL K H' b ys ∧ RpAll K H' av' ys es) : ItD K ok (Itz K a b) (zipL ds es) := fun H' av' o => by
  obtain ⟨h1, h2, h3, h4⟩ := h H' av' o
  have e1 := h2.length
  have e2 := h4.length
  have hz : (zipL ds es).length = min ds.length es.length := by simp [zipL]
  refine ⟨fun i hi => ?_, ⟨xs, ys, h1, h3, ?_⟩, fun i x H'' hi y => ?_⟩
  · rw [hz] at hi
    exact ⟨xs, ys, xs[i]'(by omega), ys[i]'(by omega), h1, h3, by simp, by simp⟩
  · rw [hz]; omega
  · obtain ⟨T, u, v, rfl, hT, rfl, y1, y2⟩ := y
    obtain ⟨d, q1, q2⟩ := h2.get (y1 xs h1)
    obtain ⟨d', q3, q4⟩ := h4.get (y2 ys h3)
    have s := same_new hT (.tup [u, v])
    exact ⟨s, _, zipL_get q1 q3, .tup (SqT.of upd_same) (.cons (q2.same s) (.cons (q4.same s) .nil))⟩
def enumL (xs : List PyData) : List PyData := zipL (rangeL 0 xs.length) xs
theorem enumL_get {xs : List PyData} {i : Nat} {x : PyData} (h2 : xs[i]? = some x) : (enumL xs)[i]? = some (.tuple [.int (i : Nat), x]) := by
  have hi : i < xs.length := by
    by_cases h : i < xs.length
    · exact h
    · rw [List.getElem?_eq_none (by simpa using h)] at h2; cases h2
  exact zipL_get (by simp [rangeL, hi]) h2
theorem ItD.enum {a : Addr} {xs : List V} (h : ∀ H' av', ok H' av' → SqL K H' a xs ∧ RpAll K H' av' xs ds) : ItD K ok (Ite K a) (enumL ds) := fun H' av' o => by
  obtain ⟨h1, h2⟩ := h H' av' o
  have hz : (enumL ds).length = ds.length := by simp [enumL, zipL, rangeL]
  refine ⟨fun i hi => ?_, ?_, fun i x H'' hi y => ?_⟩
  · rw [hz, ← h2.length] at hi
    exact ⟨xs, xs[i], h1, by simp [hi]⟩
  · rw [hz, ← h2.length]
    exact ⟨xs, h1, Nat.le_refl _⟩
  · obtain ⟨T, u, rfl, hT, rfl, y1⟩ := y
    obtain ⟨d, q1, q2⟩ := h2.get (y1 xs h1)
    have s := same_new hT (.tup [.int (i : Nat), u])
    exact ⟨s, _, enumL_get q1, .tup (SqT.of upd_same) (.cons (.int _) (.cons (q2.same s) .nil))⟩
theorem ItD.rev {a : Addr} {xs : List V} (h : ∀ H' av', ok H' av' → SqL K H' a xs ∧ RpAll K H' av' xs ds) : ItD K ok (Itv K a xs.length) ds.reverse := fun H' av' o => by
  obtain ⟨h1, h2⟩ := h H' av' o
  have e1 := h2.length
  refine ⟨fun i hi => ?_, ?_, fun i x H'' hi y => ?_⟩
  · rw [List.length_reverse, ← e1] at hi
    exact ⟨hi, xs, xs[xs.length - 1 - i]'(by omega), h1, by simp⟩
  · rw [List.length_reverse, ← e1]
    exact Nat.le_refl _
  · rw [List.length_reverse, ← e1] at hi
    obtain ⟨e, y⟩ := y
    subst e
    obtain ⟨d, q1, q2⟩ := h2.get (y xs h1)
    refine ⟨Same.refl _, d, ?_, q2⟩
    rw [List.getElem?_reverse (by omega), ← e1]
    exact q1
end
section
variable {X : Cx} {C : Cc} {O : List Nat} {tg e : Expr} {f : FE}
def itL (f : FE) : FI := fun δ => (f δ).bind fun d => match d with
  | .list ds => .ok ds
  | _ => .bad
def itT (f : FE) : FI := fun δ => (f δ).bind fun d => match d with
  | .tuple ds => .ok ds
  | _ => .bad
theorem okL_list {K : PySem.W.Frag} {av : Addr → Prop} {H : Hp} {v : V} {ds : List PyData} (h : Rp K H av v (.list ds)) : ∃ a xs, v = .ref a ∧ SqL K H a xs ∧ RpAll K H av xs ds ∧ ∀ H' av', okL av H H' av' → SqL K H' a xs ∧ RpAll K H' av' xs ds := by
  cases h with
  | lst h n r =>
    refine ⟨_, _, rfl, .inl h, r, fun H' av' o => ⟨.inl (rd_kp o.1 h (.inl n)), r.mono o.1 fun a e n z => ?_⟩⟩
    rcases o.2 a z with z | z
    · exact n z
    · exact e z
theorem okC_list {K : PySem.W.Frag} {av : Addr → Prop} {H : Hp} {v : V} {ds : List PyData} (h : Bw K H av v (.list ds)) : ∃ a xs, v = .ref a ∧ SqL K H a xs ∧ RpAll K H av xs ds ∧ ∀ H' av', okC av H H' av' → SqL K H' a xs ∧ RpAll K H' av' xs ds := by
  obtain ⟨a, xs, rfl, h1, r⟩ := h.list
  refine ⟨a, xs, rfl, .inl h1, r, fun H' av' o => ⟨.inl ?_, r.mono (Kp.of_same o.1) fun a e n z => (o.2 a z).elim n e⟩⟩
  rcases h1 with h | ⟨u, h⟩
  · exact .inl (o.1 _ _ h)
  · exact .inr ⟨u, o.1 _ _ h⟩
theorem okL_tup {K : PySem.W.Frag} {av : Addr → Prop} {H : Hp} {v : V} {ds : List PyData} (h : Bw K H av v (.tuple ds)) : ∃ a xs, v = .ref a ∧ SqT K H a xs ∧ RpAll K H av xs ds ∧ ∀ H' av', okL av H H' av' → SqT K H' a xs ∧ RpAll K H' av' xs ds := by
  obtain ⟨a, xs, rfl, h1, r⟩ := h.tuple
  refine ⟨a, xs, rfl, h1, r, fun H' av' o => ⟨sqT_kp o.1 h1, r.mono o.1 fun a e n z => ?_⟩⟩
  rcases o.2 a z with z | z
  · exact n z
  · exact e z
theorem okC_tup {K : PySem.W.Frag} {av : Addr → Prop} {H : Hp} {v : V} {ds : List PyData} (h : Bw K H av v (.tuple ds)) : ∃ a xs, v = .ref a ∧ SqT K H a xs ∧ RpAll K H av xs ds ∧ ∀ H' av', okC av H H' av' → SqT K H' a xs ∧ RpAll K H' av' xs ds := by
  obtain ⟨a, xs, rfl, h1, r⟩ := h.tuple
  exact ⟨a, xs, rfl, h1, r, fun H' av' o => ⟨sqT_kp (av := av) (Kp.of_same o.1) h1, r.mono (Kp.of_same o.1) fun a e n z => (o.2 a z).elim n e⟩⟩
theorem di_list (h : DE X C O e f) : DI X C O tg e (itL f) := pi_imp (pi_list h) fun σ H Q ⟨B, δ, ad, r, k⟩ => by
  refine ⟨B, δ, ad, r, k.bind.imp (fun d _ q v H1 s1 z => ?_) fun _ _ z => z⟩
  cases d with
  | list ds => obtain ⟨a, xs, rfl, h1, _, h2⟩ := okL_list z; exact ⟨a, rfl, ⟨xs, h1⟩, q _ H1 s1 (ItD.list h2)⟩
  | _ => exact q.elim
theorem dc_list (h : DB X C O e f) : DC X C O tg e (itL f) := pi_imp (pi_list h) fun σ H Q ⟨B, δ, ad, r, k⟩ => by
  refine ⟨B, δ, ad, r, k.bind.imp (fun d _ q v H1 s1 z => ?_) fun _ _ z => z⟩
  cases d with
  | list ds => obtain ⟨a, xs, rfl, h1, _, h2⟩ := okC_list z; exact ⟨a, rfl, ⟨xs, h1⟩, q _ H1 s1 (ItD.list h2)⟩
  | _ => exact q.elim
theorem di_tup (h : DB X C O e f) : DI X C O tg e (itT f) := pi_imp (pi_tup h) fun σ H Q ⟨B, δ, ad, r, k⟩ => by
  refine ⟨B, δ, ad, r, k.bind.imp (fun d _ q v H1 s1 z => ?_) fun _ _ z => z⟩
  cases d with
  | tuple ds => obtain ⟨a, xs, rfl, h1, _, h2⟩ := okL_tup z; exact ⟨a, rfl, ⟨xs, h1⟩, q _ H1 s1 (ItD.tup h2)⟩
  | _ => exact q.elim
theorem dc_tup (h : DB X C O e f) : DC X C O tg e (itT f) := pi_imp (pi_tup h) fun σ H Q ⟨B, δ, ad, r, k⟩ => by
  refine ⟨B, δ, ad, r, k.bind.imp (fun d _ q v H1 s1 z => ?_) fun _ _ z => z⟩
  cases d with
  | tuple ds => obtain ⟨a, xs, rfl, h1, _, h2⟩ := okC_tup z; exact ⟨a, rfl, ⟨xs, h1⟩, q _ H1 s1 (ItD.tup h2)⟩
  | _ => exact q.elim
def itR (fs : List FE) : FI := fun δ => (evs fs δ).bind fun ds => match ds with
  | [.int n] => if -(2 ^ 62) ≤ n ∧ n < 2 ^ 62 then .ok (rangeL 0 n.toNat) else .bad
  | [.int a, .int b] => if (-(2 ^ 62) ≤ a ∧ a < 2 ^ 62) ∧ (-(2 ^ 62) ≤ b ∧ b < 2 ^ 62) then .ok (rangeL a (b - a).toNat) else .bad
  | _ => .bad
theorem dx_range1 {ok : (Addr → Prop) → Hp → OkH} {p pos : Pos} (hg : Gl X "range") (hm : X.mg "range" = none) (h : DAB X C O [e] [f]) (hh : ∀ ta, PA X [e] ta → PI X tg (.Call (.Name "range" p) [e] [] pos) (iRng1 ta)) : PI X tg (.Call (.Name "range" p) [e] [] pos) (tI ok X.K C O (itR [f])) := pi_imp (hh _ h) fun σ H Q ⟨B, δ, ad, r, k⟩ => by
  refine ⟨B, δ, ad, r, k.bind.imp (fun ds e q vs H1 s1 z => ?_) fun _ _ z => z⟩
  have hl := evs_length e
  match ds, hl with
  | [d], _ =>
    cases d with
    | int n =>
      by_cases hc : -(2 ^ 62) ≤ n ∧ n < 2 ^ 62
      · simp only [if_pos hc] at q
        obtain ⟨v, rfl, b⟩ := z.one
        have e := b.int
        subst e
        exact ⟨n, rfl, hc.1, hc.2, q _ H1 s1 ItD.range⟩
      · simp only [if_neg hc] at q; exact q.elim
    | _ => exact q.elim
theorem dx_range2 {ok : (Addr → Prop) → Hp → OkH} {e2 : Expr} {f2 : FE} {p pos : Pos} (hg : Gl X "range") (hm : X.mg "range" = none) (h : DAB X C O [e, e2] [f, f2]) (hh : ∀ ta, PA X [e, e2] ta → PI X tg (.Call (.Name "range" p) [e, e2] [] pos) (iRng2 ta)) : PI X tg (.Call (.Name "range" p) [e, e2] [] pos) (tI ok X.K C O (itR [f, f2])) := pi_imp (hh _ h) fun σ H Q ⟨B, δ, ad, r, k⟩ => by
  refine ⟨B, δ, ad, r, k.bind.imp (fun ds e q vs H1 s1 z => ?_) fun _ _ z => z⟩
  have hl := evs_length e
  match ds, hl with
  | [d, d2], _ =>
    cases d with
    | int n =>
      cases d2 with
      | int m =>
        by_cases hc : (-(2 ^ 62) ≤ n ∧ n < 2 ^ 62) ∧ (-(2 ^ 62) ≤ m ∧ m < 2 ^ 62)
        · simp only [if_pos hc] at q
          obtain ⟨v, w, rfl, b1, b2⟩ := z.two
          have e1 := b1.int
          have e2 := b2.int
          subst e1 e2
          exact ⟨n, m, rfl, ⟨hc.1.1, hc.1.2, hc.2.1, hc.2.2⟩, q _ H1 s1 ItD.range⟩
        · simp only [if_neg hc] at q; exact q.elim
      | _ => exact q.elim
    | _ => exact q.elim
def itZ (fa fb : FE) : FI := fun δ => (evs [fa, fb] δ).bind fun ds => match ds with
  | [.list xs, .list ys] => .ok (zipL xs ys)
  | _ => .bad
theorem di_zip {e2 : Expr} {f2 : FE} (h : DA X C O [e, e2] [f, f2]) {iter : Expr} (hh : ∀ ta, PA X [e, e2] ta → PI X tg iter (iZip X.K ta)) : DI X C O tg iter (itZ f f2) := pi_imp (hh _ h) fun σ H Q ⟨B, δ, ad, r, k⟩ => by
  refine ⟨B, δ, ad, r, k.bind.imp (fun ds e q vs H1 s1 z => ?_) fun _ _ z => z⟩
  have hl := evs_length e
  match ds, hl, z with
  | [d, d2], _, .cons z1 (.cons z2 .nil) =>
    cases d with
    | list xs =>
      cases d2 with
      | list ys =>
        obtain ⟨a, vs, rfl, h1, _, h2⟩ := okL_list z1
        obtain ⟨b, ws, rfl, h3, _, h4⟩ := okL_list z2
        exact ⟨a, b, vs, ws, rfl, h1, h3, q _ H1 s1 (ItD.zip fun H' av' o => ⟨(h2 H' av' o).1, (h2 H' av' o).2, (h4 H' av' o).1, (h4 H' av' o).2⟩)⟩
      | _ => exact q.elim
    | _ => exact q.elim
theorem dc_zip {e2 : Expr} {f2 : FE} (h : DAB X C O [e, e2] [f, f2]) {iter : Expr} (hh : ∀ ta, PA X [e, e2] ta → PI X tg iter (iZip X.K ta)) : DC X C O tg iter (itZ f f2) := pi_imp (hh _ h) fun σ H Q ⟨B, δ, ad, r, k⟩ => by
  refine ⟨B, δ, ad, r, k.bind.imp (fun ds e q vs H1 s1 z => ?_) fun _ _ z => z⟩
  have hl := evs_length e
  match ds, hl, z with
  | [d, d2], _, .cons z1 (.cons z2 .nil) =>
    cases d with
    | list xs =>
      cases d2 with
      | list ys =>
        obtain ⟨a, vs, rfl, h1, _, h2⟩ := okC_list z1
        obtain ⟨b, ws, rfl, h3, _, h4⟩ := okC_list z2
        exact ⟨a, b, vs, ws, rfl, h1, h3, q _ H1 s1 (ItD.zip fun H' av' o => ⟨(h2 H' av' o).1, (h2 H' av' o).2, (h4 H' av' o).1, (h4 H' av' o).2⟩)⟩
      | _ => exact q.elim
    | _ => exact q.elim
def it1 (w : List PyData → List PyData) (f : FE) : FI := fun δ => (evs [f] δ).bind fun ds => match ds with
  | [.list xs] => .ok (w xs)
  | _ => .bad
theorem di_enum (h : DA X C O [e] [f]) {iter : Expr} (hh : ∀ ta, PA X [e] ta → PI X tg iter (iEnum X.K ta)) : DI X C O tg iter (it1 enumL f) := pi_imp (hh _ h) fun σ H Q ⟨B, δ, ad, r, k⟩ => by
  refine ⟨B, δ, ad, r, k.bind.imp (fun ds e q vs H1 s1 z => ?_) fun _ _ z => z⟩
  have hl := evs_length e
  match ds, hl, z with
  | [d], _, .cons z1 .nil =>
    cases d with
    | list xs => obtain ⟨a, vs, rfl, h1, _, h2⟩ := okL_list z1; exact ⟨a, vs, rfl, h1, q _ H1 s1 (ItD.enum h2)⟩
    | _ => exact q.elim
theorem dc_enum (h : DAB X C O [e] [f]) {iter : Expr} (hh : ∀ ta, PA X [e] ta → PI X tg iter (iEnum X.K ta)) : DC X C O tg iter (it1 enumL f) := pi_imp (hh _ h) fun σ H Q ⟨B, δ, ad, r, k⟩ => by
  refine ⟨B, δ, ad, r, k.bind.imp (fun ds e q vs H1 s1 z => ?_) fun _ _ z => z⟩
  have hl := evs_length e
  match ds, hl, z with
  | [d], _, .cons z1 .nil =>
    cases d with
    | list xs => obtain ⟨a, vs, rfl, h1, _, h2⟩ := okC_list z1; exact ⟨a, vs, rfl, h1, q _ H1 s1 (ItD.enum h2)⟩
    | _ => exact q.elim
theorem di_rev (h : DA X C O [e] [f]) {iter : Expr} (hh : ∀ ta, PA X [e] ta → PI X tg iter (iRev X.K ta)) : DI X C O tg iter (it1 List.reverse f) := pi_imp (hh _ h) fun σ H Q ⟨B, δ, ad, r, k⟩ => by
  refine ⟨B, δ, ad, r, k.bind.imp (fun ds e q vs H1 s1 z => ?_) fun _ _ z => z⟩
  have hl := evs_length e
  match ds, hl, z with
  | [d], _, .cons z1 .nil =>
    cases d with
    | list xs => obtain ⟨a, vs, rfl, h1, _, h2⟩ := okL_list z1; exact ⟨a, vs, rfl, h1, q _ H1 s1 (ItD.rev h2)⟩
    | _ => exact q.elim
theorem dc_rev (h : DAB X C O [e] [f]) {iter : Expr} (hh : ∀ ta, PA X [e] ta → PI X tg iter (iRev X.K ta)) : DC X C O tg iter (it1 List.reverse f) := pi_imp (hh _ h) fun σ H Q ⟨B, δ, ad, r, k⟩ => by
  refine ⟨B, δ, ad, r, k.bind.imp (fun ds e q vs H1 s1 z => ?_) fun _ _ z => z⟩
  have hl := evs_length e
  match ds, hl, z with
  | [d], _, .cons z1 .nil =>
    cases d with
    | list xs => obtain ⟨a, vs, rfl, h1, _, h2⟩ := okC_list z1; exact ⟨a, vs, rfl, h1, q _ H1 s1 (ItD.rev h2)⟩
    | _ => exact q.elim
end

/-! ### for -/
def forD (b : FB) (body : FS) : List PyData → FS
  | [], δ => .nx δ
  | d :: ds, δ => match b d δ with
    | none => .bad
    | some δ1 => match body δ1 with
      | .nx δ2 => forD b body ds δ2
      | .ct δ2 => forD b body ds δ2
      | .bk δ2 => .nx δ2
      | r => r
def forS (fi : FI) (b : FB) (body : FS) : FS := fun δ => match fi δ with
  | .ok ds => forD b body ds δ
  | .err c x => .err c x δ
  | .bad => .bad
def wLoop (C : Cc) (O : List Nat) : Cc := { C with Ol := O }
section
variable {X : Cx} {C : Cc} {O is : List Nat} {tg iter : Expr} {fi : FI} {b : FB} {g : FS} {body : List Stmt}
theorem ds_for {pos : Pos} (hp : PassesOwn (model X.prog X.w) X.A X.env X.xe) (hc : X.calm = true) (hi : DI X C O tg iter fi) (hg : DG X C O tg is b) (hb : DSs X (wLoop C O) O O body g) (hOe : ∀ i ∈ C.Oe, i ∈ O := by exact fun _ h => nomatch h)
    (hs : ∀ x, foldedSetIterable iter X.env x = pure x := by intro _; rfl) : DS X C O O (.For tg iter body [] pos) (forS fi b g) := ps_imp (ps_for hp hc hi hg hb hs) fun D σ H ⟨B, δ, ad, r, k⟩ => by
  refine ⟨B, δ, ad, r, ?_⟩
  unfold forS at k
  cases e : fi δ with
  | err c x => rw [e] at k; exact fun cls dd H' s z => k cls dd ad σ H' ((Stp.same s).trans (Stp.frz hOe)) ((r.same s).freeze hOe) z
  | bad => rw [e] at k; exact k
  | ok ds =>
    rw [e] at k
    intro J H1 s1 it
    refine ⟨fun i m σ' H' => m = ds.length - i ∧ i ≤ ds.length ∧ ∃ δ' ad', Rl X.K C.n B O ad' δ' σ' H' ∧ Stp B O ad O ad' H1 H' ∧ Sk X.K C B O ad' O H' D (forD b g (ds.drop i) δ'), ⟨_, rfl, Nat.zero_le _, δ, ad, r.same s1, Stp.refl, k.from (Stp.same s1)⟩, ?_⟩
    rintro i m σ' H' ⟨rfl, hi, δ', ad', r', st, k'⟩
    obtain ⟨go, stop, yl⟩ := it H' (avO B O ad') ⟨st.kp, st.sub⟩
    by_cases hlt : i < ds.length
    · refine .inr ⟨go i hlt, fun σ2 H2 => ∃ δ2 ad2, Rl X.K C.n B O ad2 δ2 σ2 H2 ∧ Stp B O ad O ad2 H1 H2 ∧ Sk X.K C B O ad2 O H2 D (forD b g (ds.drop (i + 1)) δ2), fun σ2 H2 ⟨δ2, ad2, h1, h2, h3⟩ => ⟨_, by omega, rfl, hlt, δ2, ad2, h1, h2, h3⟩, fun x H'' y => ?_⟩
      obtain ⟨s2, d, ed, rd⟩ := yl i x H'' hlt y
      have ed' : ds[i] = d := by rw [List.getElem?_eq_getElem hlt] at ed; exact Option.some.inj ed
      rw [List.drop_eq_getElem_cons hlt, ed'] at k'
      unfold forD at k'
      cases eb : b d δ' with
      | none => simp only [eb] at k'; exact k'.elim
      | some δ1 =>
        simp only [eb] at k'
        refine ⟨B, δ', ad', d, δ1, r'.same s2, rd, eb, fun σ1 r1 _ => ⟨B, δ1, ad', r1, ?_⟩⟩
        have st2 : Stp B O ad O ad' H1 H'' := st.trans (Stp.same s2)
        cases eg : g δ1 with
        | nx δ2 => simp only [eg] at k'; exact fun ad2 σ2 H2 s3 r2 => ⟨δ2, ad2, r2, st2.trans s3, k'.from ((Stp.same s2).trans s3)⟩
        | ct δ2 => simp only [eg] at k'; exact fun ad2 σ2 H2 s3 r2 => ⟨δ2, ad2, r2, st2.trans s3, k'.from ((Stp.same s2).trans s3)⟩
        | bk δ2 => simp only [eg] at k'; exact fun ad2 σ2 H2 s3 r2 => k' ad2 σ2 H2 ((Stp.same s2).trans s3) r2
        | rt d => simp only [eg] at k'; exact k'
        | err c x δ2 => simp only [eg] at k'; exact fun cls dd ad2 σ2 H2 s3 r2 z => k' cls dd ad2 σ2 H2 ((Stp.same s2).trans s3) r2 z
        | bad => simp only [eg] at k'; exact k'
    · have e2 : i = ds.length := by omega
      subst e2
      refine .inl ⟨stop, ?_⟩
      rw [List.drop_length] at k'
      exact k' ad' σ' H' Stp.refl r'
end

/-! ### while -/
def whD (c : FT) (body : FS) : Nat → FS
  | 0, _ => .bad
  | n + 1, δ => match c δ with
    | .ok true => (match body δ with
      | .nx δ2 => whD c body n δ2
      | .ct δ2 => whD c body n δ2
      | .bk δ2 => .nx δ2
      | r => r)
    | .ok false => .nx δ
    | .err c x => .err c x δ
    | .bad => .bad
section
variable {X : Cx} {C : Cc} {O : List Nat} {c : Expr} {fc : FT} {g : FS} {body : List Stmt}
theorem ds_while {pos : Pos} (n : Nat) (hp : PassesOwn (model X.prog X.w) X.A X.env X.xe) (hc : DT X C O c fc) (hb : DSs X (wLoop C O) O O body g) (hOe : ∀ i ∈ C.Oe, i ∈ O := by exact fun _ h => nomatch h) : DS X C O O (.While c body [] pos) (whD fc g n) := ps_imp (ps_while hp hc hb) fun D σ H ⟨B, δ, ad, r, k⟩ => by
  refine ⟨fun m σ' H' => ∃ δ' ad', Rl X.K C.n B O ad' δ' σ' H' ∧ Sk X.K C B O ad' O H' D (whD fc g m δ'), ⟨n, δ, ad, r, k⟩, ?_⟩
  rintro m σ' H' ⟨δ', ad', r', k'⟩
  cases m with
  | zero => exact k'.elim
  | succ m =>
    unfold whD at k'
    refine ⟨B, δ', ad', r', ?_⟩
    cases e : fc δ' with
    | err c x => rw [e] at k'; exact fun cls dd H2 s z => k' cls dd ad' σ' H2 ((Stp.same s).trans (Stp.frz hOe)) ((r'.same s).freeze hOe) z
    | bad => rw [e] at k'; exact k'
    | ok t =>
      rw [e] at k'
      intro H1 s1
      cases t with
      | false => rw [if_neg Bool.false_ne_true]; exact k' ad' σ' H1 (Stp.same s1) (r'.same s1)
      | true =>
        rw [if_pos rfl]
        refine ⟨fun σ2 H2 => ∃ δ2 ad2, Rl X.K C.n B O ad2 δ2 σ2 H2 ∧ Sk X.K C B O ad2 O H2 D (whD fc g m δ2), fun σ2 H2 h => ⟨m, Nat.lt_succ_self m, h⟩, B, δ', ad', r'.same s1, ?_⟩
        simp only at k'
        cases eg : g δ' with
        | nx δ2 => simp only [eg] at k'; exact fun ad2 σ2 H2 s3 r2 => ⟨δ2, ad2, r2, k'.from ((Stp.same s1).trans s3)⟩
        | ct δ2 => simp only [eg] at k'; exact fun ad2 σ2 H2 s3 r2 => ⟨δ2, ad2, r2, k'.from ((Stp.same s1).trans s3)⟩
        | bk δ2 => simp only [eg] at k'; exact fun ad2 σ2 H2 s3 r2 => k' ad2 σ2 H2 ((Stp.same s1).trans s3) r2
        | rt d => simp only [eg] at k'; exact k'
        | err c x δ2 => simp only [eg] at k'; exact fun cls dd ad2 σ2 H2 s3 r2 z => k' cls dd ad2 σ2 H2 ((Stp.same s1).trans s3) r2 z
        | bad => simp only [eg] at k'; exact k'
end
end Dl

namespace Dl
open PySem PySem.Spec L2

/-! ### comprehensions -/
def wipeE (δ : Ev) : List Nat → Ev
  | [] => δ
  | v :: vs => (wipeE δ vs).set v none
def lcD (b : FB) (t : FT) (f : FE) (δ : Ev) : List PyData → R (List PyData)
  | [] => .ok []
  | d :: ds => match b d δ with
    | none => .bad
    | some δ1 => match t δ1 with
      | .ok true => (match f δ1 with
        | .ok x => (match lcD b t f δ ds with
          | .ok xs => .ok (x :: xs)
          | _ => .bad)
        | _ => .bad)
      | .ok false => lcD b t f δ ds
      | _ => .bad
def lcF (vs : List Nat) (fi : FI) (b : FB) (t : FT) (f : FE) : FE := fun δ => (fi δ).bind fun ds => if ds.length ≤ 1000000 then (lcD b t f (wipeE δ vs) ds).bind fun xs => .ok (.list xs) else .bad
def yesT : FT := fun _ => .ok true
def noW (C : Cc) : Cc := { C with W := fun _ _ _ _ => False }
def addB (B : Bs) (D : Addr) : Bs := ⟨B.H0, fun a => B.av0 a ∨ a = D⟩
section
variable {K : PySem.W.Frag} {n : Nat} {B : Bs} {O : List Nat} {ad : Nat → Addr} {δ : Ev} {σ : L2.St} {H H' : Hp}
theorem Rl.unset {i : Nat} (r : Rl K n B O ad δ σ H) (hi : i ∉ O) : Rl K n B O ad (δ.set i none) (σ.set i none) H where
  len := by rw [List.length_set, List.length_set]; exact r.len
  lenN := by rw [List.length_set]; exact r.lenN
  inj := r.inj
  new := r.new
  fro := fun j e hj q => by
    by_cases hij : i = j
    · subst hij
      by_cases hl : i < δ.length
      · rw [List.getElem?_set_self hl] at q; cases q
      · rw [List.getElem?_eq_none (by simpa using hl)] at q; cases q
    · rw [List.getElem?_set_ne hij] at q ⊢
      exact r.fro j e hj q
  own := fun j hj => by
    have hij : i ≠ j := fun z => hi (z ▸ hj)
    obtain ⟨d', h1, h2, o⟩ := r.own j hj
    exact ⟨d', by rw [List.getElem?_set_ne hij]; exact h1, by rw [List.getElem?_set_ne hij]; exact h2, o⟩
  keep := r.keep
  dom := r.dom
theorem Rl.wipe (r : Rl K n B O ad δ σ H) : ∀ {vs : List Nat}, (∀ i ∈ vs, i ∉ O) → Rl K n B O ad (wipeE δ vs) (wipe σ vs) H
  | [], _ => r
  | v :: vs, h => (Rl.wipe r fun i hi => h i (List.mem_cons_of_mem _ hi)).unset (h v List.mem_cons_self)
theorem wipe_get {σ : L2.St} {j : Nat} : ∀ {vs : List Nat}, (wipe σ vs)[j]? = if j ∈ vs then σ[j]?.map (fun _ => none) else σ[j]?
  | [] => by simp [wipe]
  | v :: vs => by
    show ((wipe σ vs).set v none)[j]? = _
    rw [List.getElem?_set, wipe_length]
    by_cases h : v = j
    · subst h
      rw [if_pos rfl, if_pos List.mem_cons_self]
      by_cases hl : v < σ.length
      · rw [if_pos hl, List.getElem?_eq_getElem hl]; rfl
      · rw [if_neg hl, List.getElem?_eq_none (by simpa using hl)]; rfl
    · rw [if_neg h, wipe_get]
      have e : (j ∈ v :: vs) ↔ j ∈ vs := by simp [Ne.symm h]
      by_cases hj : j ∈ vs
      · rw [if_pos hj, if_pos (e.mpr hj)]
      · rw [if_neg hj, if_neg (fun z => hj (e.mp z))]
theorem wipe_eq {is vs : List Nat} {σ σ' : L2.St} (h : EqBut is (wipe σ vs) σ') (hs : ∀ i ∈ is, i ∈ vs) : wipe σ' vs = wipe σ vs := by
  have hl : σ'.length = σ.length := by rw [h.1, wipe_length]
  refine List.ext_getElem? fun j => ?_
  rw [wipe_get, wipe_get]
  by_cases hj : j ∈ vs
  · rw [if_pos hj, if_pos hj]
    by_cases hb : j < σ.length
    · rw [List.getElem?_eq_getElem hb, List.getElem?_eq_getElem (by rw [hl]; exact hb)]; rfl
    · rw [List.getElem?_eq_none (l := σ') (by rw [hl]; simpa using hb), List.getElem?_eq_none (l := σ) (by simpa using hb)]
  · rw [if_neg hj, if_neg hj, h.2 j fun z => hj (hs j z), wipe_get, if_neg hj]
theorem avO_add {D : Addr} : ∀ a, avO (addB B D) O ad a ↔ avO B O ad a ∨ a = D := fun a =>
  ⟨fun h => h.elim (fun h => h.elim (fun h => .inl (.inl h)) .inr) fun h => .inl (.inr h), fun h => h.elim (fun h => h.elim (fun h => .inl (.inl h)) .inr) fun h => .inl (.inr h)⟩
/-- the address D is avoided, too -/
theorem Rl.addAv {D : Addr} (r : Rl K n B O ad δ σ H) (hD : H D = none) (s : Same H H') (hD' : H' D ≠ none) : Rl K n (addB B D) O ad δ σ H' where
  len := r.len
  lenN := r.lenN
  inj := r.inj
  new := r.new
  fro := fun i d hi e => let ⟨v, h1, h2⟩ := r.fro i d hi e; ⟨v, h1, (Rp.fresh hD s h2).weak fun a z => (avO_add a).mp z⟩
  own := fun i hi => by
    obtain ⟨d, h1, h2, o⟩ := r.own i hi
    obtain ⟨u, e, _⟩ := o.some
    exact ⟨d, h1, h2, o.mono (Kp.of_same s) (fun a e n z => ((avO_add a).mp z).elim n fun (q : a = D) => e (q ▸ hD)) ((s _ _ e).trans e.symm)⟩
  keep := r.keep.trans s
  dom := fun a h => by
    rcases h with h | rfl
    · exact ⟨fun z => (r.dom a h).1 (s.free z), (r.dom a h).2⟩
    · refine ⟨hD', fun i hi z => ?_⟩
      obtain ⟨d, _, _, o⟩ := r.own i hi
      obtain ⟨u, e, _⟩ := o.some
      rw [← z, hD] at e; cases e
end
section
variable {X : Cx} {C : Cc} {O is vs : List Nat} {fi : FI} {b : FB} {t : FT} {f : FE} {e : Expr} {st : Stmt}
theorem tlc (hv : ∀ i ∈ vs, i ∉ O) (hi : ∀ i ∈ is, i ∈ vs) {K : PySem.W.Frag} {σ : L2.St} {H : Hp} {Q : VK} (h : tX K C O (relF K) (lcF vs fi b t f) σ H Q) :
    tLc (tI okC K C O fi) (tG K (noW C) O is b) (tT K (noW C) O t) (tX K (noW C) O (relE K) f) vs σ H Q := by
  obtain ⟨B, δ, ad, r, k⟩ := h
  refine ⟨B, δ, ad, r, k.bind.imp (fun ds _ q J H1 s1 it D hD => ?_) fun _ _ z => z⟩
  by_cases hn : ds.length ≤ 1000000
  · rw [if_pos hn] at q
    cases el : lcD b t f (wipeE δ vs) ds with
    | err c x => rw [el] at q; exact absurd el (by
        have : ∀ l c x, lcD b t f (wipeE δ vs) l ≠ .err c x := by
          intro l
          induction l with
          | nil => intro c x h; cases h
          | cons d l ih =>
            intro c x h
            unfold lcD at h
            split at h
            · cases h
            · split at h
              · split at h
                · split at h <;> cases h
                · cases h
              · exact ih _ _ h
              · cases h
        exact this _ _ _)
    | bad => rw [el] at q; exact q.elim
    | ok tot =>
      rw [el] at q
      have q' : ∀ v H', Same H H' → relF K H H' (avO B O ad) v (.list tot) → Q v H' := q
      have sD := same_new hD (.lst [])
      refine ⟨fun i m Hh => m = ds.length - i ∧ i ≤ ds.length ∧ ∃ accV accD rest, Hh D = some (.lst accV) ∧ Same H1 Hh ∧ RpAll K Hh (avO (addB B D) O ad) accV accD ∧ lcD b t f (wipeE δ vs) (ds.drop i) = .ok rest ∧ accD ++ rest = tot ∧ accD.length ≤ i,
        ⟨_, rfl, Nat.zero_le _, [], [], tot, upd_same, sD, .nil, el, rfl, Nat.le_refl _⟩, ?_⟩
      rintro i m Hh ⟨rfl, hil, accV, accD, rest, eD, sh, ra, er, et, hlen⟩
      obtain ⟨go, stop, yl⟩ := it Hh (avO (addB B D) O ad) ⟨sh, fun a z => ((avO_add a).mp z).elim .inl fun (e : a = D) => .inr (by rw [e]; exact hD)⟩
      by_cases hlt : i < ds.length
      · refine .inr ⟨go i hlt, fun H2 => ∃ accV accD rest, H2 D = some (.lst accV) ∧ Same H1 H2 ∧ RpAll K H2 (avO (addB B D) O ad) accV accD ∧ lcD b t f (wipeE δ vs) (ds.drop (i + 1)) = .ok rest ∧ accD ++ rest = tot ∧ accD.length ≤ i + 1,
          fun H2 h2 => ⟨_, by omega, rfl, hlt, h2⟩, fun x H' y => ?_⟩
        obtain ⟨s2, d, ed, rd⟩ := yl i x H' hlt y
        have ed' : ds[i] = d := by rw [List.getElem?_eq_getElem hlt] at ed; exact Option.some.inj ed
        rw [List.drop_eq_getElem_cons hlt, ed'] at er
        unfold lcD at er
        have eD' : H' D = some (.lst accV) := s2 _ _ eD
        have rw' : Rl K C.n (addB B D) O ad (wipeE δ vs) (wipe σ vs) H' := ((r.same s1).wipe hv).addAv hD (sh.trans s2) (by rw [eD']; simp)
        cases eb : b d (wipeE δ vs) with
        | none => rw [eb] at er; cases er
        | some δ1 =>
          simp only [eb] at er
          refine ⟨addB B D, wipeE δ vs, ad, d, δ1, rw', rd, eb, fun σ1 r1 eq => ⟨wipe_eq eq hi, addB B D, δ1, ad, r1, ?_⟩⟩
          cases etst : t δ1 with
          | err c x => simp only [etst] at er; cases er
          | bad => simp only [etst] at er; cases er
          | ok tb =>
            simp only [etst] at er
            intro H3 s3
            cases tb with
            | false =>
              simp only at er
              rw [if_neg Bool.false_ne_true]
              exact ⟨accV, accD, rest, s3 _ _ eD', sh.trans (s2.trans s3), ra.same (s2.trans s3), er, et, by omega⟩
            | true =>
              simp only at er
              rw [if_pos rfl]
              refine ⟨addB B D, δ1, ad, r1.same s3, ?_⟩
              cases ef : f δ1 with
              | err c x => simp only [ef] at er; cases er
              | bad => simp only [ef] at er; cases er
              | ok z =>
                simp only [ef] at er
                intro v H4 s4 rz
                have eD4 : H4 D = some (.lst accV) := s4 _ _ (s3 _ _ eD')
                have hav : avO (addB B D) O ad D := (avO_add D).mpr (.inr rfl)
                have kp : Kp (avO (addB B D) O ad) H4 (upd H4 D (.lst (accV ++ [v]))) := fun b u e n => by
                  refine (upd_ne fun z => ?_).trans e
                  subst z
                  rcases n with n | ⟨xs, n⟩
                  · exact n hav
                  · rcases n with n | ⟨_, n⟩ <;> (rw [eD4] at n; cases n)
                cases er2 : lcD b t f (wipeE δ vs) (ds.drop (i + 1)) with
                | err c x => rw [er2] at er; cases er
                | bad => rw [er2] at er; cases er
                | ok rest' =>
                  rw [er2] at er
                  cases er
                  have hlV : accV.length = accD.length := ra.length
                  refine ⟨accV, eD4, ?_, accV ++ [v], accD ++ [z], rest', upd_same, ?_, ?_, rfl, by rw [← et]; simp, by simp; omega⟩
                  · have : sizeLine = 16777216 := sizeLine_eq
                    omega
                  · intro b u e
                    refine (upd_ne fun z => ?_).trans (s4 _ _ (s3 _ _ (s2 _ _ (sh b u e))))
                    subst z
                    rw [hD] at e; cases e
                  · exact ((ra.same (s2.trans (s3.trans s4))).append (.cons rz .nil)).mono kp fun _ _ n => n
      · have e2 : i = ds.length := by omega
        subst e2
        refine .inl ⟨stop, ?_⟩
        rw [List.drop_length] at er
        cases er
        rw [List.append_nil] at et
        subst et
        refine q' _ Hh (s1.trans sh) ⟨D, rfl, s1.free hD, accV, eD, ra.mono (Kp.of_same (Same.refl Hh)) fun a _ n z => n ((avO_add a).mpr z)⟩
  · rw [if_neg hn] at q; exact q.elim
theorem df_lc (h : PE X e (tLc (tI okC X.K C O fi) (tG X.K (noW C) O is b) (tT X.K (noW C) O t) (tX X.K (noW C) O (relE X.K) f) vs)) (hv : ∀ i ∈ vs, i ∉ O := by decide) (hi : ∀ i ∈ is, i ∈ vs := by decide) : DF X C O e (lcF vs fi b t f) := pe_imp h fun _ _ _ => tlc hv hi
theorem lc_asg {i : Nat} (h : PS X st (tAsg (tLc (tI okC X.K C O fi) (tG X.K (noW C) O is b) (tT X.K (noW C) O t) (tX X.K (noW C) O (relE X.K) f) vs) (gName i))) (hv : ∀ i ∈ vs, i ∉ O := by decide) (hi : ∀ i ∈ is, i ∈ vs := by decide) : PS X st (tAsg (tX X.K C O (relF X.K) (lcF vs fi b t f)) (gName i)) := ps_imp h fun D σ H q => tlc hv hi q
theorem asg_f2e {i : Nat} (h : PS X st (tAsg (tX X.K C O (relF X.K) f) (gName i))) : PS X st (tAsg (tX X.K C O (relE X.K) f) (gName i)) := ps_imp h fun D σ H q => tX.rel (fun B ad δ H' v d r s z => by
  obtain ⟨a, rfl, n, o⟩ := z
  exact o.rp (fun b q => .inl q) (r.notAv n)) q
theorem dts_nil : PTs X [] (tT X.K C O yesT) := ⟨fun pins s σ H Q I h => pts_nil.run pins s σ H Q I (by
  obtain ⟨B, δ, ad, r, k⟩ := h
  exact k H (Same.refl H))⟩
theorem dts_one {c : Expr} {t : FT} (h : DT X C O c t) : PTs X [c] (tT X.K C O t) := pts_one h
end

/-! ### owned lists change -/
section
variable {X : Cx} {C : Cc} {O : List Nat} {st : Stmt} {f : FE} {i : Nat}
def slotL (i : Nat) (δ : Ev) : Option (List PyData) := match δ[i]? with
  | some (some (.list ds)) => some ds
  | _ => none
theorem slotL_own {K : PySem.W.Frag} {n : Nat} {B : Bs} {ad : Nat → Addr} {δ : Ev} {σ : L2.St} {H : Hp} {ds : List PyData} (r : Rl K n B O ad δ σ H) (hi : i ∈ O) (e : slotL i δ = some ds) : σ[i]? = some (some (.ref (ad i))) ∧ ∃ vs, H (ad i) = some (.lst vs) ∧ RpAll K H (avO B O ad) vs ds := by
  obtain ⟨d, h1, h2, o⟩ := r.own i hi
  unfold slotL at e
  rw [h1] at e
  cases d with
  | list xs => cases e; exact ⟨h2, o⟩
  | _ => cases e
/-- the owned list becomes another one -/
theorem Rl.relist {K : PySem.W.Frag} {n : Nat} {B : Bs} {ad : Nat → Addr} {δ : Ev} {σ : L2.St} {H : Hp} {vs : List V} {ds : List PyData} (r : Rl K n B O ad δ σ H) (hi : i ∈ O) (ra : RpAll K H (avO B O ad) vs ds) :
    Rl K n B O ad (δ.set i (some (.list ds))) σ (upd H (ad i) (.lst vs)) ∧ Stp B O ad O ad H (upd H (ad i) (.lst vs)) := by
  refine r.mut hi trivial ⟨vs, upd_same, ra.mono (fun b u e n => ?_) fun _ _ n => n⟩
  obtain ⟨d, _, _, o⟩ := r.own i hi
  refine (upd_ne fun z => ?_).trans e
  subst z
  rcases n with n | ⟨xs, n⟩
  · exact n (.inr ⟨i, hi, rfl⟩)
  · exact o.notTup n
def appS (i : Nat) (f : FE) : FS := fun δ => match slotL i δ with
  | some ds => exS f (fun d => if ds.length < sizeLine then .nx (δ.set i (some (.list (ds ++ [d])))) else .bad) δ
  | none => .bad
/-- xs.append(e) -/
theorem ds_app (h : PS X st (tDrop (tBM X.K "list" rAppend (tVar i) (tCons (tX X.K C O (relE X.K) f) tNil)))) (hi : i ∈ O := by decide) (hOe : ∀ i ∈ C.Oe, i ∈ O := by exact fun _ h => nomatch h) : DS X C O O st (appS i f) := ps_imp h fun D σ H ⟨B, δ, ad, r, k⟩ => by
  unfold appS at k
  cases e : slotL i δ with
  | none => rw [e] at k; exact k.elim
  | some ds =>
    rw [e] at k
    obtain ⟨h1, vs, h2, h3⟩ := slotL_own r hi e
    refine ⟨_, h1, .inl ⟨rfl, vs, .inl (.inl h2)⟩, B, δ, ad, r, ?_⟩
    unfold exS at k
    cases ef : f δ with
    | err c x => simp only [ef] at k; exact fun cls dd H' s z => k cls dd ad σ H' ((Stp.same s).trans (Stp.frz hOe)) ((r.same s).freeze hOe) z
    | bad => simp only [ef] at k; exact k.elim
    | ok d =>
      simp only [ef] at k
      intro v H' s z
      by_cases hl : ds.length < sizeLine
      · rw [if_pos hl] at k
        have rs := r.same s
        have ra : RpAll X.K H' (avO B O ad) (vs ++ [v]) (ds ++ [d]) := (h3.same s).append (.cons z .nil)
        obtain ⟨g1, g2⟩ := rs.relist hi ra
        exact ⟨ad i, vs, v, rfl, rfl, s _ _ h2, by rw [h3.length]; exact hl, k ad σ _ ((Stp.same s).trans g2) g1⟩
      · rw [if_neg hl] at k; exact k.elim
def extS (i : Nat) (f : FE) : FS := fun δ => match slotL i δ with
  | some ds => exS f (fun d => match d with
    | .list es => if ds.length + es.length ≤ sizeLine then .nx (δ.set i (some (.list (ds ++ es)))) else .bad
    | _ => .bad) δ
  | none => .bad
/-- a pop: the last one goes to slot j by a target -/
def popS (i : Nat) (b : FB) : FS := fun δ => match slotL i δ with
  | some ds => (match ds.getLast? with
    | some d => (match b d (δ.set i (some (.list ds.dropLast))) with
      | some δ' => .nx δ'
      | none => .bad)
    | none => .bad)
  | none => .bad
/-- target = xs.pop() -/
theorem ds_pop {tg : Expr} {is : List Nat} {b : FB} {g : TG} (h : PS X st (tAsg (tBM0 X.K "list" rPop (tVar i)) g)) (hg : ∀ v σ H Q, tG X.K C O is b v σ H Q → g v σ H Q) (hi : i ∈ O := by decide) : DS X C O O st (popS i b) := ps_imp h fun D σ H ⟨B, δ, ad, r, k⟩ => by
  unfold popS at k
  cases e : slotL i δ with
  | none => rw [e] at k; exact k.elim
  | some ds =>
    rw [e] at k
    obtain ⟨h1, vs, h2, h3⟩ := slotL_own r hi e
    cases el : ds.getLast? with
    | none => simp only [el] at k; exact k.elim
    | some d =>
      simp only [el] at k
      have hx : ds[ds.length - 1]? = some d := by rw [← List.getLast?_eq_getElem?]; exact el
      obtain ⟨v, hv, rv⟩ := h3.get' hx
      refine ⟨_, h1, .inl ⟨rfl, vs, .inl (.inl h2)⟩, ad i, vs, v, rfl, rfl, h2, by rw [h3.length]; exact hv, ?_⟩
      obtain ⟨g1, g2⟩ := r.relist hi h3.dropLast
      refine hg _ _ _ _ ?_
      cases eb : b d (δ.set i (some (.list ds.dropLast))) with
      | none => simp only [eb] at k; exact k.elim
      | some δ' =>
        simp only [eb] at k
        exact ⟨B, _, ad, d, δ', g1, rv.mono g2.kp fun _ _ n => n, eb, fun σ' r' _ => k ad σ' _ g2 r'⟩
/-- xs[k] = e -/
def putS (i : Nat) (fk f : FE) : FS := fun δ => exS f (fun d => match slotL i δ with
  | some ds => exS fk (fun kd => match kd with
    | .int z => (match ixN ds.length z with
      | some j => .nx (δ.set i (some (.list (ds.set j d))))
      | none => .bad)
    | _ => .bad) δ
  | none => .bad) δ
theorem ds_put {fk : FE} (h : PS X st (tAsg (tX X.K C O (relE X.K) f) (gSub (tVar i) (tX X.K C O (relE X.K) fk) rSetL))) (hi : i ∈ O := by decide) (hOe : ∀ i ∈ C.Oe, i ∈ O := by exact fun _ h => nomatch h) : DS X C O O st (putS i fk f) := ps_imp h fun D σ H ⟨B, δ, ad, r, k⟩ => by
  unfold putS exS at k
  refine ⟨B, δ, ad, r, ?_⟩
  cases ef : f δ with
  | err c x => simp only [ef] at k; exact fun cls dd H' s z => k cls dd ad σ H' ((Stp.same s).trans (Stp.frz hOe)) ((r.same s).freeze hOe) z
  | bad => simp only [ef] at k; exact k.elim
  | ok d =>
    simp only [ef] at k
    intro v H' s z
    cases e : slotL i δ with
    | none => simp only [e] at k; exact k.elim
    | some ds =>
      simp only [e] at k
      obtain ⟨h1, vs, h2, h3⟩ := slotL_own r hi e
      refine ⟨_, h1, B, δ, ad, r.same s, ?_⟩
      cases ek : fk δ with
      | err c x => simp only [ek] at k; exact fun cls dd H2 s2 z => k cls dd ad σ H2 ((Stp.same (s.trans s2)).trans (Stp.frz hOe)) ((r.same (s.trans s2)).freeze hOe) z
      | bad => simp only [ek] at k; exact k.elim
      | ok kd =>
        simp only [ek] at k
        intro u H2 s2 zk
        cases kd with
        | int q =>
          simp only at k
          cases ei : ixN ds.length q with
          | none => simp only [ei] at k; exact k.elim
          | some j =>
            simp only [ei] at k
            have ss := s.trans s2
            have ra : RpAll X.K H2 (avO B O ad) (vs.set j v) (ds.set j d) := (h3.same ss).set (Rp.same s2 z) j
            obtain ⟨g1, g2⟩ := (r.same ss).relist hi ra
            exact ⟨ad i, vs, q, j, rfl, (Rp.bw zk).int, ss _ _ h2, by rw [h3.length]; exact ei, k ad σ _ ((Stp.same ss).trans g2) g1⟩
        | _ => exact k.elim
end

/-! ### defs -/
def RetF (ow : Bool) (K : PySem.W.Frag) : Rel3 := fun H H' av v d => if ow = true then relF K H H' av v d else Rp K H' av v d
def spD (K : PySem.W.Frag) (ow : Bool) (ar : Nat) (F : List PyData → R PyData) : Sp := fun vs H Q E => ∃ ds av, RpAll K H av vs ds ∧ ds.length = ar ∧ (∀ a, av a → H a ≠ none) ∧
  Rk (F ds) (fun d => ∀ v H', Same H H' → RetF ow K H H' av v d → Q v H') (fun c x => ∀ cls dd H', Same H H' → Er K c x cls dd H' → E cls dd H')
def runF (n : Nat) (g : FS) (ds : List PyData) : R PyData := match g (ds.map some ++ List.replicate (n - ds.length) none) with
  | .rt d => .ok d
  | .err c x _ => .err c x
  | _ => .bad
def runN (n : Nat) (g : FS) (ds : List PyData) : R PyData := match g (ds.map some ++ List.replicate (n - ds.length) none) with
  | .rt d => .ok d
  | .nx _ => .ok .none
  | .err c x _ => .err c x
  | _ => .bad
def cxC (n : Nat) (ow : Bool) (E : XK) : Cc := ⟨n, ow, [], [], fun cls dd _ H => E cls dd H⟩
theorem rl_start {K : PySem.W.Frag} {N : List Str} {H : Hp} {av : Addr → Prop} {vs : List V} {ds : List PyData} (r : RpAll K H av vs ds) (hl : ds.length ≤ N.length) (hav : ∀ a, av a → H a ≠ none) :
    Rl K N.length ⟨H, av⟩ [] (fun _ => 0) (ds.map some ++ List.replicate (N.length - ds.length) none) (L2.start N vs) H where
  len := by unfold L2.start; rw [List.length_append, List.length_map, List.length_replicate, List.length_append, List.length_map, List.length_replicate, r.length]
  lenN := by rw [List.length_append, List.length_map, List.length_replicate]; omega
  inj := fun i hi => by cases hi
  new := fun i hi => by cases hi
  fro := fun i d _ e => by
    have hi : i < ds.length := by
      by_cases hi : i < ds.length
      · exact hi
      · rw [List.getElem?_append_right (by simpa using hi), List.getElem?_replicate] at e
        split at e <;> cases e
    rw [List.getElem?_append_left (by simpa using hi), List.getElem?_map] at e
    cases q : ds[i]? with
    | none => rw [q] at e; cases e
    | some d' =>
      rw [q] at e
      cases e
      obtain ⟨v, h1, h2⟩ := r.get' q
      refine ⟨v, ?_, h2.weak fun a h => h.elim id fun ⟨j, hj, _⟩ => by cases hj⟩
      unfold L2.start
      rw [List.getElem?_append_left (by simpa using r.length.symm ▸ hi), List.getElem?_map, h1]; rfl
  own := fun i hi => by cases hi
  keep := Same.refl H
  dom := fun a h => ⟨hav a h, fun i hi => by cases hi⟩
/-- room for n calls, one in another -/
structure Rm (n : Nat) (A : Around) : Prop where
  hd : A.handled = none
  dp : A.depth + n + 20 < recursionLimit
  un : A.units + 4 * n + 300 < cLine
theorem Rm.deeper {n : Nat} {A : Around} (r : Rm (n + 1) A) (env : Env) : Rm n (A.deeper env) :=
  ⟨r.hd, by have h := r.dp; show A.depth + 1 + n + 20 < _; omega, by have h := r.un; show A.units + 3 + 4 * n + 300 < _; omega⟩
theorem Rm.units {n : Nat} {A : Around} (r : Rm n A) : A.units + 64 < cLine := by have h := r.un; omega
theorem Rm.u65 {n : Nat} {A : Around} (r : Rm n A) : A.units + 65 < cLine := by have h := r.un; omega
theorem Rm.u200 {n : Nat} {A : Around} (r : Rm n A) : A.units + 200 < cLine := by have h := r.un; omega
theorem Rm.room {n : Nat} {A : Around} (r : Rm n A) : Room 4 A := ⟨r.hd, by have h := r.dp; omega, by have h := r.un; omega⟩
/-- a def keeps its promise with n calls, one in another -/
structure FnR (P : Program) (w : World) (K : PySem.W.Frag) (mg : Str → Option Value) (base : Heap) (n : Nat) (f : Addr) (fd : FuncData) (ps : List Str) (sp : Sp) : Prop where
  len : ∀ vs H Q E, sp vs H Q E → vs.length = ps.length
  run : ∀ (A : Around) (outer : List Env) (s : Shared) (H : Hp) (args : Args) (us : List Value) (vs : List V) (Q : VK) (E : XK), Rm n A → Env0 P w K mg base A outer s H → BindsTo s fd args (ps.zip us) → Vals vs us → sp vs H Q E →
    codeAny (model P w) A (.call (.ref f) args) (CR (L2.CX P w) outer P w H s Q E) s
theorem FnR.ok {P : Program} {w : World} {K : PySem.W.Frag} {mg : Str → Option Value} {base : Heap} {n : Nat} {f : Addr} {fd : FuncData} {ps : List Str} {sp : Sp} (F : FnR P w K mg base n f fd ps sp) (hn : n ≤ 650) : FnOk P w K mg base (L2.CX P w) 230 f fd ps sp :=
  ⟨F.len, fun A outer s H args us vs Q E hr => F.run A outer s H args us vs Q E ⟨hr.hd, by have h := hr.dp; omega, by have h := hr.un; omega⟩⟩
abbrev cxD (P : Program) (w : World) (K : PySem.W.Frag) (mg : Str → Option Value) (base : Heap) (N : List Str) (qual : Str) (scope : Scope) (f : Addr) (cdv : Value) (A : Around) (outer : List Env) (s : Shared) (H : Hp) (E : XK) : Cx := cxOf (L2.CX P w) P w K mg base N qual scope f cdv A outer s H E
theorem fnR {P : Program} {w : World} {K : PySem.W.Frag} {mg : Str → Option Value} {base : Heap} {x qual : Str} {params : Arguments} {body : List Stmt} {scope : Scope} {dvs : List V} {kws : List (Str × V)} {f : Addr} {fd : FuncData}
    {N ps : List Str} {k : Nat} {sp : Sp} (F : FunD K x qual params body scope dvs kws f fd) (S : FnScope N ps scope) (len : ∀ vs H Q E, sp vs H Q E → vs.length = ps.length)
    (hbody : ∀ (cdv : Value) (A : Around) (outer : List Env) (s : Shared) (H : Hp) (vs : List V) (Q : VK) (E : XK), Rm k (cxD P w K mg base N qual scope f cdv A outer s H E).A → sp vs H Q E →
      ∃ t, PSs (cxD P w K mg base N qual scope f cdv A outer s H E) body t ∧ t { nx := fun _ H' => Q .non H', rt := Q } (L2.start N vs) H) : FnR P w K mg base (k + 1) f fd ps sp := by
  obtain ⟨oc, od, dV, kV, doc, pm, an, cdv, ct, osl, rfl, lk, hcd, _, _⟩ := F.ex
  refine ⟨len, fun A outer s H args us vs Q E hr e0 hb r hsp => ?_⟩
  have KX : K.In s.heap := e0.mod.kin.keeps fun b o e => (e0.bs b o e).1
  have lim : s.heap.NoLimit := e0.mod.nolimit.keeps fun b o e => (e0.bs b o e).1
  have dep : A.depth < recursionLimit := by have h := hr.dp; omega
  refine codeAny_call_function dep (KX _ _ lk) rfl S.co S.gen rfl (PySem.W.codeRec_of KX hcd) (hb _ _ _ _ ?_)
  refine wpAny_newFunctionEnv_cells S.kind (fun y hy => ?_) fun env he s1 x => ?_
  · rcases S.par y.1 (List.of_mem_zip (b := y.2) hy).1 with q | q
    · exact .inl q
    · exact .inr ⟨q, PySem.W.cellsFrom_some _ _ _ (.inl q)⟩
  · subst he
    refine ⟨lim.keeps x.toInCall.keep, codeAny_func ?_⟩
    obtain ⟨t, ht, hq⟩ := hbody cdv A outer s H vs Q E (hr.deeper _) hsp
    have I : Inv (cxD P w K mg base N qual scope f cdv A outer s H E) [] (L2.start N vs) H s1 := inv_start S hr.hd e0 (len _ _ _ _ hsp) r x
    refine wpAny_mono (ht.run [] s1 (L2.start N vs) H _ I hq) (fun fl s' hs => ?_) fun e s' hs => hs
    match fl, hs with
    | .ret u, ⟨v, σ', H', J, rv, q⟩ => exact ⟨v, H', J.os, J.bare, J.base, J.hok, rv, q⟩
    | .next, ⟨σ', H', J, q⟩ => exact ⟨V.non, H', J.os, J.bare, J.base, J.hok, rfl, q⟩
    | .brk, ⟨_, _, _, q⟩ => exact q.elim
    | .cont, ⟨_, _, _, q⟩ => exact q.elim
theorem fnD {P : Program} {w : World} {K : PySem.W.Frag} {mg : Str → Option Value} {base : Heap} {x qual : Str} {params : Arguments} {body : List Stmt} {scope : Scope} {dvs : List V} {kws : List (Str × V)} {f : Addr} {fd : FuncData}
    {N ps : List Str} {k n ar : Nat} {ow : Bool} {g : FS} (F : FunD K x qual params body scope dvs kws f fd) (S : FnScope N ps scope) (har : ps.length = ar) (hn : N.length = n)
    (hbody : ∀ (cdv : Value) (A : Around) (outer : List Env) (s : Shared) (H : Hp) (E : XK), Rm k (cxD P w K mg base N qual scope f cdv A outer s H E).A → Takes (cxD P w K mg base N qual scope f cdv A outer s H E) (cxC n ow E).W →
      PassesOwn (model P w) (cxD P w K mg base N qual scope f cdv A outer s H E).A (cxD P w K mg base N qual scope f cdv A outer s H E).env (cxD P w K mg base N qual scope f cdv A outer s H E).xe →
      ∃ O', DSs (cxD P w K mg base N qual scope f cdv A outer s H E) (cxC n ow E) [] O' body g) :
    FnR P w K mg base (k + 1) f fd ps (spD K ow ar (runF n g)) := by
  subst har hn
  refine fnR F S (fun vs H Q E h => ?_) (fun cdv A outer s H vs Q E hr h => ?_)
  · obtain ⟨ds, av, r, hl, _⟩ := h
    rw [r.length]; exact hl
  · obtain ⟨O', hb⟩ := hbody cdv A outer s H E hr (takes_of rfl rfl rfl rfl) (passes_of rfl)
    refine ⟨_, hb, ?_⟩
    obtain ⟨ds, av, r, hl, hav, q⟩ := h
    have hpl : ps.length ≤ N.length := by have := congrArg List.length S.pre; rw [List.length_take] at this; omega
    refine ⟨⟨H, av⟩, _, _, rl_start r (by omega) hav, ?_⟩
    unfold runF at q
    split at q
    · rename_i d e
      rw [e]
      intro v H' s z
      refine q v H' s ?_
      unfold Ret at z
      unfold RetF
      cases ow with
      | true => exact z
      | false => exact z
    · rename_i c x δ' e
      rw [e]
      exact fun cls dd ad' σ' H' _ r' z => q cls dd H' r'.keep z
    · exact q.elim
/-- a call of a def -/
theorem pe_callR {X : Cx} {k : Nat} {f : Addr} {fd : FuncData} {ps : List Str} {sp : Sp} {E : L2.St → XK} {x : Str} {p pos : Pos} {e : Expr} {es : List Expr} {t : TA} (F : FnR X.prog X.w X.K X.mg X.base k f fd ps sp) (hr : Rm k X.A) (hg : Gl X x) (hm : X.mg x = some (.ref f))
    (hk : PySem.W.keepIn X.K (.ref f) = true) (hb : Binds X.K fd ps []) (hx : ∀ σ, PassesAt (L2.CX X.prog X.w) X σ (E σ)) (ha : PA X (e :: es) t) (hdb : (x == ("__debug__" : Str)) = false)
    (he : starEach (e :: es) X.env = (false, eval e X.env) :: starEach es X.env) (hpl : (backTo pos (starEach es X.env)).any (·.1) = false) : PE X (.Call (.Name x p) (e :: es) [] pos) (tCallS sp E t) := by
  refine ⟨fun pins s σ H Q I h => wpAny_Call_Name_kw (ld_glob I hg hm ?_ hdb)⟩
  refine PySem.W.callWith_K (h₀ := X.base) I.ok.mod.kin hk (thn (ha.run pos pins s σ H _ I h) fun us s1 hh => ?_) he hpl
  obtain ⟨vs, H1, I1, r, q⟩ := hh
  have hl : us.length = ps.length := by rw [← r.length]; exact F.len _ _ _ _ q
  have b := hb s1 us I1.kIn (by rw [List.append_nil]; exact hl)
  rw [List.append_nil] at b
  refine ⟨I1.kIn, wpAny_call (codeAny_mono (F.run X.A X.stack s1 H1 ⟨us, []⟩ us vs Q (E σ) hr I1.env0 b r q) fun rr s' hq => ?_)⟩
  match rr, hq with
  | .error e, hq => exact hx σ pins H1 s1 e s' I1 hq
  | .ok (.ret u), hq => exact I1.after hq
def callF (G : List PyData → R PyData) (fs : List FE) : FE := fun δ => (evs fs δ).bind G
section
variable {X : Cx} {C : Cc} {O : List Nat} {k : Nat} {f : Addr} {fd : FuncData} {ps : List Str} {x : Str} {p pos : Pos} {e : Expr} {es : List Expr} {fs : List FE} {G : List PyData → R PyData} {ow : Bool} {ar : Nat}
theorem tcall {K : PySem.W.Frag} {σ : L2.St} {H : Hp} {Q : VK} (har : fs.length = ar) (h : tX K C O (RetF ow K) (callF G fs) σ H Q) : tCallS (spD K ow ar G) (WE C.W) (tAll K C O fs) σ H Q := by
  obtain ⟨B, δ, ad, r, k⟩ := h
  refine ⟨B, δ, ad, r, k.bind.imp (fun ds ed q vs H1 s1 z => ?_) fun _ _ z => z⟩
  refine ⟨ds, avO B O ad, z, (evs_length ed).trans har, (r.same s1).avdom, q.imp (fun d _ q v H2 s2 z2 => q v H2 (s1.trans s2) ?_) fun c x q cls dd H2 s2 z2 => q cls dd H2 (s1.trans s2) z2⟩
  unfold RetF at z2 ⊢
  cases ow with
  | true => exact relF_ok _ _ _ _ _ _ s1 z2
  | false => exact z2
theorem de_call (F : FnR X.prog X.w X.K X.mg X.base k f fd ps (spD X.K false ar G)) (hr : Rm k X.A) (hg : Gl X x) (hm : X.mg x = some (.ref f)) (hk : PySem.W.keepIn X.K (.ref f) = true) (hb : Binds X.K fd ps []) (tk : Takes X C.W)
    (ha : DA X C O (e :: es) fs) (har : fs.length = ar := by rfl) (hdb : (x == ("__debug__" : Str)) = false := by decide) (he : starEach (e :: es) X.env = (false, eval e X.env) :: starEach es X.env := by rfl) (hpl : (backTo pos (starEach es X.env)).any (·.1) = false := by rfl) :
    DE X C O (.Call (.Name x p) (e :: es) [] pos) (callF G fs) := pe_imp (pe_callR F hr hg hm hk hb (fun σ => passAt tk σ) ha hdb he hpl) fun σ H Q h => tcall (ow := false) har (by
      obtain ⟨B, δ, ad, r, k⟩ := h
      exact ⟨B, δ, ad, r, k.imp (fun d _ q v H' s z => q v H' s z) fun _ _ z => z⟩)
theorem df_call (F : FnR X.prog X.w X.K X.mg X.base k f fd ps (spD X.K true ar G)) (hr : Rm k X.A) (hg : Gl X x) (hm : X.mg x = some (.ref f)) (hk : PySem.W.keepIn X.K (.ref f) = true) (hb : Binds X.K fd ps []) (tk : Takes X C.W)
    (ha : DA X C O (e :: es) fs) (har : fs.length = ar := by rfl) (hdb : (x == ("__debug__" : Str)) = false := by decide) (he : starEach (e :: es) X.env = (false, eval e X.env) :: starEach es X.env := by rfl) (hpl : (backTo pos (starEach es X.env)).any (·.1) = false := by rfl) :
    DF X C O (.Call (.Name x p) (e :: es) [] pos) (callF G fs) := pe_imp (pe_callR F hr hg hm hk hb (fun σ => passAt tk σ) ha hdb he hpl) fun σ H Q h => tcall (ow := true) har (by
      obtain ⟨B, δ, ad, r, k⟩ := h
      exact ⟨B, δ, ad, r, k.imp (fun d _ q v H' s z => q v H' s z) fun _ _ z => z⟩)
end
/-- no calls left -/
theorem fn0 {P : Program} {w : World} {K : PySem.W.Frag} {mg : Str → Option Value} {base : Heap} {f : Addr} {fd : FuncData} {ps : List Str} {ow : Bool} {ar : Nat} : FnR P w K mg base 0 f fd ps (spD K ow ar fun _ => .bad) := by
  have no : ∀ vs H Q E, ¬ spD K ow ar (fun _ => .bad) vs H Q E := fun vs H Q E h => by
    obtain ⟨_, _, _, _, _, z⟩ := h
    exact z
  exact ⟨fun vs H Q E h => absurd h (no vs H Q E), fun A outer s H args us vs Q E _ _ _ _ h => absurd h (no vs H Q E)⟩
end Dl

namespace Dl
open PySem PySem.Spec L2

/-! ### zip of lists or tuples -/
def itZA (fa fb : FE) : FI := fun δ => (evs [fa, fb] δ).bind fun ds => match ds with
  | [.list xs, .list ys] => .ok (zipL xs ys)
  | [.tuple xs, .tuple ys] => .ok (zipL xs ys)
  | _ => .bad
theorem ItD.zipT {K : PySem.W.Frag} {ok : OkH} {ds : List PyData} {a b : Addr} {xs ys : List V} {es : List PyData} (h : ∀ H' av', ok H' av' → SqT K H' a xs ∧ RpAll K H' av' xs ds ∧ SqT K H' b ys ∧ RpAll K H' av' ys es) : ItD K ok (RZ.ItzT K a b) (zipL ds es) := fun H' av' o => by
  obtain ⟨h1, h2, h3, h4⟩ := h H' av' o
  have e1 := h2.length
  have e2 := h4.length
  have hz : (zipL ds es).length = min ds.length es.length := by simp [zipL]
  refine ⟨fun i hi => ?_, ⟨xs, ys, h1, h3, ?_⟩, fun i x H'' hi y => ?_⟩
  · rw [hz] at hi
    exact ⟨xs, ys, xs[i]'(by omega), ys[i]'(by omega), h1, h3, by simp, by simp⟩
  · rw [hz]; omega
  · obtain ⟨T, u, v, rfl, hT, rfl, y1, y2⟩ := y
    obtain ⟨d, q1, q2⟩ := h2.get (y1 xs h1)
    obtain ⟨d', q3, q4⟩ := h4.get (y2 ys h3)
    have s := same_new hT (.tup [u, v])
    exact ⟨s, _, zipL_get q1 q3, .tup (SqT.of upd_same) (.cons (q2.same s) (.cons (q4.same s) .nil))⟩
section
variable {X : Cx} {C : Cc} {O : List Nat} {tg e e2 iter : Expr} {f f2 : FE}
theorem di_zipA (h : DA X C O [e, e2] [f, f2]) (hh : ∀ ta, PA X [e, e2] ta → PI X tg iter (RZ.iZipA X.K ta)) : DI X C O tg iter (itZA f f2) := pi_imp (hh _ h) fun σ H Q ⟨B, δ, ad, r, k⟩ => by
  refine ⟨B, δ, ad, r, k.bind.imp (fun ds e q vs H1 s1 z => ?_) fun _ _ z => z⟩
  have hl := evs_length e
  match ds, hl, z with
  | [d, d2], _, .cons z1 (.cons z2 .nil) =>
    cases d with
    | list xs =>
      cases d2 with
      | list ys =>
        obtain ⟨a, vs, rfl, h1, _, h2⟩ := okL_list z1
        obtain ⟨b, ws, rfl, h3, _, h4⟩ := okL_list z2
        exact ⟨a, b, vs, ws, rfl, .inl ⟨h1, h3, q _ H1 s1 (ItD.zip fun H' av' o => ⟨(h2 H' av' o).1, (h2 H' av' o).2, (h4 H' av' o).1, (h4 H' av' o).2⟩)⟩⟩
      | _ => exact q.elim
    | tuple xs =>
      cases d2 with
      | tuple ys =>
        obtain ⟨a, vs, rfl, h1, _, h2⟩ := okL_tup (Rp.bw z1)
        obtain ⟨b, ws, rfl, h3, _, h4⟩ := okL_tup (Rp.bw z2)
        exact ⟨a, b, vs, ws, rfl, .inr ⟨h1, h3, q _ H1 s1 (ItD.zipT fun H' av' o => ⟨(h2 H' av' o).1, (h2 H' av' o).2, (h4 H' av' o).1, (h4 H' av' o).2⟩)⟩⟩
      | _ => exact q.elim
    | _ => exact q.elim
theorem dc_zipA (h : DAB X C O [e, e2] [f, f2]) (hh : ∀ ta, PA X [e, e2] ta → PI X tg iter (RZ.iZipA X.K ta)) : DC X C O tg iter (itZA f f2) := pi_imp (hh _ h) fun σ H Q ⟨B, δ, ad, r, k⟩ => by
  refine ⟨B, δ, ad, r, k.bind.imp (fun ds e q vs H1 s1 z => ?_) fun _ _ z => z⟩
  have hl := evs_length e
  match ds, hl, z with
  | [d, d2], _, .cons z1 (.cons z2 .nil) =>
    cases d with
    | list xs =>
      cases d2 with
      | list ys =>
        obtain ⟨a, vs, rfl, h1, _, h2⟩ := okC_list z1
        obtain ⟨b, ws, rfl, h3, _, h4⟩ := okC_list z2
        exact ⟨a, b, vs, ws, rfl, .inl ⟨h1, h3, q _ H1 s1 (ItD.zip fun H' av' o => ⟨(h2 H' av' o).1, (h2 H' av' o).2, (h4 H' av' o).1, (h4 H' av' o).2⟩)⟩⟩
      | _ => exact q.elim
    | tuple xs =>
      cases d2 with
      | tuple ys =>
        obtain ⟨a, vs, rfl, h1, _, h2⟩ := okC_tup z1
        obtain ⟨b, ws, rfl, h3, _, h4⟩ := okC_tup z2
        exact ⟨a, b, vs, ws, rfl, .inr ⟨h1, h3, q _ H1 s1 (ItD.zipT fun H' av' o => ⟨(h2 H' av' o).1, (h2 H' av' o).2, (h4 H' av' o).1, (h4 H' av' o).2⟩)⟩⟩
      | _ => exact q.elim
    | _ => exact q.elim
end

/-! ### isinstance of a built-in class -/
def tyN : PyData → String
  | .none => "NoneType" | .bool _ => "bool" | .int _ => "int" | .str _ => "str" | .list _ => "list" | .tuple _ => "tuple" | .dict _ => "dict"
def isiS (T s : String) : Bool := decide (T = s) || (decide (T = "int") && decide (s = "bool"))
def isiB (T : String) (d : PyData) : Bool := isiS T (tyN d)
theorem kit_all (T : String) (h : (["NoneType", "bool", "int", "str", "list", "tuple", "dict"].all fun s => decide (kitB s T = some (isiS T s))) = true) (d : PyData) : kitB (tyN d) T = some (isiB T d) := by
  have m : tyN d ∈ ["NoneType", "bool", "int", "str", "list", "tuple", "dict"] := by cases d <;> simp [tyN]
  exact of_decide_eq_true (List.all_eq_true.mp h _ m)
theorem kit_str : ∀ d, kitB (tyN d) "str" = some (isiB "str" d) := kit_all _ (by decide +kernel)
theorem kit_int : ∀ d, kitB (tyN d) "int" = some (isiB "int" d) := kit_all _ (by decide +kernel)
theorem kit_bool : ∀ d, kitB (tyN d) "bool" = some (isiB "bool" d) := kit_all _ (by decide +kernel)
theorem kit_list : ∀ d, kitB (tyN d) "list" = some (isiB "list" d) := kit_all _ (by decide +kernel)
theorem kit_tuple : ∀ d, kitB (tyN d) "tuple" = some (isiB "tuple" d) := kit_all _ (by decide +kernel)
def isiF (T : String) (f : FE) : FE := fun δ => (f δ).bind fun d => .ok (.bool (isiB T d))
theorem tyX_of {K : PySem.W.Frag} {H : Hp} {av : Addr → Prop} {v : V} {d : PyData} (h : Bw K H av v d) : TyX K H v (.type (tyN d)) := by
  cases d with
  | none => rw [h.none]; exact .base .non
  | bool b => rw [h.bool]; exact .base (.bl _)
  | int b => rw [h.int]; exact .base (.int _)
  | str b => rw [h.str]; exact .base (.str _)
  | list b =>
    obtain ⟨a, xs, rfl, h1, _⟩ := h.list
    rcases h1 with h1 | ⟨o, h1⟩
    · exact .base (.lst h1)
    · exact .base (.frz h1)
  | tuple b =>
    obtain ⟨a, xs, rfl, h1, _⟩ := h.tuple
    rcases h1 with (h1 | ⟨o, h1⟩) | ⟨o, its, n, h1, h2, _⟩
    · exact .base (.tup h1)
    · exact .fTuple h1
    · exact .kTuple h1 h2
  | dict b =>
    rcases h with h | ⟨a, rfl, kvs, ds, h1, _⟩
    · cases h with
      | dct h1 _ _ => exact .base (.dK h1)
    · exact .base (.dK h1)
section
variable {X : Cx} {C : Cc} {O : List Nat} {e ex eT : Expr} {f : FE} {T : String}
theorem de_isi (hk : ∀ d, kitB (tyN d) T = some (isiB T d)) (h : ∀ ta, PA X [e, eT] ta → PE X ex (tCB (rIsi X.K) ta)) (he : DB X C O e f) (hT : PE X eT (tC (.ty T))) (hs : starEach [e, eT] X.env = (false, eval e X.env) :: starEach [eT] X.env := by rfl) (hs2 : starEach [eT] X.env = (false, eval eT X.env) :: starEach [] X.env := by rfl) : DE X C O ex (isiF T f) := pe_imp (h _ (pa_cons he (pa_cons hT pa_nil hs2) hs)) fun σ H Q ⟨B, δ, ad, r, k⟩ => by
  refine ⟨B, δ, ad, r, k.bind.imp (fun d _ q v H1 s1 z => ?_) fun _ _ z => z⟩
  exact ⟨v, .ty T, .type (tyN d), .type T, isiB T d, rfl, .ty T, tyX_of z, kit_ty (hk d), q _ H1 s1 (.bl _)⟩
end

/-! ### sep.join(xs) -/
def joinD (a : Str) : PyData → Option PyData
  | .list ds => match strs? ds with
    | some ys => if (ys.map (·.length)).sum + ys.length * a.length ≤ 16777216 then some (.str (Txt.join a ys)) else none
    | none => none
  | _ => none
section
variable {X : Cx} {C : Cc} {O : List Nat} {o e : Expr} {f : FE} {a : Str} {apos pos : Pos}
theorem de_join (ho : PE X o (tC (.str a))) (he : DB X C O e f) (hs : starEach [e] X.env = [(false, eval e X.env)] := by rfl) (hbase : attributeBase o "join" X.env (eval o X.env) = eval o X.env := by rfl) (hline : (apos.endLine == pos.line) = true := by rfl) :
    DE X C O (.Call (.Attribute o "join" apos) [e] [] pos) (un1 (joinD a) f) := pe_imp (pe_join ho he hs hbase hline) fun σ H Q ⟨B, δ, ad, r, k⟩ => by
  refine ⟨⟨a, rfl⟩, B, δ, ad, r, k.bind.imp (fun d _ q y H2 s2 r2 => ?_) fun _ _ z => z⟩
  obtain ⟨z, ez, qq⟩ := q.ofO
  clear q
  unfold joinD at ez
  split at ez
  · split at ez
    · rename_i ys hy
      split at ez
      · rename_i hl
        cases ez
        obtain ⟨p, vs, rfl, hp, rp⟩ := Bw.list r2
        have e2 := strs_of rp hy
        subst e2
        exact ⟨_, p, ys, rfl, rfl, .inl (.inl hp), hl, qq _ H2 s2 (.str _)⟩
      · cases ez
    · cases ez
  · cases ez
end
end Dl
namespace Dl
open PySem PySem.Spec L2
theorem tgN {K : PySem.W.Frag} {C : Cc} {O : List Nat} {i : Nat} (hi : i ∉ O := by decide) : ∀ v σ H Q, tG K C O [i] (bN i) v σ H Q → gName i v σ H Q := fun v σ H Q ⟨B, δ, ad, d, δ', r, z, e, q⟩ => by
  cases e
  exact q _ (r.set hi z) (EqBut.set EqBut.refl)
end Dl

namespace Dl
open PySem PySem.Spec L2
theorem cx_false {P : Program} {w : World} {o : List Env} {H : Hp} {s : Shared} {e : Value} {s' : Shared} (h : L2.CX P w o H s (fun _ _ _ => False) e s') : False := by
  obtain ⟨_, _, _, _, _, _, _, _, _, _, _, _, z⟩ := h
  exact z
/-- a law: the end -/
theorem walk_D {l : PySem.W.OpenLaw} {n : Nat} {q : Program} {loose : List Str} {XP : (Str → Option Value) → Heap → Prop} {YP : World → Heap → Prop} {d : DefRec} {x : Str} {G : List PyData → R PyData}
    (hn : l.most = some n) (hn2 : n ≤ sizeLine) (hdf : d.params.defaults = [])
    (hl : ∀ ns : List Int, ns.length ≤ n → G [.list (ns.map .int)] = .ok (.bool true))
    (F : ∀ (w : World) (mg : Str → Option Value) (fa : Addr) (h : Heap), YP w h → h.Ns mainGlobals mg → mg d.name = some (.ref fa) →
      ∃ (K : PySem.W.Frag) (fd : FuncData), K.In h ∧ (∀ (s : Shared) (u : Value), BindsTo s fd ⟨[u], []⟩ [(x, u)]) ∧ (∀ a o, K.lookup a = some o → o.cls ≠ .type "list") ∧
        ∀ base : Heap, K.In base → base.Ns mainGlobals mg → FnR l.prog w K mg base 650 fa fd [x] (spD K false 1 G)) :
    PySem.W.WalkO q loose XP YP l.row.toRowW d [] (fun f vs => PySem.call f vs) := by
  refine Att.attach_call hn hdf fun w s₀ s₁ mg mb fa o pm cd doc a vs ns Gr Y ho hd hcd hmg hobj hints hlen hg => ?_
  obtain ⟨K, fd, KX, hb, hnl, hF⟩ := F w mg fa _ Y Gr.T.g hmg
  refine law_call KX Gr.T.g Gr.T.b Gr.T.builtins Gr.T.nolimit hg hobj hints (Nat.le_trans hlen hn2) ⟨rfl, by decide, by decide⟩ (fun base h1 h2 => (hF base h1 h2).ok (Nat.le_refl _)) hb (fun H hO hS => ?_) fun H e s' h => cx_false h
  have rp : ∀ ms : List Int, RpAll K H (fun _ => False) (ms.map V.int) (ms.map PyData.int) := by
    intro ms
    induction ms with
    | nil => exact .nil
    | cons m ms ih => exact .cons (.int m) ih
  have rd : Rd H a (.lst (ns.map V.int)) := by
    rcases hS with h | ⟨ob, its, n, h1, h2, _⟩
    · exact h
    · exact absurd h2 (hnl _ _ h1)
  refine ⟨[.list (ns.map .int)], fun _ => False, .cons (.lst rd (fun z => z) (rp ns)) .nil, rfl, fun _ z => z.elim, ?_⟩
  rw [hl ns hlen]
  intro v H' s z
  have z' : Rp K H' (fun _ => False) v (.bool true) := z
  exact z'.bw.bool
end Dl

namespace Dl
open PySem L2

/-! ### how denotations are reckoned -/
theorem vr0 (d : PyData) (r : Ev) : vr 0 (some d :: r) = .ok d := rfl
theorem vrS (i : Nat) (x : Option PyData) (r : Ev) : vr (i + 1) (x :: r) = vr i r := rfl
theorem R.bind_ok {α β : Type} (a : α) (f : α → R β) : (R.ok a).bind f = f a := rfl
theorem R.bind_err {α β : Type} (c : Str) (x : Option (Str × Int)) (f : α → R β) : (R.err c x : R α).bind f = .err c x := rfl
theorem R.bind_bad {α β : Type} (f : α → R β) : (R.bad : R α).bind f = .bad := rfl
theorem ofO_some {α : Type} (a : α) : ofO (some a) = .ok a := rfl
/-- what stands behind a statement's end, a test's, an expression's -/
def sqK (r : SR) (h : FS) : SR := match r with
  | .nx δ => h δ
  | r => r
theorem ev_sq (g h : FS) (δ : Ev) : sq g h δ = sqK (g δ) h := rfl
theorem sqK_nx (δ : Ev) (h : FS) : sqK (.nx δ) h = h δ := rfl
theorem sqK_rt (d : PyData) (h : FS) : sqK (.rt d) h = .rt d := rfl
theorem sqK_bk (δ : Ev) (h : FS) : sqK (.bk δ) h = .bk δ := rfl
theorem sqK_ct (δ : Ev) (h : FS) : sqK (.ct δ) h = .ct δ := rfl
theorem sqK_err (c : Str) (x : Option (Str × Int)) (δ : Ev) (h : FS) : sqK (.err c x δ) h = .err c x δ := rfl
def ifK (r : R Bool) (a b : FS) (δ : Ev) : SR := match r with
  | .ok true => a δ
  | .ok false => b δ
  | .err c x => .err c x δ
  | .bad => .bad
theorem ev_if (c : FT) (a b : FS) (δ : Ev) : ifS c a b δ = ifK (c δ) a b δ := rfl
theorem ifK_t (a b : FS) (δ : Ev) : ifK (.ok true) a b δ = a δ := rfl
theorem ifK_f (a b : FS) (δ : Ev) : ifK (.ok false) a b δ = b δ := rfl
theorem ifK_err (c : Str) (x : Option (Str × Int)) (a b : FS) (δ : Ev) : ifK (.err c x) a b δ = .err c x δ := rfl
theorem ifK_ite (p : Prop) [Decidable p] (a b : FS) (δ : Ev) : ifK (.ok (decide p)) a b δ = if p then a δ else b δ := by by_cases h : p <;> simp [h, ifK]
def setK (r : R PyData) (i : Nat) (δ : Ev) : SR := match r with
  | .ok d => .nx (δ.set i (some d))
  | .err c x => .err c x δ
  | .bad => .bad
theorem ev_set (i : Nat) (f : FE) (δ : Ev) : setS i f δ = setK (f δ) i δ := by unfold setS exS setK; cases f δ <;> rfl
theorem setK_ok (d : PyData) (i : Nat) (δ : Ev) : setK (.ok d) i δ = .nx (δ.set i (some d)) := rfl
theorem setK_err (c : Str) (x : Option (Str × Int)) (i : Nat) (δ : Ev) : setK (.err c x) i δ = .err c x δ := rfl
def retK (r : R PyData) (δ : Ev) : SR := match r with
  | .ok d => .rt d
  | .err c x => .err c x δ
  | .bad => .bad
theorem ev_ret (f : FE) (δ : Ev) : retS f δ = retK (f δ) δ := by unfold retS exS retK; cases f δ <;> rfl
theorem retK_ok (d : PyData) (δ : Ev) : retK (.ok d) δ = .rt d := rfl
theorem retK_err (c : Str) (x : Option (Str × Int)) (δ : Ev) : retK (.err c x) δ = .err c x δ := rfl
def expK (r : R PyData) (δ : Ev) : SR := match r with
  | .ok _ => .nx δ
  | .err c x => .err c x δ
  | .bad => .bad
theorem ev_exp (f : FE) (δ : Ev) : expS f δ = expK (f δ) δ := by unfold expS exS expK; cases f δ <;> rfl
theorem expK_ok (d : PyData) (δ : Ev) : expK (.ok d) δ = .nx δ := rfl
theorem expK_err (c : Str) (x : Option (Str × Int)) (δ : Ev) : expK (.err c x) δ = .err c x δ := rfl
theorem ev_skp (δ : Ev) : skp δ = .nx δ := rfl
theorem ev_brk (δ : Ev) : brk δ = .bk δ := rfl
theorem ev_cnt (δ : Ev) : cnt δ = .ct δ := rfl
def runK (r : SR) : R PyData := match r with
  | .rt d => .ok d
  | .err c x _ => .err c x
  | _ => .bad
theorem ev_run (n : Nat) (g : FS) (ds : List PyData) : runF n g ds = runK (g (ds.map some ++ List.replicate (n - ds.length) none)) := rfl
theorem runK_rt (d : PyData) : runK (.rt d) = .ok d := rfl
theorem runK_err (c : Str) (x : Option (Str × Int)) (δ : Ev) : runK (.err c x δ) = .err c x := rfl
theorem ev_cst (d : PyData) (δ : Ev) : cst d δ = .ok d := rfl
theorem ev_op2 (s : PyData → PyData → Option PyData) (a b : FE) (δ : Ev) : op2 s a b δ = (a δ).bind fun d => (b δ).bind fun e => ofO (s d e) := rfl
theorem ev_un1 (s : PyData → Option PyData) (a : FE) (δ : Ev) : un1 s a δ = (a δ).bind fun d => ofO (s d) := rfl
theorem ev_tst (f : FE) (δ : Ev) : tst f δ = (f δ).bind asB := rfl
theorem asB_b (b : Bool) : asB (.bool b) = .ok b := rfl
def andK (r : R Bool) (g : FT) (δ : Ev) : R Bool := match r with
  | .ok true => g δ
  | .ok false => .ok false
  | .err c x => .err c x
  | .bad => .bad
def orK (r : R Bool) (g : FT) (δ : Ev) : R Bool := match r with
  | .ok true => .ok true
  | .ok false => g δ
  | .err c x => .err c x
  | .bad => .bad
theorem ev_andT (f g : FT) (δ : Ev) : andT f g δ = andK (f δ) g δ := by unfold andT andK; cases h : f δ with | ok b => cases b <;> rfl | err c x => rfl | bad => rfl
theorem ev_orT (f g : FT) (δ : Ev) : orT f g δ = orK (f δ) g δ := by unfold orT orK; cases h : f δ with | ok b => cases b <;> rfl | err c x => rfl | bad => rfl
theorem andK_t (g : FT) (δ : Ev) : andK (.ok true) g δ = g δ := rfl
theorem andK_f (g : FT) (δ : Ev) : andK (.ok false) g δ = .ok false := rfl
theorem orK_t (g : FT) (δ : Ev) : orK (.ok true) g δ = .ok true := rfl
theorem orK_f (g : FT) (δ : Ev) : orK (.ok false) g δ = g δ := rfl
theorem ev_notT (f : FT) (δ : Ev) : notT f δ = (f δ).bind fun b => .ok (!b) := rfl
def andW (r : R PyData) (g : FE) (δ : Ev) : R PyData := match r with
  | .ok (.bool true) => g δ
  | .ok (.bool false) => .ok (.bool false)
  | .err c x => .err c x
  | _ => .bad
def orW (r : R PyData) (g : FE) (δ : Ev) : R PyData := match r with
  | .ok (.bool true) => .ok (.bool true)
  | .ok (.bool false) => g δ
  | .err c x => .err c x
  | _ => .bad
theorem ev_andV (f g : FE) (δ : Ev) : andV f g δ = andW (f δ) g δ := by
  unfold andV andW
  cases h : f δ with
  | ok d => cases d with
    | bool b => cases b <;> rfl
    | _ => rfl
  | err c x => rfl
  | bad => rfl
theorem ev_orV (f g : FE) (δ : Ev) : orV f g δ = orW (f δ) g δ := by
  unfold orV orW
  cases h : f δ with
  | ok d => cases d with
    | bool b => cases b <;> rfl
    | _ => rfl
  | err c x => rfl
  | bad => rfl
theorem andW_t (g : FE) (δ : Ev) : andW (.ok (.bool true)) g δ = g δ := rfl
theorem andW_f (g : FE) (δ : Ev) : andW (.ok (.bool false)) g δ = .ok (.bool false) := rfl
theorem orW_t (g : FE) (δ : Ev) : orW (.ok (.bool true)) g δ = .ok (.bool true) := rfl
theorem orW_f (g : FE) (δ : Ev) : orW (.ok (.bool false)) g δ = g δ := rfl
theorem ev_notV (f : FE) (δ : Ev) : notV f δ = (f δ).bind fun d => (asB d).bind fun b => .ok (.bool !b) := rfl
theorem ev_isi (T : String) (f : FE) (δ : Ev) : isiF T f δ = (f δ).bind fun d => .ok (.bool (isiB T d)) := rfl
theorem evs_nil (δ : Ev) : evs [] δ = .ok [] := rfl
theorem evs_cons (f : FE) (fs : List FE) (δ : Ev) : evs (f :: fs) δ = (f δ).bind fun d => (evs fs δ).bind fun ds => .ok (d :: ds) := rfl
theorem ev_mkT (fs : List FE) (δ : Ev) : mkT fs δ = (evs fs δ).bind fun ds => .ok (.tuple ds) := rfl
theorem ev_mkL (fs : List FE) (δ : Ev) : mkL fs δ = (evs fs δ).bind fun ds => .ok (.list ds) := rfl
theorem ev_cal (s : List PyData → Option PyData) (fs : List FE) (δ : Ev) : cal s fs δ = (evs fs δ).bind fun ds => ofO (s ds) := rfl
theorem ev_call (G : List PyData → R PyData) (fs : List FE) (δ : Ev) : callF G fs δ = (evs fs δ).bind G := rfl
theorem ev_slc (f : FE) (lo hi : FO) (δ : Ev) : slc f lo hi δ = (f δ).bind fun d => (lo δ).bind fun l => (hi δ).bind fun u => ofO (slD d l u) := rfl
theorem ev_noP (δ : Ev) : noP δ = .ok none := rfl
theorem ev_prt (f : FE) (δ : Ev) : prt f δ = (f δ).bind fun d => (asI d).bind fun i => .ok (some i) := rfl
theorem asI_i (i : Int) : asI (.int i) = .ok i := rfl
def forK (r : R (List PyData)) (b : FB) (g : FS) (δ : Ev) : SR := match r with
  | .ok ds => forD b g ds δ
  | .err c x => .err c x δ
  | .bad => .bad
theorem ev_for (fi : FI) (b : FB) (g : FS) (δ : Ev) : forS fi b g δ = forK (fi δ) b g δ := rfl
theorem forK_ok (ds : List PyData) (b : FB) (g : FS) (δ : Ev) : forK (.ok ds) b g δ = forD b g ds δ := rfl
theorem forD_nil (b : FB) (g : FS) (δ : Ev) : forD b g [] δ = .nx δ := rfl
/-- a turn's end -/
def lpK (r : SR) (k : FS) : SR := match r with
  | .nx δ => k δ
  | .ct δ => k δ
  | .bk δ => .nx δ
  | r => r
theorem lpK_nx (δ : Ev) (k : FS) : lpK (.nx δ) k = k δ := rfl
theorem lpK_ct (δ : Ev) (k : FS) : lpK (.ct δ) k = k δ := rfl
theorem lpK_bk (δ : Ev) (k : FS) : lpK (.bk δ) k = .nx δ := rfl
theorem lpK_rt (d : PyData) (k : FS) : lpK (.rt d) k = .rt d := rfl
theorem lpK_err (c : Str) (x : Option (Str × Int)) (δ : Ev) (k : FS) : lpK (.err c x δ) k = .err c x δ := rfl
theorem forD_N (i : Nat) (g : FS) (d : PyData) (ds : List PyData) (δ : Ev) : forD (bN i) g (d :: ds) δ = lpK (g (δ.set i (some d))) (forD (bN i) g ds) := by
  rw [forD]
  simp only [bN]
  cases g (δ.set i (some d)) <;> rfl
theorem forD_T (is : List Nat) (g : FS) (xs ds : List PyData) (δ : Ev) (h : xs.length = is.length) : forD (bT is) g (.tuple xs :: ds) δ = lpK (g (sets is xs δ)) (forD (bT is) g ds) := by
  rw [forD]
  simp only [bT, if_pos h]
  cases g (sets is xs δ) <;> rfl
def whK (r : R Bool) (g k : FS) (δ : Ev) : SR := match r with
  | .ok true => lpK (g δ) k
  | .ok false => .nx δ
  | .err c x => .err c x δ
  | .bad => .bad
theorem ev_wh (c : FT) (g : FS) (n : Nat) (δ : Ev) : whD c g (n + 1) δ = whK (c δ) g (whD c g n) δ := by
  rw [whD]
  cases h : c δ with
  | ok b => cases b with
    | true =>
      simp only [whK]
      cases g δ <;> rfl
    | false => rfl
  | err c x => rfl
  | bad => rfl
theorem whK_t (g k : FS) (δ : Ev) : whK (.ok true) g k δ = lpK (g δ) k := rfl
theorem whK_f (g k : FS) (δ : Ev) : whK (.ok false) g k δ = .nx δ := rfl
theorem ev_itL (f : FE) (δ : Ev) (ds : List PyData) (h : f δ = .ok (.list ds)) : itL f δ = .ok ds := by unfold itL; rw [h]; rfl
def itLK : PyData → R (List PyData)
  | .list ds => .ok ds
  | _ => .bad
theorem ev_itLK (f : FE) (δ : Ev) : itL f δ = (f δ).bind itLK := by unfold itL; cases f δ with | ok d => cases d <;> rfl | err c x => rfl | bad => rfl
theorem itLK_l (ds : List PyData) : itLK (.list ds) = .ok ds := rfl
def itRK : List PyData → R (List PyData)
  | [.int n] => if -(2 ^ 62) ≤ n ∧ n < 2 ^ 62 then .ok (rangeL 0 n.toNat) else .bad
  | [.int a, .int b] => if (-(2 ^ 62) ≤ a ∧ a < 2 ^ 62) ∧ (-(2 ^ 62) ≤ b ∧ b < 2 ^ 62) then .ok (rangeL a (b - a).toNat) else .bad
  | _ => .bad
theorem ev_itR (fs : List FE) (δ : Ev) : itR fs δ = (evs fs δ).bind itRK := rfl
theorem itRK_1 {n : Int} (h : -(2 ^ 62) ≤ n ∧ n < 2 ^ 62) : itRK [.int n] = .ok (rangeL 0 n.toNat) := if_pos h
theorem itRK_2 {a b : Int} (h : (-(2 ^ 62) ≤ a ∧ a < 2 ^ 62) ∧ (-(2 ^ 62) ≤ b ∧ b < 2 ^ 62)) : itRK [.int a, .int b] = .ok (rangeL a (b - a).toNat) := if_pos h
def itZK : List PyData → R (List PyData)
  | [.list xs, .list ys] => .ok (zipL xs ys)
  | [.tuple xs, .tuple ys] => .ok (zipL xs ys)
  | _ => .bad
theorem ev_itZ (a b : FE) (δ : Ev) : itZA a b δ = (evs [a, b] δ).bind itZK := rfl
theorem itZK_l (xs ys : List PyData) : itZK [.list xs, .list ys] = .ok (zipL xs ys) := rfl
theorem itZK_t (xs ys : List PyData) : itZK [.tuple xs, .tuple ys] = .ok (zipL xs ys) := rfl
def it1K (w : List PyData → List PyData) : List PyData → R (List PyData)
  | [.list xs] => .ok (w xs)
  | _ => .bad
theorem ev_it1 (w : List PyData → List PyData) (f : FE) (δ : Ev) : it1 w f δ = (evs [f] δ).bind (it1K w) := rfl
theorem it1K_l (w : List PyData → List PyData) (xs : List PyData) : it1K w [.list xs] = .ok (w xs) := rfl
/-- xs.append(e) -/
def appK (o : Option (List PyData)) (f : FE) (i : Nat) (δ : Ev) : SR := match o with
  | some ds => exS f (fun d => if ds.length < sizeLine then .nx (δ.set i (some (.list (ds ++ [d])))) else .bad) δ
  | none => .bad
theorem ev_app (i : Nat) (f : FE) (δ : Ev) : appS i f δ = appK (slotL i δ) f i δ := rfl
theorem slotL_0 (ds : List PyData) (r : Ev) : slotL 0 (some (.list ds) :: r) = some ds := rfl
theorem slotL_S (i : Nat) (x : Option PyData) (r : Ev) : slotL (i + 1) (x :: r) = slotL i r := rfl
theorem appK_ok {ds : List PyData} {f : FE} {i : Nat} {δ : Ev} (h : ds.length < 16000000) : appK (some ds) f i δ = setK ((f δ).bind fun d => .ok (.list (ds ++ [d]))) i δ := by
  have e : sizeLine = 16777216 := sizeLine_eq
  unfold appK exS
  cases f δ with
  | ok d => simp only [R.bind_ok, setK_ok, if_pos (show ds.length < sizeLine by omega)]
  | err c x => rfl
  | bad => rfl
theorem addD_i (i j : Int) : addD (.int i) (.int j) = some (.int (i + j)) := rfl
theorem subD_i (i j : Int) : subD (.int i) (.int j) = some (.int (i - j)) := rfl
theorem ltD_i (i j : Int) : ltD (.int i) (.int j) = some (.bool (decide (i < j))) := rfl
theorem leD_i (i j : Int) : leD (.int i) (.int j) = some (.bool (decide (i ≤ j))) := rfl
theorem gtD_i (i j : Int) : gtD (.int i) (.int j) = some (.bool (decide (j < i))) := rfl
theorem geD_i (i j : Int) : geD (.int i) (.int j) = some (.bool (decide (j ≤ i))) := rfl
theorem ltD_s (x y : Str) : ltD (.str x) (.str y) = some (.bool (decide (x.cps.toList < y.cps.toList))) := rfl
theorem negD_i (i : Int) : negD (.int i) = some (.int (-i)) := rfl
theorem isD_n (d : PyData) : isD d .none = some (.bool (isNone d)) := rfl
theorem isntD_n (d : PyData) : isntD d .none = some (.bool (!isNone d)) := rfl
theorem isNone_n : isNone .none = true := rfl
theorem isNone_t (xs : List PyData) : isNone (.tuple xs) = false := rfl
theorem isNone_l (xs : List PyData) : isNone (.list xs) = false := rfl
theorem isNone_i (i : Int) : isNone (.int i) = false := rfl
theorem isNone_s (x : Str) : isNone (.str x) = false := rfl
theorem isNone_b (b : Bool) : isNone (.bool b) = false := rfl
theorem lenD_l (xs : List PyData) : lenD [.list xs] = some (.int xs.length) := rfl
theorem lenD_t (xs : List PyData) : lenD [.tuple xs] = some (.int xs.length) := rfl
theorem minD_i (i j : Int) : minD [.int i, .int j] = some (.int (min i j)) := rfl
theorem maxD_i (i j : Int) : maxD [.int i, .int j] = some (.int (max i j)) := rfl
theorem addD_l {xs ys : List PyData} (h : xs.length + ys.length ≤ 16000000) : addD (.list xs) (.list ys) = some (.list (xs ++ ys)) := by
  have e : sizeLine = 16777216 := sizeLine_eq
  exact if_pos (show xs.length + ys.length ≤ sizeLine by omega)
theorem addD_s {x y : Str} (h : x.length + y.length ≤ 16000000) : addD (.str x) (.str y) = some (.str (x ++ y)) := by
  have e : sizeLine = 16777216 := sizeLine_eq
  exact if_pos (show x.length + y.length ≤ sizeLine by omega)
theorem addD_t {xs ys : List PyData} (h : xs.length + ys.length ≤ 16000000) : addD (.tuple xs) (.tuple ys) = some (.tuple (xs ++ ys)) := by
  have e : sizeLine = 16777216 := sizeLine_eq
  exact if_pos (show xs.length + ys.length ≤ sizeLine by omega)
theorem ix0 (x : PyData) (r : List PyData) : ixD (.tuple (x :: r)) (.int 0) = some x := by
  simp [ixD, atI, ixN]
theorem ix1 (x y : PyData) (r : List PyData) : ixD (.tuple (x :: y :: r)) (.int 1) = some y := by
  simp only [ixD, atI, ixN]
  have h : (1 : Int) < ((x :: y :: r).length : Nat) := by simp; omega
  rw [if_pos (by decide), if_pos h]; rfl
theorem ix2 (x y z : PyData) (r : List PyData) : ixD (.tuple (x :: y :: z :: r)) (.int 2) = some z := by
  simp only [ixD, atI, ixN]
  have h : (2 : Int) < ((x :: y :: z :: r).length : Nat) := by simp; omega
  rw [if_pos (by decide), if_pos h]; rfl
theorem ix3 (x y z w : PyData) (r : List PyData) : ixD (.tuple (x :: y :: z :: w :: r)) (.int 3) = some w := by
  simp only [ixD, atI, ixN]
  have h : (3 : Int) < ((x :: y :: z :: w :: r).length : Nat) := by simp; omega
  rw [if_pos (by decide), if_pos h]; rfl
/-- an item of a list at a place that is in it -/
theorem ixL {ds : List PyData} {i : Int} {j : Nat} (hj : i = (j : Nat)) (h : j < ds.length) : ixD (.list ds) (.int i) = some ds[j] := by
  subst hj
  simp only [ixD, atI, ixN]
  rw [if_pos (by omega), if_pos (by omega)]
  simp [h]
theorem eqD_int (i j : Int) : eqD (.int i) (.int j) = some (.bool (decide (i = j))) := by
  simp only [eqD, eqOk, scalD, PyData.eqv, Bool.true_or, if_true]
  congr 2
theorem eqD_str (x y : Str) : eqD (.str x) (.str y) = some (.bool (decide (x = y))) := by
  simp only [eqD, eqOk, scalD, PyData.eqv, Bool.true_or, if_true]
  congr 2
theorem neD_int (i j : Int) : neD (.int i) (.int j) = some (.bool (!decide (i = j))) := by
  simp only [neD, eqOk, scalD, PyData.eqv, Bool.true_or, if_true]
  congr 2
theorem neD_str (x y : Str) : neD (.str x) (.str y) = some (.bool (!decide (x = y))) := by
  simp only [neD, eqOk, scalD, PyData.eqv, Bool.true_or, if_true]
  congr 2
theorem mul_ok {i j : Int} (h : (-(2 ^ 64) < i ∧ i < 2 ^ 64) ∨ (-(2 ^ 64) < j ∧ j < 2 ^ 64)) : mulD (.int i) (.int j) = some (.int (i * j)) := by
  have : mulOk i j = true := by
    unfold mulOk
    simp only [Bool.or_eq_true, Bool.and_eq_true, decide_eq_true_eq]
    exact h
  simp only [mulD, this, if_true]
theorem mod_ok {i j : Int} (h : 0 < j) : modD (.int i) (.int j) = some (.int (i % j)) := by simp only [modD, if_pos h]
theorem fdiv_ok {i j : Int} (h : 0 < j ∧ j < 2 ^ 63) : fdivD (.int i) (.int j) = some (.int (i / j)) := by simp only [fdivD, if_pos h]

/-! ### statements -/
inductive Kd where | both | one | then_
  deriving DecidableEq
def Kd.str : Kd → Str
  | .both => "both" | .one => "one" | .then_ => "then"
inductive Fm where
  | low
  | lt (w : Str)
  | bin (k : Kd) (a b : Fm)
  deriving DecidableEq
def enc : Fm → PyData
  | .low => .tuple [.str "low"]
  | .lt w => .tuple [.str "letter", .str w]
  | .bin k a b => .tuple [.str k.str, enc a, enc b]
def Fm.parts : Fm → Nat
  | .low => 1 | .lt _ => 1
  | .bin _ a b => 1 + a.parts + b.parts
def Fm.deep : Fm → Nat
  | .low => 1 | .lt _ => 1
  | .bin _ a b => 1 + max a.deep b.deep
theorem Fm.deep_parts : ∀ f : Fm, 2 * f.deep ≤ f.parts + 1
  | .low => by simp [deep, parts]
  | .lt _ => by simp [deep, parts]
  | .bin _ a b => by
    have h1 := deep_parts a
    have h2 := deep_parts b
    have h3 : 1 ≤ b.parts := by cases b <;> simp [parts] <;> omega
    have h4 : 1 ≤ a.parts := by cases a <;> simp [parts] <;> omega
    simp only [deep, parts]
    omega
end Dl

namespace Dl
open PySem L2
/-! ### texts by their codes -/
abbrev cs (x : Str) : List Nat := x.cps.toList
theorem cs_length (x : Str) : x.length = (cs x).length := by simp [cs, Str.length]
theorem cs_app (x y : Str) : cs (x ++ y) = cs x ++ cs y := by
  show (Str.append x y).cps.toList = _
  simp [Str.append, cs]
theorem cs_cut (x : Str) (lo hi : Option Int) : cs (cutS x lo hi) = ((cs x).drop (HT.sIx x.length 0 lo)).take (HT.sIx x.length x.length hi - HT.sIx x.length 0 lo) := by
  simp [cutS, cs]
theorem cs_pre (x : Str) (k : Nat) (h : k ≤ x.length) : cs (cutS x none (some (k : Int))) = (cs x).take k := by
  rw [cs_cut, HT.sIx_none, HT.sIx_nat, Nat.min_eq_left h]; simp
theorem cs_suf (x : Str) (k : Nat) (h : k ≤ x.length) : cs (cutS x (some (k : Int)) none) = (cs x).drop k := by
  rw [cs_cut, HT.sIx_none, HT.sIx_nat, Nat.min_eq_left h]
  rw [List.take_of_length_le]
  rw [List.length_drop, cs_length]; exact Nat.le_refl _
def Low (x : Str) : Prop := ∀ c ∈ cs x, 97 ≤ c ∧ c ≤ 122
theorem Low.app {x y : Str} (h : Low x) (g : Low y) : Low (x ++ y) := fun c hc => by
  rw [cs_app] at hc
  exact (List.mem_append.mp hc).elim (h c) (g c)
theorem Low.cut {x : Str} (h : Low x) (lo hi : Option Int) : Low (cutS x lo hi) := fun c hc => by
  rw [cs_cut] at hc
  exact h c (List.mem_of_mem_drop (List.mem_of_mem_take hc))
theorem foldl_app : ∀ (l : List (Array Nat)) (a : Array Nat), (l.foldl (· ++ ·) a).toList = a.toList ++ (l.map Array.toList).flatten
  | [], a => by simp
  | b :: l, a => by rw [List.foldl_cons, foldl_app l]; simp
theorem cs_mul (x : Str) (n : Int) (h : 1 ≤ n) : cs (Txt.mul x n) = (List.replicate n.toNat (cs x)).flatten := by
  unfold Txt.mul
  rw [if_neg (by omega)]
  by_cases h1 : (n == 1 || x.length == 0) = true
  · rw [if_pos h1]
    rcases Bool.or_eq_true_iff.mp h1 with h2 | h2
    · have e : n = 1 := by simpa using h2
      subst e
      simp
    · have e : x.length = 0 := by simpa using h2
      have e2 : cs x = [] := List.eq_nil_of_length_eq_zero (by rw [← cs_length]; exact e)
      rw [e2]
      simp
  · rw [if_neg h1]
    show (List.foldl (· ++ ·) #[] (List.replicate n.toNat x.cps)).toList = _
    rw [foldl_app]
    simp [cs]
theorem Low.mul {x : Str} (h : Low x) {n : Int} (hn : 1 ≤ n) : Low (Txt.mul x n) := fun c hc => by
  rw [cs_mul x n hn] at hc
  obtain ⟨l, hl, hc⟩ := List.mem_flatten.mp hc
  rw [List.eq_of_mem_replicate hl] at hc
  exact h c hc
theorem mul_length (x : Str) {n : Int} (hn : 1 ≤ n) : (Txt.mul x n).length = n.toNat * x.length := by
  rw [cs_length, cs_mul x n hn, cs_length]
  simp
theorem Low.strOk {x : Str} (h : Low x) : PyData.strOk x = true := by
  unfold PyData.strOk
  rw [Array.all_eq_true']
  intro c hc
  have := h c (by simpa [cs] using hc)
  simp only [decide_eq_true_eq]
  omega
theorem cs_join0 : ∀ ys : List Str, cs (Txt.join "" ys) = (ys.map cs).flatten := by
  intro ys
  have e : Txt.join "" ys = Str.join "" ys := PySem.StrLaws.glued_eq_join _ _
  rw [e]
  clear e
  induction ys with
  | nil => rfl
  | cons y r ih =>
    cases r with
    | nil => simp [Str.join]
    | cons z r =>
      show cs (y ++ "" ++ Str.join "" (z :: r)) = _
      rw [cs_app, cs_app, ih]
      have e : cs ("" : Str) = [] := by decide +kernel
      rw [e]; simp
theorem Low.join0 {ys : List Str} (h : ∀ y ∈ ys, Low y) : Low (Txt.join "" ys) := fun c hc => by
  rw [cs_join0] at hc
  obtain ⟨l, hl, hc⟩ := List.mem_flatten.mp hc
  obtain ⟨y, hy, rfl⟩ := List.mem_map.mp hl
  exact h y hy c hc
theorem ixS {x : Str} {i : Int} {j : Nat} (hj : i = (j : Nat)) (h : j < (cs x).length) (hl : x.length ≤ 16000000) : ixD (.str x) (.int i) = some (.str ⟨#[(cs x)[j]]⟩) := by
  subst hj
  have e : sizeLine = 16777216 := sizeLine_eq
  simp only [ixD, atI, ixN]
  rw [if_pos (show x.length ≤ sizeLine by omega), if_pos (by omega), if_pos (show ((j : Nat) : Int) < ((cs x).length : Nat) by omega)]
  simp only [Option.bind_some, Int.toNat_natCast]
  rw [List.getElem?_eq_getElem h]; rfl
theorem low_one {x : Str} (h : Low x) {j : Nat} (hj : j < (cs x).length) : Low ⟨#[(cs x)[j]]⟩ := fun c hc => by
  have e : c = (cs x)[j] := by simpa [cs] using hc
  rw [e]
  exact h _ (List.getElem_mem hj)
def smallS : Str := "abcdefghijklmnopqrstuvwxyz"
theorem small_cs : cs "abcdefghijklmnopqrstuvwxyz" = [97, 98, 99, 100, 101, 102, 103, 104, 105, 106, 107, 108, 109, 110, 111, 112, 113, 114, 115, 116, 117, 118, 119, 120, 121, 122] := by decide +kernel
theorem small_len : ("abcdefghijklmnopqrstuvwxyz" : Str).length = 26 := by rw [cs_length, small_cs]; rfl
theorem small_low : Low "abcdefghijklmnopqrstuvwxyz" := by
  unfold Low
  rw [small_cs]
  decide
theorem small_ix (i : Int) (h0 : 0 ≤ i) (h1 : i < 26) : ∃ c : Str, ixD (.str "abcdefghijklmnopqrstuvwxyz") (.int i) = some (.str c) ∧ Low c ∧ c.length = 1 := by
  have hl : i.toNat < (cs "abcdefghijklmnopqrstuvwxyz").length := by rw [small_cs]; show i.toNat < 26; omega
  exact ⟨_, ixS (j := i.toNat) (by omega) hl (by rw [small_len]; decide), low_one small_low hl, rfl⟩
theorem k_low : Low "k" := by unfold Low; rw [show cs ("k" : Str) = [107] by decide +kernel]; decide
theorem k_len : ("k" : Str).length = 1 := by decide +kernel
theorem mulS_ok {x : Str} {n : Int} (h0 : 0 ≤ n) (h1 : n ≤ 1000) (h2 : x.length ≤ 1000) : mulD (.str x) (.int n) = some (.str (Txt.mul x n)) := if_pos ⟨h0, h1, h2⟩
theorem slD_s {x : Str} {lo hi : Option Int} (h : x.length ≤ 16000000) : slD (.str x) lo hi = some (.str (cutS x lo hi)) := by
  have e : sizeLine = 16777216 := sizeLine_eq
  exact if_pos (show x.length ≤ sizeLine by omega)
theorem slD_l {ds : List PyData} {lo hi : Option Int} : slD (.list ds) lo hi = some (.list (cutL ds lo hi)) := rfl
theorem slD_t {ds : List PyData} {lo hi : Option Int} : slD (.tuple ds) lo hi = some (.tuple (cutL ds lo hi)) := rfl
theorem strs_map : ∀ ys : List Str, strs? (ys.map PyData.str) = some ys
  | [] => rfl
  | y :: ys => by
    show (strs? (ys.map PyData.str)).map (y :: ·) = _
    rw [strs_map ys]; rfl
theorem joinD_ok {a : Str} {ys : List Str} (h : (ys.map (·.length)).sum + ys.length * a.length ≤ 16777216) : joinD a (.list (ys.map PyData.str)) = some (.str (Txt.join a ys)) := by
  unfold joinD
  simp only [strs_map, if_pos h]
/-! ### comprehensions -/
def lcK (b : FB) (t : FT) (f : FE) (δ : Ev) (ds : List PyData) : R PyData := if ds.length ≤ 1000000 then (lcD b t f δ ds).bind fun xs => .ok (.list xs) else .bad
theorem ev_lc (vs : List Nat) (fi : FI) (b : FB) (t : FT) (f : FE) (δ : Ev) : lcF vs fi b t f δ = (fi δ).bind (lcK b t f (wipeE δ vs)) := rfl
theorem lcD_map {b : FB} {f : FE} {δ : Ev} {g : PyData → PyData} {e : PyData → Ev} : ∀ ds : List PyData, (∀ d ∈ ds, b d δ = some (e d)) → (∀ d ∈ ds, f (e d) = .ok (g d)) → lcD b yesT f δ ds = .ok (ds.map g)
  | [], _, _ => rfl
  | d :: ds, hb, hf => by
    rw [lcD, hb d List.mem_cons_self]
    simp only [yesT]
    rw [hf d List.mem_cons_self, lcD_map ds (fun x hx => hb x (List.mem_cons_of_mem _ hx)) fun x hx => hf x (List.mem_cons_of_mem _ hx)]
    rfl
theorem lcK_map {b : FB} {f : FE} {δ : Ev} {g : PyData → PyData} {e : PyData → Ev} {ds : List PyData} (hl : ds.length ≤ 1000000) (hb : ∀ d ∈ ds, b d δ = some (e d)) (hf : ∀ d ∈ ds, f (e d) = .ok (g d)) : lcK b yesT f δ ds = .ok (.list (ds.map g)) := by
  unfold lcK
  rw [if_pos hl, lcD_map ds hb hf]; rfl
theorem lcK_N {f : FE} {δ : Ev} {g : PyData → PyData} {i : Nat} {ds : List PyData} (hl : ds.length ≤ 1000000) (hf : ∀ d ∈ ds, f (δ.set i (some d)) = .ok (g d)) : lcK (bN i) yesT f δ ds = .ok (.list (ds.map g)) :=
  lcK_map (e := fun d => δ.set i (some d)) hl (fun _ _ => rfl) hf
/-- with a test -/
theorem lcD_filter {b : FB} {t : FT} {f : FE} {δ : Ev} {p : PyData → Bool} {g : PyData → PyData} {e : PyData → Ev} : ∀ ds : List PyData, (∀ d ∈ ds, b d δ = some (e d)) → (∀ d ∈ ds, t (e d) = .ok (p d)) → (∀ d ∈ ds, p d = true → f (e d) = .ok (g d)) → lcD b t f δ ds = .ok ((ds.filter p).map g)
  | [], _, _, _ => rfl
  | d :: ds, hb, ht, hf => by
    have ih := lcD_filter ds (fun x hx => hb x (List.mem_cons_of_mem _ hx)) (fun x hx => ht x (List.mem_cons_of_mem _ hx)) fun x hx => hf x (List.mem_cons_of_mem _ hx)
    rw [lcD, hb d List.mem_cons_self]
    simp only
    rw [ht d List.mem_cons_self]
    cases hp : p d with
    | false =>
      rw [List.filter_cons_of_neg (by simp [hp])]
      exact ih
    | true =>
      rw [List.filter_cons_of_pos hp]
      simp only
      rw [hf d List.mem_cons_self hp, ih]; rfl
theorem lcK_filter {b : FB} {t : FT} {f : FE} {δ : Ev} {p : PyData → Bool} {g : PyData → PyData} {e : PyData → Ev} {ds : List PyData} (hl : ds.length ≤ 1000000) (hb : ∀ d ∈ ds, b d δ = some (e d)) (ht : ∀ d ∈ ds, t (e d) = .ok (p d)) (hf : ∀ d ∈ ds, p d = true → f (e d) = .ok (g d)) : lcK b t f δ ds = .ok (.list ((ds.filter p).map g)) := by
  unfold lcK
  rw [if_pos hl, lcD_filter ds hb ht hf]; rfl
theorem mem_rangeL {lo : Int} {n : Nat} {d : PyData} (h : d ∈ rangeL lo n) : ∃ i : Nat, i < n ∧ d = .int (lo + (i : Nat)) := by
  unfold rangeL at h
  obtain ⟨i, hi, rfl⟩ := List.mem_map.mp h
  exact ⟨i, List.mem_range.mp hi, rfl⟩
theorem rangeL_len (lo : Int) (n : Nat) : (rangeL lo n).length = n := by simp [rangeL]
/-! ### a for loop by what holds between two turns -/
theorem forD_inv {b : FB} {g : FS} (I : List PyData → Ev → Prop) (hs : ∀ d ds δ, I (d :: ds) δ → ∃ δ1 δ2, b d δ = some δ1 ∧ g δ1 = .nx δ2 ∧ I ds δ2) : ∀ ds δ, I ds δ → ∃ δ', forD b g ds δ = .nx δ' ∧ I [] δ'
  | [], δ, h => ⟨δ, rfl, h⟩
  | d :: ds, δ, h => by
    obtain ⟨δ1, δ2, h1, h2, h3⟩ := hs d ds δ h
    obtain ⟨δ', h4, h5⟩ := forD_inv I hs ds δ2 h3
    refine ⟨δ', ?_, h5⟩
    rw [forD, h1]
    simp only [h2]
    exact h4
/-- the same over range: at turn i -/
theorem forD_range {j : Nat} {g : FS} {lo : Int} (I : Nat → Ev → Prop) (n : Nat) (hs : ∀ i δ, i < n → I i δ → ∃ δ2, g (δ.set j (some (.int (lo + (i : Nat))))) = .nx δ2 ∧ I (i + 1) δ2) (δ : Ev) (h : I 0 δ) : ∃ δ', forD (bN j) g (rangeL lo n) δ = .nx δ' ∧ I n δ' := by
  have key : ∀ ds δ, (∃ i, i ≤ n ∧ ds = (rangeL lo n).drop i ∧ I i δ) → ∃ δ', forD (bN j) g ds δ = .nx δ' ∧ I n δ' := by
    intro ds δ h
    obtain ⟨δ', h1, i, hi, h2, h3⟩ := forD_inv (b := bN j) (g := g) (fun ds δ => ∃ i, i ≤ n ∧ ds = (rangeL lo n).drop i ∧ I i δ) (fun d ds δ ⟨i, hi, e, hI⟩ => by
      have hlt : i < n := by
        by_cases q : i < n
        · exact q
        · rw [List.drop_eq_nil_of_le (by rw [rangeL_len]; omega)] at e; cases e
      rw [List.drop_eq_getElem_cons (by rw [rangeL_len]; exact hlt)] at e
      injection e with e1 e2
      have e3 : d = .int (lo + (i : Nat)) := by rw [e1]; simp [rangeL]
      obtain ⟨δ2, h1, h2⟩ := hs i δ hlt hI
      exact ⟨_, δ2, by rw [e3]; rfl, h1, i + 1, hlt, e2, h2⟩) ds δ h
    have : i = n := by
      have e := congrArg List.length h2
      simp [rangeL] at e
      omega
    subst this
    exact ⟨δ', h1, h3⟩
  exact key _ δ ⟨0, Nat.zero_le _, rfl, h⟩
theorem str_inj (a b : String) : (Str.ofString a = Str.ofString b) = (a = b) := by
  apply propext
  constructor
  · intro h
    rw [Str.ofString_eq_toList, Str.ofString_eq_toList] at h
    have h1 : (a.toList.map Char.toNat).toArray = (b.toList.map Char.toNat).toArray := Str.mk.inj h
    have h2 : a.toList.map Char.toNat = b.toList.map Char.toNat := by simpa using h1
    have h3 : a.toList = b.toList := by
      refine List.map_inj_right (f := Char.toNat) (fun x y e => ?_) |>.mp h2
      exact Char.ext (UInt32.toNat_inj.mp e)
    exact String.toList_inj.mp h3
  · intro h; rw [h]
theorem li0 (x : PyData) (r : List PyData) : ixD (.list (x :: r)) (.int 0) = some x := ixL (j := 0) rfl (by simp)
theorem li1 (x y : PyData) (r : List PyData) : ixD (.list (x :: y :: r)) (.int 1) = some y := ixL (j := 1) rfl (by simp)
theorem li2 (x y z : PyData) (r : List PyData) : ixD (.list (x :: y :: z :: r)) (.int 2) = some z := ixL (j := 2) rfl (by simp)
theorem li3 (x y z u : PyData) (r : List PyData) : ixD (.list (x :: y :: z :: u :: r)) (.int 3) = some u := ixL (j := 3) rfl (by simp)
theorem li4 (x y z u v : PyData) (r : List PyData) : ixD (.list (x :: y :: z :: u :: v :: r)) (.int 4) = some v := ixL (j := 4) rfl (by simp)
/-! ### statements as data -/
def Fm.letters : Fm → List Str
  | .low => []
  | .lt w => [w]
  | .bin _ a b => a.letters ++ b.letters
theorem Fm.deep_pos : ∀ f : Fm, 1 ≤ f.deep
  | .low => by simp [deep]
  | .lt _ => by simp [deep]
  | .bin _ _ _ => by simp [deep]
theorem Fm.parts_pos : ∀ f : Fm, 1 ≤ f.parts
  | .low => by simp [parts]
  | .lt _ => by simp [parts]
  | .bin _ _ _ => by simp [parts]; omega
theorem kd_ok (k : Kd) : PyData.strOk k.str = true := by cases k <;> decide +kernel
theorem enc_lay : ∀ f : Fm, (∀ w ∈ f.letters, PyData.strOk w = true) → (enc f).canLay0 = true
  | .low, _ => by decide +kernel
  | .lt w, h => by
    have e : PyData.strOk "letter" = true := by decide +kernel
    simp only [enc, PyData.canLay0, PyData.canLayAll0, e, h w (by simp [Fm.letters]), Bool.and_self]
  | .bin k a b, h => by
    have h1 := enc_lay a fun w hw => h w (by simp [Fm.letters, hw])
    have h2 := enc_lay b fun w hw => h w (by simp [Fm.letters, hw])
    simp only [enc, PyData.canLay0, PyData.canLayAll0, kd_ok, h1, h2, Bool.and_self]
theorem enc_depth : ∀ f : Fm, (enc f).depth = f.deep
  | .low => rfl
  | .lt w => rfl
  | .bin k a b => by
    simp only [enc, PyData.depth, PyData.depthAll, enc_depth a, enc_depth b, Fm.deep]
    omega
theorem kd_inj {k l : Kd} (h : k.str = l.str) : k = l := by
  cases k <;> cases l <;> first | rfl | (simp only [Kd.str, str_inj, String.reduceEq] at h)
theorem eqv_t (xs ys : List PyData) : PyData.eqv (.tuple xs) (.tuple ys) = PyData.eqvAll xs ys := by rw [PyData.eqv]
theorem eqv_l (xs ys : List PyData) : PyData.eqv (.list xs) (.list ys) = PyData.eqvAll xs ys := by rw [PyData.eqv]
theorem eqv_s (x y : Str) : PyData.eqv (.str x) (.str y) = decide (x = y) := by rw [PyData.eqv]; rfl
theorem eqv_i (x y : Int) : PyData.eqv (.int x) (.int y) = decide (x = y) := by rw [PyData.eqv]; rfl
theorem eqv_b (x y : Bool) : PyData.eqv (.bool x) (.bool y) = decide (x = y) := by rw [PyData.eqv]; rfl
theorem eqv_n : PyData.eqv .none .none = true := by rw [PyData.eqv]
theorem eqvAll_c (x y : PyData) (xs ys : List PyData) : PyData.eqvAll (x :: xs) (y :: ys) = (PyData.eqv x y && PyData.eqvAll xs ys) := by rw [PyData.eqvAll]
theorem eqvAll_n : PyData.eqvAll [] [] = true := by rw [PyData.eqvAll]
theorem eqvAll_cn (x : PyData) (xs : List PyData) : PyData.eqvAll (x :: xs) [] = false := by rw [PyData.eqvAll]
theorem eqvAll_nc (x : PyData) (xs : List PyData) : PyData.eqvAll [] (x :: xs) = false := by rw [PyData.eqvAll]
theorem enc_eqv (f : Fm) : ∀ g : Fm, PyData.eqv (enc f) (enc g) = decide (f = g) := by
  induction f with
  | low =>
    intro g
    cases g with
    | low => simp only [enc, eqv_t, eqvAll_c, eqvAll_n, eqv_s, decide_true, Bool.and_self]
    | lt w => simp only [enc, eqv_t, eqvAll_c, eqvAll_nc, eqv_s, Bool.and_false, reduceCtorEq, decide_false]
    | bin k a b => simp only [enc, eqv_t, eqvAll_c, eqvAll_nc, eqv_s, Bool.and_false, reduceCtorEq, decide_false]
  | lt w =>
    intro g
    cases g with
    | low => simp only [enc, eqv_t, eqvAll_c, eqvAll_cn, eqv_s, Bool.and_false, reduceCtorEq, decide_false]
    | lt v => simp only [enc, eqv_t, eqvAll_c, eqvAll_n, eqv_s, decide_true, Bool.and_true, Bool.true_and, Fm.lt.injEq]
    | bin k a b => simp only [enc, eqv_t, eqvAll_c, eqvAll_nc, eqv_s, Bool.and_false, reduceCtorEq, decide_false]
  | bin k a b iha ihb =>
    intro g
    cases g with
    | low => simp only [enc, eqv_t, eqvAll_c, eqvAll_cn, eqv_s, Bool.and_false, reduceCtorEq, decide_false]
    | lt v => simp only [enc, eqv_t, eqvAll_c, eqvAll_cn, eqv_s, Bool.and_false, reduceCtorEq, decide_false]
    | bin l c d =>
      simp only [enc, eqv_t, eqvAll_c, eqvAll_n, eqv_s, iha, ihb, Bool.and_true, Fm.bin.injEq]
      by_cases h : k = l
      · subst h
        simp [Bool.decide_and]
      · have h' : k.str ≠ l.str := fun e => h (kd_inj e)
        simp [h, h']
theorem enc_shaped {f : Fm} (h : ∀ w ∈ f.letters, PyData.strOk w = true) (hd : f.deep ≤ 64) : SeqAt.shaped (enc f) = true := by
  unfold SeqAt.shaped
  rw [enc_lay f h, enc_depth]
  simpa using hd
theorem enc_eqD {f g : Fm} (h1 : ∀ w ∈ f.letters, PyData.strOk w = true) (h2 : ∀ w ∈ g.letters, PyData.strOk w = true) (d1 : f.deep ≤ 64) (d2 : g.deep ≤ 64) : eqD (enc f) (enc g) = some (.bool (decide (f = g))) := by
  unfold eqD eqOk
  rw [enc_shaped h1 d1, enc_shaped h2 d2, enc_eqv]
  simp
theorem enc_neD {f g : Fm} (h1 : ∀ w ∈ f.letters, PyData.strOk w = true) (h2 : ∀ w ∈ g.letters, PyData.strOk w = true) (d1 : f.deep ≤ 64) (d2 : g.deep ≤ 64) : neD (enc f) (enc g) = some (.bool (!decide (f = g))) := by
  unfold neD eqOk
  rw [enc_shaped h1 d1, enc_shaped h2 d2, enc_eqv]
  simp
theorem isiB_s (T : String) (x : Str) : isiB T (.str x) = isiS T "str" := rfl
theorem isiB_i (T : String) (x : Int) : isiB T (.int x) = isiS T "int" := rfl
theorem isiB_b (T : String) (x : Bool) : isiB T (.bool x) = isiS T "bool" := rfl
theorem isiB_l (T : String) (x : List PyData) : isiB T (.list x) = isiS T "list" := rfl
theorem isiB_t (T : String) (x : List PyData) : isiB T (.tuple x) = isiS T "tuple" := rfl
theorem isiB_n (T : String) : isiB T .none = isiS T "NoneType" := rfl
theorem bools_map : ∀ ys : List Bool, bools? (ys.map PyData.bool) = some ys
  | [] => rfl
  | y :: ys => by
    show (bools? (ys.map PyData.bool)).map (y :: ·) = _
    rw [bools_map ys]; rfl
theorem allD_ok (ys : List Bool) : allD [.list (ys.map PyData.bool)] = some (.bool (ys.all id)) := by
  show (bools? (ys.map PyData.bool)).map _ = _
  rw [bools_map]; rfl
theorem ints_map : ∀ ys : List Int, ints? (ys.map PyData.int) = some ys
  | [] => rfl
  | y :: ys => by
    show (ints? (ys.map PyData.int)).map (y :: ·) = _
    rw [ints_map ys]; rfl
theorem sumD_ok (ys : List Int) : sumD [.list (ys.map PyData.int)] = some (.int ys.sum) := by
  show (ints? (ys.map PyData.int)).map _ = _
  rw [ints_map]; rfl
theorem canLayAll_of : ∀ {xs : List PyData}, (∀ x ∈ xs, x.canLay0 = true) → PyData.canLayAll0 xs = true
  | [], _ => by rw [PyData.canLayAll0]
  | x :: xs, h => by rw [PyData.canLayAll0, h x List.mem_cons_self, canLayAll_of fun y hy => h y (List.mem_cons_of_mem _ hy)]; rfl
theorem depthAll_of {k : Nat} : ∀ {xs : List PyData}, (∀ x ∈ xs, x.depth ≤ k) → PyData.depthAll xs ≤ k
  | [], _ => by rw [PyData.depthAll]; exact Nat.zero_le _
  | x :: xs, h => by rw [PyData.depthAll]; exact Nat.max_le.mpr ⟨h x List.mem_cons_self, depthAll_of fun y hy => h y (List.mem_cons_of_mem _ hy)⟩
/-- data that may be compared -/
structure Sh (k : Nat) (d : PyData) : Prop where
  lay : d.canLay0 = true
  dep : d.depth ≤ k
theorem Sh.mono {k l : Nat} {d : PyData} (h : Sh k d) (e : k ≤ l) : Sh l d := ⟨h.lay, Nat.le_trans h.dep e⟩
theorem Sh.shaped {k : Nat} {d : PyData} (h : Sh k d) (e : k ≤ 64) : SeqAt.shaped d = true := by
  unfold SeqAt.shaped
  rw [h.lay]
  simpa using Nat.le_trans h.dep e
theorem Sh.list {k : Nat} {xs : List PyData} (h : ∀ x ∈ xs, Sh k x) : Sh (k + 1) (.list xs) := ⟨by rw [PyData.canLay0]; exact canLayAll_of fun x hx => (h x hx).lay, by rw [PyData.depth]; exact Nat.succ_le_succ (depthAll_of fun x hx => (h x hx).dep)⟩
theorem Sh.tuple {k : Nat} {xs : List PyData} (h : ∀ x ∈ xs, Sh k x) : Sh (k + 1) (.tuple xs) := ⟨by rw [PyData.canLay0]; exact canLayAll_of fun x hx => (h x hx).lay, by rw [PyData.depth]; exact Nat.succ_le_succ (depthAll_of fun x hx => (h x hx).dep)⟩
theorem Sh.int (k : Nat) (i : Int) : Sh k (.int i) := ⟨by rw [PyData.canLay0], by rw [PyData.depth]; exact Nat.zero_le _⟩
theorem Sh.bool (k : Nat) (i : Bool) : Sh k (.bool i) := ⟨by rw [PyData.canLay0], by rw [PyData.depth]; exact Nat.zero_le _⟩
theorem Sh.none (k : Nat) : Sh k .none := ⟨by rw [PyData.canLay0], by rw [PyData.depth]; exact Nat.zero_le _⟩
theorem Sh.str (k : Nat) {x : Str} (h : PyData.strOk x = true) : Sh k (.str x) := ⟨by rw [PyData.canLay0]; exact h, by rw [PyData.depth]; exact Nat.zero_le _⟩
theorem Sh.enc {k : Nat} {f : Fm} (h : ∀ w ∈ f.letters, PyData.strOk w = true) (hd : f.deep ≤ k) : Sh k (enc f) := ⟨enc_lay f h, by rw [enc_depth]; exact hd⟩
theorem eqD_of {k : Nat} {d e : PyData} (h1 : Sh k d) (h2 : Sh k e) (hk : k ≤ 64) : eqD d e = some (.bool (PyData.eqv d e)) := by
  unfold eqD eqOk
  rw [h1.shaped hk, h2.shaped hk]
  simp
theorem neD_of {k : Nat} {d e : PyData} (h1 : Sh k d) (h2 : Sh k e) (hk : k ≤ 64) : neD d e = some (.bool (!PyData.eqv d e)) := by
  unfold neD eqOk
  rw [h1.shaped hk, h2.shaped hk]
  simp
theorem ne_nil {k : Nat} {xs : List PyData} (h : Sh k (.list xs)) (hk : k ≤ 64) (h0 : 1 ≤ k) : neD (.list xs) (.list []) = some (.bool (!xs.isEmpty)) := by
  have h2 : Sh k (.list []) := (Sh.list (k := 0) (xs := []) fun x hx => by cases hx).mono h0
  rw [neD_of h h2 hk, eqv_l]
  cases xs with
  | nil => rw [eqvAll_n]; rfl
  | cons x xs => rw [eqvAll_cn]; rfl
theorem eq_nil {k : Nat} {xs : List PyData} (h : Sh k (.list xs)) (hk : k ≤ 64) (h0 : 1 ≤ k) : eqD (.list xs) (.list []) = some (.bool xs.isEmpty) := by
  have h2 : Sh k (.list []) := (Sh.list (k := 0) (xs := []) fun x hx => by cases hx).mono h0
  rw [eqD_of h h2 hk, eqv_l]
  cases xs with
  | nil => rw [eqvAll_n]; rfl
  | cons x xs => rw [eqvAll_cn]; rfl
/-- target = xs.pop(), the list ending with d -/
theorem pop_ok {i : Nat} {b : FB} {δ δ' : Ev} {S : List PyData} {d : PyData} (h : slotL i δ = some (S ++ [d])) (hb : b d (δ.set i (some (.list S))) = some δ') : popS i b δ = .nx δ' := by
  unfold popS
  rw [h]
  simp only [List.getLast?_append, List.getLast?_singleton, Option.some_or, List.dropLast_concat]
  rw [hb]
end Dl

namespace K_ken_k61_placed
open PySem Dl
abbrev Fx := List PyData → R PyData
abbrev Cl := Nat → Fx
def b_placed_r1 (f_placed : Fx) : FS :=
  (retS (mkT [(vr 3), (callF f_placed [(op2 ixD (vr 0) (cst (.int 1))), (vr 1), (vr 2)]), (callF f_placed [(op2 ixD (vr 0) (cst (.int 2))), (vr 1), (vr 2)])]))
def b_placed_r2 (f_placed : Fx) : FS :=
  (sq (ifS (orT (tst (op2 eqD (vr 3) (cst (.str "letter")))) (tst (op2 eqD (vr 3) (cst (.str "low"))))) (retS (vr 0)) skp) (b_placed_r1 f_placed))
/-- placed: 0 statement, 1 word, 2 other, 3 kind -/
def b_placed (f_placed : Fx) : FS :=
  (sq (setS 3 (op2 ixD (vr 0) (cst (.int 0)))) (sq (ifS (andT (tst (op2 eqD (vr 3) (cst (.str "letter")))) (tst (op2 eqD (op2 ixD (vr 0) (cst (.int 1))) (vr 1)))) (retS (vr 2)) skp) (b_placed_r2 f_placed)))
/-- _law_mix: 0 _law_cell_here, 1 _law_k, 2 _law_first -/
def b__law_mix : FS :=
  (sq (setS 2 (op2 modD (op2 mulD (op2 addD (vr 0) (cst (.int 1))) (op2 addD (cst (.int 48271)) (op2 mulD (cst (.int 118)) (vr 1)))) (cst (.int 2147483629)))) (retS (op2 modD (op2 addD (op2 addD (op2 mulD (op2 fdivD (vr 2) (cst (.int 977))) (cst (.int 16807))) (op2 mulD (vr 2) (op2 addD (op2 mulD (vr 1) (vr 1)) (cst (.int 7))))) (vr 1)) (cst (.int 2147483587)))))
def b__law_cell_r1 (f_law_mix : Fx) : FS :=
  (retS (callF f_law_mix [(vr 2), (op2 addD (vr 1) (cst (.int 101)))]))
/-- _law_cell: 0 _law_script, 1 _law_k, 2 _law_cell_here -/
def b__law_cell (f_law_mix : Fx) : FS :=
  (sq (setS 2 (cst (.int 0))) (sq (ifS (tst (op2 ltD (vr 1) (cal lenD [(vr 0)]))) (setS 2 (op2 modD (op2 ixD (vr 0) (vr 1)) (cst (.int 2147483647)))) skp) (b__law_cell_r1 f_law_mix)))
def b__law_words_l1 (f_law_mix : Fx) : FS :=
  (sq (setS 9 (op2 ixD (vr 1) (op2 modD (op2 addD (vr 7) (op2 mulD (cst (.int 7)) (vr 6))) (cst (.int 26))))) (appS 8 (op2 addD (op2 addD (slc (vr 4) noP (prt (vr 3))) (vr 9)) (slc (vr 4) (prt (op2 addD (vr 3) (cst (.int 1)))) noP))))
def b__law_words_r1 (f_law_mix : Fx) : FS :=
  (retS (vr 8))
def b__law_words_r2 (f_law_mix : Fx) : FS :=
  (sq (setS 7 (op2 modD (op2 fdivD (vr 0) (cst (.int 128))) (cst (.int 26)))) (sq (setS 8 (mkL [])) (sq (forS (itR [(op2 addD (cst (.int 2)) (op2 modD (op2 fdivD (vr 0) (cst (.int 4096))) (cst (.int 3))))]) (bN 6) (b__law_words_l1 f_law_mix)) (b__law_words_r1 f_law_mix))))
/-- _law_words: 0 _law_cell_here, 1 _law_small, 2 _law_size, 3 _law_at, 4 _law_stem, 5 _law_signs, 6 _law_k, 7 _law_first, 8 _law_found, 9 _law_sign -/
def b__law_words (f_law_mix : Fx) : FS :=
  (sq (setS 1 (cst (.str "abcdefghijklmnopqrstuvwxyz"))) (sq (setS 2 (op2 addD (cst (.int 1)) (op2 modD (vr 0) (cst (.int 8))))) (sq (setS 3 (op2 modD (op2 fdivD (vr 0) (cst (.int 8))) (vr 2))) (sq (setS 4 (op2 mulD (cst (.str "k")) (vr 2))) (sq (ifS (tst (op2 eqD (op2 modD (op2 fdivD (vr 0) (cst (.int 64))) (cst (.int 2))) (cst (.int 0)))) (sq (setS 5 (lcF [6] (itR [(vr 2)]) (bN 6) yesT (op2 ixD (vr 1) (op2 modD (callF f_law_mix [(vr 0), (op2 addD (cst (.int 60)) (vr 6))]) (cst (.int 26)))))) (setS 4 (un1 (joinD "") (vr 5)))) skp) (b__law_words_r2 f_law_mix))))))
def b__law_statement_r1 (f_law_mix : Fx) (f_law_statement : Fx) : FS :=
  (sq (setS 4 (op2 addD (cst (.int 1)) (op2 mulD (op2 modD (op2 fdivD (vr 0) (cst (.int 5))) (op2 fdivD (op2 subD (vr 1) (cst (.int 1))) (cst (.int 2)))) (cst (.int 2))))) (sq (setS 5 (callF f_law_statement [(callF f_law_mix [(vr 0), (cst (.int 2))]), (vr 4), (vr 2)])) (retS (mkT [(vr 3), (vr 5), (callF f_law_statement [(callF f_law_mix [(vr 0), (cst (.int 3))]), (op2 subD (op2 subD (vr 1) (cst (.int 1))) (vr 4)), (vr 2)])]))))
def b__law_statement_r2 (f_law_mix : Fx) (f_law_statement : Fx) : FS :=
  (sq (setS 3 (op2 ixD (mkL [(cst (.str "both")), (cst (.str "one")), (cst (.str "then")), (cst (.str "then")), (cst (.str "not"))]) (op2 modD (vr 0) (cst (.int 5))))) (sq (ifS (tst (op2 eqD (vr 3) (cst (.str "not")))) (retS (mkT [(cst (.str "then")), (callF f_law_statement [(callF f_law_mix [(vr 0), (cst (.int 1))]), (op2 subD (vr 1) (cst (.int 2))), (vr 2)]), (mkT [(cst (.str "low"))])])) skp) (b__law_statement_r1 f_law_mix f_law_statement)))
/-- _law_statement: 0 _law_cell_here, 1 _law_many, 2 _law_words_here, 3 _law_form, 4 _law_first, 5 _law_one -/
def b__law_statement (f_law_mix : Fx) (f_law_statement : Fx) : FS :=
  (sq (ifS (tst (op2 ltD (vr 1) (cst (.int 3)))) (sq (ifS (tst (op2 eqD (op2 modD (vr 0) (cst (.int 6))) (cst (.int 0)))) (retS (mkT [(cst (.str "low"))])) skp) (retS (mkT [(cst (.str "letter")), (op2 ixD (vr 2) (op2 modD (op2 fdivD (vr 0) (cst (.int 6))) (cal lenD [(vr 2)])))]))) skp) (b__law_statement_r2 f_law_mix f_law_statement))
def b__law_same_r1 (f_law_same : Fx) : FS :=
  (retS (andV (op2 eqD (cal lenD [(vr 0)]) (cal lenD [(vr 1)])) (cal allD [(lcF [2, 3] (itZA (vr 0) (vr 1)) (bT [2, 3]) yesT (callF f_law_same [(vr 2), (vr 3)]))])))
def b__law_same_r2 (f_law_same : Fx) : FS :=
  (sq (ifS (tst (isiF "list" (vr 1))) (ifS (notT (tst (isiF "list" (vr 0)))) (retS (cst (.bool false))) skp) (ifS (notT (tst (isiF "tuple" (vr 0)))) (retS (cst (.bool false))) skp)) (b__law_same_r1 f_law_same))
def b__law_same_r3 (f_law_same : Fx) : FS :=
  (sq (ifS (tst (isiF "int" (vr 1))) (retS (andV (isiF "int" (vr 0)) (andV (notV (isiF "bool" (vr 0))) (op2 eqD (vr 0) (vr 1))))) skp) (b__law_same_r2 f_law_same))
def b__law_same_r4 (f_law_same : Fx) : FS :=
  (sq (ifS (tst (isiF "str" (vr 1))) (retS (andV (isiF "str" (vr 0)) (op2 eqD (vr 0) (vr 1)))) skp) (b__law_same_r3 f_law_same))
/-- _law_same: 0 _law_found, 1 _law_due, 2 _law_here, 3 _law_there -/
def b__law_same (f_law_same : Fx) : FS :=
  (sq (ifS (tst (op2 isD (vr 1) (cst .none))) (retS (op2 isD (vr 0) (cst .none))) skp) (b__law_same_r4 f_law_same))
def b__law_fits_l1 (f_law_same : Fx) : FS :=
  (sq (popS 4 (bT [5, 6])) (ifS (tst (op2 eqD (vr 6) (mkT [(cst (.str "letter")), (vr 2)]))) (ifS (notT (tst (callF f_law_same [(vr 5), (vr 3)]))) (retS (cst (.bool false))) skp) (ifS (tst (op2 ltD (cal lenD [(vr 6)]) (cst (.int 3)))) (ifS (notT (tst (callF f_law_same [(vr 5), (vr 6)]))) (retS (cst (.bool false))) skp) (ifS (orT (notT (tst (isiF "tuple" (vr 5)))) (orT (tst (op2 neD (cal lenD [(vr 5)]) (cst (.int 3)))) (notT (tst (callF f_law_same [(op2 ixD (vr 5) (cst (.int 0))), (op2 ixD (vr 6) (cst (.int 0)))]))))) (retS (cst (.bool false))) (sq (appS 4 (mkT [(op2 ixD (vr 5) (cst (.int 1))), (op2 ixD (vr 6) (cst (.int 1)))])) (appS 4 (mkT [(op2 ixD (vr 5) (cst (.int 2))), (op2 ixD (vr 6) (cst (.int 2)))])))))))
def b__law_fits_r1 (f_law_same : Fx) : FS :=
  (retS (cst (.bool true)))
/-- _law_fits: 0 _law_found, 1 _law_statement_here, 2 _law_word, 3 _law_other, 4 _law_todo, 5 _law_here, 6 _law_there -/
def b__law_fits (f_law_same : Fx) : FS :=
  (sq (setS 4 (mkL [(mkT [(vr 0), (vr 1)])])) (sq (whD (tst (op2 neD (vr 4) (mkL []))) (b__law_fits_l1 f_law_same) 1000000000) (b__law_fits_r1 f_law_same)))
def b_law_l1 (f_law_cell : Fx) (f_law_words : Fx) (f_law_statement : Fx) (f_law_mix : Fx) (f_placed : Fx) (f_law_fits : Fx) : FS :=
  (sq (setS 6 (callF f_law_mix [(callF f_law_cell [(vr 0), (vr 5)]), (vr 5)])) (appS 4 (callF f_law_statement [(callF f_law_mix [(vr 6), (cst (.int 1))]), (op2 addD (cst (.int 1)) (op2 mulD (cst (.int 2)) (op2 modD (vr 6) (cst (.int 2))))), (vr 1)])))
def b_law_l2 (f_law_cell : Fx) (f_law_words : Fx) (f_law_statement : Fx) (f_law_mix : Fx) (f_placed : Fx) (f_law_fits : Fx) : FS :=
  (sq (setS 9 (callF f_placed [(vr 2), (vr 3), (vr 8)])) (sq (ifS (notT (tst (callF f_law_fits [(vr 9), (vr 2), (vr 3), (vr 8)]))) (retS (cst (.bool false))) skp) (appS 7 (vr 9))))
def b_law_l3 (f_law_cell : Fx) (f_law_words : Fx) (f_law_statement : Fx) (f_law_mix : Fx) (f_placed : Fx) (f_law_fits : Fx) : FS :=
  (ifS (tst (op2 neD (callF f_placed [(vr 2), (vr 3), (vr 8)]) (vr 9))) (retS (cst (.bool false))) skp)
def b_law_r1 (f_law_cell : Fx) (f_law_words : Fx) (f_law_statement : Fx) (f_law_mix : Fx) (f_placed : Fx) (f_law_fits : Fx) : FS :=
  (retS (op2 eqD (op2 ixD (vr 7) (cst (.int 0))) (vr 2)))
def b_law_r2 (f_law_cell : Fx) (f_law_words : Fx) (f_law_statement : Fx) (f_law_mix : Fx) (f_placed : Fx) (f_law_fits : Fx) : FS :=
  (sq (forS (itZA (vr 4) (vr 7)) (bT [8, 9]) (b_law_l3 f_law_cell f_law_words f_law_statement f_law_mix f_placed f_law_fits)) (b_law_r1 f_law_cell f_law_words f_law_statement f_law_mix f_placed f_law_fits))
def b_law_r3 (f_law_cell : Fx) (f_law_words : Fx) (f_law_statement : Fx) (f_law_mix : Fx) (f_placed : Fx) (f_law_fits : Fx) : FS :=
  (sq (setS 7 (mkL [])) (sq (forS (itL (vr 4)) (bN 8) (b_law_l2 f_law_cell f_law_words f_law_statement f_law_mix f_placed f_law_fits)) (b_law_r2 f_law_cell f_law_words f_law_statement f_law_mix f_placed f_law_fits)))
/-- law: 0 _law_script, 1 _law_words_here, 2 _law_statement_here, 3 _law_word, 4 _law_others, 5 _law_k, 6 _law_cell_here, 7 _law_told, 8 _law_other, 9 _law_found -/
def b_law (f_law_cell : Fx) (f_law_words : Fx) (f_law_statement : Fx) (f_law_mix : Fx) (f_placed : Fx) (f_law_fits : Fx) : FS :=
  (sq (setS 1 (callF f_law_words [(callF f_law_cell [(vr 0), (cst (.int 0))])])) (sq (setS 2 (callF f_law_statement [(callF f_law_cell [(vr 0), (cst (.int 1))]), (op2 addD (cst (.int 1)) (op2 mulD (cst (.int 2)) (op2 modD (callF f_law_cell [(vr 0), (cst (.int 2))]) (cst (.int 31))))), (vr 1)])) (sq (setS 3 (op2 ixD (op2 addD (vr 1) (mkL [(cst (.str "q"))])) (op2 modD (op2 fdivD (callF f_law_cell [(vr 0), (cst (.int 0))]) (cst (.int 7))) (op2 addD (cal lenD [(vr 1)]) (cst (.int 1)))))) (sq (setS 4 (mkL [(mkT [(cst (.str "letter")), (vr 3)])])) (sq (forS (itR [(cst (.int 3)), (cal minD [(cst (.int 9)), (cal lenD [(vr 0)])])]) (bN 5) (b_law_l1 f_law_cell f_law_words f_law_statement f_law_mix f_placed f_law_fits)) (b_law_r3 f_law_cell f_law_words f_law_statement f_law_mix f_placed f_law_fits))))))
def bodies (c : Cl) : Cl
  | 0 => runF 4 (b_placed (c 0))
  | 1 => runF 3 (b__law_mix)
  | 2 => runF 3 (b__law_cell (c 1))
  | 3 => runF 10 (b__law_words (c 1))
  | 4 => runF 6 (b__law_statement (c 1) (c 4))
  | 5 => runF 4 (b__law_same (c 5))
  | 6 => runF 7 (b__law_fits (c 5))
  | 7 => runF 10 (b_law (c 2) (c 3) (c 4) (c 1) (c 0) (c 6))
  | _ => fun _ => .bad
def den : Nat → Cl
  | 0 => fun _ _ => .bad
  | n + 1 => bodies (den n)
end K_ken_k61_placed

namespace K_ken_k61_placed
open PySem PySem.Spec PyProof.Rows L2 Dl
def top (i : Nat) : Stmt := PySem.Challenge.pw_ken_k61_placed.main.body.getD i (.Pass ⟨0, 0, 0, 0⟩)
abbrev FnP (K : PySem.W.Frag) (x : Str) (st : Stmt) (f : Addr) (fd : FuncData) : Prop := FunD K x x (defArgs st) (defBody st) (defScope st) [] [] f fd
abbrev N_placed : List Str := ["statement", "word", "other", "kind"]
theorem sc_placed : FnScope N_placed ["statement", "word", "other"] (defScope (top 1)) := ⟨rfl, rfl, rfl, by decide +kernel, rfl, by decide +kernel, by decide +kernel⟩
abbrev N__law_mix : List Str := ["_law_cell_here", "_law_k", "_law_first"]
theorem sc__law_mix : FnScope N__law_mix ["_law_cell_here", "_law_k"] (defScope (top 3)) := ⟨rfl, rfl, rfl, by decide +kernel, rfl, by decide +kernel, by decide +kernel⟩
abbrev N__law_cell : List Str := ["_law_script", "_law_k", "_law_cell_here"]
theorem sc__law_cell : FnScope N__law_cell ["_law_script", "_law_k"] (defScope (top 4)) := ⟨rfl, rfl, rfl, by decide +kernel, rfl, by decide +kernel, by decide +kernel⟩
abbrev N__law_words : List Str := ["_law_cell_here", "_law_small", "_law_size", "_law_at", "_law_stem", "_law_signs", "_law_k", "_law_first", "_law_found", "_law_sign"]
theorem sc__law_words : FnScope N__law_words ["_law_cell_here"] (defScope (top 5)) := ⟨rfl, rfl, rfl, by decide +kernel, rfl, by decide +kernel, by decide +kernel⟩
abbrev N__law_statement : List Str := ["_law_cell_here", "_law_many", "_law_words_here", "_law_form", "_law_first", "_law_one"]
theorem sc__law_statement : FnScope N__law_statement ["_law_cell_here", "_law_many", "_law_words_here"] (defScope (top 6)) := ⟨rfl, rfl, rfl, by decide +kernel, rfl, by decide +kernel, by decide +kernel⟩
abbrev N__law_same : List Str := ["_law_found", "_law_due", "_law_here", "_law_there"]
theorem sc__law_same : FnScope N__law_same ["_law_found", "_law_due"] (defScope (top 7)) := ⟨rfl, rfl, rfl, by decide +kernel, rfl, by decide +kernel, by decide +kernel⟩
abbrev N__law_fits : List Str := ["_law_found", "_law_statement_here", "_law_word", "_law_other", "_law_todo", "_law_here", "_law_there"]
theorem sc__law_fits : FnScope N__law_fits ["_law_found", "_law_statement_here", "_law_word", "_law_other"] (defScope (top 8)) := ⟨rfl, rfl, rfl, by decide +kernel, rfl, by decide +kernel, by decide +kernel⟩
abbrev N_law : List Str := ["_law_script", "_law_words_here", "_law_statement_here", "_law_word", "_law_others", "_law_k", "_law_cell_here", "_law_told", "_law_other", "_law_found"]
theorem sc_law : FnScope N_law ["_law_script"] (defScope (top 9)) := ⟨rfl, rfl, rfl, by decide +kernel, rfl, by decide +kernel, by decide +kernel⟩
/-- what the top has left -/
structure Txt (K : PySem.W.Frag) (mg : Str → Option Value) (fd : Nat → FuncData) : Prop where
  f_placed : FnP K "placed" (top 1) (He.ga K "placed") (fd 0)
  g_placed : mg "placed" = some (.ref (He.ga K "placed"))
  k_placed : PySem.W.keepIn K (.ref (He.ga K "placed")) = true
  b_placed : Binds K (fd 0) ["statement", "word", "other"] []
  f__law_mix : FnP K "_law_mix" (top 3) (He.ga K "_law_mix") (fd 1)
  g__law_mix : mg "_law_mix" = some (.ref (He.ga K "_law_mix"))
  k__law_mix : PySem.W.keepIn K (.ref (He.ga K "_law_mix")) = true
  b__law_mix : Binds K (fd 1) ["_law_cell_here", "_law_k"] []
  f__law_cell : FnP K "_law_cell" (top 4) (He.ga K "_law_cell") (fd 2)
  g__law_cell : mg "_law_cell" = some (.ref (He.ga K "_law_cell"))
  k__law_cell : PySem.W.keepIn K (.ref (He.ga K "_law_cell")) = true
  b__law_cell : Binds K (fd 2) ["_law_script", "_law_k"] []
  f__law_words : FnP K "_law_words" (top 5) (He.ga K "_law_words") (fd 3)
  g__law_words : mg "_law_words" = some (.ref (He.ga K "_law_words"))
  k__law_words : PySem.W.keepIn K (.ref (He.ga K "_law_words")) = true
  b__law_words : Binds K (fd 3) ["_law_cell_here"] []
  f__law_statement : FnP K "_law_statement" (top 6) (He.ga K "_law_statement") (fd 4)
  g__law_statement : mg "_law_statement" = some (.ref (He.ga K "_law_statement"))
  k__law_statement : PySem.W.keepIn K (.ref (He.ga K "_law_statement")) = true
  b__law_statement : Binds K (fd 4) ["_law_cell_here", "_law_many", "_law_words_here"] []
  f__law_same : FnP K "_law_same" (top 7) (He.ga K "_law_same") (fd 5)
  g__law_same : mg "_law_same" = some (.ref (He.ga K "_law_same"))
  k__law_same : PySem.W.keepIn K (.ref (He.ga K "_law_same")) = true
  b__law_same : Binds K (fd 5) ["_law_found", "_law_due"] []
  f__law_fits : FnP K "_law_fits" (top 8) (He.ga K "_law_fits") (fd 6)
  g__law_fits : mg "_law_fits" = some (.ref (He.ga K "_law_fits"))
  k__law_fits : PySem.W.keepIn K (.ref (He.ga K "_law_fits")) = true
  b__law_fits : Binds K (fd 6) ["_law_found", "_law_statement_here", "_law_word", "_law_other"] []
  f_law : FnP K "law" (top 9) (He.ga K "law") (fd 7)
  g_law : mg "law" = some (.ref (He.ga K "law"))
  k_law : PySem.W.keepIn K (.ref (He.ga K "law")) = true
  b_law : Binds K (fd 7) ["_law_script"] []
  z_all : mg "all" = none
  z_bool : mg "bool" = none
  z_int : mg "int" = none
  z_isinstance : mg "isinstance" = none
  z_len : mg "len" = none
  z_list : mg "list" = none
  z_min : mg "min" = none
  z_range : mg "range" = none
  z_str : mg "str" = none
  z_tuple : mg "tuple" = none
  z_zip : mg "zip" = none
section
variable {P : Program} {w : World} {K : PySem.W.Frag} {mg : Str → Option Value} {base : Heap} {fd : Nat → FuncData}
structure OkN (P : Program) (w : World) (K : PySem.W.Frag) (mg : Str → Option Value) (base : Heap) (fd : Nat → FuncData) (n : Nat) : Prop where
  h_placed : FnR P w K mg base n (He.ga K "placed") (fd 0) ["statement", "word", "other"] (spD K false 3 (den n 0))
  h__law_mix : FnR P w K mg base n (He.ga K "_law_mix") (fd 1) ["_law_cell_here", "_law_k"] (spD K false 2 (den n 1))
  h__law_cell : FnR P w K mg base n (He.ga K "_law_cell") (fd 2) ["_law_script", "_law_k"] (spD K false 2 (den n 2))
  h__law_words : FnR P w K mg base n (He.ga K "_law_words") (fd 3) ["_law_cell_here"] (spD K false 1 (den n 3))
  h__law_statement : FnR P w K mg base n (He.ga K "_law_statement") (fd 4) ["_law_cell_here", "_law_many", "_law_words_here"] (spD K false 3 (den n 4))
  h__law_same : FnR P w K mg base n (He.ga K "_law_same") (fd 5) ["_law_found", "_law_due"] (spD K false 2 (den n 5))
  h__law_fits : FnR P w K mg base n (He.ga K "_law_fits") (fd 6) ["_law_found", "_law_statement_here", "_law_word", "_law_other"] (spD K false 4 (den n 6))
  h_law : FnR P w K mg base n (He.ga K "law") (fd 7) ["_law_script"] (spD K false 1 (den n 7))
theorem ok_placed {n : Nat} (T : Txt K mg fd) (IH : OkN P w K mg base fd n) : FnR P w K mg base (n + 1) (He.ga K "placed") (fd 0) ["statement", "word", "other"] (spD K false 3 (runF 4 (b_placed (den n 0)))) := by
  refine fnD T.f_placed sc_placed rfl rfl fun cdv A outer s H E hr tk ps => ⟨[], ?_⟩
  have nd := sc_placed.nd
  exact (dss_cons (O1 := []) (ds_set (ps_set (i := 3) nd rfl (Or.inl rfl) (de_ix (e2b (de_var (pv 0) (by decide))) (e2b (de_cst pe_int rfl)))))
      (dss_cons (O1 := []) (ds_if (w2t (dw_and (dt_cmp (od_eq hr.units) (e2b (de_var (pv 3) (by decide))) (e2b (de_cst pe_str rfl))) (dw_and1 (dt_cmp (od_eq hr.units) (e2b (de_ix (e2b (de_var (pv 0) (by decide))) (e2b (de_cst pe_int rfl)))) (e2b (de_var (pv 1) (by decide))))))) (dss_one (ds_ret (de_var (pv 2) (by decide)))) dss_nil)
      (dss_cons (O1 := []) (ds_if (w2t (dw_or (dt_cmp (od_eq hr.units) (e2b (de_var (pv 3) (by decide))) (e2b (de_cst pe_str rfl))) (dw_or1 (dt_cmp (od_eq hr.units) (e2b (de_var (pv 3) (by decide))) (e2b (de_cst pe_str rfl)))))) (dss_one (ds_ret (de_var (pv 0) (by decide)))) dss_nil)
      (dss_one (ds_ret (de_tup (da_cons (de_var (pv 3) (by decide)) (da_cons (de_call IH.h_placed hr (by rfl) T.g_placed T.k_placed T.b_placed tk (da_cons (de_ix (e2b (de_var (pv 0) (by decide))) (e2b (de_cst pe_int rfl))) (da_cons (de_var (pv 1) (by decide)) (da_cons (de_var (pv 2) (by decide)) da_nil)))) (da_cons (de_call IH.h_placed hr (by rfl) T.g_placed T.k_placed T.b_placed tk (da_cons (de_ix (e2b (de_var (pv 0) (by decide))) (e2b (de_cst pe_int rfl))) (da_cons (de_var (pv 1) (by decide)) (da_cons (de_var (pv 2) (by decide)) da_nil)))) da_nil)))))))))
theorem ok__law_mix {n : Nat} (T : Txt K mg fd) (IH : OkN P w K mg base fd n) : FnR P w K mg base (n + 1) (He.ga K "_law_mix") (fd 1) ["_law_cell_here", "_law_k"] (spD K false 2 (runF 3 (b__law_mix))) := by
  refine fnD T.f__law_mix sc__law_mix rfl rfl fun cdv A outer s H E hr tk ps => ⟨[], ?_⟩
  have nd := sc__law_mix.nd
  exact (dss_cons (O1 := []) (ds_set (ps_set (i := 2) nd rfl (Or.inl rfl) (de_op od_mod (e2b (de_op od_mul (e2b (de_op od_add (e2b (de_var (pv 0) (by decide))) (e2b (de_cst pe_int rfl)))) (e2b (de_op od_add (e2b (de_cst pe_int rfl)) (e2b (de_op od_mul (e2b (de_cst pe_int rfl)) (e2b (de_var (pv 1) (by decide))))))))) (e2b (de_cst pe_int rfl)))))
      (dss_one (ds_ret (de_op od_mod (e2b (de_op od_add (e2b (de_op od_add (e2b (de_op od_mul (e2b (de_op od_fdiv (e2b (de_var (pv 2) (by decide))) (e2b (de_cst pe_int rfl)))) (e2b (de_cst pe_int rfl)))) (e2b (de_op od_mul (e2b (de_var (pv 2) (by decide))) (e2b (de_op od_add (e2b (de_op od_mul (e2b (de_var (pv 1) (by decide))) (e2b (de_var (pv 1) (by decide))))) (e2b (de_cst pe_int rfl)))))))) (e2b (de_var (pv 1) (by decide))))) (e2b (de_cst pe_int rfl))))))
theorem ok__law_cell {n : Nat} (T : Txt K mg fd) (IH : OkN P w K mg base fd n) : FnR P w K mg base (n + 1) (He.ga K "_law_cell") (fd 2) ["_law_script", "_law_k"] (spD K false 2 (runF 3 (b__law_cell (den n 1)))) := by
  refine fnD T.f__law_cell sc__law_cell rfl rfl fun cdv A outer s H E hr tk ps => ⟨[], ?_⟩
  have nd := sc__law_cell.nd
  exact (dss_cons (O1 := []) (ds_set (ps_set (i := 2) nd rfl (Or.inl rfl) (de_cst pe_int rfl)))
      (dss_cons (O1 := []) (ds_if (dt_cmp od_lt (e2b (de_var (pv 1) (by decide))) (e2b (dx_callB relE_ok cd_len (by rfl) T.z_len boot_len (dab_cons (e2b (de_var (pv 0) (by decide))) dab_nil)))) (dss_one (ds_set (ps_set (i := 2) nd rfl (Or.inl rfl) (de_op od_mod (e2b (de_ix (e2b (de_var (pv 0) (by decide))) (e2b (de_var (pv 1) (by decide))))) (e2b (de_cst pe_int rfl)))))) dss_nil)
      (dss_one (ds_ret (de_call IH.h__law_mix hr (by rfl) T.g__law_mix T.k__law_mix T.b__law_mix tk (da_cons (de_var (pv 2) (by decide)) (da_cons (de_op od_add (e2b (de_var (pv 1) (by decide))) (e2b (de_cst pe_int rfl))) da_nil)))))))
theorem ok__law_words {n : Nat} (T : Txt K mg fd) (IH : OkN P w K mg base fd n) : FnR P w K mg base (n + 1) (He.ga K "_law_words") (fd 3) ["_law_cell_here"] (spD K false 1 (runF 10 (b__law_words (den n 1)))) := by
  refine fnD T.f__law_words sc__law_words rfl rfl fun cdv A outer s H E hr tk ps => ⟨[], ?_⟩
  have nd := sc__law_words.nd
  exact (dss_cons (O1 := []) (ds_set (ps_set (i := 1) nd rfl (Or.inr rfl) (de_cst pe_str rfl)))
      (dss_cons (O1 := []) (ds_set (ps_set (i := 2) nd rfl (Or.inl rfl) (de_op od_add (e2b (de_cst pe_int rfl)) (e2b (de_op od_mod (e2b (de_var (pv 0) (by decide))) (e2b (de_cst pe_int rfl)))))))
      (dss_cons (O1 := []) (ds_set (ps_set (i := 3) nd rfl (Or.inl rfl) (de_op od_mod (e2b (de_op od_fdiv (e2b (de_var (pv 0) (by decide))) (e2b (de_cst pe_int rfl)))) (e2b (de_var (pv 2) (by decide))))))
      (dss_cons (O1 := []) (ds_set (ps_set (i := 4) nd rfl (Or.inl rfl) (de_op od_mul (e2b (de_cst pe_str rfl)) (e2b (de_var (pv 2) (by decide))))))
      (dss_cons (O1 := []) (ds_if (dt_cmp (od_eq hr.units) (e2b (de_op od_mod (e2b (de_op od_fdiv (e2b (de_var (pv 0) (by decide))) (e2b (de_cst pe_int rfl)))) (e2b (de_cst pe_int rfl)))) (e2b (de_cst pe_int rfl))) (dss_cons (O1 := []) (ds_set (asg_f2e (lc_asg (vs := [6]) (is := [6]) (ps_setLc (i := 5) (own := [("_law_k", 6)]) rfl nd rfl rfl (sw_true rfl rfl rfl (by decide +kernel)) (dx_range1 (by rfl) T.z_range (dab_cons (e2b (de_var (pv 2) (by decide))) dab_nil) (fun _ h => pi_range1 (by rfl) T.z_range h)) (blkOk_by (own := [("_law_k", 6)]) (N := N__law_words) (sc := defScope (top 5)) (by decide +kernel)) (fun _ _ _ _ _ => (dg_name (pg_name (i := 6) nd rfl (by first | exact Or.inl rfl | exact Or.inr rfl)))) (fun _ _ _ _ _ => dts_nil) (fun _ _ _ _ _ => (de_ix (e2b (de_var (pv 1) (by decide))) (e2b (de_op od_mod (e2b (de_call IH.h__law_mix hr (by rfl) T.g__law_mix T.k__law_mix T.b__law_mix takes0 (da_cons (de_var (pv 0) (by decide)) (da_cons (de_op od_add (e2b (de_cst pe_int rfl)) (e2b (de_var (pv 6) (by decide)))) da_nil)))) (e2b (de_cst pe_int rfl))))))))))
      (dss_one (ds_set (ps_set (i := 4) nd rfl (Or.inl rfl) (de_join pe_str (e2b (de_var (pv 5) (by decide)))))))) dss_nil)
      (dss_cons (O1 := []) (ds_set (ps_set (i := 7) nd rfl (Or.inl rfl) (de_op od_mod (e2b (de_op od_fdiv (e2b (de_var (pv 0) (by decide))) (e2b (de_cst pe_int rfl)))) (e2b (de_cst pe_int rfl)))))
      (dss_cons (O1 := [8]) (ds_setF (O' := [8]) (ps_set (i := 8) nd rfl (Or.inl rfl) (df_lst da_nil)))
      (dss_cons (O1 := []) (ds_end (O' := [8]) (O2 := []) (ds_for ps rfl (dx_range1 (by rfl) T.z_range (dab_cons (e2b (de_op od_add (e2b (de_cst pe_int rfl)) (e2b (de_op od_mod (e2b (de_op od_fdiv (e2b (de_var (pv 0) (by decide))) (e2b (de_cst pe_int rfl)))) (e2b (de_cst pe_int rfl)))))) dab_nil) (fun _ h => pi_range1 (by rfl) T.z_range h)) (dg_name (pg_name (i := 6) nd rfl (by first | exact Or.inl rfl | exact Or.inr rfl))) (dss_cons (O1 := [8]) (ds_set (ps_set (i := 9) nd rfl (Or.inl rfl) (de_ix (e2b (de_var (pv 1) (by decide))) (e2b (de_op od_mod (e2b (de_op od_add (e2b (de_var (pv 7) (by decide))) (e2b (de_op od_mul (e2b (de_cst pe_int rfl)) (e2b (de_var (pv 6) (by decide))))))) (e2b (de_cst pe_int rfl)))))))
      (dss_one (ds_app (ps_expr (pe_bm PySem.F.plainAttrs_list PySem.F.slot_list_append PySem.F.type_list_append mt_append (pv 8) (pa_cons (de_op od_add (e2b (de_op od_add (e2b (de_slc (e2b (de_var (pv 4) (by decide))) do_none (do_some (e2b (de_var (pv 3) (by decide)))))) (e2b (de_var (pv 9) (by decide))))) (e2b (de_slc (e2b (de_var (pv 4) (by decide))) (do_some (e2b (de_op od_add (e2b (de_var (pv 3) (by decide))) (e2b (de_cst pe_int rfl))))) do_none))) pa_nil))))))))
      (dss_one (ds_ret (de_var (pv 8) (by decide))))))))))))
theorem ok__law_statement {n : Nat} (T : Txt K mg fd) (IH : OkN P w K mg base fd n) : FnR P w K mg base (n + 1) (He.ga K "_law_statement") (fd 4) ["_law_cell_here", "_law_many", "_law_words_here"] (spD K false 3 (runF 6 (b__law_statement (den n 1) (den n 4)))) := by
  refine fnD T.f__law_statement sc__law_statement rfl rfl fun cdv A outer s H E hr tk ps => ⟨[], ?_⟩
  have nd := sc__law_statement.nd
  exact (dss_cons (O1 := []) (ds_if (dt_cmp od_lt (e2b (de_var (pv 1) (by decide))) (e2b (de_cst pe_int rfl))) (dss_cons (O1 := []) (ds_if (dt_cmp (od_eq hr.units) (e2b (de_op od_mod (e2b (de_var (pv 0) (by decide))) (e2b (de_cst pe_int rfl)))) (e2b (de_cst pe_int rfl))) (dss_one (ds_ret (de_tup (da_cons (de_cst pe_str rfl) da_nil)))) dss_nil)
      (dss_one (ds_ret (de_tup (da_cons (de_cst pe_str rfl) (da_cons (de_ix (e2b (de_var (pv 2) (by decide))) (e2b (de_op od_mod (e2b (de_op od_fdiv (e2b (de_var (pv 0) (by decide))) (e2b (de_cst pe_int rfl)))) (e2b (dx_callB relE_ok cd_len (by rfl) T.z_len boot_len (dab_cons (e2b (de_var (pv 2) (by decide))) dab_nil)))))) da_nil)))))) dss_nil)
      (dss_cons (O1 := []) (ds_set (ps_set (i := 3) nd rfl (Or.inl rfl) (de_ix (f2b (df_lst (da_cons (de_cst pe_str rfl) (da_cons (de_cst pe_str rfl) (da_cons (de_cst pe_str rfl) (da_cons (de_cst pe_str rfl) (da_cons (de_cst pe_str rfl) da_nil))))))) (e2b (de_op od_mod (e2b (de_var (pv 0) (by decide))) (e2b (de_cst pe_int rfl)))))))
      (dss_cons (O1 := []) (ds_if (dt_cmp (od_eq hr.units) (e2b (de_var (pv 3) (by decide))) (e2b (de_cst pe_str rfl))) (dss_one (ds_ret (de_tup (da_cons (de_cst pe_str rfl) (da_cons (de_call IH.h__law_statement hr (by rfl) T.g__law_statement T.k__law_statement T.b__law_statement tk (da_cons (de_call IH.h__law_mix hr (by rfl) T.g__law_mix T.k__law_mix T.b__law_mix tk (da_cons (de_var (pv 0) (by decide)) (da_cons (de_cst pe_int rfl) da_nil))) (da_cons (de_op od_sub (e2b (de_var (pv 1) (by decide))) (e2b (de_cst pe_int rfl))) (da_cons (de_var (pv 2) (by decide)) da_nil)))) (da_cons (de_tup (da_cons (de_cst pe_str rfl) da_nil)) da_nil)))))) dss_nil)
      (dss_cons (O1 := []) (ds_set (ps_set (i := 4) nd rfl (Or.inl rfl) (de_op od_add (e2b (de_cst pe_int rfl)) (e2b (de_op od_mul (e2b (de_op od_mod (e2b (de_op od_fdiv (e2b (de_var (pv 0) (by decide))) (e2b (de_cst pe_int rfl)))) (e2b (de_op od_fdiv (e2b (de_op od_sub (e2b (de_var (pv 1) (by decide))) (e2b (de_cst pe_int rfl)))) (e2b (de_cst pe_int rfl)))))) (e2b (de_cst pe_int rfl)))))))
      (dss_cons (O1 := []) (ds_set (ps_set (i := 5) nd rfl (Or.inl rfl) (de_call IH.h__law_statement hr (by rfl) T.g__law_statement T.k__law_statement T.b__law_statement tk (da_cons (de_call IH.h__law_mix hr (by rfl) T.g__law_mix T.k__law_mix T.b__law_mix tk (da_cons (de_var (pv 0) (by decide)) (da_cons (de_cst pe_int rfl) da_nil))) (da_cons (de_var (pv 4) (by decide)) (da_cons (de_var (pv 2) (by decide)) da_nil))))))
      (dss_one (ds_ret (de_tup (da_cons (de_var (pv 3) (by decide)) (da_cons (de_var (pv 5) (by decide)) (da_cons (de_call IH.h__law_statement hr (by rfl) T.g__law_statement T.k__law_statement T.b__law_statement tk (da_cons (de_call IH.h__law_mix hr (by rfl) T.g__law_mix T.k__law_mix T.b__law_mix tk (da_cons (de_var (pv 0) (by decide)) (da_cons (de_cst pe_int rfl) da_nil))) (da_cons (de_op od_sub (e2b (de_op od_sub (e2b (de_var (pv 1) (by decide))) (e2b (de_cst pe_int rfl)))) (e2b (de_var (pv 4) (by decide)))) (da_cons (de_var (pv 2) (by decide)) da_nil)))) da_nil)))))))))))
theorem ok__law_same {n : Nat} (T : Txt K mg fd) (IH : OkN P w K mg base fd n) : FnR P w K mg base (n + 1) (He.ga K "_law_same") (fd 5) ["_law_found", "_law_due"] (spD K false 2 (runF 4 (b__law_same (den n 5)))) := by
  refine fnD T.f__law_same sc__law_same rfl rfl fun cdv A outer s H E hr tk ps => ⟨[], ?_⟩
  have nd := sc__law_same.nd
  exact (dss_cons (O1 := []) (ds_if (dt_cmp od_is (e2b (de_var (pv 1) (by decide))) (e2b (de_cst pe_non rfl))) (dss_one (ds_ret (de_cmp od_is (e2b (de_var (pv 0) (by decide))) (e2b (de_cst pe_non rfl))))) dss_nil)
      (dss_cons (O1 := []) (ds_if (dt_val (e2b (de_isi kit_str (fun _ h => pe_callB call_isi (by rfl) T.z_isinstance boot_isinstance h) (e2b (de_var (pv 1) (by decide))) (pe_bltn (by rfl) T.z_str boot_str rfl)))) (dss_one (ds_ret (de_and (e2b (de_isi kit_str (fun _ h => pe_callB call_isi (by rfl) T.z_isinstance boot_isinstance h) (e2b (de_var (pv 0) (by decide))) (pe_bltn (by rfl) T.z_str boot_str rfl))) (de_one (de_cmp (od_eq hr.units) (e2b (de_var (pv 0) (by decide))) (e2b (de_var (pv 1) (by decide)))))))) dss_nil)
      (dss_cons (O1 := []) (ds_if (dt_val (e2b (de_isi kit_int (fun _ h => pe_callB call_isi (by rfl) T.z_isinstance boot_isinstance h) (e2b (de_var (pv 1) (by decide))) (pe_bltn (by rfl) T.z_int boot_int rfl)))) (dss_one (ds_ret (de_and (e2b (de_isi kit_int (fun _ h => pe_callB call_isi (by rfl) T.z_isinstance boot_isinstance h) (e2b (de_var (pv 0) (by decide))) (pe_bltn (by rfl) T.z_int boot_int rfl))) (de_and (e2b (de_not (e2b (de_isi kit_bool (fun _ h => pe_callB call_isi (by rfl) T.z_isinstance boot_isinstance h) (e2b (de_var (pv 0) (by decide))) (pe_bltn (by rfl) T.z_bool boot_bool rfl))))) (de_one (de_cmp (od_eq hr.units) (e2b (de_var (pv 0) (by decide))) (e2b (de_var (pv 1) (by decide))))))))) dss_nil)
      (dss_cons (O1 := []) (ds_if (dt_val (e2b (de_isi kit_list (fun _ h => pe_callB call_isi (by rfl) T.z_isinstance boot_isinstance h) (e2b (de_var (pv 1) (by decide))) (pe_bltn (by rfl) T.z_list boot_list rfl)))) (dss_one (ds_if (dt_not (dt_val (e2b (de_isi kit_list (fun _ h => pe_callB call_isi (by rfl) T.z_isinstance boot_isinstance h) (e2b (de_var (pv 0) (by decide))) (pe_bltn (by rfl) T.z_list boot_list rfl))))) (dss_one (ds_ret (de_cst pe_bl rfl))) dss_nil)) (dss_one (ds_if (dt_not (dt_val (e2b (de_isi kit_tuple (fun _ h => pe_callB call_isi (by rfl) T.z_isinstance boot_isinstance h) (e2b (de_var (pv 0) (by decide))) (pe_bltn (by rfl) T.z_tuple boot_tuple rfl))))) (dss_one (ds_ret (de_cst pe_bl rfl))) dss_nil)))
      (dss_one (ds_ret (de_and (e2b (de_cmp (od_eq hr.units) (e2b (dx_callB relE_ok cd_len (by rfl) T.z_len boot_len (dab_cons (e2b (de_var (pv 0) (by decide))) dab_nil))) (e2b (dx_callB relE_ok cd_len (by rfl) T.z_len boot_len (dab_cons (e2b (de_var (pv 1) (by decide))) dab_nil))))) (de_one (dx_callB relE_ok (cd_all rfl) (by rfl) T.z_all boot_all (dab_cons (f2b (df_lc (vs := [2, 3]) (is := [2, 3]) (pe_lc (own := [("_law_here", 2), ("_law_there", 3)]) rfl nd (dc_zipA (dab_cons (e2b (de_var (pv 0) (by decide))) (dab_cons (e2b (de_var (pv 1) (by decide))) dab_nil)) (fun _ h => RZ.pi_zipA (by rfl) T.z_zip h)) (blkOk_by (own := [("_law_here", 2), ("_law_there", 3)]) (N := N__law_same) (sc := defScope (top 7)) (by decide +kernel)) (fun _ _ _ _ _ => (dg_tup (is := [2, 3]) (pg_tup rfl (pgs_cons (pg_name (i := 2) nd rfl (by first | exact Or.inl rfl | exact Or.inr rfl)) (pgs_cons (pg_name (i := 3) nd rfl (by first | exact Or.inl rfl | exact Or.inr rfl)) pgs_nil))))) (fun _ _ _ _ _ => dts_nil) (fun _ _ _ _ _ => (de_call IH.h__law_same hr (by rfl) T.g__law_same T.k__law_same T.b__law_same takes0 (da_cons (de_var (pv 2) (by decide)) (da_cons (de_var (pv 3) (by decide)) da_nil))))))) dab_nil))))))))))
theorem ok__law_fits {n : Nat} (T : Txt K mg fd) (IH : OkN P w K mg base fd n) : FnR P w K mg base (n + 1) (He.ga K "_law_fits") (fd 6) ["_law_found", "_law_statement_here", "_law_word", "_law_other"] (spD K false 4 (runF 7 (b__law_fits (den n 5)))) := by
  refine fnD T.f__law_fits sc__law_fits rfl rfl fun cdv A outer s H E hr tk ps => ⟨[], ?_⟩
  have nd := sc__law_fits.nd
  exact (dss_cons (O1 := [4]) (ds_setF (O' := [4]) (ps_set (i := 4) nd rfl (Or.inl rfl) (df_lst (da_cons (de_tup (da_cons (de_var (pv 0) (by decide)) (da_cons (de_var (pv 1) (by decide)) da_nil))) da_nil))))
      (dss_cons (O1 := []) (ds_end (O' := [4]) (O2 := []) (ds_while 1000000000 ps (dt_cmp (od_ne hr.units) (db_var (pv 4)) (f2b (df_lst da_nil))) (dss_cons (O1 := [4]) (ds_pop (tg := .Name "" default) (is := [5, 6]) (b := bT [5, 6]) (ps_asg (pe_bm0 PySem.F.plainAttrs_list PySem.F.slot_list_pop PySem.F.type_list_pop mt_pop (pv 4)) (dg_tup (is := [5, 6]) (pg_tup rfl (pgs_cons (pg_name (i := 5) nd rfl (by first | exact Or.inl rfl | exact Or.inr rfl)) (pgs_cons (pg_name (i := 6) nd rfl (by first | exact Or.inl rfl | exact Or.inr rfl)) pgs_nil))))) (fun _ _ _ _ h => h))
      (dss_one (ds_if (dt_cmp (od_eq hr.units) (e2b (de_var (pv 6) (by decide))) (e2b (de_tup (da_cons (de_cst pe_str rfl) (da_cons (de_var (pv 2) (by decide)) da_nil))))) (dss_one (ds_if (dt_not (dt_val (e2b (de_call IH.h__law_same hr (by rfl) T.g__law_same T.k__law_same T.b__law_same tk (da_cons (de_var (pv 5) (by decide)) (da_cons (de_var (pv 3) (by decide)) da_nil)))))) (dss_frz (O2 := []) (dss_one (ds_ret (de_cst pe_bl rfl)))) dss_nil)) (dss_one (ds_if (dt_cmp od_lt (e2b (dx_callB relE_ok cd_len (by rfl) T.z_len boot_len (dab_cons (e2b (de_var (pv 6) (by decide))) dab_nil))) (e2b (de_cst pe_int rfl))) (dss_one (ds_if (dt_not (dt_val (e2b (de_call IH.h__law_same hr (by rfl) T.g__law_same T.k__law_same T.b__law_same tk (da_cons (de_var (pv 5) (by decide)) (da_cons (de_var (pv 6) (by decide)) da_nil)))))) (dss_frz (O2 := []) (dss_one (ds_ret (de_cst pe_bl rfl)))) dss_nil)) (dss_one (ds_if (w2t (dw_or (dt_not (dt_val (e2b (de_isi kit_tuple (fun _ h => pe_callB call_isi (by rfl) T.z_isinstance boot_isinstance h) (e2b (de_var (pv 5) (by decide))) (pe_bltn (by rfl) T.z_tuple boot_tuple rfl))))) (dw_or (dt_cmp (od_ne hr.units) (e2b (dx_callB relE_ok cd_len (by rfl) T.z_len boot_len (dab_cons (e2b (de_var (pv 5) (by decide))) dab_nil))) (e2b (de_cst pe_int rfl))) (dw_or1 (dt_not (dt_val (e2b (de_call IH.h__law_same hr (by rfl) T.g__law_same T.k__law_same T.b__law_same tk (da_cons (de_ix (e2b (de_var (pv 5) (by decide))) (e2b (de_cst pe_int rfl))) (da_cons (de_ix (e2b (de_var (pv 6) (by decide))) (e2b (de_cst pe_int rfl))) da_nil)))))))))) (dss_frz (O2 := []) (dss_one (ds_ret (de_cst pe_bl rfl)))) (dss_cons (O1 := [4]) (ds_app (ps_expr (pe_bm PySem.F.plainAttrs_list PySem.F.slot_list_append PySem.F.type_list_append mt_append (pv 4) (pa_cons (de_tup (da_cons (de_ix (e2b (de_var (pv 5) (by decide))) (e2b (de_cst pe_int rfl))) (da_cons (de_ix (e2b (de_var (pv 6) (by decide))) (e2b (de_cst pe_int rfl))) da_nil))) pa_nil))))
      (dss_one (ds_app (ps_expr (pe_bm PySem.F.plainAttrs_list PySem.F.slot_list_append PySem.F.type_list_append mt_append (pv 4) (pa_cons (de_tup (da_cons (de_ix (e2b (de_var (pv 5) (by decide))) (e2b (de_cst pe_int rfl))) (da_cons (de_ix (e2b (de_var (pv 6) (by decide))) (e2b (de_cst pe_int rfl))) da_nil))) pa_nil)))))))))))))))
      (dss_one (ds_ret (de_cst pe_bl rfl)))))
theorem ok_law {n : Nat} (T : Txt K mg fd) (IH : OkN P w K mg base fd n) : FnR P w K mg base (n + 1) (He.ga K "law") (fd 7) ["_law_script"] (spD K false 1 (runF 10 (b_law (den n 2) (den n 3) (den n 4) (den n 1) (den n 0) (den n 6)))) := by
  refine fnD T.f_law sc_law rfl rfl fun cdv A outer s H E hr tk ps => ⟨[], ?_⟩
  have nd := sc_law.nd
  exact (dss_cons (O1 := []) (ds_set (ps_set (i := 1) nd rfl (Or.inl rfl) (de_call IH.h__law_words hr (by rfl) T.g__law_words T.k__law_words T.b__law_words tk (da_cons (de_call IH.h__law_cell hr (by rfl) T.g__law_cell T.k__law_cell T.b__law_cell tk (da_cons (de_var (pv 0) (by decide)) (da_cons (de_cst pe_int rfl) da_nil))) da_nil))))
      (dss_cons (O1 := []) (ds_set (ps_set (i := 2) nd rfl (Or.inl rfl) (de_call IH.h__law_statement hr (by rfl) T.g__law_statement T.k__law_statement T.b__law_statement tk (da_cons (de_call IH.h__law_cell hr (by rfl) T.g__law_cell T.k__law_cell T.b__law_cell tk (da_cons (de_var (pv 0) (by decide)) (da_cons (de_cst pe_int rfl) da_nil))) (da_cons (de_op od_add (e2b (de_cst pe_int rfl)) (e2b (de_op od_mul (e2b (de_cst pe_int rfl)) (e2b (de_op od_mod (e2b (de_call IH.h__law_cell hr (by rfl) T.g__law_cell T.k__law_cell T.b__law_cell tk (da_cons (de_var (pv 0) (by decide)) (da_cons (de_cst pe_int rfl) da_nil)))) (e2b (de_cst pe_int rfl))))))) (da_cons (de_var (pv 1) (by decide)) da_nil))))))
      (dss_cons (O1 := []) (ds_set (ps_set (i := 3) nd rfl (Or.inl rfl) (de_ix (e2b (de_op od_add (e2b (de_var (pv 1) (by decide))) (f2b (df_lst (da_cons (de_cst pe_str rfl) da_nil))))) (e2b (de_op od_mod (e2b (de_op od_fdiv (e2b (de_call IH.h__law_cell hr (by rfl) T.g__law_cell T.k__law_cell T.b__law_cell tk (da_cons (de_var (pv 0) (by decide)) (da_cons (de_cst pe_int rfl) da_nil)))) (e2b (de_cst pe_int rfl)))) (e2b (de_op od_add (e2b (dx_callB relE_ok cd_len (by rfl) T.z_len boot_len (dab_cons (e2b (de_var (pv 1) (by decide))) dab_nil))) (e2b (de_cst pe_int rfl)))))))))
      (dss_cons (O1 := [4]) (ds_setF (O' := [4]) (ps_set (i := 4) nd rfl (Or.inl rfl) (df_lst (da_cons (de_tup (da_cons (de_cst pe_str rfl) (da_cons (de_var (pv 3) (by decide)) da_nil))) da_nil))))
      (dss_cons (O1 := []) (ds_end (O' := [4]) (O2 := []) (ds_for ps rfl (dx_range2 (by rfl) T.z_range (dab_cons (e2b (de_cst pe_int rfl)) (dab_cons (e2b (dx_callB relE_ok (cd_min rfl) (by rfl) T.z_min boot_min (dab_cons (e2b (de_cst pe_int rfl)) (dab_cons (e2b (dx_callB relE_ok cd_len (by rfl) T.z_len boot_len (dab_cons (e2b (de_var (pv 0) (by decide))) dab_nil))) dab_nil)))) dab_nil)) (fun _ h => pi_range2 (by rfl) T.z_range h)) (dg_name (pg_name (i := 5) nd rfl (by first | exact Or.inl rfl | exact Or.inr rfl))) (dss_cons (O1 := [4]) (ds_set (ps_set (i := 6) nd rfl (Or.inl rfl) (de_call IH.h__law_mix hr (by rfl) T.g__law_mix T.k__law_mix T.b__law_mix tk (da_cons (de_call IH.h__law_cell hr (by rfl) T.g__law_cell T.k__law_cell T.b__law_cell tk (da_cons (de_var (pv 0) (by decide)) (da_cons (de_var (pv 5) (by decide)) da_nil))) (da_cons (de_var (pv 5) (by decide)) da_nil)))))
      (dss_one (ds_app (ps_expr (pe_bm PySem.F.plainAttrs_list PySem.F.slot_list_append PySem.F.type_list_append mt_append (pv 4) (pa_cons (de_call IH.h__law_statement hr (by rfl) T.g__law_statement T.k__law_statement T.b__law_statement tk (da_cons (de_call IH.h__law_mix hr (by rfl) T.g__law_mix T.k__law_mix T.b__law_mix tk (da_cons (de_var (pv 6) (by decide)) (da_cons (de_cst pe_int rfl) da_nil))) (da_cons (de_op od_add (e2b (de_cst pe_int rfl)) (e2b (de_op od_mul (e2b (de_cst pe_int rfl)) (e2b (de_op od_mod (e2b (de_var (pv 6) (by decide))) (e2b (de_cst pe_int rfl))))))) (da_cons (de_var (pv 1) (by decide)) da_nil)))) pa_nil))))))))
      (dss_cons (O1 := [7]) (ds_setF (O' := [7]) (ps_set (i := 7) nd rfl (Or.inl rfl) (df_lst da_nil)))
      (dss_cons (O1 := []) (ds_end (O' := [7]) (O2 := []) (ds_for ps rfl (di_list (de_var (pv 4) (by decide))) (dg_name (pg_name (i := 8) nd rfl (by first | exact Or.inl rfl | exact Or.inr rfl))) (dss_cons (O1 := [7]) (ds_set (ps_set (i := 9) nd rfl (Or.inl rfl) (de_call IH.h_placed hr (by rfl) T.g_placed T.k_placed T.b_placed tk (da_cons (de_var (pv 2) (by decide)) (da_cons (de_var (pv 3) (by decide)) (da_cons (de_var (pv 8) (by decide)) da_nil))))))
      (dss_cons (O1 := [7]) (ds_if (dt_not (dt_val (e2b (de_call IH.h__law_fits hr (by rfl) T.g__law_fits T.k__law_fits T.b__law_fits tk (da_cons (de_var (pv 9) (by decide)) (da_cons (de_var (pv 2) (by decide)) (da_cons (de_var (pv 3) (by decide)) (da_cons (de_var (pv 8) (by decide)) da_nil)))))))) (dss_frz (O2 := []) (dss_one (ds_ret (de_cst pe_bl rfl)))) dss_nil)
      (dss_one (ds_app (ps_expr (pe_bm PySem.F.plainAttrs_list PySem.F.slot_list_append PySem.F.type_list_append mt_append (pv 7) (pa_cons (de_var (pv 9) (by decide)) pa_nil)))))))))
      (dss_cons (O1 := []) (ds_for ps rfl (di_zipA (da_cons (de_var (pv 4) (by decide)) (da_cons (de_var (pv 7) (by decide)) da_nil)) (fun _ h => RZ.pi_zipA (by rfl) T.z_zip h)) (dg_tup (is := [8, 9]) (pg_tup rfl (pgs_cons (pg_name (i := 8) nd rfl (by first | exact Or.inl rfl | exact Or.inr rfl)) (pgs_cons (pg_name (i := 9) nd rfl (by first | exact Or.inl rfl | exact Or.inr rfl)) pgs_nil)))) (dss_one (ds_if (dt_cmp (od_ne hr.units) (e2b (de_call IH.h_placed hr (by rfl) T.g_placed T.k_placed T.b_placed tk (da_cons (de_var (pv 2) (by decide)) (da_cons (de_var (pv 3) (by decide)) (da_cons (de_var (pv 8) (by decide)) da_nil))))) (e2b (de_var (pv 9) (by decide)))) (dss_one (ds_ret (de_cst pe_bl rfl))) dss_nil)))
      (dss_one (ds_ret (de_cmp (od_eq hr.units) (e2b (de_ix (e2b (de_var (pv 7) (by decide))) (e2b (de_cst pe_int rfl)))) (e2b (de_var (pv 2) (by decide))))))))))))))
theorem sound (T : Txt K mg fd) : ∀ n, OkN P w K mg base fd n
  | 0 => ⟨fn0, fn0, fn0, fn0, fn0, fn0, fn0, fn0⟩
  | n + 1 =>
    have IH := sound T n
    ⟨ok_placed T IH, ok__law_mix T IH, ok__law_cell T IH, ok__law_words T IH, ok__law_statement T IH, ok__law_same T IH, ok__law_fits T IH, ok_law T IH⟩
end
/-! ### the head -/
def d_placed : He.DefD := ⟨("placed", none), "placed", "placed", defArgs (top 1), defBody (top 1), defScope (top 1), [], []⟩
def d__law_mix : He.DefD := ⟨("_law_mix", none), "_law_mix", "_law_mix", defArgs (top 3), defBody (top 3), defScope (top 3), [], []⟩
def d__law_cell : He.DefD := ⟨("_law_cell", none), "_law_cell", "_law_cell", defArgs (top 4), defBody (top 4), defScope (top 4), [], []⟩
def d__law_words : He.DefD := ⟨("_law_words", none), "_law_words", "_law_words", defArgs (top 5), defBody (top 5), defScope (top 5), [], []⟩
def d__law_statement : He.DefD := ⟨("_law_statement", none), "_law_statement", "_law_statement", defArgs (top 6), defBody (top 6), defScope (top 6), [], []⟩
def d__law_same : He.DefD := ⟨("_law_same", none), "_law_same", "_law_same", defArgs (top 7), defBody (top 7), defScope (top 7), [], []⟩
def d__law_fits : He.DefD := ⟨("_law_fits", none), "_law_fits", "_law_fits", defArgs (top 8), defBody (top 8), defScope (top 8), [], []⟩
def d_law : He.DefD := ⟨("law", none), "law", "law", defArgs (top 9), defBody (top 9), defScope (top 9), [], []⟩
def fn : List He.DefD := [d_placed, d__law_mix, d__law_cell, d__law_words, d__law_statement, d__law_same, d__law_fits, d_law]
def fa : List He.Fa := [.glo "placed", .glo "_law_mix", .glo "_law_cell", .glo "_law_words", .glo "_law_statement", .glo "_law_same", .glo "_law_fits", .glo "law", .free "all", .free "bool", .free "int", .free "isinstance", .free "len", .free "list", .free "min", .free "range", .free "str", .free "tuple", .free "zip"]
def exB (K : PySem.W.Frag) : Bool := (K.all fun q => !decide (q.2.cls = .type "list"))
abbrev RR : PySem.W.OpenRow := PySem.W.OpenLaw.row PySem.Challenge.rw_ken_k61_placed
abbrev hk : PySem.W.Hook := He.hookX 4 fa fn [] [] exB
def ob (s : PySem.W.SharedT) : He.AlX := He.obsX 4 fa fn [] [] exB (HandSHeadRun.getT s)
theorem ob_eq (s : PySem.W.SharedT) : ob s = hk.obs s.abs := He.obsX_eq (HandSHeadRun.getT_eq s)
def loose0 : List Str := ["placed", "_law_mix", "_law_cell", "_law_words", "_law_statement", "_law_same", "_law_fits"]
theorem run (w : World) : HandSHeadRun.RunEq RR (PySem.W.view RR.prog [9]) hk ob 4000 (loose0) w := by
  intro os
  kernel_rfl
theorem noList {K : PySem.W.Frag} (h : exB K = true) {a : Addr} {o : Obj} (e : K.lookup a = some o) : o.cls ≠ .type "list" := by
  have h2 : (K.all fun q => !decide (q.2.cls = .type "list")) = true := by
    unfold exB at h
    skip
    exact h
  have m := He.lookup_mem e
  have := List.all_eq_true.mp h2 _ m
  simpa using this
theorem facts {w : World} {K : PySem.W.Frag} {h : Heap} {mg : Str → Option Value} (X : K.In h) (G : h.Ns mainGlobals mg) (c : He.SaysX fa fn [] [] exB w h K) : ∃ fd, Txt K mg fd := by
  have cd := c.t.d
  obtain ⟨fd0, F0⟩ := cd.def_ 0 (d := d_placed) rfl
  obtain ⟨fd1, F1⟩ := cd.def_ 1 (d := d__law_mix) rfl
  obtain ⟨fd2, F2⟩ := cd.def_ 2 (d := d__law_cell) rfl
  obtain ⟨fd3, F3⟩ := cd.def_ 3 (d := d__law_words) rfl
  obtain ⟨fd4, F4⟩ := cd.def_ 4 (d := d__law_statement) rfl
  obtain ⟨fd5, F5⟩ := cd.def_ 5 (d := d__law_same) rfl
  obtain ⟨fd6, F6⟩ := cd.def_ 6 (d := d__law_fits) rfl
  obtain ⟨fd7, F7⟩ := cd.def_ 7 (d := d_law) rfl
  refine ⟨fun k => match k with
    | 0 => fd0
    | 1 => fd1
    | 2 => fd2
    | 3 => fd3
    | 4 => fd4
    | 5 => fd5
    | 6 => fd6
    | 7 => fd7
    | _ => fd0, ?_⟩
  exact {
    f_placed := F0,
    g_placed := He.glo_ok X G (cd.fact 0 (f := .glo "placed") rfl),
    k_placed := F0.kp,
    b_placed := F0.bindsN fun _ _ _ _ _ _ us hl => match us, hl with | [_, _, _], _ => rfl,
    f__law_mix := F1,
    g__law_mix := He.glo_ok X G (cd.fact 1 (f := .glo "_law_mix") rfl),
    k__law_mix := F1.kp,
    b__law_mix := F1.bindsN fun _ _ _ _ _ _ us hl => match us, hl with | [_, _], _ => rfl,
    f__law_cell := F2,
    g__law_cell := He.glo_ok X G (cd.fact 2 (f := .glo "_law_cell") rfl),
    k__law_cell := F2.kp,
    b__law_cell := F2.bindsN fun _ _ _ _ _ _ us hl => match us, hl with | [_, _], _ => rfl,
    f__law_words := F3,
    g__law_words := He.glo_ok X G (cd.fact 3 (f := .glo "_law_words") rfl),
    k__law_words := F3.kp,
    b__law_words := F3.bindsN fun _ _ _ _ _ _ us hl => match us, hl with | [_], _ => rfl,
    f__law_statement := F4,
    g__law_statement := He.glo_ok X G (cd.fact 4 (f := .glo "_law_statement") rfl),
    k__law_statement := F4.kp,
    b__law_statement := F4.bindsN fun _ _ _ _ _ _ us hl => match us, hl with | [_, _, _], _ => rfl,
    f__law_same := F5,
    g__law_same := He.glo_ok X G (cd.fact 5 (f := .glo "_law_same") rfl),
    k__law_same := F5.kp,
    b__law_same := F5.bindsN fun _ _ _ _ _ _ us hl => match us, hl with | [_, _], _ => rfl,
    f__law_fits := F6,
    g__law_fits := He.glo_ok X G (cd.fact 6 (f := .glo "_law_fits") rfl),
    k__law_fits := F6.kp,
    b__law_fits := F6.bindsN fun _ _ _ _ _ _ us hl => match us, hl with | [_, _, _, _], _ => rfl,
    f_law := F7,
    g_law := He.glo_ok X G (cd.fact 7 (f := .glo "law") rfl),
    k_law := F7.kp,
    b_law := F7.bindsN fun _ _ _ _ _ _ us hl => match us, hl with | [_], _ => rfl,
    z_all := He.free_ok X G (cd.fact 8 (f := .free "all") rfl),
    z_bool := He.free_ok X G (cd.fact 9 (f := .free "bool") rfl),
    z_int := He.free_ok X G (cd.fact 10 (f := .free "int") rfl),
    z_isinstance := He.free_ok X G (cd.fact 11 (f := .free "isinstance") rfl),
    z_len := He.free_ok X G (cd.fact 12 (f := .free "len") rfl),
    z_list := He.free_ok X G (cd.fact 13 (f := .free "list") rfl),
    z_min := He.free_ok X G (cd.fact 14 (f := .free "min") rfl),
    z_range := He.free_ok X G (cd.fact 15 (f := .free "range") rfl),
    z_str := He.free_ok X G (cd.fact 16 (f := .free "str") rfl),
    z_tuple := He.free_ok X G (cd.fact 17 (f := .free "tuple") rfl),
    z_zip := He.free_ok X G (cd.fact 18 (f := .free "zip") rfl) }
end K_ken_k61_placed
open PySem PySem.W PySem.Calls PyProof.Rows
theorem K_ken_k61_placed.holds_of (hl : ∀ ns : List Int, ns.length ≤ 63 → K_ken_k61_placed.den 650 7 [.list (ns.map .int)] = .ok (.bool true)) : PySem.Challenge.rw_ken_k61_placed.Holds := by
  w_on; o_law
  refine HandSHeadRun.head_any (r := OpenLaw.row PySem.Challenge.rw_ken_k61_placed) (q := view (OpenLaw.row PySem.Challenge.rw_ken_k61_placed).prog [9]) (H := K_ken_k61_placed.hk) (ob := K_ken_k61_placed.ob) (M := 4000) (loose := K_ken_k61_placed.loose0) (d := HandSHeadRun.topDef (OpenLaw.row PySem.Challenge.rw_ken_k61_placed).prog 9) (kwd := []) K_ken_k61_placed.ob_eq
    (by kernel_rfl) (fun s => by kernel_rfl) K_ken_k61_placed.run (by kernel_rfl) (by kernel_rfl) (by kernel_rfl) (by rfl) (by first | assumption | decide +kernel) (by decide +kernel) ⟨rfl, rfl, rfl, rfl, rfl, by decide +kernel⟩ ?hw ?hc
  case hw => w_witness2
  case hc =>
    refine Dl.walk_D (l := PySem.Challenge.rw_ken_k61_placed) (n := 63) (x := "_law_script") (G := K_ken_k61_placed.den 650 7) rfl (by decide) (by kernel_rfl) hl ?F
    intro w mg fa h Y G hmg0
    obtain ⟨K, KX, c⟩ := Y
    have hmg : mg ("law" : PySem.Str) = some (.ref fa) := by
      have e : (HandSHeadRun.topDef (OpenLaw.row PySem.Challenge.rw_ken_k61_placed).prog 9).name = ("law" : PySem.Str) := by kernel_rfl
      rw [← e]
      exact hmg0
    obtain ⟨fd, T⟩ := K_ken_k61_placed.facts KX G c
    have e := hmg.symm.trans T.g_law
    cases e
    have b := L2.FunD.bindsA (ps := ["_law_script"]) T.f_law fun _ _ _ _ _ _ us hl => match us, hl with | [_], _ => rfl
    exact ⟨K, fd 7, KX, fun s v => b s [v] rfl, fun a o e => K_ken_k61_placed.noList c.more e, fun base _ _ => (K_ken_k61_placed.sound (P := (PySem.Challenge.rw_ken_k61_placed).prog) (w := w) T 650).h_law⟩

namespace K_ken_k61_placed
open PySem L2 Dl
local macro_rules | `(tactic| walk_at "ev") => `(tactic| try simp (disch := first | omega | (simp only [List.length_map, List.length_append, List.length_cons, List.length_nil, rangeL_len]; omega)) only [ev_run, runK_rt, runK_err, ev_sq, sqK_nx, sqK_rt, sqK_bk, sqK_ct, sqK_err, ev_if, ifK_t, ifK_f, ifK_err, ev_set, setK_ok, setK_err, ev_ret, retK_ok, retK_err, ev_exp, expK_ok, expK_err, ev_skp, ev_brk, ev_cnt, ev_cst, ev_op2, ev_un1, ev_tst, asB_b, ev_andT, ev_orT, andK_t, andK_f, orK_t, orK_f, ev_notT, ev_andV, ev_orV, andW_t, andW_f, orW_t, orW_f, ev_notV, ev_isi, evs_nil, evs_cons, ev_mkT, ev_mkL, ev_cal, ev_call, ev_slc, ev_noP, ev_prt, asI_i, ev_for, forK_ok, ev_itLK, itLK_l, ev_itR, itRK_1, itRK_2, ev_itZ, itZK_l, itZK_t, ev_it1, it1K_l, ev_app, slotL_0, slotL_S, appK_ok, addD_i, addD_l, addD_s, subD_i, ltD_i, leD_i, gtD_i, geD_i, ltD_s, negD_i, isD_n, isntD_n, isNone_n, isNone_t, isNone_l, isNone_i, isNone_s, isNone_b, lenD_l, lenD_t, minD_i, maxD_i, mul_ok, mod_ok, fdiv_ok, eqD_int, eqD_str, neD_int, neD_str, ix0, ix1, ix2, ix3, vr0, vrS, R.bind_ok, R.bind_err, R.bind_bad, ofO_some, List.map_cons, List.map_nil, List.length_cons, List.length_nil, List.length_map, List.cons_append, List.nil_append, List.replicate, Nat.reduceAdd, Nat.reduceSub, List.set_cons_zero, List.set_cons_succ, lpK_nx, lpK_ct, lpK_bk, lpK_rt, lpK_err, whK_t, whK_f, sets, ev_lc, slD_l, slD_t, Int.cast_ofNat_Int, Int.reduceLT, Int.reduceLE, Int.reduceEq, Int.reduceAdd, Int.reduceSub, Int.reduceMul, Int.reduceNeg, Int.reduceMod, Int.reduceDiv, Int.reduceToNat, li0, li1, li2, li3, li4, str_inj, String.reduceEq, decide_false, decide_true, isiB_s, isiB_i, isiB_b, isiB_l, isiB_t, isiB_n, isiS, Bool.or_false, Bool.or_true, Bool.and_false, Bool.and_true, Bool.false_or, Bool.true_or, Bool.false_and, Bool.true_and, Bool.not_true, Bool.not_false])
def mixZ (c k : Int) : Int := ((c + 1) * (48271 + 118 * k) % 2147483629 / 977 * 16807 + (c + 1) * (48271 + 118 * k) % 2147483629 * (k * k + 7) + k) % 2147483587
theorem mixZ_range (c k : Int) : 0 ≤ mixZ c k ∧ mixZ c k < 2147483587 := ⟨Int.emod_nonneg _ (by decide), Int.emod_lt_of_pos _ (by decide)⟩
abbrev IsMix (f : Fx) : Prop := ∀ c k : Int, -1000000 < k → k < 1000000 → f [.int c, .int k] = .ok (.int (mixZ c k))
theorem mix_ok : IsMix (runF 3 b__law_mix) := fun c k h1 h2 => by
  unfold b__law_mix
  walk_at "ev"
  rfl
def cellZ (ns : List Int) (k : Int) : Int := mixZ (if k < ns.length then (ns.getD k.toNat 0) % 2147483647 else 0) (k + 101)
theorem cell_ok {m : Fx} (hm : IsMix m) (ns : List Int) (k : Int) (h0 : 0 ≤ k) (h1 : k < 1000) : runF 3 (b__law_cell m) [.list (ns.map .int), .int k] = .ok (.int (cellZ ns k)) := by
  unfold b__law_cell b__law_cell_r1 cellZ
  by_cases h : k < ns.length
  · have e : ixD (.list (ns.map .int)) (.int k) = some (.int (ns.getD k.toNat 0)) := by
      rw [ixL (j := k.toNat) (by omega) (by simp; omega)]
      simp [List.getD, show k.toNat < ns.length by omega]
    walk_at "ev"
    simp only [h, decide_true, if_true]
    walk_at "ev"
    rw [e]
    walk_at "ev"
    rw [hm _ _ (by omega) (by omega)]
    rfl
  · walk_at "ev"
    simp only [h, decide_false, if_false]
    walk_at "ev"
    rw [hm _ _ (by omega) (by omega)]
    rfl
structure WordOk (w : Str) : Prop where
  low : Low w
  pos : 1 ≤ w.length
  le : w.length ≤ 8
theorem words_tail {m : Fx} (c sz at_ : Int) (S : Str) (x5 : Option PyData) (h0 : 0 ≤ c) (hS : Low S) (hL : (S.length : Int) = sz) (hsz : sz ≤ 8) (ha : 0 ≤ at_) (ha2 : at_ < sz) : ∃ ws : List Str,
    runK (b__law_words_r2 m [some (.int c), some (.str "abcdefghijklmnopqrstuvwxyz"), some (.int sz), some (.int at_), some (.str S), x5, none, none, none, none]) = .ok (.list (ws.map .str)) ∧ 2 ≤ ws.length ∧ ws.length ≤ 4 ∧ ∀ w ∈ ws, WordOk w := by
  unfold b__law_words_r2
  walk_at "ev"
  have step : ∀ (i : Nat) (δ : Ev), i < (2 + c / 4096 % 3).toNat → (∃ (ws : List Str) (x6 x9 : Option PyData), δ = [some (.int c), some (.str "abcdefghijklmnopqrstuvwxyz"), some (.int sz), some (.int at_), some (.str S), x5, x6, some (.int (c / 128 % 26)), some (.list (ws.map .str)), x9] ∧ ws.length = i ∧ ∀ w ∈ ws, WordOk w) →
      ∃ δ2, b__law_words_l1 m (δ.set 6 (some (.int (0 + (i : Nat))))) = .nx δ2 ∧ ∃ (ws : List Str) (x6 x9 : Option PyData), δ2 = [some (.int c), some (.str "abcdefghijklmnopqrstuvwxyz"), some (.int sz), some (.int at_), some (.str S), x5, x6, some (.int (c / 128 % 26)), some (.list (ws.map .str)), x9] ∧ ws.length = i + 1 ∧ ∀ w ∈ ws, WordOk w := by
    rintro i δ hi ⟨ws, x6, x9, rfl, hl, hw⟩
    unfold b__law_words_l1
    obtain ⟨ch, h1, h2, h3⟩ := small_ix ((c / 128 % 26 + 7 * (0 + (i : Nat))) % 26) (by omega) (by omega)
    walk_at "ev"
    rw [h1]
    walk_at "ev"
    rw [slD_s (by omega), slD_s (by omega)]
    walk_at "ev"
    have l1 : (cutS S none (some at_)).length = at_.toNat := by
      have e : at_ = ((at_.toNat : Nat) : Int) := by omega
      rw [e, cs_length, cs_pre S _ (by omega), List.length_take, ← cs_length]; omega
    have l2 : (cutS S (some (at_ + 1)) none).length = S.length - (at_.toNat + 1) := by
      have e : at_ + 1 = ((at_.toNat + 1 : Nat) : Int) := by omega
      rw [e, cs_length, cs_suf S _ (by omega), List.length_drop, ← cs_length]
    have l3 : (cutS S none (some at_) ++ ch).length = at_.toNat + 1 := by rw [cs_length, cs_app, List.length_append, ← cs_length, ← cs_length, l1, h3]
    have l4 : (cutS S none (some at_) ++ ch ++ cutS S (some (at_ + 1)) none).length = S.length := by rw [cs_length, cs_app, List.length_append, ← cs_length, ← cs_length, l3, l2]; omega
    walk_at "ev"
    refine ⟨_, rfl, ws ++ [cutS S none (some at_) ++ ch ++ cutS S (some (at_ + 1)) none], some (.int (0 + (i : Nat))), some (.str ch), by rw [List.map_append]; rfl, by simp [hl], fun w hw' => ?_⟩
    rcases List.mem_append.mp hw' with h | h
    · exact hw w h
    · rw [List.mem_singleton.mp h]
      exact ⟨((hS.cut _ _).app h2).app (hS.cut _ _), by rw [l4]; omega, by rw [l4]; omega⟩
  obtain ⟨δ', e, ws, x6, x9, rfl, hl, hw⟩ := forD_range _ _ step _ ⟨[], none, none, rfl, rfl, fun w h => by cases h⟩
  simp only [List.map_nil] at e
  rw [e]
  unfold b__law_words_r1
  walk_at "ev"
  exact ⟨ws, rfl, by omega, by omega, hw⟩
theorem words_ok {m : Fx} (hm : IsMix m) (c : Int) (h0 : 0 ≤ c) : ∃ ws : List Str, runF 10 (b__law_words m) [.int c] = .ok (.list (ws.map .str)) ∧ 2 ≤ ws.length ∧ ws.length ≤ 4 ∧ ∀ w ∈ ws, WordOk w := by
  unfold b__law_words
  have hs : 0 < 1 + c % 8 := by omega
  have ha := Int.emod_nonneg (c / 8) (show 1 + c % 8 ≠ 0 by omega)
  have ha2 := Int.emod_lt_of_pos (c / 8) hs
  walk_at "ev"
  rw [mulS_ok (by omega) (by omega) (by rw [k_len]; decide)]
  walk_at "ev"
  by_cases h : c / 64 % 2 = 0
  · simp only [h, decide_true]
    have hx : ∀ i : Nat, ∃ ch : Str, ixD (.str "abcdefghijklmnopqrstuvwxyz") (.int (mixZ c (60 + (i : Nat)) % 26)) = some (.str ch) ∧ Low ch ∧ ch.length = 1 := fun i => small_ix _ (by omega) (by omega)
    let g : Nat → Str := fun i => (hx i).choose
    have hg : ∀ i, ixD (.str "abcdefghijklmnopqrstuvwxyz") (.int (mixZ c (60 + (i : Nat)) % 26)) = some (.str (g i)) ∧ Low (g i) ∧ (g i).length = 1 := fun i => (hx i).choose_spec
    walk_at "ev"
    rw [lcK_N (g := fun d => match d with | .int z => .str (g z.toNat) | d => d) (by rw [rangeL_len]; omega) (fun d hd => ?_)]
    · walk_at "ev"
      have e : (rangeL 0 (1 + c % 8).toNat).map (fun d => match d with | .int z => PyData.str (g z.toNat) | d => d) = ((List.range (1 + c % 8).toNat).map g).map PyData.str := by
        simp [rangeL]
      have hlen : (((List.range (1 + c % 8).toNat).map g).map (·.length)).sum = (1 + c % 8).toNat := by
        have : ((List.range (1 + c % 8).toNat).map g).map (·.length) = List.replicate (1 + c % 8).toNat 1 := by
          rw [List.map_map]
          refine List.ext_getElem (by simp) fun i h1 h2 => ?_
          simp [(hg i).2.2]
        rw [this]; simp
      have e0 : ("" : Str).length = 0 := by decide +kernel
      rw [e, joinD_ok (by rw [hlen, e0]; omega)]
      walk_at "ev"
      refine words_tail c (1 + c % 8) _ _ _ h0 (Low.join0 fun y hy => ?_) ?_ (by omega) ha ha2
      · obtain ⟨i, _, rfl⟩ := List.mem_map.mp hy
        exact (hg i).2.1
      · rw [cs_length, cs_join0, List.length_flatten, List.map_map]
        have : ((List.range (1 + c % 8).toNat).map g).map (List.length ∘ cs) = ((List.range (1 + c % 8).toNat).map g).map (·.length) := by
          refine List.map_congr_left fun x _ => ?_
          show (cs x).length = x.length
          rw [cs_length]
        rw [this, hlen]; omega
    · obtain ⟨i, hi, rfl⟩ := mem_rangeL hd
      simp only [wipeE, List.set_cons_zero, List.set_cons_succ]
      walk_at "ev"
      rw [hm _ _ (by omega) (by omega)]
      walk_at "ev"
      have := (hg i).1
      simp only [Int.zero_add]
      rw [this]
      rfl
  · simp only [h, decide_false]
    walk_at "ev"
    exact words_tail c (1 + c % 8) _ _ _ h0 (k_low.mul (by omega)) (by rw [mul_length _ (by omega), k_len]; omega) (by omega) ha ha2
/-- a statement is made -/
abbrev IsStm (n : Nat) (f : Fx) : Prop := ∀ (c many : Int) (ws : List Str), 0 ≤ c → 1 ≤ many → many ≤ 2 * n → 1 ≤ ws.length → ∃ F : Fm, f [.int c, .int many, .list (ws.map .str)] = .ok (enc F) ∧ F.parts ≤ many.toNat ∧ ∀ w ∈ F.letters, w ∈ ws
theorem ixW {ws : List Str} {i : Int} (h0 : 0 ≤ i) (h1 : i < ws.length) : ∃ w, ixD (.list (ws.map .str)) (.int i) = some (.str w) ∧ w ∈ ws := by
  have h : i.toNat < ws.length := by omega
  refine ⟨ws[i.toNat], ?_, List.getElem_mem h⟩
  rw [ixL (j := i.toNat) (by omega) (by simpa using h)]
  simp
theorem stm_step {m s : Fx} {n : Nat} (hm : 1 ≤ n → IsMix m) (hs : IsStm n s) : IsStm (n + 1) (runF 6 (b__law_statement m s)) := by
  intro c many ws h0 h1 h2 hw
  unfold b__law_statement
  by_cases hl : many < 3
  · walk_at "ev"
    simp only [hl, decide_true]
    walk_at "ev"
    by_cases h6 : c % 6 = 0
    · simp only [h6, decide_true]
      walk_at "ev"
      exact ⟨.low, rfl, by simp [Fm.parts]; omega, by simp [Fm.letters]⟩
    · simp only [h6, decide_false]
      walk_at "ev"
      obtain ⟨w, e, hm'⟩ := ixW (ws := ws) (i := c / 6 % (ws.length : Nat)) (Int.emod_nonneg _ (by omega)) (Int.emod_lt_of_pos _ (by omega))
      rw [e]
      walk_at "ev"
      exact ⟨.lt w, rfl, by simp [Fm.parts]; omega, by simp [Fm.letters, hm']⟩
  · have hn : 1 ≤ n := by omega
    have hm := hm hn
    walk_at "ev"
    simp only [hl, decide_false]
    unfold b__law_statement_r2
    have h5 : c % 5 = 0 ∨ c % 5 = 1 ∨ c % 5 = 2 ∨ c % 5 = 3 ∨ c % 5 = 4 := by omega
    have hf : ∀ k, 0 ≤ mixZ c k := fun k => (mixZ_range c k).1
    -- the two inner ones
    have two : ∀ k : Kd, ∃ F : Fm, runK (b__law_statement_r1 m s [some (.int c), some (.int many), some (.list (ws.map .str)), some (.str k.str), none, none]) = .ok (enc F) ∧ F.parts ≤ many.toNat ∧ ∀ w ∈ F.letters, w ∈ ws := by
      intro k
      unfold b__law_statement_r1
      have hq : 0 < (many - 1) / 2 := by omega
      have q1 := Int.emod_nonneg (c / 5) (show (many - 1) / 2 ≠ 0 by omega)
      have q2 := Int.emod_lt_of_pos (c / 5) hq
      generalize hx : c / 5 % ((many - 1) / 2) = x at q1 q2
      walk_at "ev"
      rw [hx]
      walk_at "ev"
      rw [hm _ _ (by omega) (by omega)]
      walk_at "ev"
      obtain ⟨A, eA, pA, lA⟩ := hs (mixZ c 2) (1 + x * 2) ws (hf _) (by omega) (by omega) hw
      rw [eA]
      walk_at "ev"
      rw [hm _ _ (by omega) (by omega)]
      walk_at "ev"
      obtain ⟨B, eB, pB, lB⟩ := hs (mixZ c 3) (many - 1 - (1 + x * 2)) ws (hf _) (by omega) (by omega) hw
      rw [eB]
      walk_at "ev"
      refine ⟨.bin k A B, rfl, by simp only [Fm.parts]; omega, fun w hw => ?_⟩
      rcases List.mem_append.mp hw with h | h
      · exact lA w h
      · exact lB w h
    rcases h5 with h | h | h | h | h
    · walk_at "ev"
      rw [h]
      walk_at "ev"
      exact two .both
    · walk_at "ev"
      rw [h]
      walk_at "ev"
      exact two .one
    · walk_at "ev"
      rw [h]
      walk_at "ev"
      exact two .then_
    · walk_at "ev"
      rw [h]
      walk_at "ev"
      exact two .then_
    · walk_at "ev"
      rw [h]
      walk_at "ev"
      rw [hm _ _ (by omega) (by omega)]
      walk_at "ev"
      obtain ⟨A, eA, pA, lA⟩ := hs (mixZ c 1) (many - 2) ws (hf _) (by omega) (by omega) hw
      rw [eA]
      walk_at "ev"
      refine ⟨.bin .then_ A .low, rfl, by simp only [Fm.parts]; omega, fun w hw => ?_⟩
      rcases List.mem_append.mp hw with h | h
      · exact lA w h
      · cases h
/-- the place of a word -/
def put (w : Str) (o : Fm) : Fm → Fm
  | .low => .low
  | .lt v => if v = w then o else .lt v
  | .bin k a b => .bin k (put w o a) (put w o b)
abbrev IsPut (n : Nat) (f : Fx) : Prop := ∀ (F o : Fm) (w : Str), F.deep ≤ n → f [enc F, .str w, enc o] = .ok (enc (put w o F))
theorem put_step {f : Fx} {n : Nat} (hf : IsPut n f) : IsPut (n + 1) (runF 4 (b_placed f)) := by
  intro F o w hd
  unfold b_placed b_placed_r2 b_placed_r1
  cases F with
  | low =>
    simp only [enc]
    walk_at "ev"
    rfl
  | lt v =>
    simp only [enc]
    walk_at "ev"
    by_cases h : v = w
    · simp only [h, decide_true]
      walk_at "ev"
      simp [put]
    · simp only [h, decide_false]
      walk_at "ev"
      simp [put, h, enc]
  | bin k a b =>
    simp only [Fm.deep] at hd
    have e1 := hf a o w (by omega)
    have e2 := hf b o w (by omega)
    cases k <;> (simp only [enc, Kd.str]; walk_at "ev"; rw [e1]; walk_at "ev"; rw [e2]; walk_at "ev"; rfl)
/-- all through the same: statements and texts -/
structure IsSame (n : Nat) (f : Fx) : Prop where
  str : 1 ≤ n → ∀ x y : Str, f [.str x, .str y] = .ok (.bool (decide (x = y)))
  fm : ∀ F : Fm, F.deep < n → f [enc F, enc F] = .ok (.bool true)
theorem same_str (f : Fx) (x y : Str) : runF 4 (b__law_same f) [.str x, .str y] = .ok (.bool (decide (x = y))) := by
  unfold b__law_same b__law_same_r4 b__law_same_r3 b__law_same_r2 b__law_same_r1
  walk_at "ev"
theorem same_tup {f : Fx} (xs : List PyData) (hl : xs.length ≤ 1000) (h : ∀ x ∈ xs, f [x, x] = .ok (.bool true)) : runF 4 (b__law_same f) [.tuple xs, .tuple xs] = .ok (.bool true) := by
  unfold b__law_same b__law_same_r4 b__law_same_r3 b__law_same_r2 b__law_same_r1
  walk_at "ev"
  have hz : ∀ d ∈ zipL xs xs, ∃ x, x ∈ xs ∧ d = .tuple [x, x] := by
    intro d hd
    unfold zipL at hd
    obtain ⟨p, hp, rfl⟩ := List.mem_map.mp hd
    obtain ⟨i, hi, e⟩ := List.mem_iff_getElem.mp hp
    rw [List.getElem_zip] at e
    subst e
    exact ⟨_, List.getElem_mem _, rfl⟩
  rw [lcK_map (e := fun d => match d with | .tuple [x, y] => [some (.tuple xs), some (.tuple xs), some x, some y] | _ => []) (g := fun _ => .bool true) (by simp [zipL]; omega) (fun d hd => ?_) (fun d hd => ?_)]
  · walk_at "ev"
    have e : (zipL xs xs).map (fun _ => PyData.bool true) = ((zipL xs xs).map fun _ => true).map PyData.bool := by simp
    rw [e, allD_ok]
    walk_at "ev"
    simp
  · obtain ⟨x, _, rfl⟩ := hz d hd
    rfl
  · obtain ⟨x, hx, rfl⟩ := hz d hd
    walk_at "ev"
    rw [h x hx]
theorem same_step {f : Fx} {n : Nat} (hf : IsSame n f) : IsSame (n + 1) (runF 4 (b__law_same f)) where
  str := fun _ x y => same_str f x y
  fm := fun F hd => by
    have hs := fun h x => (hf.str h x x).trans (by rw [decide_eq_true rfl])
    cases F with
    | low =>
      refine same_tup _ (by simp) fun x hx => ?_
      simp only [Fm.deep] at hd
      rw [List.mem_singleton.mp hx]
      exact hs (by omega) _
    | lt w =>
      refine same_tup _ (by simp) fun x hx => ?_
      simp only [Fm.deep] at hd
      simp only [List.mem_cons, List.not_mem_nil, or_false] at hx
      rcases hx with rfl | rfl <;> exact hs (by omega) _
    | bin k a b =>
      refine same_tup _ (by simp) fun x hx => ?_
      simp only [Fm.deep] at hd
      simp only [List.mem_cons, List.not_mem_nil, or_false] at hx
      rcases hx with rfl | rfl | rfl
      · exact hs (by omega) _
      · exact hf.fm a (by omega)
      · exact hf.fm b (by omega)
def partsAll : List Fm → Nat
  | [] => 0
  | f :: r => f.parts + partsAll r
theorem partsAll_app : ∀ a b : List Fm, partsAll (a ++ b) = partsAll a + partsAll b
  | [], b => by simp [partsAll]
  | f :: a, b => by simp only [List.cons_append, partsAll, partsAll_app a b]; omega
theorem put_deep (w : Str) (o : Fm) : ∀ F : Fm, (put w o F).deep ≤ F.deep + o.deep
  | .low => by simp [put, Fm.deep]
  | .lt v => by simp only [put]; split <;> simp [Fm.deep]
  | .bin k a b => by
    have h1 := put_deep w o a
    have h2 := put_deep w o b
    simp only [put, Fm.deep]; omega
theorem put_letters {w : Str} {o : Fm} {p : Str → Prop} (ho : ∀ v ∈ o.letters, p v) : ∀ F : Fm, (∀ v ∈ F.letters, p v) → ∀ v ∈ (put w o F).letters, p v
  | .low, h => h
  | .lt v, h => by simp only [put]; split <;> assumption
  | .bin k a b, h => fun v hv => by
    rcases List.mem_append.mp hv with q | q
    · exact put_letters ho a (fun v hv => h v (List.mem_append_left _ hv)) v q
    · exact put_letters ho b (fun v hv => h v (List.mem_append_right _ hv)) v q
def pr (w : Str) (o : Fm) (T : Fm) : PyData := .tuple [enc (put w o T), enc T]
theorem fits_loop {f : Fx} {n : Nat} (hf : IsSame n f) (hn : 45 ≤ n) (w : Str) (hw : PyData.strOk w = true) (o : Fm) (ho : o.deep ≤ 10) (hol : ∀ v ∈ o.letters, PyData.strOk v = true) (a b : PyData) :
    ∀ (fuel : Nat) (Ts : List Fm) (x5 x6 : Option PyData), partsAll Ts < fuel → Ts.length ≤ 1000 + (1000 - partsAll Ts) → partsAll Ts ≤ 1000 → (∀ T ∈ Ts, T.deep ≤ 40 ∧ ∀ v ∈ T.letters, PyData.strOk v = true) →
      ∃ x5' x6', whD (tst (op2 neD (vr 4) (mkL []))) (b__law_fits_l1 f) fuel [some a, some b, some (.str w), some (enc o), some (.list (Ts.map (pr w o))), x5, x6] = .nx [some a, some b, some (.str w), some (enc o), some (.list []), x5', x6'] := by
  intro fuel
  induction fuel with
  | zero => intro Ts x5 x6 h; omega
  | succ fuel ih =>
    intro Ts x5 x6 h hlen hpa hT
    have shp : ∀ T ∈ Ts, Sh 55 (pr w o T) := fun T hT' => by
      obtain ⟨h1, h2⟩ := hT T hT'
      have h3 := put_deep w o T
      refine (Sh.tuple (k := 54) fun x hx => ?_)
      simp only [List.mem_cons, List.not_mem_nil, or_false] at hx
      rcases hx with rfl | rfl
      · exact Sh.enc (put_letters hol T h2) (by omega)
      · exact Sh.enc h2 (by omega)
    have shl : Sh 56 (.list (Ts.map (pr w o))) := Sh.list fun x hx => by
      obtain ⟨T, hT', rfl⟩ := List.mem_map.mp hx
      exact shp T hT'
    rw [ev_wh]
    walk_at "ev"
    rw [ne_nil shl (by decide) (by decide)]
    rcases List.eq_nil_or_concat Ts with rfl | ⟨Us, T, rfl⟩
    · simp only [List.map_nil, List.isEmpty_nil]
      walk_at "ev"
      exact ⟨x5, x6, rfl⟩
    · have e0 : ((Us ++ [T]).map (pr w o)).isEmpty = false := by simp
      rw [List.concat_eq_append, e0]
      rw [List.concat_eq_append] at hT h hlen hpa
      rw [partsAll_app] at h hlen hpa
      simp only [partsAll, Nat.add_zero, List.length_append, List.length_cons, List.length_nil] at h hlen hpa
      have hU : ∀ V ∈ Us, V.deep ≤ 40 ∧ ∀ v ∈ V.letters, PyData.strOk v = true := fun V hV => hT V (List.mem_append_left _ hV)
      obtain ⟨hd, hl⟩ := hT T (by simp)
      walk_at "ev"
      have unf : ∀ δ, b__law_fits_l1 f δ = sq (popS 4 (bT [5, 6])) _ δ := fun δ => rfl
      rw [unf, ev_sq, pop_ok (δ' := [some a, some b, some (.str w), some (enc o), some (.list (Us.map (pr w o))), some (enc (put w o T)), some (enc T)]) (S := Us.map (pr w o)) (d := pr w o T) (by walk_at "ev"; simp) rfl]
      walk_at "ev"
      have ew : (PyData.tuple [PyData.str "letter", PyData.str w]) = enc (.lt w) := rfl
      rw [ew, enc_eqD hl (by simp [Fm.letters, hw]) (by omega) (by simp [Fm.deep])]
      walk_at "ev"
      have hp1 := Fm.parts_pos T
      by_cases hTw : T = .lt w
      · subst hTw
        simp only [decide_true]
        walk_at "ev"
        have e1 : put w o (.lt w) = o := by simp [put]
        rw [e1, hf.fm o (by omega)]
        walk_at "ev"
        exact ih Us _ _ (by omega) (by omega) (by omega) hU
      · simp only [hTw, decide_false]
        walk_at "ev"
        cases T with
        | low =>
          have e1 : put w o .low = .low := rfl
          rw [e1]
          have e2 := hf.fm .low (by simp [Fm.deep]; omega)
          simp only [enc] at e2 ⊢
          walk_at "ev"
          rw [e2]
          walk_at "ev"
          exact ih Us _ _ (by omega) (by omega) (by omega) hU
        | lt v =>
          have hv : v ≠ w := fun e => hTw (by rw [e])
          have e1 : put w o (.lt v) = .lt v := by simp [put, hv]
          rw [e1]
          have e2 := hf.fm (.lt v) (by simp [Fm.deep]; omega)
          simp only [enc] at e2 ⊢
          walk_at "ev"
          rw [e2]
          walk_at "ev"
          exact ih Us _ _ (by omega) (by omega) (by omega) hU
        | bin k A B =>
          have e1 : put w o (.bin k A B) = .bin k (put w o A) (put w o B) := rfl
          rw [e1]
          simp only [enc]
          walk_at "ev"
          rw [hf.str (by omega)]
          walk_at "ev"
          simp only [Fm.parts] at h hlen hpa
          simp only [Fm.deep] at hd
          have hA := Fm.parts_pos A
          have hB := Fm.parts_pos B
          have hmem : ∀ V ∈ Us ++ [A, B], V.deep ≤ 40 ∧ ∀ v ∈ V.letters, PyData.strOk v = true := fun V hV => by
            rcases List.mem_append.mp hV with q | q
            · exact hU V q
            · simp only [List.mem_cons, List.not_mem_nil, or_false] at q
              rcases q with rfl | rfl
              · exact ⟨by omega, fun v hv => hl v (List.mem_append_left _ hv)⟩
              · exact ⟨by omega, fun v hv => hl v (List.mem_append_right _ hv)⟩
          have hp := partsAll_app Us [A, B]
          simp only [partsAll, Nat.add_zero] at hp
          have := ih (Us ++ [A, B]) (some (PyData.tuple [.str k.str, enc (put w o A), enc (put w o B)])) (some (PyData.tuple [.str k.str, enc A, enc B])) (by omega) (by simp; omega) (by omega) hmem
          rw [List.map_append] at this
          simpa [pr] using this
theorem fits_ok {f : Fx} {n : Nat} (hf : IsSame n f) (hn : 45 ≤ n) (w : Str) (hw : PyData.strOk w = true) (o F : Fm) (ho : o.deep ≤ 10) (hol : ∀ v ∈ o.letters, PyData.strOk v = true) (hF : F.parts ≤ 70) (hFl : ∀ v ∈ F.letters, PyData.strOk v = true) :
    runF 7 (b__law_fits f) [enc (put w o F), enc F, .str w, enc o] = .ok (.bool true) := by
  unfold b__law_fits
  have hd := Fm.deep_parts F
  obtain ⟨x5, x6, e⟩ := fits_loop hf hn w hw o ho hol (enc (put w o F)) (enc F) 1000000000 [F] none none (by simp [partsAll]; omega) (by simp; omega) (by simp [partsAll]; omega) (fun T hT => by rw [List.mem_singleton.mp hT]; exact ⟨by omega, hFl⟩)
  walk_at "ev"
  simp only [List.map_cons, List.map_nil, pr] at e
  rw [e]
  unfold b__law_fits_r1
  walk_at "ev"
theorem put_self (w : Str) : ∀ F : Fm, put w (.lt w) F = F
  | .low => rfl
  | .lt v => by simp only [put]; split <;> simp_all
  | .bin k a b => by simp only [put, put_self w a, put_self w b]
theorem den_mix (n : Nat) : IsMix (den (n + 1) 1) := mix_ok
theorem den_stm : ∀ n, IsStm n (den n 4)
  | 0 => fun c many ws _ h1 h2 => by omega
  | n + 1 => stm_step (fun h => by
      obtain ⟨k, rfl⟩ : ∃ k, n = k + 1 := ⟨n - 1, by omega⟩
      exact den_mix k) (den_stm n)
theorem den_put : ∀ n, IsPut n (den n 0)
  | 0 => fun F o w h => by have := Fm.deep_pos F; omega
  | n + 1 => put_step (den_put n)
theorem den_same : ∀ n, IsSame n (den n 5)
  | 0 => ⟨fun h => by omega, fun F h => by omega⟩
  | n + 1 => same_step (den_same n)
/-- the callees, as the law sees them -/
structure Cal (cell words stm mix placed fits : Fx) : Prop where
  mix : IsMix mix
  cell : ∀ (ns : List Int) (k : Int), 0 ≤ k → k < 1000 → cell [.list (ns.map .int), .int k] = .ok (.int (cellZ ns k))
  words : ∀ c : Int, 0 ≤ c → ∃ ws : List Str, words [.int c] = .ok (.list (ws.map .str)) ∧ 2 ≤ ws.length ∧ ws.length ≤ 4 ∧ ∀ w ∈ ws, WordOk w
  stm : IsStm 100 stm
  plc : IsPut 100 placed
  fits : ∀ (w : Str) (o F : Fm), PyData.strOk w = true → o.deep ≤ 10 → (∀ v ∈ o.letters, PyData.strOk v = true) → F.parts ≤ 70 → (∀ v ∈ F.letters, PyData.strOk v = true) → fits [enc (put w o F), enc F, .str w, enc o] = .ok (.bool true)
theorem IsStm.mono {n m : Nat} {f : Fx} (h : IsStm m f) (e : n ≤ m) : IsStm n f := fun c many ws h0 h1 h2 => h c many ws h0 h1 (by omega)
theorem cal_ok : Cal (den 649 2) (den 649 3) (den 649 4) (den 649 1) (den 649 0) (den 649 6) where
  mix := den_mix 648
  cell := fun ns k h0 h1 => cell_ok (den_mix 647) ns k h0 h1
  words := fun c h => words_ok (den_mix 647) c h
  stm := (den_stm 649).mono (by decide)
  plc := fun F o w h => den_put 649 F o w (by omega)
  fits := fun w o F hw ho hol hF hFl => fits_ok (den_same 648) (by decide) w hw o F ho hol hF hFl
section
variable {cell words stm mix placed fits : Fx} (C : Cal cell words stm mix placed fits) {ns : List Int} {ws : List Str} {w : Str} {F : Fm}
include C
theorem loop1 (hW : ∀ v ∈ ws, WordOk v) (hl : 2 ≤ ws.length) (hn : ns.length ≤ 63) (sF : PyData) : ∃ (Os : List Fm) (x5 x6 : Option PyData),
    forD (bN 5) (b_law_l1 cell words stm mix placed fits) (rangeL 3 (min (9 : Int) ((ns.length : Nat) : Int) - 3).toNat) [some (.list (ns.map .int)), some (.list (ws.map .str)), some sF, some (.str w), some (.list [enc (.lt w)]), none, none, none, none, none] =
      .nx [some (.list (ns.map .int)), some (.list (ws.map .str)), some sF, some (.str w), some (.list ((.lt w :: Os).map enc)), x5, x6, none, none, none] ∧ Os.length ≤ 6 ∧ ∀ o ∈ Os, o.deep ≤ 10 ∧ ∀ v ∈ o.letters, v ∈ ws := by
  have step : ∀ (i : Nat) (δ : Ev), i < (min (9 : Int) ((ns.length : Nat) : Int) - 3).toNat → (∃ (Os : List Fm) (x5 x6 : Option PyData), δ = [some (.list (ns.map .int)), some (.list (ws.map .str)), some sF, some (.str w), some (.list ((.lt w :: Os).map enc)), x5, x6, none, none, none] ∧ Os.length = i ∧ ∀ o ∈ Os, o.deep ≤ 10 ∧ ∀ v ∈ o.letters, v ∈ ws) →
      ∃ δ2, b_law_l1 cell words stm mix placed fits (δ.set 5 (some (.int (3 + (i : Nat))))) = .nx δ2 ∧ ∃ (Os : List Fm) (x5 x6 : Option PyData), δ2 = [some (.list (ns.map .int)), some (.list (ws.map .str)), some sF, some (.str w), some (.list ((.lt w :: Os).map enc)), x5, x6, none, none, none] ∧ Os.length = i + 1 ∧ ∀ o ∈ Os, o.deep ≤ 10 ∧ ∀ v ∈ o.letters, v ∈ ws := by
    rintro i δ hi ⟨Os, x5, x6, rfl, hlO, hO⟩
    unfold b_law_l1
    walk_at "ev"
    rw [C.cell ns _ (by omega) (by omega)]
    walk_at "ev"
    rw [C.mix _ _ (by omega) (by omega)]
    walk_at "ev"
    rw [C.mix _ _ (by omega) (by omega)]
    walk_at "ev"
    obtain ⟨G, eG, pG, lG⟩ := C.stm (mixZ (mixZ (cellZ ns (3 + (i : Nat))) (3 + (i : Nat))) 1) (1 + 2 * (mixZ (cellZ ns (3 + (i : Nat))) (3 + (i : Nat)) % 2)) ws (mixZ_range _ _).1 (by omega) (by omega) (by omega)
    rw [eG]
    walk_at "ev"
    have hd := Fm.deep_parts G
    refine ⟨_, rfl, Os ++ [G], _, _, by simp; exact ⟨rfl, rfl⟩, by simp [hlO], fun o ho => ?_⟩
    rcases List.mem_append.mp ho with h | h
    · exact hO o h
    · rw [List.mem_singleton.mp h]
      exact ⟨by omega, lG⟩
  obtain ⟨δ', e, Os, x5, x6, rfl, h1, h2⟩ := forD_range _ _ step _ ⟨[], none, none, rfl, rfl, fun o h => by cases h⟩
  exact ⟨Os, x5, x6, e, by omega, h2⟩
theorem loop2 (hF : F.parts ≤ 70) (hFl : ∀ v ∈ F.letters, PyData.strOk v = true) (hw : PyData.strOk w = true) (a b d : PyData) (x5 x6 : Option PyData) : ∀ (Os Ds : List Fm) (x8 x9 : Option PyData), (∀ o ∈ Os, o.deep ≤ 10 ∧ ∀ v ∈ o.letters, PyData.strOk v = true) → Os.length + Ds.length ≤ 100 → ∃ x8' x9',
    forD (bN 8) (b_law_l2 cell words stm mix placed fits) (Os.map enc) [some a, some b, some (enc F), some (.str w), some d, x5, x6, some (.list (Ds.map enc)), x8, x9] = .nx [some a, some b, some (enc F), some (.str w), some d, x5, x6, some (.list ((Ds ++ Os.map fun o => put w o F).map enc)), x8', x9']
  | [], Ds, x8, x9, _, _ => ⟨x8, x9, by simp [forD]⟩
  | o :: Os, Ds, x8, x9, h, hl => by
    obtain ⟨h1, h2⟩ := h o List.mem_cons_self
    have hd := Fm.deep_parts F
    obtain ⟨x8', x9', e⟩ := loop2 hF hFl hw a b d x5 x6 Os (Ds ++ [put w o F]) (some (enc o)) (some (enc (put w o F))) (fun o ho => h o (List.mem_cons_of_mem _ ho)) (by simp at hl ⊢; omega)
    refine ⟨x8', x9', ?_⟩
    simp only [List.length_cons] at hl
    rw [List.map_cons, forD_N]
    have unf : ∀ δ, b_law_l2 cell words stm mix placed fits δ = sq (setS 9 _) _ δ := fun δ => rfl
    rw [unf]
    walk_at "ev"
    rw [C.plc F o w (by omega)]
    walk_at "ev"
    rw [C.fits w o F hw h1 h2 hF hFl]
    walk_at "ev"
    have e2 : (Ds.map enc ++ [enc (put w o F)]) = (Ds ++ [put w o F]).map enc := by simp
    rw [e2, e]
    simp
theorem loop3 (hF : F.parts ≤ 70) (hFl : ∀ v ∈ F.letters, PyData.strOk v = true) (a b d t : PyData) (x5 x6 : Option PyData) : ∀ (Os : List Fm) (x8 x9 : Option PyData), (∀ o ∈ Os, o.deep ≤ 10 ∧ ∀ v ∈ o.letters, PyData.strOk v = true) → ∃ x8' x9',
    forD (bT [8, 9]) (b_law_l3 cell words stm mix placed fits) (zipL (Os.map enc) ((Os.map fun o => put w o F).map enc)) [some a, some b, some (enc F), some (.str w), some d, x5, x6, some t, x8, x9] = .nx [some a, some b, some (enc F), some (.str w), some d, x5, x6, some t, x8', x9']
  | [], x8, x9, _ => ⟨x8, x9, by simp [zipL, forD]⟩
  | o :: Os, x8, x9, h => by
    obtain ⟨h1, h2⟩ := h o List.mem_cons_self
    have hd := Fm.deep_parts F
    have hd2 := put_deep w o F
    have hl2 := put_letters (w := w) h2 F hFl
    obtain ⟨x8', x9', e⟩ := loop3 hF hFl a b d t x5 x6 Os (some (enc o)) (some (enc (put w o F))) (fun o ho => h o (List.mem_cons_of_mem _ ho))
    refine ⟨x8', x9', ?_⟩
    have ez : zipL ((o :: Os).map enc) (((o :: Os).map fun o => put w o F).map enc) = .tuple [enc o, enc (put w o F)] :: zipL (Os.map enc) ((Os.map fun o => put w o F).map enc) := rfl
    rw [ez, forD_T _ _ _ _ _ rfl]
    have unf : ∀ δ, b_law_l3 cell words stm mix placed fits δ = ifS _ _ _ δ := fun δ => rfl
    rw [unf]
    walk_at "ev"
    rw [C.plc F o w (by omega)]
    walk_at "ev"
    rw [enc_neD hl2 hl2 (by omega) (by omega)]
    walk_at "ev"
    exact e
theorem law_ok (hn : ns.length ≤ 63) : runF 10 (b_law cell words stm mix placed fits) [.list (ns.map .int)] = .ok (.bool true) := by
  have hc : ∀ k, 0 ≤ cellZ ns k := fun k => (mixZ_range _ _).1
  unfold b_law
  walk_at "ev"
  rw [C.cell ns 0 (by omega) (by omega)]
  walk_at "ev"
  obtain ⟨ws, ew, hw1, hw2, hW⟩ := C.words (cellZ ns 0) (hc 0)
  rw [ew]
  walk_at "ev"
  rw [C.cell ns 1 (by omega) (by omega)]
  walk_at "ev"
  rw [C.cell ns 2 (by omega) (by omega)]
  walk_at "ev"
  obtain ⟨F, eF, pF, lF⟩ := C.stm (cellZ ns 1) (1 + 2 * (cellZ ns 2 % 31)) ws (hc 1) (by omega) (by omega) (by omega)
  rw [eF]
  walk_at "ev"
  rw [C.cell ns 0 (by omega) (by omega)]
  walk_at "ev"
  have hFl : ∀ v ∈ F.letters, PyData.strOk v = true := fun v hv => (hW v (lF v hv)).low.strOk
  have hd := Fm.deep_parts F
  have eq1 : (ws.map PyData.str ++ [PyData.str "q"]) = (ws ++ [("q" : Str)]).map PyData.str := by simp
  rw [eq1]
  obtain ⟨w, e1, hw⟩ := ixW (ws := ws ++ [("q" : Str)]) (i := cellZ ns 0 / 7 % ((ws.length : Nat) + 1)) (Int.emod_nonneg _ (by omega)) (by
    have := Int.emod_lt_of_pos (cellZ ns 0 / 7) (show (0 : Int) < (ws.length : Nat) + 1 by omega)
    simp; omega)
  rw [e1]
  walk_at "ev"
  have hwo : PyData.strOk w = true := by
    rcases List.mem_append.mp hw with h | h
    · exact (hW w h).low.strOk
    · rw [List.mem_singleton.mp h]; decide +kernel
  obtain ⟨Os, x5, x6, e2, hO1, hO2⟩ := loop1 C (w := w) hW hw1 hn (enc F)
  have ew2 : (PyData.tuple [PyData.str "letter", PyData.str w]) = enc (.lt w) := rfl
  rw [ew2, e2]
  walk_at "ev"
  unfold b_law_r3
  have hOs : ∀ o ∈ (.lt w :: Os), o.deep ≤ 10 ∧ ∀ v ∈ o.letters, PyData.strOk v = true := fun o ho => by
    rcases List.mem_cons.mp ho with rfl | h
    · exact ⟨by simp [Fm.deep], fun v hv => by rw [List.mem_singleton.mp hv]; exact hwo⟩
    · exact ⟨(hO2 o h).1, fun v hv => (hW v ((hO2 o h).2 v hv)).low.strOk⟩
  walk_at "ev"
  obtain ⟨x8, x9, e3⟩ := loop2 C (by omega) hFl hwo (.list (ns.map .int)) (.list (ws.map .str)) (.list ((.lt w :: Os).map enc)) x5 x6 (.lt w :: Os) [] none none hOs (by simp; omega)
  simp only [List.map_cons, List.map_nil, List.nil_append] at e3
  try simp only [List.map_cons]
  rw [e3]
  walk_at "ev"
  unfold b_law_r2
  walk_at "ev"
  obtain ⟨x8', x9', e4⟩ := loop3 C (w := w) (by omega) hFl (.list (ns.map .int)) (.list (ws.map .str)) (.list ((.lt w :: Os).map enc)) (.list (((.lt w :: Os).map fun o => put w o F).map enc)) x5 x6 (.lt w :: Os) x8 x9 hOs
  simp only [List.map_cons] at e4
  rw [e4]
  walk_at "ev"
  unfold b_law_r1
  walk_at "ev"
  rw [put_self, enc_eqD hFl hFl (by omega) (by omega)]
  walk_at "ev"
end
theorem law_true (ns : List Int) (hn : ns.length ≤ 63) : den 650 7 [.list (ns.map .int)] = .ok (.bool true) := law_ok cal_ok hn
end K_ken_k61_placed

theorem PySem.Challenge.cw_ken_k61_placed_holds : PySem.Challenge.rw_ken_k61_placed.Holds := by
  exact K_ken_k61_placed.holds_of K_ken_k61_placed.law_true
