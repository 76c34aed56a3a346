import PyProof.Rows.All
import Wide.All
import OpenK.AllK
import Wide.FinOn
import HandS.ForMost
import HandS.Exc
import HandS.ExcOwn
import HandS.TryOnly
import HandS.WordsExc
import HandS.IsInst
import HandS.Deep
import HandS.Rev
import HandS.RevRange
import HandS.Zip
import HandS.Conv
import HandS.TupAny
import HandS.Wide
import HandS.Style
import HandS.HeadHook4
import KE.SortData
import HandS.NoneIn
import HandS.RevTup
import KE.KExcIs
import HandS.Set
import HandS.SetFor
import HandS.SetTxt0
import HandS.Strs
import KE.KDictWalk
import HandS.Head2
import HandS.HeadEnd
import PySem.Challenge.RW_ken_k13_known
set_option Elab.async false
set_option linter.all false
set_option maxRecDepth 100000
set_option maxHeartbeats 0
namespace Dl
open PySem PySem.Spec L2

/-! ### results -/
inductive R (α : Type) where
  | ok (a : α)
  | err (c : Str) (x : Option (Str × Int))
  | bad
def R.bind {α β : Type} (r : R α) (f : α → R β) : R β := match r with
  | .ok a => f a
  | .err c x => .err c x
  | .bad => .bad
abbrev Ev := List (Option PyData)
abbrev FE := Ev → R PyData
abbrev FT := Ev → R Bool
inductive SR where
  | nx (e : Ev)
  | rt (d : PyData)
  | bk (e : Ev)
  | ct (e : Ev)
  | err (c : Str) (x : Option (Str × Int)) (e : Ev)
  | bad
abbrev FS := Ev → SR

/-! ### values as data -/
def kD : Key → PyData
  | .inl i => .int i
  | .inr x => .str x
mutual
inductive Rp (K : PySem.W.Frag) (H : Hp) (av : Addr → Prop) : V → PyData → Prop
  | non : Rp K H av .non .none
  | bl (b : Bool) : Rp K H av (.bl b) (.bool b)
  | int (i : Int) : Rp K H av (.int i) (.int i)
  | str (x : Str) : Rp K H av (.str x) (.str x)
  | lst {a : Addr} {xs : List V} {ds : List PyData} : Rd H a (.lst xs) → ¬ av a → RpAll K H av xs ds → Rp K H av (.ref a) (.list ds)
  | tup {a : Addr} {xs : List V} {ds : List PyData} : SqT K H a xs → RpAll K H av xs ds → Rp K H av (.ref a) (.tuple ds)
  | dct {a : Addr} {kvs : List (Key × V)} {ds : List PyData} : H a = some (.dK kvs) → ¬ av a → RpAll K H av (kvs.map (·.2)) ds → Rp K H av (.ref a) (.dict ((kvs.map fun p => kD p.1).zip ds))
inductive RpAll (K : PySem.W.Frag) (H : Hp) (av : Addr → Prop) : List V → List PyData → Prop
  | nil : RpAll K H av [] []
  | cons {v : V} {vs : List V} {d : PyData} {ds : List PyData} : Rp K H av v d → RpAll K H av vs ds → RpAll K H av (v :: vs) (d :: ds)
end

/-- what is not avoided, and each tuple, stays -/
def Kp (av : Addr → Prop) (H H' : Hp) : Prop := ∀ b o, H b = some o → (¬ av b ∨ ∃ xs, Rd H b (.tup xs)) → H' b = some o
theorem Kp.of_same {av : Addr → Prop} {H H' : Hp} (s : Same H H') : Kp av H H' := fun b o h _ => s b o h

section
variable {K : PySem.W.Frag} {H H' : Hp} {av av' : Addr → Prop}
theorem rd_kp {a : Addr} {u : HO} (k : Kp av H H') (h : Rd H a u) (n : ¬ av a ∨ ∃ xs, Rd H a (.tup xs)) : Rd H' a u := by
  rcases h with h | ⟨o, h⟩
  · exact .inl (k _ _ h n)
  · exact .inr ⟨o, k _ _ h n⟩
theorem sqT_kp {a : Addr} {xs : List V} (k : Kp av H H') (h : SqT K H a xs) : SqT K H' a xs := by
  rcases h with h | h
  · exact .inl (rd_kp k h (.inr ⟨xs, h⟩))
  · exact .inr h
mutual
/-- the heap goes on; fewer or other addresses are avoided -/
theorem Rp.mono (k : Kp av H H') (ha : ∀ a, H a ≠ none → ¬ av a → ¬ av' a) : ∀ {v : V} {d : PyData}, Rp K H av v d → Rp K H' av' v d
  | _, _, .non => .non
  | _, _, .bl b => .bl b
  | _, _, .int i => .int i
  | _, _, .str x => .str x
  | _, _, .lst h n r => .lst (rd_kp k h (.inl n)) (ha _ (by rcases h with h | ⟨o, h⟩ <;> rw [h] <;> simp) n) (RpAll.mono k ha r)
  | _, _, .tup h r => .tup (sqT_kp k h) (RpAll.mono k ha r)
  | _, _, .dct h n r => .dct (k _ _ h (.inl n)) (ha _ (by rw [h]; simp) n) (RpAll.mono k ha r)
theorem RpAll.mono (k : Kp av H H') (ha : ∀ a, H a ≠ none → ¬ av a → ¬ av' a) : ∀ {vs : List V} {ds : List PyData}, RpAll K H av vs ds → RpAll K H' av' vs ds
  | _, _, .nil => .nil
  | _, _, .cons h r => .cons (Rp.mono k ha h) (RpAll.mono k ha r)
end
theorem Rp.same {v : V} {d : PyData} (s : Same H H') (h : Rp K H av v d) : Rp K H' av v d := h.mono (Kp.of_same s) fun _ _ n => n
theorem RpAll.same {vs : List V} {ds : List PyData} (s : Same H H') (h : RpAll K H av vs ds) : RpAll K H' av vs ds := h.mono (Kp.of_same s) fun _ _ n => n
theorem Rp.weak {v : V} {d : PyData} (w : ∀ a, av' a → av a) (h : Rp K H av v d) : Rp K H av' v d := h.mono (Kp.of_same (Same.refl H)) fun a _ n z => n (w a z)
theorem RpAll.weak {vs : List V} {ds : List PyData} (w : ∀ a, av' a → av a) (h : RpAll K H av vs ds) : RpAll K H av' vs ds := h.mono (Kp.of_same (Same.refl H)) fun a _ n z => n (w a z)
/-- a new address is avoided by all that stood -/
theorem Rp.fresh {v : V} {d : PyData} {p : Addr} (hp : H p = none) (s : Same H H') (h : Rp K H av v d) : Rp K H' (fun a => av a ∨ a = p) v d :=
  h.mono (Kp.of_same s) fun a e n z => z.elim n fun q => e (q ▸ hp)
theorem RpAll.fresh {vs : List V} {ds : List PyData} {p : Addr} (hp : H p = none) (s : Same H H') (h : RpAll K H av vs ds) : RpAll K H' (fun a => av a ∨ a = p) vs ds :=
  h.mono (Kp.of_same s) fun a e n z => z.elim n fun q => e (q ▸ hp)
theorem RpAll.length {vs : List V} {ds : List PyData} (h : RpAll K H av vs ds) : vs.length = ds.length := by
  induction vs generalizing ds with
  | nil => cases h; rfl
  | cons v vs ih => cases h with | cons h r => simp [ih r]
theorem RpAll.get {vs : List V} {ds : List PyData} {i : Nat} {v : V} (h : RpAll K H av vs ds) (e : vs[i]? = some v) : ∃ d, ds[i]? = some d ∧ Rp K H av v d := by
  induction vs generalizing ds i with
  | nil => simp at e
  | cons w vs ih =>
    cases h with
    | cons h r =>
      cases i with
      | zero => simp at e; subst e; exact ⟨_, rfl, h⟩
      | succ i =>
        obtain ⟨d, h1, h2⟩ := ih r (by simpa using e)
        exact ⟨d, by simpa using h1, h2⟩
theorem RpAll.get' {vs : List V} {ds : List PyData} {i : Nat} {d : PyData} (h : RpAll K H av vs ds) (e : ds[i]? = some d) : ∃ v, vs[i]? = some v ∧ Rp K H av v d := by
  induction vs generalizing ds i with
  | nil => cases h; simp at e
  | cons w vs ih =>
    cases h with
    | cons h r =>
      cases i with
      | zero => simp at e; subst e; exact ⟨_, rfl, h⟩
      | succ i =>
        obtain ⟨d, h1, h2⟩ := ih r (by simpa using e)
        exact ⟨d, by simpa using h1, h2⟩
theorem RpAll.append {vs ws : List V} {ds es : List PyData} (h : RpAll K H av vs ds) (g : RpAll K H av ws es) : RpAll K H av (vs ++ ws) (ds ++ es) := by
  induction vs generalizing ds with
  | nil => cases h; exact g
  | cons v vs ih => cases h with | cons h r => exact .cons h (ih r)
theorem RpAll.take {vs : List V} {ds : List PyData} (h : RpAll K H av vs ds) (n : Nat) : RpAll K H av (vs.take n) (ds.take n) := by
  induction vs generalizing ds n with
  | nil => cases h; simp; exact .nil
  | cons v vs ih => cases h with | cons h r => cases n with
    | zero => exact .nil
    | succ n => exact .cons h (ih r n)
theorem RpAll.drop {vs : List V} {ds : List PyData} (h : RpAll K H av vs ds) (n : Nat) : RpAll K H av (vs.drop n) (ds.drop n) := by
  induction vs generalizing ds n with
  | nil => cases h; simp; exact .nil
  | cons v vs ih => cases h with | cons h r => cases n with
    | zero => exact .cons h r
    | succ n => exact ih r n
theorem RpAll.set {vs : List V} {ds : List PyData} {v : V} {d : PyData} (h : RpAll K H av vs ds) (g : Rp K H av v d) (i : Nat) : RpAll K H av (vs.set i v) (ds.set i d) := by
  induction vs generalizing ds i with
  | nil => cases h; exact .nil
  | cons w vs ih => cases h with | cons h r => cases i with
    | zero => exact .cons g r
    | succ i => exact .cons h (ih r i)
theorem RpAll.dropLast {vs : List V} {ds : List PyData} (h : RpAll K H av vs ds) : RpAll K H av vs.dropLast ds.dropLast := by
  rw [List.dropLast_eq_take, List.dropLast_eq_take, h.length]; exact h.take _
theorem RpAll.reverse {vs : List V} {ds : List PyData} (h : RpAll K H av vs ds) : RpAll K H av vs.reverse ds.reverse := by
  induction vs generalizing ds with
  | nil => cases h; exact .nil
  | cons w vs ih => cases h with | cons h r => simpa using (ih r).append (.cons h .nil)

mutual
theorem Rp.dp : ∀ {v : V} {d : PyData}, Rp K H av v d → d.canLay0 = true → Dp K H v d
  | _, _, .non, _ => .non
  | _, _, .bl b, _ => .bl b
  | _, _, .int i, _ => .int i
  | _, _, .str x, _ => .str x
  | _, _, .lst h _ r, c => .lst (.inl h) (RpAll.dp r (by simpa [PyData.canLay0] using c))
  | _, _, .tup h r, c => .tup h (RpAll.dp r (by simpa [PyData.canLay0] using c))
  | _, _, .dct _ _ _, c => by simp [PyData.canLay0] at c
theorem RpAll.dp : ∀ {vs : List V} {ds : List PyData}, RpAll K H av vs ds → PyData.canLayAll0 ds = true → DpAll K H vs ds
  | _, _, .nil, _ => .nil
  | _, _, .cons h r, c => by
    rw [PyData.canLayAll0, Bool.and_eq_true] at c
    exact .cons (Rp.dp h c.1) (RpAll.dp r c.2)
end
end

/-! ### what is owned -/
def Own (K : PySem.W.Frag) (H : Hp) (av : Addr → Prop) (a : Addr) : PyData → Prop
  | .list ds => ∃ vs, H a = some (.lst vs) ∧ RpAll K H av vs ds
  | .dict kds => ∃ (kvs : List (Key × V)) (ds : List PyData), H a = some (.dK kvs) ∧ RpAll K H av (kvs.map (·.2)) ds ∧ kds = (kvs.map fun p => kD p.1).zip ds
  | _ => False
theorem Own.mono {K : PySem.W.Frag} {H H' : Hp} {av av' : Addr → Prop} {a : Addr} {d : PyData} (o : Own K H av a d) (k : Kp av H H') (ha : ∀ a, H a ≠ none → ¬ av a → ¬ av' a) (s : H' a = H a) : Own K H' av' a d := by
  cases d with
  | list ds => obtain ⟨vs, h, r⟩ := o; exact ⟨vs, s.trans h, r.mono k ha⟩
  | dict kds => obtain ⟨kvs, ds, h, r, e⟩ := o; exact ⟨kvs, ds, s.trans h, r.mono k ha, e⟩
  | _ => exact o.elim
theorem Own.some {K : PySem.W.Frag} {H : Hp} {av : Addr → Prop} {a : Addr} {d : PyData} (o : Own K H av a d) : ∃ u, H a = some u ∧ Mut (some u) := by
  cases d with
  | list ds => obtain ⟨vs, h, r⟩ := o; exact ⟨_, h, trivial⟩
  | dict kds => obtain ⟨kvs, ds, h, r, e⟩ := o; exact ⟨_, h, trivial⟩
  | _ => exact o.elim
theorem Own.rp {K : PySem.W.Frag} {H : Hp} {av av' : Addr → Prop} {a : Addr} {d : PyData} (o : Own K H av a d) (w : ∀ a, av' a → av a) (n : ¬ av' a) : Rp K H av' (.ref a) d := by
  cases d with
  | list ds => obtain ⟨vs, h, r⟩ := o; exact .lst (.inl h) n (r.weak w)
  | dict kds => obtain ⟨kvs, ds, h, r, e⟩ := o; subst e; exact .dct h n (r.weak w)
  | _ => exact o.elim
theorem Own.notTup {K : PySem.W.Frag} {H : Hp} {av : Addr → Prop} {a : Addr} {d : PyData} (o : Own K H av a d) {xs : List V} : ¬ Rd H a (.tup xs) := by
  intro z
  cases d with
  | list ds => obtain ⟨vs, h, r⟩ := o; rcases z with z | ⟨_, z⟩ <;> (rw [h] at z; cases z)
  | dict kds => obtain ⟨kvs, ds, h, r, e⟩ := o; rcases z with z | ⟨_, z⟩ <;> (rw [h] at z; cases z)
  | _ => exact o.elim

/-- the frame of a def's body: K, the entry's heap, what the caller owns, whether the answer is the caller's own; what is owned at a break, a continue; what is owned at a raise; the wish of a raise -/
structure Bs where
  H0 : Hp
  av0 : Addr → Prop
structure Cc where
  n : Nat
  ow : Bool
  Ol : List Nat
  Oe : List Nat
  W : WX
def avO (B : Bs) (O : List Nat) (ad : Nat → Addr) : Addr → Prop := fun a => B.av0 a ∨ ∃ i, i ∈ O ∧ a = ad i

structure Rl (K : PySem.W.Frag) (n : Nat) (B : Bs) (O : List Nat) (ad : Nat → Addr) (δ : Ev) (σ : St) (H : Hp) : Prop where
  len : σ.length = δ.length
  lenN : δ.length = n
  inj : ∀ i ∈ O, ∀ j ∈ O, ad i = ad j → i = j
  new : ∀ i ∈ O, B.H0 (ad i) = none
  fro : ∀ i d, i ∉ O → δ[i]? = some (some d) → ∃ v, σ[i]? = some (some v) ∧ Rp K H (avO B O ad) v d
  own : ∀ i ∈ O, ∃ d, δ[i]? = some (some d) ∧ σ[i]? = some (some (.ref (ad i))) ∧ Own K H (avO B O ad) (ad i) d
  keep : Same B.H0 H
  dom : ∀ a, B.av0 a → H a ≠ none ∧ ∀ i ∈ O, a ≠ ad i

section
variable {K : PySem.W.Frag} {n : Nat} {B : Bs} {O : List Nat} {ad : Nat → Addr} {δ : Ev} {σ : St} {H H' : Hp}
theorem Rl.avdom (r : Rl K n B O ad δ σ H) : ∀ a, avO B O ad a → H a ≠ none := by
  rintro a (h | ⟨i, hi, rfl⟩)
  · exact (r.dom a h).1
  · obtain ⟨d, _, _, o⟩ := r.own i hi
    obtain ⟨u, e, _⟩ := o.some
    rw [e]; simp
theorem Rl.same (r : Rl K n B O ad δ σ H) (s : Same H H') : Rl K n B O ad δ σ H' where
  len := r.len
  lenN := r.lenN
  inj := r.inj
  new := r.new
  fro := fun i d hi e => let ⟨v, h1, h2⟩ := r.fro i d hi e; ⟨v, h1, h2.same s⟩
  own := fun i hi => by
    obtain ⟨d, h1, h2, o⟩ := r.own i hi
    obtain ⟨u, e, _⟩ := o.some
    exact ⟨d, h1, h2, o.mono (Kp.of_same s) (fun _ _ n => n) ((s _ _ e).trans e.symm)⟩
  keep := r.keep.trans s
  dom := fun a h => ⟨fun z => (r.dom a h).1 (s.free z), (r.dom a h).2⟩
theorem Rl.notAv (r : Rl K n B O ad δ σ H) {p : Addr} (hp : H p = none) : ¬ avO B O ad p := fun z => r.avdom p z hp
/-- some are owned no more -/
theorem Rl.freeze {O' : List Nat} (r : Rl K n B O ad δ σ H) (hs : ∀ i ∈ O', i ∈ O) : Rl K n B O' ad δ σ H where
  len := r.len
  lenN := r.lenN
  inj := fun i hi j hj => r.inj i (hs i hi) j (hs j hj)
  new := fun i hi => r.new i (hs i hi)
  fro := fun i d hi e => by
    have w : ∀ a, avO B O' ad a → avO B O ad a := fun a z => z.elim .inl fun ⟨j, hj, q⟩ => .inr ⟨j, hs j hj, q⟩
    by_cases hio : i ∈ O
    · obtain ⟨d', h1, h2, o⟩ := r.own i hio
      rw [e] at h1; cases h1
      refine ⟨_, h2, o.rp w ?_⟩
      rintro (z | ⟨j, hj, q⟩)
      · exact (r.dom _ z).2 i hio rfl
      · exact hi (r.inj i hio j (hs j hj) q ▸ hj)
    · obtain ⟨v, h1, h2⟩ := r.fro i d hio e
      exact ⟨v, h1, h2.weak w⟩
  own := fun i hi => by
    have w : ∀ a, avO B O' ad a → avO B O ad a := fun a z => z.elim .inl fun ⟨j, hj, q⟩ => .inr ⟨j, hs j hj, q⟩
    obtain ⟨d, h1, h2, o⟩ := r.own i (hs i hi)
    exact ⟨d, h1, h2, o.mono (Kp.of_same (Same.refl H)) (fun a _ n z => n (w a z)) rfl⟩
  keep := r.keep
  dom := fun a h => ⟨(r.dom a h).1, fun i hi => (r.dom a h).2 i (hs i hi)⟩
end
/-! ### borrowed: data, or an owned thing of data -/
def Bw (K : PySem.W.Frag) (H : Hp) (av : Addr → Prop) (v : V) (d : PyData) : Prop := Rp K H av v d ∨ ∃ a, v = .ref a ∧ Own K H av a d
section
variable {K : PySem.W.Frag} {H H' : Hp} {av : Addr → Prop} {v : V} {d : PyData}
theorem Rp.bw (h : Rp K H av v d) : Bw K H av v d := .inl h
theorem Own.same {a : Addr} (o : Own K H av a d) (s : Same H H') : Own K H' av a d := by
  obtain ⟨u, e, _⟩ := o.some
  exact o.mono (Kp.of_same s) (fun _ _ n => n) ((s _ _ e).trans e.symm)
theorem Bw.same (h : Bw K H av v d) (s : Same H H') : Bw K H' av v d := by
  rcases h with h | ⟨a, rfl, o⟩
  · exact .inl (h.same s)
  · exact .inr ⟨a, rfl, o.same s⟩
theorem Bw.list {ds : List PyData} (h : Bw K H av v (.list ds)) : ∃ a xs, v = .ref a ∧ Rd H a (.lst xs) ∧ RpAll K H av xs ds := by
  rcases h with h | ⟨a, rfl, vs, e, r⟩
  · cases h with
    | lst h n r => exact ⟨_, _, rfl, h, r⟩
  · exact ⟨a, vs, rfl, .inl e, r⟩
theorem Bw.tuple {ds : List PyData} (h : Bw K H av v (.tuple ds)) : ∃ a xs, v = .ref a ∧ SqT K H a xs ∧ RpAll K H av xs ds := by
  rcases h with h | ⟨a, rfl, o⟩
  · cases h with
    | tup h r => exact ⟨_, _, rfl, h, r⟩
  · exact o.elim
theorem Bw.int {i : Int} (h : Bw K H av v (.int i)) : v = .int i := by
  rcases h with h | ⟨a, rfl, o⟩
  · cases h; rfl
  · exact o.elim
theorem Bw.str {x : Str} (h : Bw K H av v (.str x)) : v = .str x := by
  rcases h with h | ⟨a, rfl, o⟩
  · cases h; rfl
  · exact o.elim
theorem Bw.bool {b : Bool} (h : Bw K H av v (.bool b)) : v = .bl b := by
  rcases h with h | ⟨a, rfl, o⟩
  · cases h; rfl
  · exact o.elim
theorem Bw.none (h : Bw K H av v .none) : v = .non := by
  rcases h with h | ⟨a, rfl, o⟩
  · cases h; rfl
  · exact o.elim
theorem Bw.dp (h : Bw K H av v d) (c : d.canLay0 = true) : Dp K H v d := by
  rcases h with h | ⟨a, rfl, o⟩
  · exact h.dp c
  · cases d with
    | list ds => obtain ⟨vs, e, r⟩ := o; exact .lst (.inl (.inl e)) (r.dp (by simpa [PyData.canLay0] using c))
    | dict kds => simp [PyData.canLay0] at c
    | _ => exact o.elim
end
end Dl

namespace Dl
open PySem PySem.Spec L2

/-! ### judgements -/
def Rk {α : Type} (r : R α) (q : α → Prop) (e : Str → Option (Str × Int) → Prop) : Prop := match r with
  | .ok a => q a
  | .err c x => e c x
  | .bad => False
theorem Rk.bind {α β : Type} {r : R α} {f : α → R β} {q : β → Prop} {e : Str → Option (Str × Int) → Prop} (h : Rk (r.bind f) q e) : Rk r (fun a => Rk (f a) q e) e := by
  cases r with
  | ok a => exact h
  | err c x => exact h
  | bad => exact h
theorem Rk.imp {α : Type} {r : R α} {q q' : α → Prop} {e e' : Str → Option (Str × Int) → Prop} (h : Rk r q e) (hq : ∀ a, r = .ok a → q a → q' a) (he : ∀ c x, e c x → e' c x) : Rk r q' e' := by
  cases r with
  | ok a => exact hq a rfl h
  | err c x => exact he c x h
  | bad => exact h
def ofO {α : Type} : Option α → R α
  | some a => .ok a
  | none => .bad
theorem Rk.ofO {α : Type} {o : Option α} {q : α → Prop} {e : Str → Option (Str × Int) → Prop} (h : Rk (Dl.ofO o) q e) : ∃ a, o = some a ∧ q a := by
  cases o with
  | none => exact h.elim
  | some a => exact ⟨a, rfl, h⟩
def Er (K : PySem.W.Frag) (c : Str) (x : Option (Str × Int)) (cls : Value) (dd : Option Addr) (H : Hp) : Prop :=
  cls = .ref (He.ga K c) ∧ match x with
    | none => dd = none
    | some (f, i) => ∃ a, dd = some a ∧ H a = some (.xd [(f, .int i)])
abbrev Rel3 := Hp → Hp → (Addr → Prop) → V → PyData → Prop
def relE (K : PySem.W.Frag) : Rel3 := fun _ H' av v d => Rp K H' av v d
def relB (K : PySem.W.Frag) : Rel3 := fun _ H' av v d => Bw K H' av v d
def relF (K : PySem.W.Frag) : Rel3 := fun H H' av v d => ∃ a, v = .ref a ∧ H a = none ∧ Own K H' (fun b => av b ∨ b = a) a d
def tX (K : PySem.W.Frag) (C : Cc) (O : List Nat) (rel : Rel3) (f : FE) : TE := fun σ H Q => ∃ B δ ad, Rl K C.n B O ad δ σ H ∧
  Rk (f δ) (fun d => ∀ v H', Same H H' → rel H H' (avO B O ad) v d → Q v H') (fun c x => ∀ cls dd H', Same H H' → Er K c x cls dd H' → C.W cls dd σ H')
def tT (K : PySem.W.Frag) (C : Cc) (O : List Nat) (f : FT) : TT := fun σ H Q => ∃ B δ ad, Rl K C.n B O ad δ σ H ∧
  Rk (f δ) (fun b => ∀ H', Same H H' → Q b H') (fun c x => ∀ cls dd H', Same H H' → Er K c x cls dd H' → C.W cls dd σ H')
abbrev DE (X : Cx) (C : Cc) (O : List Nat) (e : Expr) (f : FE) : Prop := PE X e (tX X.K C O (relE X.K) f)
abbrev DB (X : Cx) (C : Cc) (O : List Nat) (e : Expr) (f : FE) : Prop := PE X e (tX X.K C O (relB X.K) f)
abbrev DF (X : Cx) (C : Cc) (O : List Nat) (e : Expr) (f : FE) : Prop := PE X e (tX X.K C O (relF X.K) f)
abbrev DT (X : Cx) (C : Cc) (O : List Nat) (e : Expr) (f : FT) : Prop := PT X e (tT X.K C O f)
theorem pe_imp {X : Cx} {e : Expr} {t t' : TE} (h : PE X e t) (i : ∀ σ H Q, t' σ H Q → t σ H Q) : PE X e t' := ⟨fun pins s σ H Q I q => h.run pins s σ H Q I (i _ _ _ q)⟩
theorem pt_imp {X : Cx} {e : Expr} {t t' : TT} (h : PT X e t) (i : ∀ σ H Q, t' σ H Q → t σ H Q) : PT X e t' := ⟨fun pins s σ H Q I q => h.run pins s σ H Q I (i _ _ _ q)⟩
theorem pw_imp {X : Cx} {e : Expr} {t t' : TT} (h : PW X e t) (i : ∀ σ H Q, t' σ H Q → t σ H Q) : PW X e t' := ⟨fun whole pins s σ H Q I q => h.run whole pins s σ H Q I (i _ _ _ q)⟩
theorem pa_imp {X : Cx} {es : List Expr} {t t' : TA} (h : PA X es t) (i : ∀ σ H Q, t' σ H Q → t σ H Q) : PA X es t' := ⟨fun pos pins s σ H Q I q => h.run pos pins s σ H Q I (i _ _ _ q)⟩
section
variable {K : PySem.W.Frag} {C : Cc} {O : List Nat} {f : FE} {σ : L2.St} {H : Hp}
theorem tX.rel {rel rel' : Rel3} {Q : VK} (hr : ∀ B ad δ H' v d, Rl K C.n B O ad δ σ H → Same H H' → rel' H H' (avO B O ad) v d → rel H H' (avO B O ad) v d) (h : tX K C O rel f σ H Q) : tX K C O rel' f σ H Q := by
  obtain ⟨B, δ, ad, r, k⟩ := h
  exact ⟨B, δ, ad, r, k.imp (fun d _ q v H' s z => q v H' s (hr B ad δ H' v d r s z)) fun _ _ z => z⟩
end
section
variable {X : Cx} {C : Cc} {O : List Nat} {e : Expr} {f : FE}
/-- data is borrowed -/
theorem e2b (h : DE X C O e f) : DB X C O e f := pe_imp h fun σ H Q => tX.rel fun B ad δ H' v d _ _ z => Rp.bw z
/-- a new owned thing is data -/
theorem f2e (h : DF X C O e f) : DE X C O e f := pe_imp h fun σ H Q => tX.rel fun B ad δ H' v d r s z => by
  obtain ⟨a, rfl, n, o⟩ := z
  exact o.rp (fun b q => .inl q) (r.notAv n)
theorem f2b (h : DF X C O e f) : DB X C O e f := e2b (f2e h)
end

/-! ### names, constants -/
def vr (i : Nat) : FE := fun δ => match δ[i]? with
  | some (some d) => .ok d
  | _ => .bad
def cst (d : PyData) : FE := fun _ => .ok d
section
variable {X : Cx} {C : Cc} {O : List Nat}
theorem de_var {i : Nat} {e : Expr} (h : PE X e (tVar i)) (hi : i ∉ O) : DE X C O e (vr i) := pe_imp h fun σ H Q ⟨B, δ, ad, r, k⟩ => by
  unfold vr at k
  split at k
  · rename_i d e
    obtain ⟨v, h1, h2⟩ := r.fro i d hi e
    exact ⟨v, h1, k v H (Same.refl H) h2⟩
  · exact k.elim
theorem db_var {i : Nat} {e : Expr} (h : PE X e (tVar i)) : DB X C O e (vr i) := pe_imp h fun σ H Q ⟨B, δ, ad, r, k⟩ => by
  unfold vr at k
  split at k
  · rename_i d e
    by_cases hi : i ∈ O
    · obtain ⟨d', h1, h2, o⟩ := r.own i hi
      rw [e] at h1; cases h1
      exact ⟨_, h2, k _ H (Same.refl H) (.inr ⟨_, rfl, o⟩)⟩
    · obtain ⟨v, h1, h2⟩ := r.fro i d hi e
      exact ⟨v, h1, k v H (Same.refl H) h2.bw⟩
  · exact k.elim
def toD : V → Option PyData
  | .non => some .none
  | .bl b => some (.bool b)
  | .int i => some (.int i)
  | .str x => some (.str x)
  | _ => none
theorem de_cst {v : V} {d : PyData} {e : Expr} (h : PE X e (tC v)) (hv : toD v = some d) : DE X C O e (cst d) := pe_imp h fun σ H Q ⟨B, δ, ad, r, k⟩ => by
  refine k v H (Same.refl H) ?_
  cases v <;> cases hv <;> constructor
/-- a tuple of the module's top -/
theorem de_glob {v : V} {d : PyData} {e : Expr} (h : PE X e (tC v)) (hv : ∀ H av, Rp X.K H av v d) : DE X C O e (cst d) := pe_imp h fun σ H Q ⟨B, δ, ad, r, k⟩ => k v H (Same.refl H) (hv _ _)
end

/-! ### two in a row -/
section
variable {X : Cx} {C : Cc} {O : List Nat} {a b : Expr} {fa fb : FE}
theorem two {K : PySem.W.Frag} {ra rb : Rel3} {g : PyData → PyData → R PyData} {rel : Rel3} {σ : L2.St} {H : Hp} {Q : VK} {RR : V → V → Hp → Prop}
    (h : tX K C O rel (fun δ => (fa δ).bind fun d => (fb δ).bind fun e => g d e) σ H Q)
    (k : ∀ B ad δ x y d e H1 H2, Rl K C.n B O ad δ σ H → Same H H1 → Same H1 H2 → ra H H1 (avO B O ad) x d → rb H1 H2 (avO B O ad) y e →
      Rk (g d e) (fun d => ∀ v H', Same H H' → rel H H' (avO B O ad) v d → Q v H') (fun c x => ∀ cls dd H', Same H H' → Er K c x cls dd H' → C.W cls dd σ H') → RR x y H2) :
    tX K C O ra fa σ H fun x H1 => tX K C O rb fb σ H1 fun y H2 => RR x y H2 := by
  obtain ⟨B, δ, ad, r, q⟩ := h
  refine ⟨B, δ, ad, r, q.bind.imp (fun d _ q x H1 s1 r1 => ?_) fun _ _ z => z⟩
  refine ⟨B, δ, ad, r.same s1, q.bind.imp (fun e _ q y H2 s2 r2 => ?_) fun c x z cls dd H' s => z cls dd H' (s1.trans s)⟩
  exact k B ad δ x y d e H1 H2 r s1 s2 r1 r2 q
/-- an operation on data -/
def OpD (X : Cx) (f : Value → Value → Sem Value) (sem : PyData → PyData → Option PyData) : Prop :=
  ∀ (pins : List (Addr × Obj)) (s : Shared) (σ : L2.St) (H : Hp) (x y : V) (v u : Value) (Q : VK) (av : Addr → Prop) (d e z : PyData), Inv X pins σ H s → RelV x v → RelV y u →
    (∀ a, av a → H a ≠ none) → Bw X.K H av x d → Bw X.K H av y e → sem d e = some z → (∀ v H', Same H H' → Rp X.K H' av v z → Q v H') → wpAny (model X.prog X.w) X.A (f v u) (EP X pins σ Q) X.xe s
def op2 (sem : PyData → PyData → Option PyData) (fa fb : FE) : FE := fun δ => (fa δ).bind fun d => (fb δ).bind fun e => ofO (sem d e)
/-- the operation at its operands -/
theorem OpD.two {f : Value → Value → Sem Value} {sem : PyData → PyData → Option PyData} (ho : OpD X f sem) {pins : List (Addr × Obj)} {σ : L2.St} {H : Hp} {Q : VK} (h : tX X.K C O (relE X.K) (op2 sem fa fb) σ H Q) :
    tX X.K C O (relB X.K) fa σ H fun x H1 => tX X.K C O (relB X.K) fb σ H1 fun y H2 => ∀ v u s2, Inv X pins σ H2 s2 → RelV x v → RelV y u → wpAny (model X.prog X.w) X.A (f v u) (EP X pins σ Q) X.xe s2 :=
  Dl.two h fun B ad δ x y d e H1 H2 r s1 s2 r1 r2 q v u st I rx ry => by
    obtain ⟨z, ez, q⟩ := q.ofO
    have s12 := s1.trans s2
    exact ho pins st σ H2 x y v u Q (avO B O ad) d e z I rx ry ((r.same s12).avdom) (r1.same s2) r2 ez fun w H' s3 rz => q w H' (s12.trans s3) rz
theorem de_op {op : Operator} {sem : PyData → PyData → Option PyData} {pos : Pos} (ho : OpD X (binaryOp op) sem) (ha : DB X C O a fa) (hb : DB X C O b fb) : DE X C O (.BinOp a op b pos) (op2 sem fa fb) := by
  refine ⟨fun pins s σ H Q I h => ?_⟩
  exact wpAny_BinOp (binT ha hb I (ho.two (pins := pins) h) fun v u s2 x y H2 I2 rx ry q => q v u s2 I2 rx ry)
theorem de_cmp {op : CmpOp} {sem : PyData → PyData → Option PyData} {pos : Pos} (ho : OpD X (compareOp op) sem) (ha : DB X C O a fa) (hb : DB X C O b fb) (hm : behindInMarks op b = false := by rfl) : DE X C O (.Compare a [op] [b] pos) (op2 sem fa fb) := by
  refine ⟨fun pins s σ H Q I h => ?_⟩
  exact wpAny_Compare1 (bin ha hb I (ho.two (pins := pins) h) fun v u s2 x y H2 I2 rx ry q => q v u s2 I2 rx ry) hm
end

/-! ### tests -/
def asB : PyData → R Bool
  | .bool b => .ok b
  | _ => .bad
def tst (f : FE) : FT := fun δ => (f δ).bind asB
def andT (f g : FT) : FT := fun δ => (f δ).bind fun b => if b = true then g δ else .ok false
def orT (f g : FT) : FT := fun δ => (f δ).bind fun b => if b = true then .ok true else g δ
def notT (f : FT) : FT := fun δ => (f δ).bind fun b => .ok (!b)
def andV (f g : FE) : FE := fun δ => (f δ).bind fun d => (asB d).bind fun b => if b = true then g δ else .ok (.bool false)
def orV (f g : FE) : FE := fun δ => (f δ).bind fun d => (asB d).bind fun b => if b = true then .ok (.bool true) else g δ
def notV (f : FE) : FE := fun δ => (f δ).bind fun d => (asB d).bind fun b => .ok (.bool !b)
theorem Rk.asB {d : PyData} {q : Bool → Prop} {e : Str → Option (Str × Int) → Prop} (h : Rk (Dl.asB d) q e) : ∃ b, d = .bool b ∧ q b := by
  cases d with
  | bool b => exact ⟨b, rfl, h⟩
  | _ => exact h.elim
section
variable {X : Cx} {C : Cc} {O : List Nat} {a b : Expr} {f : FE} {fa fb : FT} {ga gb : FE}
theorem dt_val {e : Expr} (h : DB X C O e f) (he : ∀ whole, isTrue e X.env whole = (do let v ← whole; standAt e.pos; holding [v] (truthy v)) := by intro _; rfl) : DT X C O e (tst f) := pt_imp (pt_val h he) fun σ H Q ⟨B, δ, ad, r, k⟩ => by
  refine ⟨B, δ, ad, r, k.bind.imp (fun d _ q v H' s z => ?_) fun _ _ z => z⟩
  obtain ⟨b, rfl, q⟩ := q.asB
  exact ⟨b, z.bool, q H' s⟩
theorem dt_cmp {op : CmpOp} {sem : PyData → PyData → Option PyData} {pos : Pos} {x y : Expr} {fx fy : FE} (ho : OpD X (compareOp op) sem) (ha : DB X C O x fx) (hb : DB X C O y fy) (hm : behindInMarks op y = false := by rfl) : DT X C O (.Compare x [op] [y] pos) (tst (op2 sem fx fy)) := by
  refine ⟨fun pins s σ H Q I h => ?_⟩
  have h' : tX X.K C O (relE X.K) (op2 sem fx fy) σ H (fun v H' => ∃ k, v = .bl k ∧ Q k H') := by
    obtain ⟨B, δ, ad, r, k⟩ := h
    refine ⟨B, δ, ad, r, k.bind.imp (fun d _ q v H' s z => ?_) fun _ _ z => z⟩
    obtain ⟨b, rfl, q⟩ := q.asB
    exact ⟨b, z.bw.bool, q H' s⟩
  refine wpAny_isTrue_Compare1 (bin ha hb I (ho.two (pins := pins) h') fun v u s2 x y H2 I2 rx ry q => ?_) hm
  refine thn (q v u s2 I2 rx ry) fun c s3 ⟨z, H3, I3, r3, k, e, q3⟩ => ?_
  subst e
  cases r3
  exact wpAny_truthy_bool ⟨H3, I3, q3⟩
theorem dt_not {pos : Pos} (h : DT X C O a fa) : DT X C O (.UnaryOp .Not a pos) (notT fa) := pt_imp (pt_not h) fun σ H Q ⟨B, δ, ad, r, k⟩ => ⟨B, δ, ad, r, k.bind⟩
theorem tand {K : PySem.W.Frag} {σ : L2.St} {H : Hp} {Q : Bool → Hp → Prop} (h : tT K C O (andT fa fb) σ H Q) : tAnd (tT K C O fa) (tT K C O fb) σ H Q := by
  obtain ⟨B, δ, ad, r, k⟩ := h
  refine ⟨B, δ, ad, r, k.bind.imp (fun b _ q H' s => ?_) fun _ _ z => z⟩
  cases b with
  | true =>
    rw [if_pos rfl] at q ⊢
    exact ⟨B, δ, ad, r.same s, q.imp (fun c _ q H2 s2 => q H2 (s.trans s2)) fun c x z cls dd H2 s2 => z cls dd H2 (s.trans s2)⟩
  | false =>
    rw [if_neg Bool.false_ne_true] at q ⊢
    exact q H' s
theorem tor {K : PySem.W.Frag} {σ : L2.St} {H : Hp} {Q : Bool → Hp → Prop} (h : tT K C O (orT fa fb) σ H Q) : tOr (tT K C O fa) (tT K C O fb) σ H Q := by
  obtain ⟨B, δ, ad, r, k⟩ := h
  refine ⟨B, δ, ad, r, k.bind.imp (fun b _ q H' s => ?_) fun _ _ z => z⟩
  cases b with
  | false =>
    rw [if_neg Bool.false_ne_true] at q ⊢
    exact ⟨B, δ, ad, r.same s, q.imp (fun c _ q H2 s2 => q H2 (s.trans s2)) fun c x z cls dd H2 s2 => z cls dd H2 (s.trans s2)⟩
  | true =>
    rw [if_pos rfl] at q ⊢
    exact q H' s
abbrev DW (X : Cx) (C : Cc) (O : List Nat) (e : Expr) (f : FT) : Prop := PW X e (tT X.K C O f)
theorem dw_and1 {pos : Pos} (h : DT X C O a fa) : DW X C O (.BoolOp .And [a] pos) fa := pw_and1 h
theorem dw_or1 {pos : Pos} (h : DT X C O a fa) : DW X C O (.BoolOp .Or [a] pos) fa := pw_or1 h
theorem dw_and {pos : Pos} {rest : List Expr} (ha : DT X C O a fa) (hb : DW X C O (.BoolOp .And (b :: rest) pos) fb) : DW X C O (.BoolOp .And (a :: b :: rest) pos) (andT fa fb) := pw_imp (pw_and ha hb) fun _ _ _ => tand
theorem dw_or {pos : Pos} {rest : List Expr} (ha : DT X C O a fa) (hb : DW X C O (.BoolOp .Or (b :: rest) pos) fb) : DW X C O (.BoolOp .Or (a :: b :: rest) pos) (orT fa fb) := pw_imp (pw_or ha hb) fun _ _ _ => tor
theorem w2t {e : Expr} (h : DW X C O e fa) : DT X C O e fa := h.pt
theorem de_one {op : BoolOp} {pos : Pos} (h : DE X C O a ga) : DE X C O (.BoolOp op [a] pos) ga := pe_one h
theorem de_and {pos : Pos} {rest : List Expr} (ha : DB X C O a ga) (hb : DE X C O (.BoolOp .And (b :: rest) pos) gb) : DE X C O (.BoolOp .And (a :: b :: rest) pos) (andV ga gb) := pe_imp (pe_and ha hb) fun σ H Q ⟨B, δ, ad, r, k⟩ => by
  refine ⟨B, δ, ad, r, k.bind.imp (fun d _ q v H' s z => ?_) fun _ _ z => z⟩
  obtain ⟨b, rfl, q'⟩ := q.bind.asB
  clear q
  have q := q'
  clear q'
  refine ⟨b, z.bool, ?_⟩
  cases b with
  | true =>
    rw [if_pos rfl] at q ⊢
    exact ⟨B, δ, ad, r.same s, q.imp (fun c _ q v H2 s2 => q v H2 (s.trans s2)) fun c x z cls dd H2 s2 => z cls dd H2 (s.trans s2)⟩
  | false =>
    rw [if_neg Bool.false_ne_true] at q ⊢
    exact q _ H' s (.bl false)
theorem de_or {pos : Pos} {rest : List Expr} (ha : DB X C O a ga) (hb : DE X C O (.BoolOp .Or (b :: rest) pos) gb) : DE X C O (.BoolOp .Or (a :: b :: rest) pos) (orV ga gb) := pe_imp (pe_or ha hb) fun σ H Q ⟨B, δ, ad, r, k⟩ => by
  refine ⟨B, δ, ad, r, k.bind.imp (fun d _ q v H' s z => ?_) fun _ _ z => z⟩
  obtain ⟨b, rfl, q'⟩ := q.bind.asB
  clear q
  have q := q'
  clear q'
  refine ⟨b, z.bool, ?_⟩
  cases b with
  | false =>
    rw [if_neg Bool.false_ne_true] at q ⊢
    exact ⟨B, δ, ad, r.same s, q.imp (fun c _ q v H2 s2 => q v H2 (s.trans s2)) fun c x z cls dd H2 s2 => z cls dd H2 (s.trans s2)⟩
  | true =>
    rw [if_pos rfl] at q ⊢
    exact q _ H' s (.bl true)
theorem de_not {pos : Pos} (ha : DB X C O a ga) : DE X C O (.UnaryOp .Not a pos) (notV ga) := pe_imp (pe_not ha) fun σ H Q ⟨B, δ, ad, r, k⟩ => by
  refine ⟨B, δ, ad, r, k.bind.imp (fun d _ q v H' s z => ?_) fun _ _ z => z⟩
  obtain ⟨b, rfl, q⟩ := q.bind.asB
  exact ⟨b, z.bool, q _ H' s (.bl _)⟩
def un1 (sem : PyData → Option PyData) (f : FE) : FE := fun δ => (f δ).bind fun d => ofO (sem d)
def negD : PyData → Option PyData
  | .int i => some (.int (-i))
  | _ => none
theorem de_neg {pos : Pos} (ha : DB X C O a ga) : DE X C O (.UnaryOp .USub a pos) (un1 negD ga) := pe_imp (pe_un un_neg ha) fun σ H Q ⟨B, δ, ad, r, k⟩ => by
  refine ⟨B, δ, ad, r, k.bind.imp (fun d _ q v H' s z => ?_) fun _ _ z => z⟩
  obtain ⟨w, e, q⟩ := q.ofO
  cases d with
  | int i => cases e; exact ⟨i, z.int, q _ H' s (.int _)⟩
  | _ => cases e
end

/-! ### argument lists, displays -/
def evs : List FE → Ev → R (List PyData)
  | [], _ => .ok []
  | f :: fs, δ => (f δ).bind fun d => (evs fs δ).bind fun ds => .ok (d :: ds)
def tAll (K : PySem.W.Frag) (C : Cc) (O : List Nat) (fs : List FE) : TA := fun σ H Q => ∃ B δ ad, Rl K C.n B O ad δ σ H ∧
  Rk (evs fs δ) (fun ds => ∀ vs H', Same H H' → RpAll K H' (avO B O ad) vs ds → Q vs H') (fun c x => ∀ cls dd H', Same H H' → Er K c x cls dd H' → C.W cls dd σ H')
abbrev DA (X : Cx) (C : Cc) (O : List Nat) (es : List Expr) (fs : List FE) : Prop := PA X es (tAll X.K C O fs)
theorem evs_length {fs : List FE} {δ : Ev} {ds : List PyData} (h : evs fs δ = .ok ds) : ds.length = fs.length := by
  induction fs generalizing ds with
  | nil => cases h; rfl
  | cons f fs ih =>
    unfold evs at h
    cases e : f δ with
    | ok d =>
      rw [e] at h
      cases e2 : evs fs δ with
      | ok ds' => simp only [R.bind, e2] at h; cases h; simp [ih e2]
      | err c x => simp only [R.bind, e2] at h; cases h
      | bad => simp only [R.bind, e2] at h; cases h
    | err c x => rw [e] at h; cases h
    | bad => rw [e] at h; cases h
def mkT (fs : List FE) : FE := fun δ => (evs fs δ).bind fun ds => .ok (.tuple ds)
def mkL (fs : List FE) : FE := fun δ => (evs fs δ).bind fun ds => .ok (.list ds)
theorem same_new {H : Hp} {p : Addr} (h : H p = none) (o : HO) : Same H (upd H p o) := fun b u q => by rw [upd_ne (ne_of_none q h)]; exact q
section
variable {X : Cx} {C : Cc} {O : List Nat} {e : Expr} {es : List Expr} {f : FE} {fs : List FE} {pos : Pos}
theorem da_nil : DA X C O [] [] := pa_imp pa_nil fun σ H Q ⟨B, δ, ad, r, k⟩ => k [] H (Same.refl H) .nil
theorem da_cons (he : DE X C O e f) (hr : DA X C O es fs) (hs : starEach (e :: es) X.env = (false, eval e X.env) :: starEach es X.env := by rfl) : DA X C O (e :: es) (f :: fs) := pa_imp (pa_cons he hr hs) fun σ H Q ⟨B, δ, ad, r, k⟩ => by
  unfold evs at k
  refine ⟨B, δ, ad, r, k.bind.imp (fun d _ q v H1 s1 z => ?_) fun _ _ z => z⟩
  refine ⟨B, δ, ad, r.same s1, q.bind.imp (fun ds _ q vs H2 s2 zs => ?_) fun c x z cls dd H2 s2 => z cls dd H2 (s1.trans s2)⟩
  exact q (v :: vs) H2 (s1.trans s2) (.cons (Rp.same s2 z) zs)
theorem de_tup {x1 : Nat} (h : DA X C O es fs) (hl : decide (fs.length ≤ 1000) = true := by rfl) : DE X C O (.Tuple es x1 pos) (mkT fs) := pe_imp (pe_tup h) fun σ H Q ⟨B, δ, ad, r, k⟩ => by
  refine ⟨B, δ, ad, r, k.bind.imp (fun ds e q vs H1 s1 zs => ?_) fun _ _ z => z⟩
  refine ⟨?_, fun p hp => q _ _ (s1.trans (same_new hp _)) (.tup (SqT.of upd_same) (zs.same (same_new hp _)))⟩
  rw [zs.length, evs_length e]
  exact Nat.le_of_lt (small1000 (of_decide_eq_true hl))
theorem df_lst (h : DA X C O es fs) (hl : decide (fs.length ≤ 1000) = true := by rfl) : DF X C O (.List es pos) (mkL fs) := pe_imp (pe_lst h) fun σ H Q ⟨B, δ, ad, r, k⟩ => by
  refine ⟨B, δ, ad, r, k.bind.imp (fun ds e q vs H1 s1 zs => ?_) fun _ _ z => z⟩
  refine ⟨?_, fun p hp => q _ _ (s1.trans (same_new hp _)) ⟨p, rfl, s1.free hp, vs, upd_same, zs.fresh hp (same_new hp _)⟩⟩
  rw [zs.length, evs_length e]
  exact Nat.le_of_lt (small1000 (of_decide_eq_true hl))
end
end Dl

namespace Dl
open PySem PySem.Spec L2

/-! ### arithmetic on data -/
def addD : PyData → PyData → Option PyData
  | .int i, .int j => some (.int (i + j))
  | .str x, .str y => if x.length + y.length ≤ sizeLine then some (.str (x ++ y)) else none
  | .list xs, .list ys => if xs.length + ys.length ≤ sizeLine then some (.list (xs ++ ys)) else none
  | .tuple xs, .tuple ys => if xs.length + ys.length ≤ sizeLine then some (.tuple (xs ++ ys)) else none
  | _, _ => none
def subD : PyData → PyData → Option PyData
  | .int i, .int j => some (.int (i - j))
  | _, _ => none
def mulOk (i j : Int) : Bool := (decide (-(2 ^ 64) < i) && decide (i < 2 ^ 64)) || (decide (-(2 ^ 64) < j) && decide (j < 2 ^ 64))
def mulD : PyData → PyData → Option PyData
  | .int i, .int j => if mulOk i j then some (.int (i * j)) else none
  | .str x, .int n => if 0 ≤ n ∧ n ≤ 1000 ∧ x.length ≤ 1000 then some (.str (Txt.mul x n)) else none
  | .list ds, .int n => if 0 ≤ n ∧ n ≤ 1000 ∧ ds.length ≤ 1000 then some (.list (List.replicate n.toNat ds).flatten) else none
  | _, _ => none
def modD : PyData → PyData → Option PyData
  | .int i, .int j => if 0 < j then some (.int (i % j)) else none
  | _, _ => none
def fdivD : PyData → PyData → Option PyData
  | .int i, .int j => if 0 < j ∧ j < 2 ^ 63 then some (.int (i / j)) else none
  | _, _ => none
def shlD : PyData → PyData → Option PyData
  | .int i, .int j => if 0 ≤ j ∧ j ≤ 1000 ∧ 0 ≤ i ∧ i < 1000 then some (.int (i * 2 ^ j.toNat)) else none
  | _, _ => none
def powD : PyData → PyData → Option PyData
  | .int i, .int j => if 0 ≤ j ∧ j ≤ 1000 ∧ 0 ≤ i ∧ i < 1000 then some (.int (i ^ j.toNat)) else none
  | _, _ => none
def shrD : PyData → PyData → Option PyData
  | .int i, .int j => if 0 ≤ j then some (.int (i / 2 ^ j.toNat)) else none
  | _, _ => none
def bandD : PyData → PyData → Option PyData
  | .int i, .int j => some (.int (Builtin.bitAnd i j))
  | _, _ => none
section
variable {X : Cx}
/-- by a rule on two ints -/
theorem OpD.ofI {f : Value → Value → Sem Value} {sem : PyData → PyData → Option PyData} {c : Int → Int → Prop} {g : Int → Int → V} {gd : Int → Int → PyData} (ho : OpR X f (rI c g))
    (hs : ∀ d e z, sem d e = some z → ∃ i j, d = .int i ∧ e = .int j ∧ c i j ∧ z = gd i j) (hg : ∀ (K : PySem.W.Frag) H av i j, Rp K H av (g i j) (gd i j)) : OpD X f sem := by
  intro pins s σ H x y v u Q av d e z I rx ry hav hd he hz q
  obtain ⟨i, j, rfl, rfl, hc, rfl⟩ := hs d e z hz
  exact ho pins s σ H x y v u Q I rx ry ⟨i, j, hd.int, he.int, hc, q _ H (Same.refl H) (hg _ _ _ _ _)⟩
theorem OpD.ofI0 {f : Value → Value → Sem Value} {sem : PyData → PyData → Option PyData} {g : Int → Int → V} {gd : Int → Int → PyData} (ho : OpR X f (rI0 g))
    (hs : ∀ d e z, sem d e = some z → ∃ i j, d = .int i ∧ e = .int j ∧ z = gd i j) (hg : ∀ (K : PySem.W.Frag) H av i j, Rp K H av (g i j) (gd i j)) : OpD X f sem := by
  intro pins s σ H x y v u Q av d e z I rx ry hav hd he hz q
  obtain ⟨i, j, rfl, rfl, rfl⟩ := hs d e z hz
  exact ho pins s σ H x y v u Q I rx ry ⟨i, j, hd.int, he.int, q _ H (Same.refl H) (hg _ _ _ _ _)⟩
theorem od_sub : OpD X (binaryOp .Sub) subD := OpD.ofI0 (gd := fun i j => .int (i - j)) op_sub (fun d e z h => by
  unfold subD at h; split at h
  · cases h; exact ⟨_, _, rfl, rfl, rfl⟩
  · cases h) fun _ _ _ _ _ => .int _
theorem od_mod : OpD X (binaryOp .Mod) modD := OpD.ofI (gd := fun i j => .int (i % j)) op_mod (fun d e z h => by
  unfold modD at h; split at h
  · split at h
    · cases h; exact ⟨_, _, rfl, rfl, by assumption, rfl⟩
    · cases h
  · cases h) fun _ _ _ _ _ => .int _
theorem od_fdiv : OpD X (binaryOp .FloorDiv) fdivD := OpD.ofI (gd := fun i j => .int (i / j)) op_fdivW (fun d e z h => by
  unfold fdivD at h; split at h
  · split at h
    · rename_i i j hc
      cases h
      refine ⟨_, _, rfl, rfl, wide_div (b := 63) hc.1 ?_ (by decide) (by decide), rfl⟩
      omega
    · cases h
  · cases h) fun _ _ _ _ _ => .int _
theorem od_shl : OpD X (binaryOp .LShift) shlD := OpD.ofI (gd := fun i j => .int (i * 2 ^ j.toNat)) op_shl (fun d e z h => by
  unfold shlD at h; split at h
  · split at h
    · rename_i i j hc
      cases h
      exact ⟨_, _, rfl, rfl, ⟨hc.1, by omega, by omega⟩, rfl⟩
    · cases h
  · cases h) fun _ _ _ _ _ => .int _
theorem od_pow : OpD X (binaryOp .Pow) powD := OpD.ofI (gd := fun i j => .int (i ^ j.toNat)) op_pow (fun d e z h => by
  unfold powD at h; split at h
  · split at h
    · rename_i i j hc
      cases h
      exact ⟨_, _, rfl, rfl, ⟨hc.1, by omega, by omega⟩, rfl⟩
    · cases h
  · cases h) fun _ _ _ _ _ => .int _
theorem od_shr : OpD X (binaryOp .RShift) shrD := OpD.ofI (gd := fun i j => .int (i / 2 ^ j.toNat)) op_shr (fun d e z h => by
  unfold shrD at h; split at h
  · split at h
    · cases h; exact ⟨_, _, rfl, rfl, by assumption, rfl⟩
    · cases h
  · cases h) fun _ _ _ _ _ => .int _
theorem od_band : OpD X (binaryOp .BitAnd) bandD := OpD.ofI0 (gd := fun i j => .int (Builtin.bitAnd i j)) op_and (fun d e z h => by
  unfold bandD at h; split at h
  · cases h; exact ⟨_, _, rfl, rfl, rfl⟩
  · cases h) fun _ _ _ _ _ => .int _
theorem RpAll.rep {K : PySem.W.Frag} {H : Hp} {av : Addr → Prop} {vs : List V} {ds : List PyData} (h : RpAll K H av vs ds) : ∀ n, RpAll K H av (List.replicate n vs).flatten (List.replicate n ds).flatten
  | 0 => .nil
  | n + 1 => by rw [List.replicate_succ, List.replicate_succ, List.flatten_cons, List.flatten_cons]; exact h.append (RpAll.rep h n)
theorem od_mul : OpD X (binaryOp .Mult) mulD := by
  intro pins s σ H x y v u Q av d e z I rx ry hav hd he hz q
  unfold mulD at hz
  split at hz
  · split at hz
    · rename_i i j hc
      cases hz
      refine op_mul pins s σ H x y v u Q I rx ry ⟨_, _, hd.int, he.int, ?_, q _ H (Same.refl H) (.int _)⟩
      unfold mulOk at hc
      rw [Bool.or_eq_true, Bool.and_eq_true, Bool.and_eq_true, decide_eq_true_eq, decide_eq_true_eq, decide_eq_true_eq, decide_eq_true_eq] at hc
      exact hc
    · cases hz
  · split at hz
    · rename_i a n hc
      cases hz
      have e1 := hd.str
      subst e1
      have e2 := he.int
      subst e2
      obtain ⟨t, rfl⟩ := rx
      obtain ⟨t2, rfl⟩ := ry
      obtain ⟨h0, h1, h2⟩ := hc
      have hmul : a.length * n.toNat ≤ 1000 * 1000 := Nat.mul_le_mul h2 (by omega)
      refine PySem.SB.mul ⟨?_, ?_, ?_⟩ fun t' k => ⟨.str _, H, I.tok _, ⟨_, rfl⟩, q _ H (Same.refl H) (.str _)⟩
      · simp only [Bool.or_eq_false_iff, decide_eq_false_iff_not]; omega
      · intro h3 h4 h5
        have h6 : n ≤ (2 ^ 63 - 1) / (a.length : Int) ∨ (a.length : Int) = 0 := by
          rcases Nat.eq_zero_or_pos a.length with z | z
          · exact .inr (by omega)
          · refine .inl ((Int.le_ediv_iff_mul_le (by omega)).mpr ?_)
            have : n * (a.length : Int) ≤ 1000 * 1000 := Int.mul_le_mul h1 (by omega) (by omega) (by omega)
            omega
        have h7 : (a.length : Int) ≤ (2 ^ 63 - 1) / n := (Int.le_ediv_iff_mul_le (by omega)).mpr (by
            have : (a.length : Int) * n ≤ 1000 * 1000 := Int.mul_le_mul (by omega) h1 (by omega) (by omega)
            omega)
        omega
      · intro h3 h4
        have : sizeLine = 16777216 := sizeLine_eq
        unfold Builtin.Str.tooLong
        simp only [decide_eq_false_iff_not]
        omega
    · cases hz
  · split at hz
    · rename_i xs n hc
      cases hz
      obtain ⟨a, vs, rfl, ha, ra⟩ := hd.list
      have e2 := he.int
      subst e2
      cases rx
      obtain ⟨t, rfl⟩ := ry
      obtain ⟨h0, h1, h2⟩ := hc
      obtain ⟨z1, its, c, r, e1⟩ := ha.ok I.hok
      have l1 := r.length
      have l2 := ra.length
      have hsl : sizeLine = 16777216 := sizeLine_eq
      have hmul : its.toArray.size * n.toNat ≤ 1000 * 1000 := Nat.mul_le_mul (by rw [List.size_toArray]; omega) (by omega)
      have hcap : ¬ its.toArray.size * n.toNat > (2 ^ 63 - 1) / 8 := by omega
      have hfit : ¬ (!Builtin.List.listFitsIndex n) = true := by rw [fitsIndex_both (by omega) (by omega)]; decide
      have hlong : ¬ Builtin.List.listTooLong (its.toArray.size * n.toNat) = true := by rw [notLongL (by omega)]; decide
      have hnew : List.foldl (fun x1 x2 => x1 ++ x2) #[] (List.replicate (if its.toArray.isEmpty = true then 0 else n.toNat) its.toArray) = (List.replicate n.toNat its).flatten.toArray := by
        have f0 : ∀ m, List.foldl (fun x1 x2 => x1 ++ x2) #[] (List.replicate m its.toArray) = (List.replicate m its).flatten.toArray := fun m => by
          have := foldl_rep its m []
          rwa [List.nil_append] at this
        rw [f0]
        cases its with
        | nil => simp
        | cons b r' => simp
      refine wpAny_binaryOp_repeat_ref (by decide) ⟨_, e1, rfl⟩ (fun s' => typeIs_int s' n t) noFill_list_mul F.fills_int_mul F.slot_int_rmul repeat_list F.slot_int_index.lookup
        (call_meets F.slot_int_rmul (typeIs_int s n t) F.entry_int_rmul (F.args_int_rmul_2 (Value.int n t) (Value.ref a)) (int___rmul___int_list n t a its.toArray c)
          ⟨e1, rfl, ⟨_, e1, rfl⟩, call_meets F.slot_list_mul ⟨_, e1, rfl⟩ F.entry_list_mul (F.args_list_mul_2 (Value.ref a) (Value.int n t)) (AutoListH.list___mul___list_int_3 a its.toArray c n t hfit hcap hlong) ⟨e1, ?_⟩⟩)
      rw [hnew]
      have hf := I.fresh
      exact ⟨.ref _, _, I.lnew (t' := s.toks) (Vals.rep r n.toNat) (by
        rw [PyProof.Rows.lm_len_rep_flat, Nat.mul_comm, l1]
        rw [List.size_toArray] at hmul
        omega), rfl, q _ _ (same_new hf _) (.lst (.inl upd_same) (fun z => hav _ z hf) ((ra.rep n.toNat).same (same_new hf _)))⟩
    · cases hz
  · cases hz
theorem od_add : OpD X (binaryOp .Add) addD := by
  intro pins s σ H x y v u Q av d e z I rx ry hav hd he hz q
  unfold addD at hz
  split at hz
  · cases hz
    exact op_add pins s σ H x y v u Q I rx ry ⟨_, _, hd.int, he.int, q _ H (Same.refl H) (.int _)⟩
  · split at hz
    · cases hz
      exact op_add_str pins s σ H x y v u Q I rx ry ⟨_, _, hd.str, he.str, by assumption, q _ H (Same.refl H) (.str _)⟩
    · cases hz
  · split at hz
    · rename_i xs ys hc
      cases hz
      obtain ⟨a, vs, rfl, ha, ra⟩ := hd.list
      obtain ⟨b, ws, rfl, hb, rb⟩ := he.list
      cases rx
      cases ry
      obtain ⟨z1, its, n, r, e1⟩ := ha.ok I.hok
      obtain ⟨z2, its2, n2, r2, e2⟩ := hb.ok I.hok
      have l1 := r.length
      have l2 := r2.length
      rw [← ra.length, ← rb.length] at hc
      refine PySem.P.add_list e1 e2 ?_ (by rw [List.size_toArray, List.size_toArray]; omega)
      have ea : its.toArray ++ its2.toArray = (its ++ its2).toArray := by simp
      rw [ea]
      have hf := I.fresh
      exact ⟨.ref _, _, I.lnew (t' := s.toks) (r.append r2) (by rw [List.length_append]; omega), rfl,
        q _ _ (same_new hf _) (.lst (.inl upd_same) (fun z => hav _ z hf) ((ra.append rb).same (same_new hf _)))⟩
    · cases hz
  · split at hz
    · rename_i xs ys hc
      cases hz
      obtain ⟨a, vs, rfl, ha, ra⟩ := hd.tuple
      obtain ⟨b, ws, rfl, hb, rb⟩ := he.tuple
      refine op_catA pins s σ H _ _ v u Q I rx ry ⟨a, b, vs, ws, rfl, rfl, ha, hb, by rw [ra.length, rb.length]; exact hc, fun e => ?_, fun _ e => ?_, fun _ _ p hp => ?_⟩
      · subst e; cases ra; exact q _ H (Same.refl H) (.tup hb rb)
      · subst e; cases rb; rw [List.append_nil] at q; exact q _ H (Same.refl H) (.tup ha ra)
      · exact q _ _ (same_new hp _) (.tup (SqT.of upd_same) ((ra.append rb).same (same_new hp _)))
    · cases hz
  · cases hz

/-! ### comparisons -/
def ltD : PyData → PyData → Option PyData
  | .int i, .int j => some (.bool (decide (i < j)))
  | .str x, .str y => some (.bool (decide (x.cps.toList < y.cps.toList)))
  | _, _ => none
def leD : PyData → PyData → Option PyData
  | .int i, .int j => some (.bool (decide (i ≤ j)))
  | _, _ => none
def gtD : PyData → PyData → Option PyData
  | .int i, .int j => some (.bool (decide (j < i)))
  | _, _ => none
def geD : PyData → PyData → Option PyData
  | .int i, .int j => some (.bool (decide (j ≤ i)))
  | _, _ => none
theorem od_lt : OpD X (compareOp .Lt) ltD := by
  intro pins s σ H x y v u Q av d e z I rx ry hav hd he hz q
  unfold ltD at hz
  split at hz
  · cases hz; exact op_lt pins s σ H x y v u Q I rx ry ⟨_, _, hd.int, he.int, q _ H (Same.refl H) (.bl _)⟩
  · cases hz; exact op_lt_str pins s σ H x y v u Q I rx ry ⟨_, _, hd.str, he.str, q _ H (Same.refl H) (.bl _)⟩
  · cases hz
theorem od_le : OpD X (compareOp .LtE) leD := OpD.ofI0 (gd := fun i j => .bool (decide (i ≤ j))) op_le (fun d e z h => by
  unfold leD at h; split at h
  · cases h; exact ⟨_, _, rfl, rfl, rfl⟩
  · cases h) fun _ _ _ _ _ => .bl _
theorem od_gt : OpD X (compareOp .Gt) gtD := OpD.ofI0 (gd := fun i j => .bool (decide (j < i))) op_gt (fun d e z h => by
  unfold gtD at h; split at h
  · cases h; exact ⟨_, _, rfl, rfl, rfl⟩
  · cases h) fun _ _ _ _ _ => .bl _
theorem od_ge : OpD X (compareOp .GtE) geD := OpD.ofI0 (gd := fun i j => .bool (decide (j ≤ i))) op_ge (fun d e z h => by
  unfold geD at h; split at h
  · cases h; exact ⟨_, _, rfl, rfl, rfl⟩
  · cases h) fun _ _ _ _ _ => .bl _
/-- two scalars that == tells apart as data does -/
def scalD : PyData → PyData → Bool
  | .none, .none => true | .none, .int _ => true | .int _, .none => true | .none, .bool _ => true | .bool _, .none => true | .none, .str _ => true | .str _, .none => true
  | .int _, .int _ => true | .bool _, .bool _ => true | .str _, .str _ => true
  | .int _, .str _ => true | .str _, .int _ => true | .bool _, .str _ => true | .str _, .bool _ => true
  | _, _ => false
def eqOk (d e : PyData) : Bool := scalD d e || (d.canLay0 && (e.canLay0 && decide (min d.depth e.depth ≤ 1000)))
def eqD (d e : PyData) : Option PyData := if eqOk d e then some (.bool (PyData.eqv d e)) else none
def neD (d e : PyData) : Option PyData := if eqOk d e then some (.bool (!PyData.eqv d e)) else none
theorem scal_of {K : PySem.W.Frag} {H : Hp} {av : Addr → Prop} {x y : V} {d e : PyData} (hd : Bw K H av x d) (he : Bw K H av y e) (h : scalD d e = true) : scal x y = true ∧ decide (x = y) = PyData.eqv d e := by
  cases d <;> cases e <;> first
    | (cases h; done)
    | (first | (have h1 := hd.none) | (have h1 := hd.int) | (have h1 := hd.bool) | (have h1 := hd.str)
       first | (have h2 := he.none) | (have h2 := he.int) | (have h2 := he.bool) | (have h2 := he.str)
       subst h1 h2
       refine ⟨rfl, ?_⟩
       rw [Bool.eq_iff_iff]
       simp [PyData.eqv])
theorem op_eqM (hu : X.A.units + 1000 < cLine) : OpR X (compareOp .Eq) (fun x y H Q => ∃ d e, Dp X.K H x d ∧ Dp X.K H y e ∧ d.canLay0 = true ∧ e.canLay0 = true ∧ min d.depth e.depth ≤ 1000 ∧ Q (.bl (PyData.eqv d e)) H) := by
  intro pins s σ H x y v u Q I rx ry h
  obtain ⟨d, e, hd, he, sd, se, hm, q⟩ := h
  obtain ⟨as, r1⟩ := Dp.reads I d x v hd rx
  obtain ⟨bs, r2⟩ := Dp.reads I e y u he ry
  exact SeqAt.compareEq_reads r1 r2 sd se (by omega) ⟨.bl _, H, I, rfl, q⟩
theorem op_neM (hu : X.A.units + 1000 < cLine) : OpR X (compareOp .NotEq) (fun x y H Q => ∃ d e, Dp X.K H x d ∧ Dp X.K H y e ∧ d.canLay0 = true ∧ e.canLay0 = true ∧ min d.depth e.depth ≤ 1000 ∧ Q (.bl (!PyData.eqv d e)) H) := by
  intro pins s σ H x y v u Q I rx ry h
  obtain ⟨d, e, hd, he, sd, se, hm, q⟩ := h
  obtain ⟨as, r1⟩ := Dp.reads I d x v hd rx
  obtain ⟨bs, r2⟩ := Dp.reads I e y u he ry
  exact SeqAt.compareNe_reads r1 r2 sd se (by omega) ⟨.bl _, H, I, rfl, q⟩
theorem od_eq (hu : X.A.units + 1000 < cLine) : OpD X (compareOp .Eq) eqD := by
  intro pins s σ H x y v u Q av d e z I rx ry hav hd he hz q
  unfold eqD at hz
  split at hz
  · rename_i hc
    cases hz
    unfold eqOk at hc
    rcases Bool.or_eq_true_iff.mp hc with hc | hc
    · obtain ⟨h1, h2⟩ := scal_of hd he hc
      exact op_eq pins s σ H x y v u Q I rx ry ⟨h1, by rw [h2]; exact q _ H (Same.refl H) (.bl _)⟩
    · obtain ⟨h1, hc⟩ := Bool.and_eq_true_iff.mp hc
      obtain ⟨h2, h3⟩ := Bool.and_eq_true_iff.mp hc
      exact op_eqM hu pins s σ H x y v u Q I rx ry ⟨d, e, hd.dp h1, he.dp h2, h1, h2, of_decide_eq_true h3, q _ H (Same.refl H) (.bl _)⟩
  · cases hz
theorem od_ne (hu : X.A.units + 1000 < cLine) : OpD X (compareOp .NotEq) neD := by
  intro pins s σ H x y v u Q av d e z I rx ry hav hd he hz q
  unfold neD at hz
  split at hz
  · rename_i hc
    cases hz
    unfold eqOk at hc
    rcases Bool.or_eq_true_iff.mp hc with hc | hc
    · obtain ⟨h1, h2⟩ := scal_of hd he hc
      exact op_ne pins s σ H x y v u Q I rx ry ⟨h1, by rw [h2]; exact q _ H (Same.refl H) (.bl _)⟩
    · obtain ⟨h1, hc⟩ := Bool.and_eq_true_iff.mp hc
      obtain ⟨h2, h3⟩ := Bool.and_eq_true_iff.mp hc
      exact op_neM hu pins s σ H x y v u Q I rx ry ⟨d, e, hd.dp h1, he.dp h2, h1, h2, of_decide_eq_true h3, q _ H (Same.refl H) (.bl _)⟩
  · cases hz
/-- is None -/
def isNone : PyData → Bool
  | .none => true
  | _ => false
def isD : PyData → PyData → Option PyData
  | d, .none => some (.bool (isNone d))
  | .bool a, .bool b => some (.bool (decide (a = b)))
  | _, _ => none
def isntD : PyData → PyData → Option PyData
  | d, .none => some (.bool (!isNone d))
  | _, _ => none
theorem isNone_of {K : PySem.W.Frag} {H : Hp} {av : Addr → Prop} {x : V} {d : PyData} (hd : Bw K H av x d) : decide (x = .non) = isNone d := by
  cases d with
  | none => rw [hd.none]; rfl
  | bool b => rw [hd.bool]; rfl
  | int b => rw [hd.int]; rfl
  | str b => rw [hd.str]; rfl
  | list b => obtain ⟨a, xs, rfl, _⟩ := hd.list; rfl
  | tuple b => obtain ⟨a, xs, rfl, _⟩ := hd.tuple; rfl
  | dict b =>
    rcases hd with hd | ⟨a, rfl, _⟩
    · cases hd; rfl
    · rfl
theorem od_is : OpD X (compareOp .Is) isD := by
  intro pins s σ H x y v u Q av d e z I rx ry hav hd he hz q
  unfold isD at hz
  split at hz
  · cases hz; exact op_isN pins s σ H x y v u Q I rx ry ⟨he.none, by rw [isNone_of hd]; exact q _ H (Same.refl H) (.bl _)⟩
  · cases hz; exact op_isBl pins s σ H x y v u Q I rx ry ⟨_, _, hd.bool, he.bool, q _ H (Same.refl H) (.bl _)⟩
  · cases hz
theorem od_isnt : OpD X (compareOp .IsNot) isntD := by
  intro pins s σ H x y v u Q av d e z I rx ry hav hd he hz q
  unfold isntD at hz
  split at hz
  · cases hz; exact op_notN pins s σ H x y v u Q I rx ry ⟨he.none, by rw [isNone_of hd]; exact q _ H (Same.refl H) (.bl _)⟩
  · cases hz

/-! ### in -/
def flatD : PyData → Bool
  | .none | .bool _ | .int _ | .str _ => true
  | _ => false
theorem flat_of {K : PySem.W.Frag} {H : Hp} {av : Addr → Prop} {x : V} {d : PyData} (hd : Bw K H av x d) (h : flatD d = true) : flatV x = true ∧ ∃ H av, Rp K H av x d := by
  cases d <;> first
    | (cases h; done)
    | (rcases hd with hd | ⟨a, rfl, o⟩
       · exact ⟨by cases hd <;> rfl, _, _, hd⟩
       · exact o.elim)
theorem eqV_of {K : PySem.W.Frag} {H H' : Hp} {av av' : Addr → Prop} {x y : V} {d e : PyData} (hd : Rp K H av x d) (he : Rp K H' av' y e) (h1 : flatD d = true) (h2 : flatD e = true) : eqV x y = PyData.eqv d e := by
  cases d <;> first
    | (cases h1; done)
    | (cases e <;> first
        | (cases h2; done)
        | (have e1 := hd.bw; have e2 := he.bw
           first | (have z1 := e1.none) | (have z1 := e1.int) | (have z1 := e1.bool) | (have z1 := e1.str)
           first | (have z2 := e2.none) | (have z2 := e2.int) | (have z2 := e2.bool) | (have z2 := e2.str)
           subst z1 z2
           first
             | rfl
             | (rw [Bool.eq_iff_iff]; simp [eqV, PyData.eqv]; done)
             | (rename_i a b _ _ _ _; cases a <;> cases b <;> rfl)
             | (rename_i a b _ _ _ _; cases a <;> (rw [Bool.eq_iff_iff]; simp [eqV, PyData.eqv]; done))
             | (rename_i a b _ _ _ _; cases b <;> (rw [Bool.eq_iff_iff]; simp [eqV, PyData.eqv]; done))))
theorem inV_of {K : PySem.W.Frag} {H H' : Hp} {av av' : Addr → Prop} {x : V} {d : PyData} (hd : Rp K H av x d) (h1 : flatD d = true) : ∀ {ys : List V} {es : List PyData}, RpAll K H' av' ys es → es.all flatD = true →
    ys.all flatV = true ∧ inV x ys = es.any fun z => PyData.eqv z d
  | _, _, .nil, _ => ⟨rfl, rfl⟩
  | _, _, .cons h r, c => by
    rw [List.all_cons, Bool.and_eq_true] at c
    obtain ⟨q1, q2⟩ := inV_of hd h1 r c.2
    refine ⟨?_, ?_⟩
    · rw [List.all_cons, (flat_of h.bw c.1).1, q1]; rfl
    · unfold inV at q2 ⊢
      rw [List.any_cons, List.any_cons, q2, eqV_of h hd c.1 h1]
def inL (d : PyData) (ds : List PyData) : Option Bool :=
  if flatD d && ds.all flatD then some (ds.any fun z => PyData.eqv z d)
  else if SeqAt.shaped d && SeqAt.shaped (.list ds) then some (ds.any fun z => PyData.eqv z d) else none
def inB : PyData → PyData → Option Bool
  | .str x, .str y => some (!(Builtin.Str.occurrences y x 0 y.length 1).isEmpty)
  | d, .list ds => inL d ds
  | d, .tuple ds => if flatD d && ds.all flatD then some (ds.any fun z => PyData.eqv z d) else none
  | _, _ => none
def inD (d e : PyData) : Option PyData := (inB d e).map .bool
def notInD (d e : PyData) : Option PyData := (inB d e).map fun b => .bool !b
theorem od_inG (hu : X.A.units + 65 < cLine) (neg : Bool) (op : CmpOp) (hop : op = if neg then CmpOp.NotIn else CmpOp.In) : OpD X (compareOp op) (fun d e => (inB d e).map fun b => .bool (if neg then !b else b)) := by
  intro pins s σ H x y v u Q av d e z I rx ry hav hd he hz q
  replace hz : (inB d e).map (fun b => PyData.bool (if neg then !b else b)) = some z := hz
  cases hb : inB d e with
  | none => rw [hb] at hz; cases hz
  | some b =>
    rw [hb] at hz
    have hz' : z = .bool (if neg then !b else b) := by cases hz; rfl
    subst hz'
    have fin := q _ H (Same.refl H) (.bl _)
    unfold inB at hb
    split at hb
    · cases hb
      have e1 := hd.str
      have e2 := he.str
      cases neg with
      | false => subst hop; exact op_in_str pins s σ H x y v u Q I rx ry ⟨_, _, e1, e2, fin⟩
      | true => subst hop; exact op_notIn_str pins s σ H x y v u Q I rx ry ⟨_, _, e1, e2, fin⟩
    · rename_i ds
      unfold inL at hb
      split at hb
      · rename_i hc
        cases hb
        obtain ⟨c1, c2⟩ := Bool.and_eq_true_iff.mp hc
        obtain ⟨a, ys, rfl, ha, ra⟩ := he.list
        obtain ⟨f1, _, _, rd⟩ := flat_of hd c1
        obtain ⟨f2, f3⟩ := inV_of rd c1 ra c2
        cases neg with
        | false => subst hop; exact op_in_seq pins s σ H x _ v u Q I rx ry ⟨a, ys, rfl, .inl (.inl ha), f1, f2, by rw [f3]; exact fin⟩
        | true => subst hop; exact op_notIn_seq pins s σ H x _ v u Q I rx ry ⟨a, ys, rfl, .inl (.inl ha), f1, f2, by rw [f3]; exact fin⟩
      · split at hb
        · rename_i hc
          cases hb
          obtain ⟨c1, c2⟩ := Bool.and_eq_true_iff.mp hc
          have p1 := hd.dp (SeqAt.canLay_of_shaped c1)
          have p2 := he.dp (SeqAt.canLay_of_shaped c2)
          cases neg with
          | false => subst hop; exact op_inD hu pins s σ H x y v u Q I rx ry ⟨d, ds, p1, p2, c1, c2, fin⟩
          | true => subst hop; exact op_notInD hu pins s σ H x y v u Q I rx ry ⟨d, ds, p1, p2, c1, c2, fin⟩
        · cases hb
    · split at hb
      · rename_i hc
        cases hb
        obtain ⟨c1, c2⟩ := Bool.and_eq_true_iff.mp hc
        obtain ⟨a, ys, rfl, ha, ra⟩ := he.tuple
        obtain ⟨f1, _, _, rd⟩ := flat_of hd c1
        obtain ⟨f2, f3⟩ := inV_of rd c1 ra c2
        cases neg with
        | false => subst hop; exact op_in_seq pins s σ H x _ v u Q I rx ry ⟨a, ys, rfl, .inr ha, f1, f2, by rw [f3]; exact fin⟩
        | true => subst hop; exact op_notIn_seq pins s σ H x _ v u Q I rx ry ⟨a, ys, rfl, .inr ha, f1, f2, by rw [f3]; exact fin⟩
      · cases hb
    · cases hb
theorem od_in (hu : X.A.units + 65 < cLine) : OpD X (compareOp .In) inD := od_inG hu false .In rfl
theorem od_notin (hu : X.A.units + 65 < cLine) : OpD X (compareOp .NotIn) notInD := od_inG hu true .NotIn rfl
end
end Dl

namespace Dl
open PySem PySem.Spec L2

/-! ### subscripts, slices -/
def ixD : PyData → PyData → Option PyData
  | .list ds, .int i => atI ds i
  | .tuple ds, .int i => atI ds i
  | .str x, .int i => if x.length ≤ sizeLine then (atI x.cps.toList i).map fun c => .str ⟨#[c]⟩ else none
  | _, _ => none
theorem atI_of {K : PySem.W.Frag} {H : Hp} {av : Addr → Prop} {vs : List V} {ds : List PyData} {i : Int} {z : PyData} (r : RpAll K H av vs ds) (h : atI ds i = some z) : ∃ v, atI vs i = some v ∧ Rp K H av v z := by
  unfold atI at h ⊢
  rw [r.length]
  cases e : ixN ds.length i with
  | none => rw [e] at h; cases h
  | some j => rw [e] at h; exact r.get' h
def cutL {α : Type} (xs : List α) (lo hi : Option Int) : List α := (xs.drop (HT.sIx xs.length 0 lo)).take (HT.sIx xs.length xs.length hi - HT.sIx xs.length 0 lo)
def slD : PyData → Option Int → Option Int → Option PyData
  | .list ds, lo, hi => some (.list (cutL ds lo hi))
  | .tuple ds, lo, hi => some (.tuple (cutL ds lo hi))
  | .str x, lo, hi => if x.length ≤ sizeLine then some (.str (cutS x lo hi)) else none
  | _, _, _ => none
abbrev FO := Ev → R (Option Int)
def noP : FO := fun _ => .ok none
def asI : PyData → R Int
  | .int i => .ok i
  | _ => .bad
def prt (f : FE) : FO := fun δ => (f δ).bind fun d => (asI d).bind fun i => .ok (some i)
def slc (f : FE) (lo hi : FO) : FE := fun δ => (f δ).bind fun d => (lo δ).bind fun l => (hi δ).bind fun u => ofO (slD d l u)
theorem Rk.asI {d : PyData} {q : Int → Prop} {e : Str → Option (Str × Int) → Prop} (h : Rk (Dl.asI d) q e) : ∃ b, d = .int b ∧ q b := by
  cases d with
  | int b => exact ⟨b, rfl, h⟩
  | _ => exact h.elim
def tO (K : PySem.W.Frag) (C : Cc) (O : List Nat) (f : FO) : TO := fun σ H Q => ∃ B δ ad, Rl K C.n B O ad δ σ H ∧
  Rk (f δ) (fun b => ∀ H', Same H H' → Q b H') (fun c x => ∀ cls dd H', Same H H' → Er K c x cls dd H' → C.W cls dd σ H')
abbrev DO (X : Cx) (C : Cc) (O : List Nat) (e : Option Expr) (f : FO) : Prop := PO X e (tO X.K C O f)
theorem cutL_rp {K : PySem.W.Frag} {H : Hp} {av : Addr → Prop} {vs : List V} {ds : List PyData} (r : RpAll K H av vs ds) (lo hi : Option Int) : RpAll K H av (cutV vs lo hi) (cutL ds lo hi) := by
  unfold cutV cutL
  rw [r.length]
  exact (r.drop _).take _
section
variable {X : Cx} {C : Cc} {O : List Nat} {a b : Expr} {fa fb : FE} {pos : Pos}
theorem de_ix (ha : DB X C O a fa) (hb : DB X C O b fb) (hs : PlainIx b := by exact fun _ _ => rfl) : DE X C O (.Subscript a b pos) (op2 ixD fa fb) := pe_imp (pe_ix ix_seq ha hb hs) fun σ H Q h => two h fun B ad δ x y d e H1 H2 r s1 s2 r1 r2 q => by
  obtain ⟨z, ez, qq⟩ := q.ofO
  clear q
  have b1 : Bw X.K H2 (avO B O ad) x d := Bw.same r1 s2
  have b2 : Bw X.K H2 (avO B O ad) y e := r2
  unfold ixD at ez
  split at ez
  · obtain ⟨p, vs, rfl, hp, rp⟩ := b1.list
    obtain ⟨v, h1, h2⟩ := atI_of rp ez
    exact .inl ⟨p, vs, _, v, rfl, b2.int, .inl hp, h1, qq v H2 (s1.trans s2) h2⟩
  · obtain ⟨p, vs, rfl, hp, rp⟩ := b1.tuple
    obtain ⟨v, h1, h2⟩ := atI_of rp ez
    exact .inr (.inl ⟨p, vs, _, v, rfl, b2.int, hp, h1, qq v H2 (s1.trans s2) h2⟩)
  · split at ez
    · rename_i t i hl
      cases e3 : atI t.cps.toList i with
      | none => rw [e3] at ez; cases ez
      | some c =>
        rw [e3] at ez
        cases ez
        exact .inr (.inr ⟨_, _, c, b1.str, b2.int, hl, e3, qq _ H2 (s1.trans s2) (.str _)⟩)
    · cases ez
  · cases ez
theorem do_none : DO X C O none noP := ⟨fun pins s σ H Q I h => po_none.run pins s σ H Q I (by
  obtain ⟨B, δ, ad, r, k⟩ := h
  exact k H (Same.refl H))⟩
theorem do_some (h : DB X C O a fa) : DO X C O (some a) (prt fa) := ⟨fun pins s σ H Q I q => (po_some h).run pins s σ H Q I (by
  obtain ⟨B, δ, ad, r, k⟩ := q
  refine ⟨B, δ, ad, r, k.bind.imp (fun d _ q v H' s z => ?_) fun _ _ z => z⟩
  obtain ⟨b, rfl, q⟩ := q.bind.asI
  exact ⟨b, z.int, q H' s⟩)⟩
theorem sl_any : SlR X (fun x lo hi H Q => rSlL X.K x lo hi H Q ∨ rSlA X.K x lo hi H Q ∨ rSlS x lo hi H Q) := sl_list.or (sl_tupA.or sl_str)
theorem tslc {K : PySem.W.Frag} {lo hi : FO} {rel : Rel3} {σ : L2.St} {H : Hp} {Q : VK} {RR : V → Option Int → Option Int → Hp → Prop} (h : tX K C O rel (slc fa lo hi) σ H Q)
    (k : ∀ B ad δ x d l u z H3, Rl K C.n B O ad δ σ H → Same H H3 → Bw K H3 (avO B O ad) x d → slD d l u = some z → (∀ v H', Same H H' → rel H H' (avO B O ad) v z → Q v H') → RR x l u H3) :
    tX K C O (relB K) fa σ H fun x H1 => tO K C O lo σ H1 fun l H2 => tO K C O hi σ H2 fun u H3 => RR x l u H3 := by
  obtain ⟨B, δ, ad, r, q⟩ := h
  refine ⟨B, δ, ad, r, q.bind.imp (fun d _ q x H1 s1 r1 => ?_) fun _ _ z => z⟩
  refine ⟨B, δ, ad, r.same s1, q.bind.imp (fun l _ q H2 s2 => ?_) fun c x z cls dd H' s => z cls dd H' (s1.trans s)⟩
  refine ⟨B, δ, ad, (r.same s1).same s2, q.bind.imp (fun u _ q H3 s3 => ?_) fun c x z cls dd H' s => z cls dd H' (s1.trans (s2.trans s))⟩
  obtain ⟨z, ez, q⟩ := q.ofO
  exact k B ad δ x d l u z H3 r (s1.trans (s2.trans s3)) (Bw.same r1 (s2.trans s3)) ez q
theorem de_slc {lo hi : Option Expr} {flo fhi : FO} {p2 : Pos} (ha : DB X C O a fa) (hl : DO X C O lo flo) (hu : DO X C O hi fhi) : DE X C O (.Subscript a (.Slice lo hi none p2) pos) (slc fa flo fhi) := pe_imp (pe_slice sl_any ha hl hu) fun σ H Q h => tslc h fun B ad δ x d l u z H3 r s b1 ez q => by
  unfold slD at ez
  split at ez
  · cases ez
    obtain ⟨p, vs, rfl, hp, rp⟩ := b1.list
    refine .inl ⟨p, vs, rfl, .inl hp, fun p' hp' => q _ _ (s.trans (same_new hp' _)) (.lst (.inl upd_same) ((r.same s).notAv hp') ((cutL_rp rp _ _).same (same_new hp' _)))⟩
  · cases ez
    obtain ⟨p, vs, rfl, hp, rp⟩ := b1.tuple
    refine .inr (.inl ⟨p, vs, rfl, hp, fun hw => ?_, fun _ p' hp' => q _ _ (s.trans (same_new hp' _)) (.tup (SqT.of upd_same) ((cutL_rp rp _ _).same (same_new hp' _)))⟩)
    refine q _ H3 s ?_
    rename_i ds
    have e : cutL ds l u = ds := by
      rw [rp.length] at hw
      unfold cutL
      rw [hw.1, hw.2]; simp
    rw [e]
    exact .tup hp rp
  · split at ez
    · rename_i hl
      cases ez
      exact .inr (.inr ⟨_, b1.str, hl, q _ H3 s (.str _)⟩)
    · cases ez
  · cases ez
/-- a slice of a list is new -/
def slL (f : FE) (lo hi : FO) : FE := fun δ => (f δ).bind fun d => (lo δ).bind fun l => (hi δ).bind fun u => match d with
  | .list ds => .ok (.list (cutL ds l u))
  | _ => .bad
theorem df_slc {lo hi : Option Expr} {flo fhi : FO} {p2 : Pos} (ha : DB X C O a fa) (hl : DO X C O lo flo) (hu : DO X C O hi fhi) : DF X C O (.Subscript a (.Slice lo hi none p2) pos) (slL fa flo fhi) := pe_imp (pe_slice sl_list ha hl hu) fun σ H Q ⟨B, δ, ad, r, q⟩ => by
  refine ⟨B, δ, ad, r, q.bind.imp (fun d _ q x H1 s1 r1 => ?_) fun _ _ z => z⟩
  refine ⟨B, δ, ad, r.same s1, q.bind.imp (fun l _ q H2 s2 => ?_) fun c x z cls dd H' s => z cls dd H' (s1.trans s)⟩
  refine ⟨B, δ, ad, (r.same s1).same s2, q.bind.imp (fun u _ q H3 s3 => ?_) fun c x z cls dd H' s => z cls dd H' (s1.trans (s2.trans s))⟩
  cases d with
  | list ds =>
    obtain ⟨p, vs, rfl, hp, rp⟩ := (Bw.same r1 (s2.trans s3)).list
    have s := s1.trans (s2.trans s3)
    exact ⟨p, vs, rfl, .inl hp, fun p' hp' => q _ _ (s.trans (same_new hp' _)) ⟨p', rfl, s.free hp', _, upd_same, (cutL_rp rp _ _).fresh hp' (same_new hp' _)⟩⟩
  | _ => exact q.elim
end

/-! ### calls of built-ins -/
def BwAll (K : PySem.W.Frag) (H : Hp) (av : Addr → Prop) : List V → List PyData → Prop := Paired (Bw K H av)
theorem BwAll.same {K : PySem.W.Frag} {H H' : Hp} {av : Addr → Prop} (s : Same H H') : ∀ {vs : List V} {ds : List PyData}, BwAll K H av vs ds → BwAll K H' av vs ds
  | _, _, .nil => .nil
  | _, _, .cons h r => .cons (Bw.same h s) (BwAll.same s r)
def tAllB (K : PySem.W.Frag) (C : Cc) (O : List Nat) (fs : List FE) : TA := fun σ H Q => ∃ B δ ad, Rl K C.n B O ad δ σ H ∧
  Rk (evs fs δ) (fun ds => ∀ vs H', Same H H' → BwAll K H' (avO B O ad) vs ds → Q vs H') (fun c x => ∀ cls dd H', Same H H' → Er K c x cls dd H' → C.W cls dd σ H')
abbrev DAB (X : Cx) (C : Cc) (O : List Nat) (es : List Expr) (fs : List FE) : Prop := PA X es (tAllB X.K C O fs)
def cal (sem : List PyData → Option PyData) (fs : List FE) : FE := fun δ => (evs fs δ).bind fun ds => ofO (sem ds)
def CallG (X : Cx) (rel : Rel3) (f : Value) (sem : List PyData → Option PyData) : Prop :=
  ∀ (pins : List (Addr × Obj)) (s : Shared) (σ : L2.St) (H : Hp) (xs : List V) (us : List Value) (Q : VK) (av : Addr → Prop) (ds : List PyData) (z : PyData), Inv X pins σ H s → Vals xs us →
    (∀ a, av a → H a ≠ none) → BwAll X.K H av xs ds → sem ds = some z → (∀ v H', Same H H' → rel H H' av v z → Q v H') → wpAny (model X.prog X.w) X.A (call f us) (EP X pins σ Q) X.xe s
abbrev CallD (X : Cx) (f : Value) (sem : List PyData → Option PyData) : Prop := CallG X (relE X.K) f sem
abbrev CallF (X : Cx) (f : Value) (sem : List PyData → Option PyData) : Prop := CallG X (relF X.K) f sem
/-- a result relation that may start earlier -/
def RelOk (rel : Rel3) : Prop := ∀ H H1 H' av v d, Same H H1 → rel H1 H' av v d → rel H H' av v d
theorem relE_ok {K : PySem.W.Frag} : RelOk (relE K) := fun _ _ _ _ _ _ _ h => h
theorem relF_ok {K : PySem.W.Frag} : RelOk (relF K) := fun _ _ _ _ _ _ s ⟨a, e, n, o⟩ => ⟨a, e, s.free n, o⟩
section
variable {X : Cx} {C : Cc} {O : List Nat} {e : Expr} {es : List Expr} {f : FE} {fs : List FE} {p pos : Pos} {x : Str} {sem : List PyData → Option PyData} {rel : Rel3}
theorem dab_nil : DAB X C O [] [] := pa_imp pa_nil fun σ H Q ⟨B, δ, ad, r, k⟩ => k [] H (Same.refl H) .nil
theorem dab_cons (he : DB X C O e f) (hr : DAB X C O es fs) (hs : starEach (e :: es) X.env = (false, eval e X.env) :: starEach es X.env := by rfl) : DAB X C O (e :: es) (f :: fs) := pa_imp (pa_cons he hr hs) fun σ H Q ⟨B, δ, ad, r, k⟩ => by
  unfold evs at k
  refine ⟨B, δ, ad, r, k.bind.imp (fun d _ q v H1 s1 z => ?_) fun _ _ z => z⟩
  refine ⟨B, δ, ad, r.same s1, q.bind.imp (fun ds _ q vs H2 s2 zs => ?_) fun c x z cls dd H2 s2 => z cls dd H2 (s1.trans s2)⟩
  exact q (v :: vs) H2 (s1.trans s2) (.cons (Bw.same z s2) zs)
theorem CallG.args {g : Value} (ho : RelOk rel) (hc : CallG X rel g sem) {pins : List (Addr × Obj)} {σ : L2.St} {H : Hp} {Q : VK} (h : tX X.K C O rel (cal sem fs) σ H Q) :
    tAllB X.K C O fs σ H fun vs H1 => ∀ us s1, Inv X pins σ H1 s1 → Vals vs us → wpAny (model X.prog X.w) X.A (call g us) (EP X pins σ Q) X.xe s1 := by
  obtain ⟨B, δ, ad, r, k⟩ := h
  refine ⟨B, δ, ad, r, k.bind.imp (fun ds _ q vs H1 s1 zs us st I rv => ?_) fun _ _ z => z⟩
  obtain ⟨z, ez, q⟩ := q.ofO
  exact hc pins st σ H1 vs us Q _ ds z I rv (r.same s1).avdom zs ez fun v H' s2 rz => q v H' (s1.trans s2) (ho _ _ _ _ _ _ s1 rz)
theorem dx_callB {id : String} (ho : RelOk rel) (hc : CallG X rel (.builtin id) sem) (hg : Gl X x) (hm : X.mg x = none) (hv : bootBuiltins x = some (.builtin id)) (ha : DAB X C O (e :: es) fs) (hn : x ≠ "__name__" := by decide) (hdb : (x == ("__debug__" : Str)) = false := by decide)
    (he : starEach (e :: es) X.env = (false, eval e X.env) :: starEach es X.env := by rfl) (hpl : (backTo pos (starEach es X.env)).any (·.1) = false := by rfl) : PE X (.Call (.Name x p) (e :: es) [] pos) (tX X.K C O rel (cal sem fs)) := by
  refine ⟨fun pins s σ H Q I h => ?_⟩
  refine wpAny_Call_Name_kw (ld_blt I hg hm hv ?_ hn hdb)
  exact PyProof.Rows.callWith_builtin1 (thn (ha.run pos pins s σ H _ I (hc.args ho (pins := pins) h)) fun us s1 ⟨vs, H1, I1, r1, q1⟩ => q1 us s1 I1 r1) he hpl
theorem dx_callTy {T : String} (ho : RelOk rel) (hc : CallG X rel (.type T) sem) (hg : Gl X x) (hm : X.mg x = none) (hv : bootBuiltins x = some (.type T)) (ha : DAB X C O (e :: es) fs) (hn : x ≠ "__name__" := by decide) (hdb : (x == ("__debug__" : Str)) = false := by decide)
    (he : starEach (e :: es) X.env = (false, eval e X.env) :: starEach es X.env := by rfl) (hpl : (backTo pos (starEach es X.env)).any (·.1) = false := by rfl) : PE X (.Call (.Name x p) (e :: es) [] pos) (tX X.K C O rel (cal sem fs)) := by
  refine ⟨fun pins s σ H Q I h => ?_⟩
  refine wpAny_Call_Name_kw (ld_blt I hg hm hv ?_ hn hdb)
  exact PyProof.Rows.callWith_type1 (thn (ha.run pos pins s σ H _ I (hc.args ho (pins := pins) h)) fun us s1 ⟨vs, H1, I1, r1, q1⟩ => q1 us s1 I1 r1) he hpl
end
/-! the built-ins -/
def lenD : List PyData → Option PyData
  | [.list ds] => some (.int ds.length)
  | [.tuple ds] => some (.int ds.length)
  | [.str x] => if x.length ≤ sizeLine then some (.int x.length) else none
  | _ => none
def ints? : List PyData → Option (List Int)
  | [] => some []
  | .int i :: r => (ints? r).map (i :: ·)
  | _ => none
def bools? : List PyData → Option (List Bool)
  | [] => some []
  | .bool b :: r => (bools? r).map (b :: ·)
  | _ => none
def strs? : List PyData → Option (List Str)
  | [] => some []
  | .str x :: r => (strs? r).map (x :: ·)
  | _ => none
def sumD : List PyData → Option PyData
  | [.list ds] => (ints? ds).map fun ns => .int ns.sum
  | _ => none
def allD : List PyData → Option PyData
  | [.list ds] => (bools? ds).map fun bs => .bool (bs.all id)
  | _ => none
def maxZ : List Int → Int
  | [] => 0
  | [a] => a
  | a :: r => max a (maxZ r)
def minZ : List Int → Int
  | [] => 0
  | [a] => a
  | a :: r => min a (minZ r)
def maxD : List PyData → Option PyData
  | [.int i, .int j] => some (.int (max i j))
  | [.list ds] => match ints? ds with
    | some (n :: ns) => some (.int (maxZ (n :: ns)))
    | _ => none
  | _ => none
def minD : List PyData → Option PyData
  | [.int i, .int j] => some (.int (min i j))
  | [.list ds] => match ints? ds with
    | some (n :: ns) => some (.int (minZ (n :: ns)))
    | _ => none
  | _ => none
def intD : List PyData → Option PyData
  | [.int i] => some (.int i)
  | [.bool b] => some (.int (if b then 1 else 0))
  | _ => none
def listD : List PyData → Option PyData
  | [.list ds] => some (.list ds)
  | [.tuple ds] => some (.list ds)
  | _ => none
def tupleD : List PyData → Option PyData
  | [.list ds] => some (.tuple ds)
  | [.tuple ds] => some (.tuple ds)
  | _ => none
theorem ints_of {K : PySem.W.Frag} {H : Hp} {av : Addr → Prop} : ∀ {vs : List V} {ds : List PyData} {ns : List Int}, RpAll K H av vs ds → ints? ds = some ns → vs = ns.map V.int
  | _, _, _, .nil, e => by cases e; rfl
  | _, _, _, .cons (d := d) (ds := ds) h r, e => by
    cases d with
    | int i =>
      cases q : ints? ds with
      | none => simp [ints?, q] at e
      | some ms =>
        simp [ints?, q] at e
        subst e
        rw [ints_of r q, h.bw.int]; rfl
    | _ => cases e
theorem bools_of {K : PySem.W.Frag} {H : Hp} {av : Addr → Prop} : ∀ {vs : List V} {ds : List PyData} {ns : List Bool}, RpAll K H av vs ds → bools? ds = some ns → vs = ns.map V.bl
  | _, _, _, .nil, e => by cases e; rfl
  | _, _, _, .cons (d := d) (ds := ds) h r, e => by
    cases d with
    | bool i =>
      cases q : bools? ds with
      | none => simp [bools?, q] at e
      | some ms =>
        simp [bools?, q] at e
        subst e
        rw [bools_of r q, h.bw.bool]; rfl
    | _ => cases e
theorem strs_of {K : PySem.W.Frag} {H : Hp} {av : Addr → Prop} : ∀ {vs : List V} {ds : List PyData} {ns : List Str}, RpAll K H av vs ds → strs? ds = some ns → vs = ns.map V.str
  | _, _, _, .nil, e => by cases e; rfl
  | _, _, _, .cons (d := d) (ds := ds) h r, e => by
    cases d with
    | str i =>
      cases q : strs? ds with
      | none => simp [strs?, q] at e
      | some ms =>
        simp [strs?, q] at e
        subst e
        rw [strs_of r q, h.bw.str]; rfl
    | _ => cases e
theorem BwAll.one {K : PySem.W.Frag} {H : Hp} {av : Addr → Prop} {vs : List V} {d : PyData} (h : BwAll K H av vs [d]) : ∃ v, vs = [v] ∧ Bw K H av v d := by
  cases h with
  | cons h r => cases r; exact ⟨_, rfl, h⟩
theorem BwAll.two {K : PySem.W.Frag} {H : Hp} {av : Addr → Prop} {vs : List V} {d e : PyData} (h : BwAll K H av vs [d, e]) : ∃ v w, vs = [v, w] ∧ Bw K H av v d ∧ Bw K H av w e := by
  cases h with
  | cons h r =>
    obtain ⟨w, rfl, q⟩ := BwAll.one r
    exact ⟨_, _, rfl, h, q⟩
theorem maxZ_spec : ∀ (n : Int) (ns : List Int), maxZ (n :: ns) ∈ n :: ns ∧ ∀ y ∈ n :: ns, y ≤ maxZ (n :: ns)
  | n, [] => ⟨by simp [maxZ], by simp [maxZ]⟩
  | n, m :: ns => by
    obtain ⟨h1, h2⟩ := maxZ_spec m ns
    have e : maxZ (n :: m :: ns) = max n (maxZ (m :: ns)) := rfl
    rw [e]
    refine ⟨?_, fun y hy => ?_⟩
    · by_cases h : n ≤ maxZ (m :: ns)
      · rw [Int.max_eq_right h]; exact List.mem_cons_of_mem _ h1
      · rw [Int.max_eq_left (by omega)]; exact List.mem_cons_self
    · rcases List.mem_cons.mp hy with rfl | hy
      · exact Int.le_max_left ..
      · exact Int.le_trans (h2 y hy) (Int.le_max_right ..)
theorem minZ_spec : ∀ (n : Int) (ns : List Int), minZ (n :: ns) ∈ n :: ns ∧ ∀ y ∈ n :: ns, minZ (n :: ns) ≤ y
  | n, [] => ⟨by simp [minZ], by simp [minZ]⟩
  | n, m :: ns => by
    obtain ⟨h1, h2⟩ := minZ_spec m ns
    have e : minZ (n :: m :: ns) = min n (minZ (m :: ns)) := rfl
    rw [e]
    refine ⟨?_, fun y hy => ?_⟩
    · by_cases h : n ≤ minZ (m :: ns)
      · rw [Int.min_eq_left h]; exact List.mem_cons_self
      · rw [Int.min_eq_right (by omega)]; exact List.mem_cons_of_mem _ h1
    · rcases List.mem_cons.mp hy with rfl | hy
      · exact Int.min_le_left ..
      · exact Int.le_trans (Int.min_le_right ..) (h2 y hy)
section
variable {X : Cx}
theorem cd_len : CallD X (.builtin "len") lenD := by
  intro pins s σ H xs us Q av ds z I rv hav hb hz q
  unfold lenD at hz
  split at hz
  · cases hz
    obtain ⟨v, rfl, b⟩ := hb.one
    obtain ⟨p, vs, rfl, hp, rp⟩ := b.list
    refine call_len pins s σ H _ us Q I rv ⟨_, vs.length, rfl, .inl ⟨vs, .inl hp, rfl⟩, ?_⟩
    rw [rp.length]; exact q _ H (Same.refl H) (.int _)
  · cases hz
    obtain ⟨v, rfl, b⟩ := hb.one
    obtain ⟨p, vs, rfl, hp, rp⟩ := b.tuple
    refine call_len pins s σ H _ us Q I rv ⟨_, vs.length, rfl, .inr ⟨vs, hp, rfl⟩, ?_⟩
    rw [rp.length]; exact q _ H (Same.refl H) (.int _)
  · split at hz
    · rename_i x hl
      cases hz
      obtain ⟨v, rfl, b⟩ := hb.one
      have e := b.str
      subst e
      exact call_len pins s σ H _ us Q I rv ⟨_, x.length, rfl, ⟨hl, rfl⟩, q _ H (Same.refl H) (.int _)⟩
    · cases hz
  · cases hz
theorem cd_sum (hc : X.calm = true) : CallD X (.builtin "sum") sumD := by
  intro pins s σ H xs us Q av ds z I rv hav hb hz q
  unfold sumD at hz
  split at hz
  · rename_i l
    cases e : ints? l with
    | none => rw [e] at hz; cases hz
    | some ns =>
      rw [e] at hz; cases hz
      obtain ⟨v, rfl, b⟩ := hb.one
      obtain ⟨p, vs, rfl, hp, rp⟩ := b.list
      have e2 := ints_of rp e
      subst e2
      exact cr_sum hc pins s σ H _ us Q I rv ⟨p, ns, rfl, .inl hp, q _ H (Same.refl H) (.int _)⟩
  · cases hz
theorem cd_all (hc : X.calm = true) : CallD X (.builtin "all") allD := by
  intro pins s σ H xs us Q av ds z I rv hav hb hz q
  unfold allD at hz
  split at hz
  · rename_i l
    cases e : bools? l with
    | none => rw [e] at hz; cases hz
    | some ns =>
      rw [e] at hz; cases hz
      obtain ⟨v, rfl, b⟩ := hb.one
      obtain ⟨p, vs, rfl, hp, rp⟩ := b.list
      have e2 := bools_of rp e
      subst e2
      exact cr_all hc pins s σ H _ us Q I rv ⟨p, ns, rfl, .inl hp, q _ H (Same.refl H) (.bl _)⟩
  · cases hz
theorem cd_max (hc : X.calm = true) : CallD X (.builtin "max") maxD := by
  intro pins s σ H xs us Q av ds z I rv hav hb hz q
  unfold maxD at hz
  split at hz
  · rename_i i j
    cases hz
    obtain ⟨v, w, rfl, b1, b2⟩ := hb.two
    have e1 := b1.int
    have e2 := b2.int
    subst e1 e2
    refine call_max2 hc pins s σ H _ us Q I rv ⟨i, j, rfl, ?_⟩
    have e : (if j > i then j else i) = max i j := by
      split
      · rw [Int.max_eq_right (by omega)]
      · rw [Int.max_eq_left (by omega)]
    rw [e]
    exact q _ H (Same.refl H) (.int _)
  · rename_i l
    split at hz
    · rename_i n ns e
      cases hz
      obtain ⟨v, rfl, b⟩ := hb.one
      obtain ⟨p, vs, rfl, hp, rp⟩ := b.list
      have e2 := ints_of rp e
      subst e2
      refine cr_max hc pins s σ H _ us Q I rv ⟨p, n :: ns, rfl, .inl hp, by simp, fun m hm hle => ?_⟩
      obtain ⟨h1, h2⟩ := maxZ_spec n ns
      have e3 : m = maxZ (n :: ns) := Int.le_antisymm (h2 m hm) (hle _ h1)
      rw [e3]
      exact q _ H (Same.refl H) (.int _)
    · cases hz
  · cases hz
theorem cd_min (hc : X.calm = true) : CallD X (.builtin "min") minD := by
  intro pins s σ H xs us Q av ds z I rv hav hb hz q
  unfold minD at hz
  split at hz
  · rename_i i j
    cases hz
    obtain ⟨v, w, rfl, b1, b2⟩ := hb.two
    have e1 := b1.int
    have e2 := b2.int
    subst e1 e2
    refine call_min2 hc pins s σ H _ us Q I rv ⟨i, j, rfl, ?_⟩
    have e : (if j < i then j else i) = min i j := by
      split
      · rw [Int.min_eq_right (by omega)]
      · rw [Int.min_eq_left (by omega)]
    rw [e]
    exact q _ H (Same.refl H) (.int _)
  · rename_i l
    split at hz
    · rename_i n ns e
      cases hz
      obtain ⟨v, rfl, b⟩ := hb.one
      obtain ⟨p, vs, rfl, hp, rp⟩ := b.list
      have e2 := ints_of rp e
      subst e2
      refine cr_min hc pins s σ H _ us Q I rv ⟨p, n :: ns, rfl, .inl hp, by simp, fun m hm hle => ?_⟩
      obtain ⟨h1, h2⟩ := minZ_spec n ns
      have e3 : m = minZ (n :: ns) := Int.le_antisymm (hle _ h1) (h2 m hm)
      rw [e3]
      exact q _ H (Same.refl H) (.int _)
    · cases hz
  · cases hz
theorem cd_int : CallD X (.type "int") intD := by
  intro pins s σ H xs us Q av ds z I rv hav hb hz q
  unfold intD at hz
  split at hz
  · cases hz
    obtain ⟨v, rfl, b⟩ := hb.one
    have e := b.int
    subst e
    exact call_int1 pins s σ H _ us Q I rv (.inl ⟨_, rfl, q _ H (Same.refl H) (.int _)⟩)
  · cases hz
    obtain ⟨v, rfl, b⟩ := hb.one
    have e := b.bool
    subst e
    exact call_int1 pins s σ H _ us Q I rv (.inr ⟨_, rfl, q _ H (Same.refl H) (.int _)⟩)
  · cases hz
theorem cf_list : CallF X (.type "list") listD := by
  intro pins s σ H xs us Q av ds z I rv hav hb hz q
  unfold listD at hz
  split at hz
  · cases hz
    obtain ⟨v, rfl, b⟩ := hb.one
    obtain ⟨p, vs, rfl, hp, rp⟩ := b.list
    exact call_list_of pins s σ H _ us Q I rv ⟨p, vs, rfl, .inl (.inl hp), fun l hl => q _ _ (same_new hl _) ⟨l, rfl, hl, vs, upd_same, rp.fresh hl (same_new hl _)⟩⟩
  · cases hz
    obtain ⟨v, rfl, b⟩ := hb.one
    obtain ⟨p, vs, rfl, hp, rp⟩ := b.tuple
    exact call_list_of pins s σ H _ us Q I rv ⟨p, vs, rfl, .inr hp, fun l hl => q _ _ (same_new hl _) ⟨l, rfl, hl, vs, upd_same, rp.fresh hl (same_new hl _)⟩⟩
  · cases hz
theorem cd_tuple : CallD X (.type "tuple") tupleD := by
  intro pins s σ H xs us Q av ds z I rv hav hb hz q
  unfold tupleD at hz
  split at hz
  · cases hz
    obtain ⟨v, rfl, b⟩ := hb.one
    obtain ⟨p, vs, rfl, hp, rp⟩ := b.list
    exact call_tuple_of pins s σ H _ us Q I rv ⟨p, vs, rfl, .inl ⟨.inl hp, fun l hl => q _ _ (same_new hl _) (.tup (SqT.of upd_same) (rp.same (same_new hl _)))⟩⟩
  · cases hz
    obtain ⟨v, rfl, b⟩ := hb.one
    obtain ⟨p, vs, rfl, hp, rp⟩ := b.tuple
    exact call_tuple_of pins s σ H _ us Q I rv ⟨p, vs, rfl, .inr ⟨hp, q _ H (Same.refl H) (.tup hp rp)⟩⟩
  · cases hz
end
end Dl

namespace Dl
open PySem PySem.Spec L2

/-! ### steps -/
structure Stp (B : Bs) (O : List Nat) (ad : Nat → Addr) (O' : List Nat) (ad' : Nat → Addr) (H H' : Hp) : Prop where
  kp : Kp (avO B O ad) H H'
  sub : ∀ a, avO B O' ad' a → avO B O ad a ∨ H a = none
section
variable {K : PySem.W.Frag} {n : Nat} {B : Bs} {O O' O'' : List Nat} {ad ad' ad'' : Nat → Addr} {δ δ' : Ev} {σ σ' : L2.St} {H H' H'' : Hp}
theorem Stp.same (s : Same H H') : Stp B O ad O ad H H' := ⟨Kp.of_same s, fun a h => .inl h⟩
theorem Stp.refl : Stp B O ad O ad H H := Stp.same (Same.refl H)
theorem Stp.trans (a : Stp B O ad O' ad' H H') (b : Stp B O' ad' O'' ad'' H' H'') : Stp B O ad O'' ad'' H H'' where
  kp := fun c o e n => by
    have e1 := a.kp c o e n
    refine b.kp c o e1 ?_
    rcases n with n | ⟨xs, n⟩
    · refine .inl fun z => ?_
      rcases a.sub c z with z | z
      · exact n z
      · rw [e] at z; cases z
    · exact .inr ⟨xs, rd_kp a.kp n (.inr ⟨xs, n⟩)⟩
  sub := fun c h => by
    rcases b.sub c h with z | z
    · exact a.sub c z
    · by_cases hc : avO B O ad c
      · exact .inl hc
      · refine .inr ?_
        cases e : H c with
        | none => rfl
        | some o => rw [a.kp c o e (.inl hc)] at z; cases z
theorem Stp.frz (hs : ∀ i ∈ O', i ∈ O) : Stp B O ad O' ad H H := ⟨Kp.of_same (Same.refl H), fun a h => .inl (h.elim .inl fun ⟨i, hi, e⟩ => .inr ⟨i, hs i hi, e⟩)⟩
theorem Stp.keep (r : Rl K n B O ad δ σ H) (s : Stp B O ad O' ad' H H') : Same B.H0 H' → True := fun _ => trivial
/-- a slot takes data -/
theorem Rl.set {i : Nat} {v : V} {d : PyData} (r : Rl K n B O ad δ σ H) (hi : i ∉ O) (h : Rp K H (avO B O ad) v d) : Rl K n B O ad (δ.set i (some d)) (σ.set i (some v)) H where
  len := by rw [List.length_set, List.length_set]; exact r.len
  lenN := by rw [List.length_set]; exact r.lenN
  inj := r.inj
  new := r.new
  fro := fun j e hj q => by
    by_cases hij : i = j
    · subst hij
      by_cases hl : i < δ.length
      · rw [List.getElem?_set_self hl] at q
        cases q
        exact ⟨v, List.getElem?_set_self (by rw [r.len]; exact hl), h⟩
      · rw [List.getElem?_eq_none (by simpa using hl)] at q; cases q
    · rw [List.getElem?_set_ne hij] at q ⊢
      exact r.fro j e hj q
  own := fun j hj => by
    have hij : i ≠ j := fun z => hi (z ▸ hj)
    obtain ⟨d', h1, h2, o⟩ := r.own j hj
    exact ⟨d', by rw [List.getElem?_set_ne hij]; exact h1, by rw [List.getElem?_set_ne hij]; exact h2, o⟩
  keep := r.keep
  dom := r.dom
def adS (ad : Nat → Addr) (i : Nat) (a : Addr) : Nat → Addr := fun j => if j = i then a else ad j
/-- a slot takes a new owned thing -/
theorem Rl.setF {i : Nat} {a : Addr} {d : PyData} (r : Rl K n B O ad δ σ H) (hi : i < n) (s : Same H H') (hn : H a = none) (o : Own K H' (fun b => avO B O ad b ∨ b = a) a d) :
    Rl K n B (i :: O.erase i) (adS ad i a) (δ.set i (some d)) (σ.set i (some (.ref a))) H' ∧ Stp B O ad (i :: O.erase i) (adS ad i a) H H' := by
  have sub : ∀ b, avO B (i :: O.erase i) (adS ad i a) b → avO B O ad b ∨ b = a := by
    rintro b (h | ⟨j, hj, e⟩)
    · exact .inl (.inl h)
    · unfold adS at e
      split at e
      · exact .inr e
      · rename_i hji
        rcases List.mem_cons.mp hj with rfl | hj
        · exact absurd rfl hji
        · exact .inl (.inr ⟨j, List.mem_of_mem_erase hj, e⟩)
  have hnew : B.H0 a = none := r.keep.free hn
  have hne : ∀ j ∈ O, ad j ≠ a := fun j hj e => by
    obtain ⟨d', _, _, o'⟩ := r.own j hj
    obtain ⟨u, e', _⟩ := o'.some
    rw [e, hn] at e'; cases e'
  have old : ∀ {b d}, Rp K H (avO B O ad) b d → Rp K H' (avO B (i :: O.erase i) (adS ad i a)) b d := fun h => (Rp.fresh hn s h).weak sub
  have mem : ∀ {j}, j ∈ i :: O.erase i → j ≠ i → j ∈ O := fun {j} hj hji => by
    rcases List.mem_cons.mp hj with e | h
    · exact absurd e hji
    · exact List.mem_of_mem_erase h
  have dom' : ∀ b, B.av0 b → H' b ≠ none ∧ ∀ j ∈ i :: O.erase i, b ≠ adS ad i a j := fun b h => by
    refine ⟨fun z => (r.dom b h).1 (s.free z), fun j hj e => ?_⟩
    unfold adS at e
    split at e
    · subst e; exact (r.dom b h).1 hn
    · rename_i h1; exact (r.dom b h).2 j (mem hj h1) e
  refine ⟨⟨by rw [List.length_set, List.length_set]; exact r.len, by rw [List.length_set]; exact r.lenN, ?_, ?_, ?_, ?_, r.keep.trans s, dom'⟩, ⟨Kp.of_same s, fun b h => (sub b h).elim (fun z => .inl z) fun (e : b = a) => .inr (by rw [e]; exact hn)⟩⟩
  · intro j hj k hk e
    unfold adS at e
    split at e
    · rename_i h1
      split at e
      · rename_i h2; rw [h1, h2]
      · rename_i h2; exact absurd e.symm (hne k (mem hk h2))
    · rename_i h1
      split at e
      · rename_i h2; exact absurd e (hne j (mem hj h1))
      · rename_i h2; exact r.inj j (mem hj h1) k (mem hk h2) e
  · intro j hj
    unfold adS
    split
    · exact hnew
    · rename_i h1; exact r.new j (mem hj h1)
  · intro j e hj q
    have hij : i ≠ j := fun z => hj (z ▸ List.mem_cons_self)
    rw [List.getElem?_set_ne hij] at q ⊢
    have hjO : j ∉ O := fun z => hj (List.mem_cons_of_mem _ ((List.mem_erase_of_ne (Ne.symm hij)).mpr z))
    obtain ⟨v, h1, h2⟩ := r.fro j e hjO q
    exact ⟨v, h1, old h2⟩
  · intro j hj
    by_cases hij : j = i
    · subst hij
      refine ⟨d, List.getElem?_set_self (by rw [r.lenN]; exact hi), ?_, ?_⟩
      · rw [List.getElem?_set_self (by rw [r.len, r.lenN]; exact hi)]; unfold adS; rw [if_pos rfl]
      · unfold adS
        rw [if_pos rfl]
        exact o.mono (Kp.of_same (Same.refl H')) (fun b _ n z => n (sub b z)) rfl
    · obtain ⟨d', h1, h2, o'⟩ := r.own j (mem hj hij)
      refine ⟨d', by rw [List.getElem?_set_ne (Ne.symm hij)]; exact h1, ?_, ?_⟩
      · rw [List.getElem?_set_ne (Ne.symm hij), h2]; unfold adS; rw [if_neg hij]
      · unfold adS
        rw [if_neg hij]
        obtain ⟨u, e', _⟩ := o'.some
        refine o'.mono (Kp.of_same s) (fun b e n z => ?_) ((s _ _ e').trans e'.symm)
        rcases sub b z with z | z
        · exact n z
        · exact e (z ▸ hn)
/-- the owned thing in slot i is changed -/
theorem Rl.mut {i : Nat} {o : HO} {d : PyData} (r : Rl K n B O ad δ σ H) (hi : i ∈ O) (hm : Mut (some o)) (ho : Own K (upd H (ad i) o) (avO B O ad) (ad i) d) :
    Rl K n B O ad (δ.set i (some d)) σ (upd H (ad i) o) ∧ Stp B O ad O ad H (upd H (ad i) o) := by
  obtain ⟨d0, i1, i2, o0⟩ := r.own i hi
  have hl : i < δ.length := by
    by_cases h : i < δ.length
    · exact h
    · rw [List.getElem?_eq_none (by simpa using h)] at i1; cases i1
  have kp : Kp (avO B O ad) H (upd H (ad i) o) := fun b u e n => by
    refine (upd_ne fun z => ?_).trans e
    subst z
    rcases n with n | ⟨xs, n⟩
    · exact n (.inr ⟨i, hi, rfl⟩)
    · exact o0.notTup n
  refine ⟨⟨by rw [List.length_set]; exact r.len, by rw [List.length_set]; exact r.lenN, r.inj, r.new, ?_, ?_, ?_, fun a h => ⟨by rw [upd_ne ((r.dom a h).2 i hi)]; exact (r.dom a h).1, (r.dom a h).2⟩⟩, ⟨kp, fun a h => .inl h⟩⟩
  · intro j e hj q
    have hij : i ≠ j := fun z => hj (z ▸ hi)
    rw [List.getElem?_set_ne hij] at q
    obtain ⟨v, h1, h2⟩ := r.fro j e hj q
    exact ⟨v, h1, h2.mono kp fun _ _ n => n⟩
  · intro j hj
    by_cases hij : i = j
    · subst hij
      exact ⟨d, List.getElem?_set_self hl, i2, ho⟩
    · obtain ⟨d', h1, h2, o'⟩ := r.own j hj
      exact ⟨d', by rw [List.getElem?_set_ne hij]; exact h1, h2, o'.mono kp (fun _ _ n => n) (upd_ne fun z => hij (r.inj j hj i hi z).symm)⟩
  · intro b u e
    refine (upd_ne fun z => ?_).trans (r.keep b u e)
    subst z
    rw [r.new i hi] at e; cases e
end

/-! ### statements -/
def Ret (K : PySem.W.Frag) (C : Cc) (B : Bs) (H' : Hp) (v : V) (d : PyData) : Prop :=
  if C.ow = true then ∃ a, v = .ref a ∧ B.H0 a = none ∧ Own K H' (fun b => B.av0 b ∨ b = a) a d else Rp K H' B.av0 v d
def Sk (K : PySem.W.Frag) (C : Cc) (B : Bs) (O : List Nat) (ad : Nat → Addr) (O' : List Nat) (H : Hp) (D : Ends) : SR → Prop
  | .nx δ' => ∀ ad' σ' H', Stp B O ad O' ad' H H' → Rl K C.n B O' ad' δ' σ' H' → D.nx σ' H'
  | .rt d => ∀ v H', Same B.H0 H' → Ret K C B H' v d → D.rt v H'
  | .bk δ' => ∀ ad' σ' H', Stp B O ad C.Ol ad' H H' → Rl K C.n B C.Ol ad' δ' σ' H' → D.bk σ' H'
  | .ct δ' => ∀ ad' σ' H', Stp B O ad C.Ol ad' H H' → Rl K C.n B C.Ol ad' δ' σ' H' → D.ct σ' H'
  | .err c x δ' => ∀ cls dd ad' σ' H', Stp B O ad C.Oe ad' H H' → Rl K C.n B C.Oe ad' δ' σ' H' → Er K c x cls dd H' → C.W cls dd σ' H'
  | .bad => False
def tS (K : PySem.W.Frag) (C : Cc) (O O' : List Nat) (g : FS) : TS := fun D σ H => ∃ B δ ad, Rl K C.n B O ad δ σ H ∧ Sk K C B O ad O' H D (g δ)
abbrev DS (X : Cx) (C : Cc) (O O' : List Nat) (s : Stmt) (g : FS) : Prop := PS X s (tS X.K C O O' g)
abbrev DSs (X : Cx) (C : Cc) (O O' : List Nat) (s : List Stmt) (g : FS) : Prop := PSs X s (tS X.K C O O' g)
theorem ps_imp {X : Cx} {s : Stmt} {t t' : TS} (h : PS X s t) (i : ∀ D σ H, t' D σ H → t D σ H) : PS X s t' := ⟨fun pins st σ H D I q => h.run pins st σ H D I (i _ _ _ q)⟩
theorem pss_imp {X : Cx} {s : List Stmt} {t t' : TS} (h : PSs X s t) (i : ∀ D σ H, t' D σ H → t D σ H) : PSs X s t' := ⟨fun pins st σ H D I q => h.run pins st σ H D I (i _ _ _ q)⟩
theorem Sk.ends {K : PySem.W.Frag} {C : Cc} {B : Bs} {O O' : List Nat} {ad : Nat → Addr} {H : Hp} {D D' : Ends} {r : SR} (h : Sk K C B O ad O' H D r)
    (hn : ∀ δ', r = .nx δ' → (∀ ad' σ' H', Stp B O ad O' ad' H H' → Rl K C.n B O' ad' δ' σ' H' → D.nx σ' H') → ∀ ad' σ' H', Stp B O ad O' ad' H H' → Rl K C.n B O' ad' δ' σ' H' → D'.nx σ' H')
    (hr : ∀ v H', D.rt v H' → D'.rt v H') (hb : ∀ σ H, D.bk σ H → D'.bk σ H) (hc : ∀ σ H, D.ct σ H → D'.ct σ H) : Sk K C B O ad O' H D' r := by
  cases r with
  | nx δ' => exact hn δ' rfl h
  | rt d => exact fun v H' s q => hr _ _ (h v H' s q)
  | bk δ' => exact fun ad' σ' H' s q => hb _ _ (h ad' σ' H' s q)
  | ct δ' => exact fun ad' σ' H' s q => hc _ _ (h ad' σ' H' s q)
  | err c x δ' => exact h
  | bad => exact h
/-- the wish, as a later start sees it -/
theorem Sk.from {K : PySem.W.Frag} {C : Cc} {B : Bs} {O O1 O' : List Nat} {ad ad1 : Nat → Addr} {H H1 : Hp} {D : Ends} {r : SR} (s : Stp B O ad O1 ad1 H H1) (h : Sk K C B O ad O' H D r) : Sk K C B O1 ad1 O' H1 D r := by
  cases r with
  | nx δ' => exact fun ad' σ' H' s2 q => h ad' σ' H' (s.trans s2) q
  | rt d => exact h
  | bk δ' => exact fun ad' σ' H' s2 q => h ad' σ' H' (s.trans s2) q
  | ct δ' => exact fun ad' σ' H' s2 q => h ad' σ' H' (s.trans s2) q
  | err c x δ' => exact fun cls dd ad' σ' H' s2 q => h cls dd ad' σ' H' (s.trans s2) q
  | bad => exact h
def sq (g h : FS) : FS := fun δ => match g δ with
  | .nx δ' => h δ'
  | r => r
def skp : FS := fun δ => .nx δ
section
variable {X : Cx} {C : Cc} {B : Bs} {O O1 O' : List Nat} {st : Stmt} {sts : List Stmt} {g h : FS}
theorem dss_cons (h1 : DS X C O O1 st g) (h2 : DSs X C O1 O' sts h) : DSs X C O O' (st :: sts) (sq g h) := pss_imp (pss_cons h1 h2) fun D σ H ⟨B, δ, ad, r, k⟩ => by
  refine ⟨B, δ, ad, r, ?_⟩
  unfold sq at k
  cases e : g δ with
  | nx δ1 => rw [e] at k; exact fun ad' σ' H' s r' => ⟨B, δ1, ad', r', k.from s⟩
  | rt d => rw [e] at k; exact k
  | bk δ1 => rw [e] at k; exact k
  | ct δ1 => rw [e] at k; exact k
  | err c x δ1 => rw [e] at k; exact k
  | bad => rw [e] at k; exact k
theorem dss_one (h1 : DS X C O O1 st g) : DSs X C O O1 [st] g := pss_one h1
theorem dss_nil : DSs X C O O [] skp := pss_imp pss_nil fun D σ H ⟨B, δ, ad, r, k⟩ => k ad σ H Stp.refl r
/-- some are owned no more, ahead -/
theorem dss_frz {O2 : List Nat} (h : DSs X C O2 O' sts g) (hs : ∀ i ∈ O2, i ∈ O := by decide) : DSs X C O O' sts g := pss_imp h fun D σ H ⟨B, δ, ad, r, k⟩ => ⟨B, δ, ad, r.freeze hs, k.from (Stp.frz hs)⟩
theorem ds_frz {O2 : List Nat} (h : DS X C O2 O' st g) (hs : ∀ i ∈ O2, i ∈ O := by decide) : DS X C O O' st g := ps_imp h fun D σ H ⟨B, δ, ad, r, k⟩ => ⟨B, δ, ad, r.freeze hs, k.from (Stp.frz hs)⟩
/-- .. behind -/
theorem Sk.weak {K : PySem.W.Frag} {B : Bs} {ad : Nat → Addr} {O2 : List Nat} {H : Hp} {D : Ends} {r : SR} (hs : ∀ i ∈ O2, i ∈ O') (h : Sk K C B O ad O2 H D r) : Sk K C B O ad O' H D r := by
  cases r with
  | nx δ' => exact fun ad' σ' H' s q => h ad' σ' H' (s.trans (Stp.frz hs)) (q.freeze hs)
  | rt d => exact h
  | bk δ' => exact h
  | ct δ' => exact h
  | err c x δ' => exact h
  | bad => exact h
theorem ds_end {O2 : List Nat} (h : DS X C O O' st g) (hs : ∀ i ∈ O2, i ∈ O' := by decide) : DS X C O O2 st g := ps_imp h fun D σ H ⟨B, δ, ad, r, k⟩ => ⟨B, δ, ad, r, k.weak hs⟩
theorem dss_end {O2 : List Nat} (h : DSs X C O O' sts g) (hs : ∀ i ∈ O2, i ∈ O' := by decide) : DSs X C O O2 sts g := pss_imp h fun D σ H ⟨B, δ, ad, r, k⟩ => ⟨B, δ, ad, r, k.weak hs⟩
theorem ds_pass {pos : Pos} : DS X C O O (.Pass pos) skp := ps_imp ps_pass fun D σ H ⟨B, δ, ad, r, k⟩ => k ad σ H Stp.refl r
def brk : FS := fun δ => .bk δ
def cnt : FS := fun δ => .ct δ
theorem ds_break {pos : Pos} (hs : ∀ i ∈ C.Ol, i ∈ O := by decide) : DS X C O O' (.Break pos) brk := ps_imp ps_break fun D σ H ⟨B, δ, ad, r, k⟩ => k ad σ H (Stp.frz hs) (r.freeze hs)
theorem ds_continue {pos : Pos} (hs : ∀ i ∈ C.Ol, i ∈ O := by decide) : DS X C O O' (.Continue pos) cnt := ps_imp ps_continue fun D σ H ⟨B, δ, ad, r, k⟩ => k ad σ H (Stp.frz hs) (r.freeze hs)
/-- an expression's answer goes on -/
def exS (f : FE) (k : PyData → SR) : FS := fun δ => match f δ with
  | .ok d => k d
  | .err c x => .err c x δ
  | .bad => .bad
theorem exS_ok {f : FE} {kk : PyData → SR} {rel : Rel3} {σ : L2.St} {H : Hp} {D : Ends} {Q : VK} {K : PySem.W.Frag} (hOe : ∀ i ∈ C.Oe, i ∈ O) (r : ∃ B δ ad, Rl K C.n B O ad δ σ H ∧ Sk K C B O ad O' H D (exS f kk δ))
    (hq : ∀ B δ ad v H' d, Rl K C.n B O ad δ σ H → f δ = .ok d → Same H H' → rel H H' (avO B O ad) v d → Sk K C B O ad O' H D (kk d) → Q v H') : tX K C O rel f σ H Q := by
  obtain ⟨B, δ, ad, r, k⟩ := r
  refine ⟨B, δ, ad, r, ?_⟩
  unfold exS at k
  cases e : f δ with
  | ok d => rw [e] at k; exact fun v H' s z => hq B δ ad v H' d r e s z k
  | err c x => rw [e] at k; exact fun cls dd H' s z => k cls dd ad σ H' ((Stp.same s).trans (Stp.frz hOe)) ((r.same s).freeze hOe) z
  | bad => rw [e] at k; exact k
def retS (f : FE) : FS := exS f .rt
theorem ds_ret {e : Expr} {f : FE} {pos : Pos} (he : DE X C O e f) (hw : C.ow = false := by rfl) (hOe : ∀ i ∈ C.Oe, i ∈ O := by exact fun _ h => nomatch h) : DS X C O O' (.Return (some e) pos) (retS f) := ps_imp (ps_ret he) fun D σ H r => exS_ok hOe r fun B δ ad v H' d rl _ s z k => by
  refine k v H' (rl.keep.trans s) ?_
  unfold Ret
  rw [hw]
  exact Rp.weak (fun a h => .inl h) z
theorem ds_retF {e : Expr} {f : FE} {pos : Pos} (he : DF X C O e f) (hw : C.ow = true := by rfl) (hOe : ∀ i ∈ C.Oe, i ∈ O := by exact fun _ h => nomatch h) : DS X C O O' (.Return (some e) pos) (retS f) := ps_imp (ps_ret he) fun D σ H r => exS_ok hOe r fun B δ ad v H' d rl _ s z k => by
  obtain ⟨a, rfl, n, o⟩ := z
  refine k _ H' (rl.keep.trans s) ?_
  unfold Ret
  rw [hw]
  exact ⟨a, rfl, rl.keep.free n, o.mono (Kp.of_same (Same.refl H')) (fun b _ n z => n (z.imp .inl id)) rfl⟩
/-- an owned name is given back -/
theorem ds_retO {e : Expr} {i : Nat} {pos : Pos} (he : PE X e (tVar i)) (hi : i ∈ O := by decide) (hw : C.ow = true := by rfl) : DS X C O O' (.Return (some e) pos) (retS (vr i)) := ps_imp (ps_ret he) fun D σ H ⟨B, δ, ad, r, k⟩ => by
  obtain ⟨d, h1, h2, o⟩ := r.own i hi
  have e : vr i δ = .ok d := by unfold vr; rw [h1]
  unfold retS exS at k
  rw [e] at k
  refine ⟨_, h2, k _ H r.keep ?_⟩
  unfold Ret
  rw [hw]
  refine ⟨_, rfl, r.new i hi, o.mono (Kp.of_same (Same.refl H)) (fun b _ n z => n ?_) rfl⟩
  exact z.imp id fun e => ⟨i, hi, e⟩
/-- an owned name given back as data -/
theorem ds_retD {e : Expr} {i : Nat} {pos : Pos} (he : PE X e (tVar i)) (hw : C.ow = false := by rfl) : DS X C O O' (.Return (some e) pos) (retS (vr i)) := ps_imp (ps_ret he) fun D σ H ⟨B, δ, ad, r, k⟩ => by
  have r0 := r.freeze (O' := []) (fun i h => by cases h)
  unfold retS exS vr at k
  split at k
  · rename_i d e
    split at e
    · rename_i d' e'
      cases e
      obtain ⟨v, h1, h2⟩ := r0.fro i _ (by simp) e'
      refine ⟨v, h1, k v H r.keep ?_⟩
      unfold Ret
      rw [hw]
      exact Rp.weak (fun a h => .inl h) h2
    · cases e
  · rename_i e; split at e <;> cases e
  · exact k.elim
def setS (i : Nat) (f : FE) : FS := fun δ => exS f (fun d => .nx (δ.set i (some d))) δ
theorem ds_set {f : FE} {i : Nat} (hp : PS X st (tAsg (tX X.K C O (relE X.K) f) (gName i))) (hi : i ∉ O := by decide) (hOe : ∀ i ∈ C.Oe, i ∈ O := by exact fun _ h => nomatch h) : DS X C O O st (setS i f) := ps_imp hp fun D σ H ⟨B, δ, ad, r, k⟩ => by
  refine ⟨B, δ, ad, r, ?_⟩
  unfold setS exS at k
  cases e : f δ with
  | ok d => rw [e] at k; exact fun v H' s z => k ad _ H' (Stp.same s) ((r.same s).set hi z)
  | err c x => rw [e] at k; exact fun cls dd H' s z => k cls dd ad σ H' ((Stp.same s).trans (Stp.frz hOe)) ((r.same s).freeze hOe) z
  | bad => rw [e] at k; exact k
theorem ds_setF {f : FE} {i : Nat} (hp : PS X st (tAsg (tX X.K C O (relF X.K) f) (gName i))) (hO : i :: O.erase i = O' := by rfl) (hi : i < C.n := by exact Nat.le_of_ble_eq_true rfl) (hOe : ∀ i ∈ C.Oe, i ∈ O := by exact fun _ h => nomatch h) : DS X C O O' st (setS i f) := ps_imp hp fun D σ H ⟨B, δ, ad, r, k⟩ => by
  subst hO
  refine ⟨B, δ, ad, r, ?_⟩
  unfold setS exS at k
  cases e : f δ with
  | ok d =>
    rw [e] at k
    intro v H' s z
    obtain ⟨a, rfl, n, o⟩ := z
    obtain ⟨h1, h2⟩ := r.setF hi s n o
    exact k _ _ H' h2 h1
  | err c x => rw [e] at k; exact fun cls dd H' s z => k cls dd ad σ H' ((Stp.same s).trans (Stp.frz hOe)) ((r.same s).freeze hOe) z
  | bad => rw [e] at k; exact k
def ifS (c : FT) (a b : FS) : FS := fun δ => match c δ with
  | .ok true => a δ
  | .ok false => b δ
  | .err c x => .err c x δ
  | .bad => .bad
theorem ds_if {e : Expr} {c : FT} {a b : FS} {ta tb : List Stmt} {pos : Pos} (hc : DT X C O e c) (ha : DSs X C O O' ta a) (hb : DSs X C O O' tb b) (hOe : ∀ i ∈ C.Oe, i ∈ O := by exact fun _ h => nomatch h) : DS X C O O' (.If e ta tb pos) (ifS c a b) := ps_imp (ps_if hc ha hb) fun D σ H ⟨B, δ, ad, r, k⟩ => by
  refine ⟨B, δ, ad, r, ?_⟩
  unfold ifS at k
  cases e : c δ with
  | ok t =>
    rw [e] at k
    intro H' s
    cases t with
    | true => rw [if_pos rfl]; exact ⟨B, δ, ad, r.same s, k.from (Stp.same s)⟩
    | false => rw [if_neg Bool.false_ne_true]; exact ⟨B, δ, ad, r.same s, k.from (Stp.same s)⟩
  | err c x => rw [e] at k; exact fun cls dd H' s z => k cls dd ad σ H' ((Stp.same s).trans (Stp.frz hOe)) ((r.same s).freeze hOe) z
  | bad => rw [e] at k; exact k
def expS (f : FE) : FS := fun δ => exS f (fun _ => .nx δ) δ
theorem ds_expr {e : Expr} {f : FE} {pos : Pos} (he : DB X C O e f) (hOe : ∀ i ∈ C.Oe, i ∈ O := by exact fun _ h => nomatch h) (hs : swapsWith e none pos.line X.env = pure false := by rfl) : DS X C O O (.Expr e pos) (expS f) := ps_imp (ps_expr he hs) fun D σ H ⟨B, δ, ad, r, k⟩ => by
  refine ⟨B, δ, ad, r, ?_⟩
  unfold expS exS at k
  cases e : f δ with
  | ok d => rw [e] at k; exact fun v H' s z => k ad _ H' (Stp.same s) (r.same s)
  | err c x => rw [e] at k; exact fun cls dd H' s z => k cls dd ad σ H' ((Stp.same s).trans (Stp.frz hOe)) ((r.same s).freeze hOe) z
  | bad => rw [e] at k; exact k
end
end Dl

namespace Dl
open PySem PySem.Spec L2

/-! ### targets -/
abbrev FB := PyData → Ev → Option Ev
def bN (i : Nat) : FB := fun d δ => some (δ.set i (some d))
def sets : List Nat → List PyData → Ev → Ev
  | i :: is, d :: ds, δ => sets is ds (δ.set i (some d))
  | _, _, δ => δ
def bT (is : List Nat) : FB := fun d δ => match d with
  | .tuple ds => if ds.length = is.length then some (sets is ds δ) else none
  | .list ds => if ds.length = is.length then some (sets is ds δ) else none
  | _ => none
def gNames : List Nat → TGs
  | [] => gNil
  | i :: is => gCons (gName i) (gNames is)
def EqBut (is : List Nat) (σ σ' : L2.St) : Prop := σ'.length = σ.length ∧ ∀ j, j ∉ is → σ'[j]? = σ[j]?
theorem EqBut.refl {is : List Nat} {σ : L2.St} : EqBut is σ σ := ⟨rfl, fun _ _ => rfl⟩
theorem EqBut.set {is : List Nat} {σ σ' : L2.St} {i : Nat} {v : Option V} (h : EqBut is (σ.set i v) σ') : EqBut (i :: is) σ σ' := ⟨by rw [h.1, List.length_set], fun j hj => by
  rw [h.2 j fun z => hj (List.mem_cons_of_mem _ z), List.getElem?_set_ne (show i ≠ j from fun z => hj (by rw [z]; exact List.mem_cons_self))]⟩
def tG (K : PySem.W.Frag) (C : Cc) (O : List Nat) (is : List Nat) (b : FB) : TG := fun v σ H Q => ∃ B δ ad d δ', Rl K C.n B O ad δ σ H ∧ Rp K H (avO B O ad) v d ∧ b d δ = some δ' ∧ ∀ σ', Rl K C.n B O ad δ' σ' H → EqBut is σ σ' → Q σ' H
abbrev DG (X : Cx) (C : Cc) (O : List Nat) (tg : Expr) (is : List Nat) (b : FB) : Prop := PG X tg (tG X.K C O is b)
theorem pg_imp {X : Cx} {tg : Expr} {t t' : TG} (h : PG X tg t) (i : ∀ v σ H Q, t' v σ H Q → t v σ H Q) : PG X tg t' := ⟨fun pins s σ H v u Q I r q => h.run pins s σ H v u Q I r (i _ _ _ _ q)⟩
section
variable {X : Cx} {C : Cc} {O is : List Nat} {tg : Expr}
theorem dg_name {i : Nat} (h : PG X tg (gName i)) (hi : i ∉ O := by decide) : DG X C O tg [i] (bN i) := pg_imp h fun v σ H Q ⟨B, δ, ad, d, δ', r, z, e, q⟩ => by
  cases e
  exact q _ (r.set hi z) (EqBut.set EqBut.refl)
theorem gNames_ok {K : PySem.W.Frag} {B : Bs} {ad : Nat → Addr} {H : Hp} {Q : L2.St → Hp → Prop} : ∀ {is : List Nat} {vs : List V} {ds : List PyData} {δ : Ev} {σ : L2.St}, (∀ i ∈ is, i ∉ O) → Rl K C.n B O ad δ σ H → RpAll K H (avO B O ad) vs ds → ds.length = is.length →
    (∀ σ', Rl K C.n B O ad (sets is ds δ) σ' H → EqBut is σ σ' → Q σ' H) → gNames is vs σ H Q
  | [], _, _, _, _, _, r, .nil, _, q => ⟨rfl, q _ r EqBut.refl⟩
  | i :: is, _, _, _, _, hi, r, .cons h t, hl, q => ⟨_, _, rfl, gNames_ok (fun j hj => hi j (List.mem_cons_of_mem _ hj)) (r.set (hi i List.mem_cons_self) h) t (by simpa using hl) fun σ' r' e => q σ' r' e.set⟩
  | [], _, _, _, _, _, _, .cons _ _, hl, _ => by simp at hl
  | _ :: _, _, _, _, _, _, _, .nil, hl, _ => by simp at hl
def gTwo (K : PySem.W.Frag) (n : Nat) (t : TGs) : TG := fun v σ H Q => gTup K n t v σ H Q ∨ gUnl K n t v σ H Q
theorem pg_two {pos : Pos} {es : List Expr} {k : Nat} {t : TGs} {n : Nat} (hc : X.calm = true) (hg : PGs X es t) (hl : (assignEach es X.env).length = n := by rfl) (hf : List.findIdx? (fun x => x.fst) (assignEach es X.env) = none := by rfl) : PG X (.Tuple es k pos) (gTwo X.K n t) :=
  ⟨fun pins s σ H v u Q I r q => q.elim (fun q => (pg_tup hc hg hl hf).run pins s σ H v u Q I r q) (fun q => (pg_unl hc hg hl hf).run pins s σ H v u Q I r q)⟩
theorem dg_tup {is : List Nat} (h : PG X tg (gTwo X.K is.length (gNames is))) (hi : ∀ i ∈ is, i ∉ O := by decide) : DG X C O tg is (bT is) := pg_imp h fun v σ H Q ⟨B, δ, ad, d, δ', r, z, e, q⟩ => by
  unfold bT at e
  split at e
  · split at e
    · rename_i hl
      cases e
      obtain ⟨a, xs, rfl, ha, ra⟩ := z.bw.tuple
      exact .inl ⟨a, xs, rfl, ha, by rw [ra.length]; exact hl, gNames_ok hi r ra hl q⟩
    · cases e
  · split at e
    · rename_i hl
      cases e
      obtain ⟨a, xs, rfl, ha, ra⟩ := z.bw.list
      exact .inr ⟨a, xs, rfl, .inl ha, by rw [ra.length]; exact hl, gNames_ok hi r ra hl q⟩
    · cases e
  · cases e
def asgS (b : FB) (f : FE) : FS := fun δ => exS f (fun d => match b d δ with | some δ' => .nx δ' | none => .bad) δ
/-- a, b = e -/
theorem ds_asg {e : Expr} {st : Stmt} {f : FE} {b : FB} (hp : ∀ te g, PE X e te → PG X tg g → PS X st (tAsg te g)) (hg : DG X C O tg is b) (he : DE X C O e f) (hOe : ∀ i ∈ C.Oe, i ∈ O := by exact fun _ h => nomatch h) : DS X C O O st (asgS b f) := ps_imp (hp _ _ he hg) fun D σ H ⟨B, δ, ad, r, k⟩ => by
  refine ⟨B, δ, ad, r, ?_⟩
  unfold asgS exS at k
  cases e : f δ with
  | ok d =>
    rw [e] at k
    intro v H' s z
    cases e2 : b d δ with
    | none => simp only [e2] at k; exact k.elim
    | some δ' => simp only [e2] at k; exact ⟨B, δ, ad, d, δ', r.same s, z, e2, fun σ' r' _ => k ad σ' H' (Stp.same s) r'⟩
  | err c x => rw [e] at k; exact fun cls dd H' s z => k cls dd ad σ H' ((Stp.same s).trans (Stp.frz hOe)) ((r.same s).freeze hOe) z
  | bad => rw [e] at k; exact k
end

/-! ### what is walked -/
abbrev FI := Ev → R (List PyData)
abbrev OkH := Hp → (Addr → Prop) → Prop
def okL (av : Addr → Prop) (H1 : Hp) : OkH := fun H' av' => Kp av H1 H' ∧ ∀ a, av' a → av a ∨ H1 a = none
def okC (av : Addr → Prop) (H1 : Hp) : OkH := fun H' av' => Same H1 H' ∧ ∀ a, av' a → av a ∨ H1 a = none
def ItD (K : PySem.W.Frag) (ok : OkH) (J : It) (ds : List PyData) : Prop := ∀ H' av', ok H' av' → (∀ i, i < ds.length → J.go i H') ∧ J.stop ds.length H' ∧
  ∀ i x H'', i < ds.length → J.yld i H' x H'' → Same H' H'' ∧ ∃ d, ds[i]? = some d ∧ Rp K H'' av' x d
def tI (ok : (Addr → Prop) → Hp → OkH) (K : PySem.W.Frag) (C : Cc) (O : List Nat) (f : FI) : TI := fun σ H Q => ∃ B δ ad, Rl K C.n B O ad δ σ H ∧
  Rk (f δ) (fun ds => ∀ J H1, Same H H1 → ItD K (ok (avO B O ad) H1) J ds → Q J H1) (fun c x => ∀ cls dd H', Same H H' → Er K c x cls dd H' → C.W cls dd σ H')
abbrev DI (X : Cx) (C : Cc) (O : List Nat) (tg e : Expr) (f : FI) : Prop := PI X tg e (tI okL X.K C O f)
abbrev DC (X : Cx) (C : Cc) (O : List Nat) (tg e : Expr) (f : FI) : Prop := PI X tg e (tI okC X.K C O f)
theorem pi_imp {X : Cx} {tg e : Expr} {t t' : TI} (h : PI X tg e t) (i : ∀ σ H Q, t' σ H Q → t σ H Q) : PI X tg e t' := ⟨fun pins s σ H R I q => h.run pins s σ H R I (i _ _ _ q)⟩
section
variable {K : PySem.W.Frag} {ok : OkH} {ds : List PyData}
theorem ItD.list {a : Addr} {xs : List V} (h : ∀ H' av', ok H' av' → SqL K H' a xs ∧ RpAll K H' av' xs ds) : ItD K ok (Itl K a) ds := fun H' av' o => by
  obtain ⟨h1, h2⟩ := h H' av' o
  refine ⟨fun i hi => ?_, ⟨xs, h1, Nat.le_of_eq h2.length⟩, fun i x H'' hi y => ?_⟩
  · rw [← h2.length] at hi
    exact ⟨xs, xs[i], h1, by simp [hi]⟩
  · obtain ⟨e, y⟩ := y
    subst e
    obtain ⟨d, e1, e2⟩ := h2.get (y xs h1)
    exact ⟨Same.refl _, d, e1, e2⟩
theorem ItD.tup {a : Addr} {xs : List V} (h : ∀ H' av', ok H' av' → SqT K H' a xs ∧ RpAll K H' av' xs ds) : ItD K ok (Itt K a) ds := fun H' av' o => by
  obtain ⟨h1, h2⟩ := h H' av' o
  refine ⟨fun i hi => ?_, ⟨xs, h1, Nat.le_of_eq h2.length⟩, fun i x H'' hi y => ?_⟩
  · rw [← h2.length] at hi
    exact ⟨xs, xs[i], h1, by simp [hi]⟩
  · obtain ⟨e, y⟩ := y
    subst e
    obtain ⟨d, e1, e2⟩ := h2.get (y xs h1)
    exact ⟨Same.refl _, d, e1, e2⟩
def rangeL (lo : Int) (n : Nat) : List PyData := (List.range n).map fun i => .int (lo + (i : Nat))
theorem ItD.range {lo : Int} {n : Nat} : ItD K ok (Itr lo n) (rangeL lo n) := fun H' av' o => by
  refine ⟨fun i hi => by show i < n; simpa [rangeL] using hi, by show n ≤ _; simp [rangeL], fun i x H'' hi y => ?_⟩
  obtain ⟨e, y⟩ := y
  subst e y
  have hi' : i < n := by simpa [rangeL] using hi
  exact ⟨Same.refl _, .int (lo + (i : Nat)), by simp [rangeL, hi'], .int _⟩
def zipL (xs ys : List PyData) : List PyData := (xs.zip ys).map fun p => .tuple [p.1, p.2]
theorem zipL_get {xs ys : List PyData} {i : Nat} {x y : PyData} (h1 : xs[i]? = some x) (h2 : ys[i]? = some y) : (zipL xs ys)[i]? = some (.tuple [x, y]) := by
  simp [zipL, List.getElem?_zip_eq_some, List.getElem?_map, h1, h2]
theorem ItD.zip {a b : Addr} {xs ys : List V} {es : List PyData} (h : ∀ H' av', ok H' av' → SqL K H' a xs ∧ RpAll K H' av' xs ds ∧ SqL K H' b ys ∧ RpAll K H' av' ys es) : ItD K ok (Itz K a b) (zipL ds es) := fun H' av' o => by
  obtain ⟨h1, h2, h3, h4⟩ := h H' av' o
  have e1 := h2.length
  have e2 := h4.length
  have hz : (zipL ds es).length = min ds.length es.length := by simp [zipL]
  refine ⟨fun i hi => ?_, ⟨xs, ys, h1, h3, ?_⟩, fun i x H'' hi y => ?_⟩
  · rw [hz] at hi
    exact ⟨xs, ys, xs[i]'(by omega), ys[i]'(by omega), h1, h3, by simp, by simp⟩
  · rw [hz]; omega
  · obtain ⟨T, u, v, rfl, hT, rfl, y1, y2⟩ := y
    obtain ⟨d, q1, q2⟩ := h2.get (y1 xs h1)
    obtain ⟨d', q3, q4⟩ := h4.get (y2 ys h3)
    have s := same_new hT (.tup [u, v])
    exact ⟨s, _, zipL_get q1 q3, .tup (SqT.of upd_same) (.cons (q2.same s) (.cons (q4.same s) .nil))⟩
def enumL (xs : List PyData) : List PyData := zipL (rangeL 0 xs.length) xs
theorem enumL_get {xs : List PyData} {i : Nat} {x : PyData} (h2 : xs[i]? = some x) : (enumL xs)[i]? = some (.tuple [.int (i : Nat), x]) := by
  have hi : i < xs.length := by
    by_cases h : i < xs.length
    · exact h
    · rw [List.getElem?_eq_none (by simpa using h)] at h2; cases h2
  exact zipL_get (by simp [rangeL, hi]) h2
theorem ItD.enum {a : Addr} {xs : List V} (h : ∀ H' av', ok H' av' → SqL K H' a xs ∧ RpAll K H' av' xs ds) : ItD K ok (Ite K a) (enumL ds) := fun H' av' o => by
  obtain ⟨h1, h2⟩ := h H' av' o
  have hz : (enumL ds).length = ds.length := by simp [enumL, zipL, rangeL]
  refine ⟨fun i hi => ?_, ?_, fun i x H'' hi y => ?_⟩
  · rw [hz, ← h2.length] at hi
    exact ⟨xs, xs[i], h1, by simp [hi]⟩
  · rw [hz, ← h2.length]
    exact ⟨xs, h1, Nat.le_refl _⟩
  · obtain ⟨T, u, rfl, hT, rfl, y1⟩ := y
    obtain ⟨d, q1, q2⟩ := h2.get (y1 xs h1)
    have s := same_new hT (.tup [.int (i : Nat), u])
    exact ⟨s, _, enumL_get q1, .tup (SqT.of upd_same) (.cons (.int _) (.cons (q2.same s) .nil))⟩
theorem ItD.rev {a : Addr} {xs : List V} (h : ∀ H' av', ok H' av' → SqL K H' a xs ∧ RpAll K H' av' xs ds) : ItD K ok (Itv K a xs.length) ds.reverse := fun H' av' o => by
  obtain ⟨h1, h2⟩ := h H' av' o
  have e1 := h2.length
  refine ⟨fun i hi => ?_, ?_, fun i x H'' hi y => ?_⟩
  · rw [List.length_reverse, ← e1] at hi
    exact ⟨hi, xs, xs[xs.length - 1 - i]'(by omega), h1, by simp⟩
  · rw [List.length_reverse, ← e1]
    exact Nat.le_refl _
  · rw [List.length_reverse, ← e1] at hi
    obtain ⟨e, y⟩ := y
    subst e
    obtain ⟨d, q1, q2⟩ := h2.get (y xs h1)
    refine ⟨Same.refl _, d, ?_, q2⟩
    rw [List.getElem?_reverse (by omega), ← e1]
    exact q1
end
section
variable {X : Cx} {C : Cc} {O : List Nat} {tg e : Expr} {f : FE}
def itL (f : FE) : FI := fun δ => (f δ).bind fun d => match d with
  | .list ds => .ok ds
  | _ => .bad
def itT (f : FE) : FI := fun δ => (f δ).bind fun d => match d with
  | .tuple ds => .ok ds
  | _ => .bad
theorem okL_list {K : PySem.W.Frag} {av : Addr → Prop} {H : Hp} {v : V} {ds : List PyData} (h : Rp K H av v (.list ds)) : ∃ a xs, v = .ref a ∧ SqL K H a xs ∧ RpAll K H av xs ds ∧ ∀ H' av', okL av H H' av' → SqL K H' a xs ∧ RpAll K H' av' xs ds := by
  cases h with
  | lst h n r =>
    refine ⟨_, _, rfl, .inl h, r, fun H' av' o => ⟨.inl (rd_kp o.1 h (.inl n)), r.mono o.1 fun a e n z => ?_⟩⟩
    rcases o.2 a z with z | z
    · exact n z
    · exact e z
theorem okC_list {K : PySem.W.Frag} {av : Addr → Prop} {H : Hp} {v : V} {ds : List PyData} (h : Bw K H av v (.list ds)) : ∃ a xs, v = .ref a ∧ SqL K H a xs ∧ RpAll K H av xs ds ∧ ∀ H' av', okC av H H' av' → SqL K H' a xs ∧ RpAll K H' av' xs ds := by
  obtain ⟨a, xs, rfl, h1, r⟩ := h.list
  refine ⟨a, xs, rfl, .inl h1, r, fun H' av' o => ⟨.inl ?_, r.mono (Kp.of_same o.1) fun a e n z => (o.2 a z).elim n e⟩⟩
  rcases h1 with h | ⟨u, h⟩
  · exact .inl (o.1 _ _ h)
  · exact .inr ⟨u, o.1 _ _ h⟩
theorem okL_tup {K : PySem.W.Frag} {av : Addr → Prop} {H : Hp} {v : V} {ds : List PyData} (h : Bw K H av v (.tuple ds)) : ∃ a xs, v = .ref a ∧ SqT K H a xs ∧ RpAll K H av xs ds ∧ ∀ H' av', okL av H H' av' → SqT K H' a xs ∧ RpAll K H' av' xs ds := by
  obtain ⟨a, xs, rfl, h1, r⟩ := h.tuple
  refine ⟨a, xs, rfl, h1, r, fun H' av' o => ⟨sqT_kp o.1 h1, r.mono o.1 fun a e n z => ?_⟩⟩
  rcases o.2 a z with z | z
  · exact n z
  · exact e z
theorem okC_tup {K : PySem.W.Frag} {av : Addr → Prop} {H : Hp} {v : V} {ds : List PyData} (h : Bw K H av v (.tuple ds)) : ∃ a xs, v = .ref a ∧ SqT K H a xs ∧ RpAll K H av xs ds ∧ ∀ H' av', okC av H H' av' → SqT K H' a xs ∧ RpAll K H' av' xs ds := by
  obtain ⟨a, xs, rfl, h1, r⟩ := h.tuple
  exact ⟨a, xs, rfl, h1, r, fun H' av' o => ⟨sqT_kp (av := av) (Kp.of_same o.1) h1, r.mono (Kp.of_same o.1) fun a e n z => (o.2 a z).elim n e⟩⟩
theorem di_list (h : DE X C O e f) : DI X C O tg e (itL f) := pi_imp (pi_list h) fun σ H Q ⟨B, δ, ad, r, k⟩ => by
  refine ⟨B, δ, ad, r, k.bind.imp (fun d _ q v H1 s1 z => ?_) fun _ _ z => z⟩
  cases d with
  | list ds => obtain ⟨a, xs, rfl, h1, _, h2⟩ := okL_list z; exact ⟨a, rfl, ⟨xs, h1⟩, q _ H1 s1 (ItD.list h2)⟩
  | _ => exact q.elim
theorem dc_list (h : DB X C O e f) : DC X C O tg e (itL f) := pi_imp (pi_list h) fun σ H Q ⟨B, δ, ad, r, k⟩ => by
  refine ⟨B, δ, ad, r, k.bind.imp (fun d _ q v H1 s1 z => ?_) fun _ _ z => z⟩
  cases d with
  | list ds => obtain ⟨a, xs, rfl, h1, _, h2⟩ := okC_list z; exact ⟨a, rfl, ⟨xs, h1⟩, q _ H1 s1 (ItD.list h2)⟩
  | _ => exact q.elim
theorem di_tup (h : DB X C O e f) : DI X C O tg e (itT f) := pi_imp (pi_tup h) fun σ H Q ⟨B, δ, ad, r, k⟩ => by
  refine ⟨B, δ, ad, r, k.bind.imp (fun d _ q v H1 s1 z => ?_) fun _ _ z => z⟩
  cases d with
  | tuple ds => obtain ⟨a, xs, rfl, h1, _, h2⟩ := okL_tup z; exact ⟨a, rfl, ⟨xs, h1⟩, q _ H1 s1 (ItD.tup h2)⟩
  | _ => exact q.elim
theorem dc_tup (h : DB X C O e f) : DC X C O tg e (itT f) := pi_imp (pi_tup h) fun σ H Q ⟨B, δ, ad, r, k⟩ => by
  refine ⟨B, δ, ad, r, k.bind.imp (fun d _ q v H1 s1 z => ?_) fun _ _ z => z⟩
  cases d with
  | tuple ds => obtain ⟨a, xs, rfl, h1, _, h2⟩ := okC_tup z; exact ⟨a, rfl, ⟨xs, h1⟩, q _ H1 s1 (ItD.tup h2)⟩
  | _ => exact q.elim
def itR (fs : List FE) : FI := fun δ => (evs fs δ).bind fun ds => match ds with
  | [.int n] => if -(2 ^ 62) ≤ n ∧ n < 2 ^ 62 then .ok (rangeL 0 n.toNat) else .bad
  | [.int a, .int b] => if (-(2 ^ 62) ≤ a ∧ a < 2 ^ 62) ∧ (-(2 ^ 62) ≤ b ∧ b < 2 ^ 62) then .ok (rangeL a (b - a).toNat) else .bad
  | _ => .bad
theorem dx_range1 {ok : (Addr → Prop) → Hp → OkH} {p pos : Pos} (hg : Gl X "range") (hm : X.mg "range" = none) (h : DAB X C O [e] [f]) (hh : ∀ ta, PA X [e] ta → PI X tg (.Call (.Name "range" p) [e] [] pos) (iRng1 ta)) : PI X tg (.Call (.Name "range" p) [e] [] pos) (tI ok X.K C O (itR [f])) := pi_imp (hh _ h) fun σ H Q ⟨B, δ, ad, r, k⟩ => by
  refine ⟨B, δ, ad, r, k.bind.imp (fun ds e q vs H1 s1 z => ?_) fun _ _ z => z⟩
  have hl := evs_length e
  match ds, hl with
  | [d], _ =>
    cases d with
    | int n =>
      by_cases hc : -(2 ^ 62) ≤ n ∧ n < 2 ^ 62
      · simp only [if_pos hc] at q
        obtain ⟨v, rfl, b⟩ := z.one
        have e := b.int
        subst e
        exact ⟨n, rfl, hc.1, hc.2, q _ H1 s1 ItD.range⟩
      · simp only [if_neg hc] at q; exact q.elim
    | _ => exact q.elim
theorem dx_range2 {ok : (Addr → Prop) → Hp → OkH} {e2 : Expr} {f2 : FE} {p pos : Pos} (hg : Gl X "range") (hm : X.mg "range" = none) (h : DAB X C O [e, e2] [f, f2]) (hh : ∀ ta, PA X [e, e2] ta → PI X tg (.Call (.Name "range" p) [e, e2] [] pos) (iRng2 ta)) : PI X tg (.Call (.Name "range" p) [e, e2] [] pos) (tI ok X.K C O (itR [f, f2])) := pi_imp (hh _ h) fun σ H Q ⟨B, δ, ad, r, k⟩ => by
  refine ⟨B, δ, ad, r, k.bind.imp (fun ds e q vs H1 s1 z => ?_) fun _ _ z => z⟩
  have hl := evs_length e
  match ds, hl with
  | [d, d2], _ =>
    cases d with
    | int n =>
      cases d2 with
      | int m =>
        by_cases hc : (-(2 ^ 62) ≤ n ∧ n < 2 ^ 62) ∧ (-(2 ^ 62) ≤ m ∧ m < 2 ^ 62)
        · simp only [if_pos hc] at q
          obtain ⟨v, w, rfl, b1, b2⟩ := z.two
          have e1 := b1.int
          have e2 := b2.int
          subst e1 e2
          exact ⟨n, m, rfl, ⟨hc.1.1, hc.1.2, hc.2.1, hc.2.2⟩, q _ H1 s1 ItD.range⟩
        · simp only [if_neg hc] at q; exact q.elim
      | _ => exact q.elim
    | _ => exact q.elim
def itZ (fa fb : FE) : FI := fun δ => (evs [fa, fb] δ).bind fun ds => match ds with
  | [.list xs, .list ys] => .ok (zipL xs ys)
  | _ => .bad
theorem di_zip {e2 : Expr} {f2 : FE} (h : DA X C O [e, e2] [f, f2]) {iter : Expr} (hh : ∀ ta, PA X [e, e2] ta → PI X tg iter (iZip X.K ta)) : DI X C O tg iter (itZ f f2) := pi_imp (hh _ h) fun σ H Q ⟨B, δ, ad, r, k⟩ => by
  refine ⟨B, δ, ad, r, k.bind.imp (fun ds e q vs H1 s1 z => ?_) fun _ _ z => z⟩
  have hl := evs_length e
  match ds, hl, z with
  | [d, d2], _, .cons z1 (.cons z2 .nil) =>
    cases d with
    | list xs =>
      cases d2 with
      | list ys =>
        obtain ⟨a, vs, rfl, h1, _, h2⟩ := okL_list z1
        obtain ⟨b, ws, rfl, h3, _, h4⟩ := okL_list z2
        exact ⟨a, b, vs, ws, rfl, h1, h3, q _ H1 s1 (ItD.zip fun H' av' o => ⟨(h2 H' av' o).1, (h2 H' av' o).2, (h4 H' av' o).1, (h4 H' av' o).2⟩)⟩
      | _ => exact q.elim
    | _ => exact q.elim
theorem dc_zip {e2 : Expr} {f2 : FE} (h : DAB X C O [e, e2] [f, f2]) {iter : Expr} (hh : ∀ ta, PA X [e, e2] ta → PI X tg iter (iZip X.K ta)) : DC X C O tg iter (itZ f f2) := pi_imp (hh _ h) fun σ H Q ⟨B, δ, ad, r, k⟩ => by
  refine ⟨B, δ, ad, r, k.bind.imp (fun ds e q vs H1 s1 z => ?_) fun _ _ z => z⟩
  have hl := evs_length e
  match ds, hl, z with
  | [d, d2], _, .cons z1 (.cons z2 .nil) =>
    cases d with
    | list xs =>
      cases d2 with
      | list ys =>
        obtain ⟨a, vs, rfl, h1, _, h2⟩ := okC_list z1
        obtain ⟨b, ws, rfl, h3, _, h4⟩ := okC_list z2
        exact ⟨a, b, vs, ws, rfl, h1, h3, q _ H1 s1 (ItD.zip fun H' av' o => ⟨(h2 H' av' o).1, (h2 H' av' o).2, (h4 H' av' o).1, (h4 H' av' o).2⟩)⟩
      | _ => exact q.elim
    | _ => exact q.elim
def it1 (w : List PyData → List PyData) (f : FE) : FI := fun δ => (evs [f] δ).bind fun ds => match ds with
  | [.list xs] => .ok (w xs)
  | _ => .bad
theorem di_enum (h : DA X C O [e] [f]) {iter : Expr} (hh : ∀ ta, PA X [e] ta → PI X tg iter (iEnum X.K ta)) : DI X C O tg iter (it1 enumL f) := pi_imp (hh _ h) fun σ H Q ⟨B, δ, ad, r, k⟩ => by
  refine ⟨B, δ, ad, r, k.bind.imp (fun ds e q vs H1 s1 z => ?_) fun _ _ z => z⟩
  have hl := evs_length e
  match ds, hl, z with
  | [d], _, .cons z1 .nil =>
    cases d with
    | list xs => obtain ⟨a, vs, rfl, h1, _, h2⟩ := okL_list z1; exact ⟨a, vs, rfl, h1, q _ H1 s1 (ItD.enum h2)⟩
    | _ => exact q.elim
theorem dc_enum (h : DAB X C O [e] [f]) {iter : Expr} (hh : ∀ ta, PA X [e] ta → PI X tg iter (iEnum X.K ta)) : DC X C O tg iter (it1 enumL f) := pi_imp (hh _ h) fun σ H Q ⟨B, δ, ad, r, k⟩ => by
  refine ⟨B, δ, ad, r, k.bind.imp (fun ds e q vs H1 s1 z => ?_) fun _ _ z => z⟩
  have hl := evs_length e
  match ds, hl, z with
  | [d], _, .cons z1 .nil =>
    cases d with
    | list xs => obtain ⟨a, vs, rfl, h1, _, h2⟩ := okC_list z1; exact ⟨a, vs, rfl, h1, q _ H1 s1 (ItD.enum h2)⟩
    | _ => exact q.elim
theorem di_rev (h : DA X C O [e] [f]) {iter : Expr} (hh : ∀ ta, PA X [e] ta → PI X tg iter (iRev X.K ta)) : DI X C O tg iter (it1 List.reverse f) := pi_imp (hh _ h) fun σ H Q ⟨B, δ, ad, r, k⟩ => by
  refine ⟨B, δ, ad, r, k.bind.imp (fun ds e q vs H1 s1 z => ?_) fun _ _ z => z⟩
  have hl := evs_length e
  match ds, hl, z with
  | [d], _, .cons z1 .nil =>
    cases d with
    | list xs => obtain ⟨a, vs, rfl, h1, _, h2⟩ := okL_list z1; exact ⟨a, vs, rfl, h1, q _ H1 s1 (ItD.rev h2)⟩
    | _ => exact q.elim
theorem dc_rev (h : DAB X C O [e] [f]) {iter : Expr} (hh : ∀ ta, PA X [e] ta → PI X tg iter (iRev X.K ta)) : DC X C O tg iter (it1 List.reverse f) := pi_imp (hh _ h) fun σ H Q ⟨B, δ, ad, r, k⟩ => by
  refine ⟨B, δ, ad, r, k.bind.imp (fun ds e q vs H1 s1 z => ?_) fun _ _ z => z⟩
  have hl := evs_length e
  match ds, hl, z with
  | [d], _, .cons z1 .nil =>
    cases d with
    | list xs => obtain ⟨a, vs, rfl, h1, _, h2⟩ := okC_list z1; exact ⟨a, vs, rfl, h1, q _ H1 s1 (ItD.rev h2)⟩
    | _ => exact q.elim
end

/-! ### for -/
def forD (b : FB) (body : FS) : List PyData → FS
  | [], δ => .nx δ
  | d :: ds, δ => match b d δ with
    | none => .bad
    | some δ1 => match body δ1 with
      | .nx δ2 => forD b body ds δ2
      | .ct δ2 => forD b body ds δ2
      | .bk δ2 => .nx δ2
      | r => r
def forS (fi : FI) (b : FB) (body : FS) : FS := fun δ => match fi δ with
  | .ok ds => forD b body ds δ
  | .err c x => .err c x δ
  | .bad => .bad
def wLoop (C : Cc) (O : List Nat) : Cc := { C with Ol := O }
section
variable {X : Cx} {C : Cc} {O is : List Nat} {tg iter : Expr} {fi : FI} {b : FB} {g : FS} {body : List Stmt}
theorem ds_for {pos : Pos} (hp : PassesOwn (model X.prog X.w) X.A X.env X.xe) (hc : X.calm = true) (hi : DI X C O tg iter fi) (hg : DG X C O tg is b) (hb : DSs X (wLoop C O) O O body g) (hOe : ∀ i ∈ C.Oe, i ∈ O := by exact fun _ h => nomatch h)
    (hs : ∀ x, foldedSetIterable iter X.env x = pure x := by intro _; rfl) : DS X C O O (.For tg iter body [] pos) (forS fi b g) := ps_imp (ps_for hp hc hi hg hb hs) fun D σ H ⟨B, δ, ad, r, k⟩ => by
  refine ⟨B, δ, ad, r, ?_⟩
  unfold forS at k
  cases e : fi δ with
  | err c x => rw [e] at k; exact fun cls dd H' s z => k cls dd ad σ H' ((Stp.same s).trans (Stp.frz hOe)) ((r.same s).freeze hOe) z
  | bad => rw [e] at k; exact k
  | ok ds =>
    rw [e] at k
    intro J H1 s1 it
    refine ⟨fun i m σ' H' => m = ds.length - i ∧ i ≤ ds.length ∧ ∃ δ' ad', Rl X.K C.n B O ad' δ' σ' H' ∧ Stp B O ad O ad' H1 H' ∧ Sk X.K C B O ad' O H' D (forD b g (ds.drop i) δ'), ⟨_, rfl, Nat.zero_le _, δ, ad, r.same s1, Stp.refl, k.from (Stp.same s1)⟩, ?_⟩
    rintro i m σ' H' ⟨rfl, hi, δ', ad', r', st, k'⟩
    obtain ⟨go, stop, yl⟩ := it H' (avO B O ad') ⟨st.kp, st.sub⟩
    by_cases hlt : i < ds.length
    · refine .inr ⟨go i hlt, fun σ2 H2 => ∃ δ2 ad2, Rl X.K C.n B O ad2 δ2 σ2 H2 ∧ Stp B O ad O ad2 H1 H2 ∧ Sk X.K C B O ad2 O H2 D (forD b g (ds.drop (i + 1)) δ2), fun σ2 H2 ⟨δ2, ad2, h1, h2, h3⟩ => ⟨_, by omega, rfl, hlt, δ2, ad2, h1, h2, h3⟩, fun x H'' y => ?_⟩
      obtain ⟨s2, d, ed, rd⟩ := yl i x H'' hlt y
      have ed' : ds[i] = d := by rw [List.getElem?_eq_getElem hlt] at ed; exact Option.some.inj ed
      rw [List.drop_eq_getElem_cons hlt, ed'] at k'
      unfold forD at k'
      cases eb : b d δ' with
      | none => simp only [eb] at k'; exact k'.elim
      | some δ1 =>
        simp only [eb] at k'
        refine ⟨B, δ', ad', d, δ1, r'.same s2, rd, eb, fun σ1 r1 _ => ⟨B, δ1, ad', r1, ?_⟩⟩
        have st2 : Stp B O ad O ad' H1 H'' := st.trans (Stp.same s2)
        cases eg : g δ1 with
        | nx δ2 => simp only [eg] at k'; exact fun ad2 σ2 H2 s3 r2 => ⟨δ2, ad2, r2, st2.trans s3, k'.from ((Stp.same s2).trans s3)⟩
        | ct δ2 => simp only [eg] at k'; exact fun ad2 σ2 H2 s3 r2 => ⟨δ2, ad2, r2, st2.trans s3, k'.from ((Stp.same s2).trans s3)⟩
        | bk δ2 => simp only [eg] at k'; exact fun ad2 σ2 H2 s3 r2 => k' ad2 σ2 H2 ((Stp.same s2).trans s3) r2
        | rt d => simp only [eg] at k'; exact k'
        | err c x δ2 => simp only [eg] at k'; exact fun cls dd ad2 σ2 H2 s3 r2 z => k' cls dd ad2 σ2 H2 ((Stp.same s2).trans s3) r2 z
        | bad => simp only [eg] at k'; exact k'
    · have e2 : i = ds.length := by omega
      subst e2
      refine .inl ⟨stop, ?_⟩
      rw [List.drop_length] at k'
      exact k' ad' σ' H' Stp.refl r'
end

/-! ### while -/
def whD (c : FT) (body : FS) : Nat → FS
  | 0, _ => .bad
  | n + 1, δ => match c δ with
    | .ok true => (match body δ with
      | .nx δ2 => whD c body n δ2
      | .ct δ2 => whD c body n δ2
      | .bk δ2 => .nx δ2
      | r => r)
    | .ok false => .nx δ
    | .err c x => .err c x δ
    | .bad => .bad
section
variable {X : Cx} {C : Cc} {O : List Nat} {c : Expr} {fc : FT} {g : FS} {body : List Stmt}
theorem ds_while {pos : Pos} (n : Nat) (hp : PassesOwn (model X.prog X.w) X.A X.env X.xe) (hc : DT X C O c fc) (hb : DSs X (wLoop C O) O O body g) (hOe : ∀ i ∈ C.Oe, i ∈ O := by exact fun _ h => nomatch h) : DS X C O O (.While c body [] pos) (whD fc g n) := ps_imp (ps_while hp hc hb) fun D σ H ⟨B, δ, ad, r, k⟩ => by
  refine ⟨fun m σ' H' => ∃ δ' ad', Rl X.K C.n B O ad' δ' σ' H' ∧ Sk X.K C B O ad' O H' D (whD fc g m δ'), ⟨n, δ, ad, r, k⟩, ?_⟩
  rintro m σ' H' ⟨δ', ad', r', k'⟩
  cases m with
  | zero => exact k'.elim
  | succ m =>
    unfold whD at k'
    refine ⟨B, δ', ad', r', ?_⟩
    cases e : fc δ' with
    | err c x => rw [e] at k'; exact fun cls dd H2 s z => k' cls dd ad' σ' H2 ((Stp.same s).trans (Stp.frz hOe)) ((r'.same s).freeze hOe) z
    | bad => rw [e] at k'; exact k'
    | ok t =>
      rw [e] at k'
      intro H1 s1
      cases t with
      | false => rw [if_neg Bool.false_ne_true]; exact k' ad' σ' H1 (Stp.same s1) (r'.same s1)
      | true =>
        rw [if_pos rfl]
        refine ⟨fun σ2 H2 => ∃ δ2 ad2, Rl X.K C.n B O ad2 δ2 σ2 H2 ∧ Sk X.K C B O ad2 O H2 D (whD fc g m δ2), fun σ2 H2 h => ⟨m, Nat.lt_succ_self m, h⟩, B, δ', ad', r'.same s1, ?_⟩
        simp only at k'
        cases eg : g δ' with
        | nx δ2 => simp only [eg] at k'; exact fun ad2 σ2 H2 s3 r2 => ⟨δ2, ad2, r2, k'.from ((Stp.same s1).trans s3)⟩
        | ct δ2 => simp only [eg] at k'; exact fun ad2 σ2 H2 s3 r2 => ⟨δ2, ad2, r2, k'.from ((Stp.same s1).trans s3)⟩
        | bk δ2 => simp only [eg] at k'; exact fun ad2 σ2 H2 s3 r2 => k' ad2 σ2 H2 ((Stp.same s1).trans s3) r2
        | rt d => simp only [eg] at k'; exact k'
        | err c x δ2 => simp only [eg] at k'; exact fun cls dd ad2 σ2 H2 s3 r2 z => k' cls dd ad2 σ2 H2 ((Stp.same s1).trans s3) r2 z
        | bad => simp only [eg] at k'; exact k'
end
end Dl

namespace Dl
open PySem PySem.Spec L2

/-! ### comprehensions -/
def wipeE (δ : Ev) : List Nat → Ev
  | [] => δ
  | v :: vs => (wipeE δ vs).set v none
def lcD (b : FB) (t : FT) (f : FE) (δ : Ev) : List PyData → R (List PyData)
  | [] => .ok []
  | d :: ds => match b d δ with
    | none => .bad
    | some δ1 => match t δ1 with
      | .ok true => (match f δ1 with
        | .ok x => (match lcD b t f δ ds with
          | .ok xs => .ok (x :: xs)
          | _ => .bad)
        | _ => .bad)
      | .ok false => lcD b t f δ ds
      | _ => .bad
def lcF (vs : List Nat) (fi : FI) (b : FB) (t : FT) (f : FE) : FE := fun δ => (fi δ).bind fun ds => if ds.length ≤ 1000000 then (lcD b t f (wipeE δ vs) ds).bind fun xs => .ok (.list xs) else .bad
def yesT : FT := fun _ => .ok true
def noW (C : Cc) : Cc := { C with W := fun _ _ _ _ => False }
def addB (B : Bs) (D : Addr) : Bs := ⟨B.H0, fun a => B.av0 a ∨ a = D⟩
section
variable {K : PySem.W.Frag} {n : Nat} {B : Bs} {O : List Nat} {ad : Nat → Addr} {δ : Ev} {σ : L2.St} {H H' : Hp}
theorem Rl.unset {i : Nat} (r : Rl K n B O ad δ σ H) (hi : i ∉ O) : Rl K n B O ad (δ.set i none) (σ.set i none) H where
  len := by rw [List.length_set, List.length_set]; exact r.len
  lenN := by rw [List.length_set]; exact r.lenN
  inj := r.inj
  new := r.new
  fro := fun j e hj q => by
    by_cases hij : i = j
    · subst hij
      by_cases hl : i < δ.length
      · rw [List.getElem?_set_self hl] at q; cases q
      · rw [List.getElem?_eq_none (by simpa using hl)] at q; cases q
    · rw [List.getElem?_set_ne hij] at q ⊢
      exact r.fro j e hj q
  own := fun j hj => by
    have hij : i ≠ j := fun z => hi (z ▸ hj)
    obtain ⟨d', h1, h2, o⟩ := r.own j hj
    exact ⟨d', by rw [List.getElem?_set_ne hij]; exact h1, by rw [List.getElem?_set_ne hij]; exact h2, o⟩
  keep := r.keep
  dom := r.dom
theorem Rl.wipe (r : Rl K n B O ad δ σ H) : ∀ {vs : List Nat}, (∀ i ∈ vs, i ∉ O) → Rl K n B O ad (wipeE δ vs) (wipe σ vs) H
  | [], _ => r
  | v :: vs, h => (Rl.wipe r fun i hi => h i (List.mem_cons_of_mem _ hi)).unset (h v List.mem_cons_self)
theorem wipe_get {σ : L2.St} {j : Nat} : ∀ {vs : List Nat}, (wipe σ vs)[j]? = if j ∈ vs then σ[j]?.map (fun _ => none) else σ[j]?
  | [] => by simp [wipe]
  | v :: vs => by
    show ((wipe σ vs).set v none)[j]? = _
    rw [List.getElem?_set, wipe_length]
    by_cases h : v = j
    · subst h
      rw [if_pos rfl, if_pos List.mem_cons_self]
      by_cases hl : v < σ.length
      · rw [if_pos hl, List.getElem?_eq_getElem hl]; rfl
      · rw [if_neg hl, List.getElem?_eq_none (by simpa using hl)]; rfl
    · rw [if_neg h, wipe_get]
      have e : (j ∈ v :: vs) ↔ j ∈ vs := by simp [Ne.symm h]
      by_cases hj : j ∈ vs
      · rw [if_pos hj, if_pos (e.mpr hj)]
      · rw [if_neg hj, if_neg (fun z => hj (e.mp z))]
theorem wipe_eq {is vs : List Nat} {σ σ' : L2.St} (h : EqBut is (wipe σ vs) σ') (hs : ∀ i ∈ is, i ∈ vs) : wipe σ' vs = wipe σ vs := by
  have hl : σ'.length = σ.length := by rw [h.1, wipe_length]
  refine List.ext_getElem? fun j => ?_
  rw [wipe_get, wipe_get]
  by_cases hj : j ∈ vs
  · rw [if_pos hj, if_pos hj]
    by_cases hb : j < σ.length
    · rw [List.getElem?_eq_getElem hb, List.getElem?_eq_getElem (by rw [hl]; exact hb)]; rfl
    · rw [List.getElem?_eq_none (l := σ') (by rw [hl]; simpa using hb), List.getElem?_eq_none (l := σ) (by simpa using hb)]
  · rw [if_neg hj, if_neg hj, h.2 j fun z => hj (hs j z), wipe_get, if_neg hj]
theorem avO_add {D : Addr} : ∀ a, avO (addB B D) O ad a ↔ avO B O ad a ∨ a = D := fun a =>
  ⟨fun h => h.elim (fun h => h.elim (fun h => .inl (.inl h)) .inr) fun h => .inl (.inr h), fun h => h.elim (fun h => h.elim (fun h => .inl (.inl h)) .inr) fun h => .inl (.inr h)⟩
/-- the address D is avoided, too -/
theorem Rl.addAv {D : Addr} (r : Rl K n B O ad δ σ H) (hD : H D = none) (s : Same H H') (hD' : H' D ≠ none) : Rl K n (addB B D) O ad δ σ H' where
  len := r.len
  lenN := r.lenN
  inj := r.inj
  new := r.new
  fro := fun i d hi e => let ⟨v, h1, h2⟩ := r.fro i d hi e; ⟨v, h1, (Rp.fresh hD s h2).weak fun a z => (avO_add a).mp z⟩
  own := fun i hi => by
    obtain ⟨d, h1, h2, o⟩ := r.own i hi
    obtain ⟨u, e, _⟩ := o.some
    exact ⟨d, h1, h2, o.mono (Kp.of_same s) (fun a e n z => ((avO_add a).mp z).elim n fun (q : a = D) => e (q ▸ hD)) ((s _ _ e).trans e.symm)⟩
  keep := r.keep.trans s
  dom := fun a h => by
    rcases h with h | rfl
    · exact ⟨fun z => (r.dom a h).1 (s.free z), (r.dom a h).2⟩
    · refine ⟨hD', fun i hi z => ?_⟩
      obtain ⟨d, _, _, o⟩ := r.own i hi
      obtain ⟨u, e, _⟩ := o.some
      rw [← z, hD] at e; cases e
end
section
variable {X : Cx} {C : Cc} {O is vs : List Nat} {fi : FI} {b : FB} {t : FT} {f : FE} {e : Expr} {st : Stmt}
theorem tlc (hv : ∀ i ∈ vs, i ∉ O) (hi : ∀ i ∈ is, i ∈ vs) {K : PySem.W.Frag} {σ : L2.St} {H : Hp} {Q : VK} (h : tX K C O (relF K) (lcF vs fi b t f) σ H Q) :
    tLc (tI okC K C O fi) (tG K (noW C) O is b) (tT K (noW C) O t) (tX K (noW C) O (relE K) f) vs σ H Q := by
  obtain ⟨B, δ, ad, r, k⟩ := h
  refine ⟨B, δ, ad, r, k.bind.imp (fun ds _ q J H1 s1 it D hD => ?_) fun _ _ z => z⟩
  by_cases hn : ds.length ≤ 1000000
  · rw [if_pos hn] at q
    cases el : lcD b t f (wipeE δ vs) ds with
    | err c x => rw [el] at q; exact absurd el (by
        have : ∀ l c x, lcD b t f (wipeE δ vs) l ≠ .err c x := by
          intro l
          induction l with
          | nil => intro c x h; cases h
          | cons d l ih =>
            intro c x h
            unfold lcD at h
            split at h
            · cases h
            · split at h
              · split at h
                · split at h <;> cases h
                · cases h
              · exact ih _ _ h
              · cases h
        exact this _ _ _)
    | bad => rw [el] at q; exact q.elim
    | ok tot =>
      rw [el] at q
      have q' : ∀ v H', Same H H' → relF K H H' (avO B O ad) v (.list tot) → Q v H' := q
      have sD := same_new hD (.lst [])
      refine ⟨fun i m Hh => m = ds.length - i ∧ i ≤ ds.length ∧ ∃ accV accD rest, Hh D = some (.lst accV) ∧ Same H1 Hh ∧ RpAll K Hh (avO (addB B D) O ad) accV accD ∧ lcD b t f (wipeE δ vs) (ds.drop i) = .ok rest ∧ accD ++ rest = tot ∧ accD.length ≤ i,
        ⟨_, rfl, Nat.zero_le _, [], [], tot, upd_same, sD, .nil, el, rfl, Nat.le_refl _⟩, ?_⟩
      rintro i m Hh ⟨rfl, hil, accV, accD, rest, eD, sh, ra, er, et, hlen⟩
      obtain ⟨go, stop, yl⟩ := it Hh (avO (addB B D) O ad) ⟨sh, fun a z => ((avO_add a).mp z).elim .inl fun (e : a = D) => .inr (by rw [e]; exact hD)⟩
      by_cases hlt : i < ds.length
      · refine .inr ⟨go i hlt, fun H2 => ∃ accV accD rest, H2 D = some (.lst accV) ∧ Same H1 H2 ∧ RpAll K H2 (avO (addB B D) O ad) accV accD ∧ lcD b t f (wipeE δ vs) (ds.drop (i + 1)) = .ok rest ∧ accD ++ rest = tot ∧ accD.length ≤ i + 1,
          fun H2 h2 => ⟨_, by omega, rfl, hlt, h2⟩, fun x H' y => ?_⟩
        obtain ⟨s2, d, ed, rd⟩ := yl i x H' hlt y
        have ed' : ds[i] = d := by rw [List.getElem?_eq_getElem hlt] at ed; exact Option.some.inj ed
        rw [List.drop_eq_getElem_cons hlt, ed'] at er
        unfold lcD at er
        have eD' : H' D = some (.lst accV) := s2 _ _ eD
        have rw' : Rl K C.n (addB B D) O ad (wipeE δ vs) (wipe σ vs) H' := ((r.same s1).wipe hv).addAv hD (sh.trans s2) (by rw [eD']; simp)
        cases eb : b d (wipeE δ vs) with
        | none => rw [eb] at er; cases er
        | some δ1 =>
          simp only [eb] at er
          refine ⟨addB B D, wipeE δ vs, ad, d, δ1, rw', rd, eb, fun σ1 r1 eq => ⟨wipe_eq eq hi, addB B D, δ1, ad, r1, ?_⟩⟩
          cases etst : t δ1 with
          | err c x => simp only [etst] at er; cases er
          | bad => simp only [etst] at er; cases er
          | ok tb =>
            simp only [etst] at er
            intro H3 s3
            cases tb with
            | false =>
              simp only at er
              rw [if_neg Bool.false_ne_true]
              exact ⟨accV, accD, rest, s3 _ _ eD', sh.trans (s2.trans s3), ra.same (s2.trans s3), er, et, by omega⟩
            | true =>
              simp only at er
              rw [if_pos rfl]
              refine ⟨addB B D, δ1, ad, r1.same s3, ?_⟩
              cases ef : f δ1 with
              | err c x => simp only [ef] at er; cases er
              | bad => simp only [ef] at er; cases er
              | ok z =>
                simp only [ef] at er
                intro v H4 s4 rz
                have eD4 : H4 D = some (.lst accV) := s4 _ _ (s3 _ _ eD')
                have hav : avO (addB B D) O ad D := (avO_add D).mpr (.inr rfl)
                have kp : Kp (avO (addB B D) O ad) H4 (upd H4 D (.lst (accV ++ [v]))) := fun b u e n => by
                  refine (upd_ne fun z => ?_).trans e
                  subst z
                  rcases n with n | ⟨xs, n⟩
                  · exact n hav
                  · rcases n with n | ⟨_, n⟩ <;> (rw [eD4] at n; cases n)
                cases er2 : lcD b t f (wipeE δ vs) (ds.drop (i + 1)) with
                | err c x => rw [er2] at er; cases er
                | bad => rw [er2] at er; cases er
                | ok rest' =>
                  rw [er2] at er
                  cases er
                  have hlV : accV.length = accD.length := ra.length
                  refine ⟨accV, eD4, ?_, accV ++ [v], accD ++ [z], rest', upd_same, ?_, ?_, rfl, by rw [← et]; simp, by simp; omega⟩
                  · have : sizeLine = 16777216 := sizeLine_eq
                    omega
                  · intro b u e
                    refine (upd_ne fun z => ?_).trans (s4 _ _ (s3 _ _ (s2 _ _ (sh b u e))))
                    subst z
                    rw [hD] at e; cases e
                  · exact ((ra.same (s2.trans (s3.trans s4))).append (.cons rz .nil)).mono kp fun _ _ n => n
      · have e2 : i = ds.length := by omega
        subst e2
        refine .inl ⟨stop, ?_⟩
        rw [List.drop_length] at er
        cases er
        rw [List.append_nil] at et
        subst et
        refine q' _ Hh (s1.trans sh) ⟨D, rfl, s1.free hD, accV, eD, ra.mono (Kp.of_same (Same.refl Hh)) fun a _ n z => n ((avO_add a).mpr z)⟩
  · rw [if_neg hn] at q; exact q.elim
theorem df_lc (h : PE X e (tLc (tI okC X.K C O fi) (tG X.K (noW C) O is b) (tT X.K (noW C) O t) (tX X.K (noW C) O (relE X.K) f) vs)) (hv : ∀ i ∈ vs, i ∉ O := by decide) (hi : ∀ i ∈ is, i ∈ vs := by decide) : DF X C O e (lcF vs fi b t f) := pe_imp h fun _ _ _ => tlc hv hi
theorem lc_asg {i : Nat} (h : PS X st (tAsg (tLc (tI okC X.K C O fi) (tG X.K (noW C) O is b) (tT X.K (noW C) O t) (tX X.K (noW C) O (relE X.K) f) vs) (gName i))) (hv : ∀ i ∈ vs, i ∉ O := by decide) (hi : ∀ i ∈ is, i ∈ vs := by decide) : PS X st (tAsg (tX X.K C O (relF X.K) (lcF vs fi b t f)) (gName i)) := ps_imp h fun D σ H q => tlc hv hi q
theorem asg_f2e {i : Nat} (h : PS X st (tAsg (tX X.K C O (relF X.K) f) (gName i))) : PS X st (tAsg (tX X.K C O (relE X.K) f) (gName i)) := ps_imp h fun D σ H q => tX.rel (fun B ad δ H' v d r s z => by
  obtain ⟨a, rfl, n, o⟩ := z
  exact o.rp (fun b q => .inl q) (r.notAv n)) q
theorem dts_nil : PTs X [] (tT X.K C O yesT) := ⟨fun pins s σ H Q I h => pts_nil.run pins s σ H Q I (by
  obtain ⟨B, δ, ad, r, k⟩ := h
  exact k H (Same.refl H))⟩
theorem dts_one {c : Expr} {t : FT} (h : DT X C O c t) : PTs X [c] (tT X.K C O t) := pts_one h
end

/-! ### owned lists change -/
section
variable {X : Cx} {C : Cc} {O : List Nat} {st : Stmt} {f : FE} {i : Nat}
def slotL (i : Nat) (δ : Ev) : Option (List PyData) := match δ[i]? with
  | some (some (.list ds)) => some ds
  | _ => none
theorem slotL_own {K : PySem.W.Frag} {n : Nat} {B : Bs} {ad : Nat → Addr} {δ : Ev} {σ : L2.St} {H : Hp} {ds : List PyData} (r : Rl K n B O ad δ σ H) (hi : i ∈ O) (e : slotL i δ = some ds) : σ[i]? = some (some (.ref (ad i))) ∧ ∃ vs, H (ad i) = some (.lst vs) ∧ RpAll K H (avO B O ad) vs ds := by
  obtain ⟨d, h1, h2, o⟩ := r.own i hi
  unfold slotL at e
  rw [h1] at e
  cases d with
  | list xs => cases e; exact ⟨h2, o⟩
  | _ => cases e
/-- the owned list becomes another one -/
theorem Rl.relist {K : PySem.W.Frag} {n : Nat} {B : Bs} {ad : Nat → Addr} {δ : Ev} {σ : L2.St} {H : Hp} {vs : List V} {ds : List PyData} (r : Rl K n B O ad δ σ H) (hi : i ∈ O) (ra : RpAll K H (avO B O ad) vs ds) :
    Rl K n B O ad (δ.set i (some (.list ds))) σ (upd H (ad i) (.lst vs)) ∧ Stp B O ad O ad H (upd H (ad i) (.lst vs)) := by
  refine r.mut hi trivial ⟨vs, upd_same, ra.mono (fun b u e n => ?_) fun _ _ n => n⟩
  obtain ⟨d, _, _, o⟩ := r.own i hi
  refine (upd_ne fun z => ?_).trans e
  subst z
  rcases n with n | ⟨xs, n⟩
  · exact n (.inr ⟨i, hi, rfl⟩)
  · exact o.notTup n
def appS (i : Nat) (f : FE) : FS := fun δ => match slotL i δ with
  | some ds => exS f (fun d => if ds.length < sizeLine then .nx (δ.set i (some (.list (ds ++ [d])))) else .bad) δ
  | none => .bad
/-- xs.append(e) -/
theorem ds_app (h : PS X st (tDrop (tBM X.K "list" rAppend (tVar i) (tCons (tX X.K C O (relE X.K) f) tNil)))) (hi : i ∈ O := by decide) (hOe : ∀ i ∈ C.Oe, i ∈ O := by exact fun _ h => nomatch h) : DS X C O O st (appS i f) := ps_imp h fun D σ H ⟨B, δ, ad, r, k⟩ => by
  unfold appS at k
  cases e : slotL i δ with
  | none => rw [e] at k; exact k.elim
  | some ds =>
    rw [e] at k
    obtain ⟨h1, vs, h2, h3⟩ := slotL_own r hi e
    refine ⟨_, h1, .inl ⟨rfl, vs, .inl (.inl h2)⟩, B, δ, ad, r, ?_⟩
    unfold exS at k
    cases ef : f δ with
    | err c x => simp only [ef] at k; exact fun cls dd H' s z => k cls dd ad σ H' ((Stp.same s).trans (Stp.frz hOe)) ((r.same s).freeze hOe) z
    | bad => simp only [ef] at k; exact k.elim
    | ok d =>
      simp only [ef] at k
      intro v H' s z
      by_cases hl : ds.length < sizeLine
      · rw [if_pos hl] at k
        have rs := r.same s
        have ra : RpAll X.K H' (avO B O ad) (vs ++ [v]) (ds ++ [d]) := (h3.same s).append (.cons z .nil)
        obtain ⟨g1, g2⟩ := rs.relist hi ra
        exact ⟨ad i, vs, v, rfl, rfl, s _ _ h2, by rw [h3.length]; exact hl, k ad σ _ ((Stp.same s).trans g2) g1⟩
      · rw [if_neg hl] at k; exact k.elim
def extS (i : Nat) (f : FE) : FS := fun δ => match slotL i δ with
  | some ds => exS f (fun d => match d with
    | .list es => if ds.length + es.length ≤ sizeLine then .nx (δ.set i (some (.list (ds ++ es)))) else .bad
    | _ => .bad) δ
  | none => .bad
/-- a pop: the last one goes to slot j by a target -/
def popS (i : Nat) (b : FB) : FS := fun δ => match slotL i δ with
  | some ds => (match ds.getLast? with
    | some d => (match b d (δ.set i (some (.list ds.dropLast))) with
      | some δ' => .nx δ'
      | none => .bad)
    | none => .bad)
  | none => .bad
/-- target = xs.pop() -/
theorem ds_pop {tg : Expr} {is : List Nat} {b : FB} {g : TG} (h : PS X st (tAsg (tBM0 X.K "list" rPop (tVar i)) g)) (hg : ∀ v σ H Q, tG X.K C O is b v σ H Q → g v σ H Q) (hi : i ∈ O := by decide) : DS X C O O st (popS i b) := ps_imp h fun D σ H ⟨B, δ, ad, r, k⟩ => by
  unfold popS at k
  cases e : slotL i δ with
  | none => rw [e] at k; exact k.elim
  | some ds =>
    rw [e] at k
    obtain ⟨h1, vs, h2, h3⟩ := slotL_own r hi e
    cases el : ds.getLast? with
    | none => simp only [el] at k; exact k.elim
    | some d =>
      simp only [el] at k
      have hx : ds[ds.length - 1]? = some d := by rw [← List.getLast?_eq_getElem?]; exact el
      obtain ⟨v, hv, rv⟩ := h3.get' hx
      refine ⟨_, h1, .inl ⟨rfl, vs, .inl (.inl h2)⟩, ad i, vs, v, rfl, rfl, h2, by rw [h3.length]; exact hv, ?_⟩
      obtain ⟨g1, g2⟩ := r.relist hi h3.dropLast
      refine hg _ _ _ _ ?_
      cases eb : b d (δ.set i (some (.list ds.dropLast))) with
      | none => simp only [eb] at k; exact k.elim
      | some δ' =>
        simp only [eb] at k
        exact ⟨B, _, ad, d, δ', g1, rv.mono g2.kp fun _ _ n => n, eb, fun σ' r' _ => k ad σ' _ g2 r'⟩
/-- xs[k] = e -/
def putS (i : Nat) (fk f : FE) : FS := fun δ => exS f (fun d => match slotL i δ with
  | some ds => exS fk (fun kd => match kd with
    | .int z => (match ixN ds.length z with
      | some j => .nx (δ.set i (some (.list (ds.set j d))))
      | none => .bad)
    | _ => .bad) δ
  | none => .bad) δ
theorem ds_put {fk : FE} (h : PS X st (tAsg (tX X.K C O (relE X.K) f) (gSub (tVar i) (tX X.K C O (relE X.K) fk) rSetL))) (hi : i ∈ O := by decide) (hOe : ∀ i ∈ C.Oe, i ∈ O := by exact fun _ h => nomatch h) : DS X C O O st (putS i fk f) := ps_imp h fun D σ H ⟨B, δ, ad, r, k⟩ => by
  unfold putS exS at k
  refine ⟨B, δ, ad, r, ?_⟩
  cases ef : f δ with
  | err c x => simp only [ef] at k; exact fun cls dd H' s z => k cls dd ad σ H' ((Stp.same s).trans (Stp.frz hOe)) ((r.same s).freeze hOe) z
  | bad => simp only [ef] at k; exact k.elim
  | ok d =>
    simp only [ef] at k
    intro v H' s z
    cases e : slotL i δ with
    | none => simp only [e] at k; exact k.elim
    | some ds =>
      simp only [e] at k
      obtain ⟨h1, vs, h2, h3⟩ := slotL_own r hi e
      refine ⟨_, h1, B, δ, ad, r.same s, ?_⟩
      cases ek : fk δ with
      | err c x => simp only [ek] at k; exact fun cls dd H2 s2 z => k cls dd ad σ H2 ((Stp.same (s.trans s2)).trans (Stp.frz hOe)) ((r.same (s.trans s2)).freeze hOe) z
      | bad => simp only [ek] at k; exact k.elim
      | ok kd =>
        simp only [ek] at k
        intro u H2 s2 zk
        cases kd with
        | int q =>
          simp only at k
          cases ei : ixN ds.length q with
          | none => simp only [ei] at k; exact k.elim
          | some j =>
            simp only [ei] at k
            have ss := s.trans s2
            have ra : RpAll X.K H2 (avO B O ad) (vs.set j v) (ds.set j d) := (h3.same ss).set (Rp.same s2 z) j
            obtain ⟨g1, g2⟩ := (r.same ss).relist hi ra
            exact ⟨ad i, vs, q, j, rfl, (Rp.bw zk).int, ss _ _ h2, by rw [h3.length]; exact ei, k ad σ _ ((Stp.same ss).trans g2) g1⟩
        | _ => exact k.elim
end

/-! ### defs -/
def RetF (ow : Bool) (K : PySem.W.Frag) : Rel3 := fun H H' av v d => if ow = true then relF K H H' av v d else Rp K H' av v d
def spD (K : PySem.W.Frag) (ow : Bool) (ar : Nat) (F : List PyData → R PyData) : Sp := fun vs H Q E => ∃ ds av, RpAll K H av vs ds ∧ ds.length = ar ∧ (∀ a, av a → H a ≠ none) ∧
  Rk (F ds) (fun d => ∀ v H', Same H H' → RetF ow K H H' av v d → Q v H') (fun c x => ∀ cls dd H', Same H H' → Er K c x cls dd H' → E cls dd H')
def runF (n : Nat) (g : FS) (ds : List PyData) : R PyData := match g (ds.map some ++ List.replicate (n - ds.length) none) with
  | .rt d => .ok d
  | .err c x _ => .err c x
  | _ => .bad
def runN (n : Nat) (g : FS) (ds : List PyData) : R PyData := match g (ds.map some ++ List.replicate (n - ds.length) none) with
  | .rt d => .ok d
  | .nx _ => .ok .none
  | .err c x _ => .err c x
  | _ => .bad
def cxC (n : Nat) (ow : Bool) (E : XK) : Cc := ⟨n, ow, [], [], fun cls dd _ H => E cls dd H⟩
theorem rl_start {K : PySem.W.Frag} {N : List Str} {H : Hp} {av : Addr → Prop} {vs : List V} {ds : List PyData} (r : RpAll K H av vs ds) (hl : ds.length ≤ N.length) (hav : ∀ a, av a → H a ≠ none) :
    Rl K N.length ⟨H, av⟩ [] (fun _ => 0) (ds.map some ++ List.replicate (N.length - ds.length) none) (L2.start N vs) H where
  len := by unfold L2.start; rw [List.length_append, List.length_map, List.length_replicate, List.length_append, List.length_map, List.length_replicate, r.length]
  lenN := by rw [List.length_append, List.length_map, List.length_replicate]; omega
  inj := fun i hi => by cases hi
  new := fun i hi => by cases hi
  fro := fun i d _ e => by
    have hi : i < ds.length := by
      by_cases hi : i < ds.length
      · exact hi
      · rw [List.getElem?_append_right (by simpa using hi), List.getElem?_replicate] at e
        split at e <;> cases e
    rw [List.getElem?_append_left (by simpa using hi), List.getElem?_map] at e
    cases q : ds[i]? with
    | none => rw [q] at e; cases e
    | some d' =>
      rw [q] at e
      cases e
      obtain ⟨v, h1, h2⟩ := r.get' q
      refine ⟨v, ?_, h2.weak fun a h => h.elim id fun ⟨j, hj, _⟩ => by cases hj⟩
      unfold L2.start
      rw [List.getElem?_append_left (by simpa using r.length.symm ▸ hi), List.getElem?_map, h1]; rfl
  own := fun i hi => by cases hi
  keep := Same.refl H
  dom := fun a h => ⟨hav a h, fun i hi => by cases hi⟩
/-- room for n calls, one in another -/
structure Rm (n : Nat) (A : Around) : Prop where
  hd : A.handled = none
  dp : A.depth + n + 20 < recursionLimit
  un : A.units + 4 * n + 1200 < cLine
theorem Rm.deeper {n : Nat} {A : Around} (r : Rm (n + 1) A) (env : Env) : Rm n (A.deeper env) :=
  ⟨r.hd, by have h := r.dp; show A.depth + 1 + n + 20 < _; omega, by have h := r.un; show A.units + 3 + 4 * n + 1200 < _; omega⟩
theorem Rm.units {n : Nat} {A : Around} (r : Rm n A) : A.units + 64 < cLine := by have h := r.un; omega
theorem Rm.u65 {n : Nat} {A : Around} (r : Rm n A) : A.units + 65 < cLine := by have h := r.un; omega
theorem Rm.u1000 {n : Nat} {A : Around} (r : Rm n A) : A.units + 1000 < cLine := by have h := r.un; omega
theorem Rm.u200 {n : Nat} {A : Around} (r : Rm n A) : A.units + 200 < cLine := by have h := r.un; omega
theorem Rm.room {n : Nat} {A : Around} (r : Rm n A) : Room 4 A := ⟨r.hd, by have h := r.dp; omega, by have h := r.un; omega⟩
/-- a def keeps its promise with n calls, one in another -/
structure FnR (P : Program) (w : World) (K : PySem.W.Frag) (mg : Str → Option Value) (base : Heap) (n : Nat) (f : Addr) (fd : FuncData) (ps : List Str) (sp : Sp) : Prop where
  len : ∀ vs H Q E, sp vs H Q E → vs.length = ps.length
  run : ∀ (A : Around) (outer : List Env) (s : Shared) (H : Hp) (args : Args) (us : List Value) (vs : List V) (Q : VK) (E : XK), Rm n A → Env0 P w K mg base A outer s H → BindsTo s fd args (ps.zip us) → Vals vs us → sp vs H Q E →
    codeAny (model P w) A (.call (.ref f) args) (CR (L2.CX P w) outer P w H s Q E) s
theorem FnR.ok {P : Program} {w : World} {K : PySem.W.Frag} {mg : Str → Option Value} {base : Heap} {n : Nat} {f : Addr} {fd : FuncData} {ps : List Str} {sp : Sp} (F : FnR P w K mg base n f fd ps sp) (hn : n ≤ 650) : FnOk P w K mg base (L2.CX P w) 230 f fd ps sp :=
  ⟨F.len, fun A outer s H args us vs Q E hr => F.run A outer s H args us vs Q E ⟨hr.hd, by have h := hr.dp; omega, by have h := hr.un; omega⟩⟩
abbrev cxD (P : Program) (w : World) (K : PySem.W.Frag) (mg : Str → Option Value) (base : Heap) (N : List Str) (qual : Str) (scope : Scope) (f : Addr) (cdv : Value) (A : Around) (outer : List Env) (s : Shared) (H : Hp) (E : XK) : Cx := cxOf (L2.CX P w) P w K mg base N qual scope f cdv A outer s H E
theorem fnR {P : Program} {w : World} {K : PySem.W.Frag} {mg : Str → Option Value} {base : Heap} {x qual : Str} {params : Arguments} {body : List Stmt} {scope : Scope} {dvs : List V} {kws : List (Str × V)} {f : Addr} {fd : FuncData}
    {N ps : List Str} {k : Nat} {sp : Sp} (F : FunD K x qual params body scope dvs kws f fd) (S : FnScope N ps scope) (len : ∀ vs H Q E, sp vs H Q E → vs.length = ps.length)
    (hbody : ∀ (cdv : Value) (A : Around) (outer : List Env) (s : Shared) (H : Hp) (vs : List V) (Q : VK) (E : XK), Rm k (cxD P w K mg base N qual scope f cdv A outer s H E).A → sp vs H Q E →
      ∃ t, PSs (cxD P w K mg base N qual scope f cdv A outer s H E) body t ∧ t { nx := fun _ H' => Q .non H', rt := Q } (L2.start N vs) H) : FnR P w K mg base (k + 1) f fd ps sp := by
  obtain ⟨oc, od, dV, kV, doc, pm, an, cdv, ct, osl, rfl, lk, hcd, _, _⟩ := F.ex
  refine ⟨len, fun A outer s H args us vs Q E hr e0 hb r hsp => ?_⟩
  have KX : K.In s.heap := e0.mod.kin.keeps fun b o e => (e0.bs b o e).1
  have lim : s.heap.NoLimit := e0.mod.nolimit.keeps fun b o e => (e0.bs b o e).1
  have dep : A.depth < recursionLimit := by have h := hr.dp; omega
  refine codeAny_call_function dep (KX _ _ lk) rfl S.co S.gen rfl (PySem.W.codeRec_of KX hcd) (hb _ _ _ _ ?_)
  refine wpAny_newFunctionEnv_cells S.kind (fun y hy => ?_) fun env he s1 x => ?_
  · rcases S.par y.1 (List.of_mem_zip (b := y.2) hy).1 with q | q
    · exact .inl q
    · exact .inr ⟨q, PySem.W.cellsFrom_some _ _ _ (.inl q)⟩
  · subst he
    refine ⟨lim.keeps x.toInCall.keep, codeAny_func ?_⟩
    obtain ⟨t, ht, hq⟩ := hbody cdv A outer s H vs Q E (hr.deeper _) hsp
    have I : Inv (cxD P w K mg base N qual scope f cdv A outer s H E) [] (L2.start N vs) H s1 := inv_start S hr.hd e0 (len _ _ _ _ hsp) r x
    refine wpAny_mono (ht.run [] s1 (L2.start N vs) H _ I hq) (fun fl s' hs => ?_) fun e s' hs => hs
    match fl, hs with
    | .ret u, ⟨v, σ', H', J, rv, q⟩ => exact ⟨v, H', J.os, J.bare, J.base, J.hok, rv, q⟩
    | .next, ⟨σ', H', J, q⟩ => exact ⟨V.non, H', J.os, J.bare, J.base, J.hok, rfl, q⟩
    | .brk, ⟨_, _, _, q⟩ => exact q.elim
    | .cont, ⟨_, _, _, q⟩ => exact q.elim
theorem fnD {P : Program} {w : World} {K : PySem.W.Frag} {mg : Str → Option Value} {base : Heap} {x qual : Str} {params : Arguments} {body : List Stmt} {scope : Scope} {dvs : List V} {kws : List (Str × V)} {f : Addr} {fd : FuncData}
    {N ps : List Str} {k n ar : Nat} {ow : Bool} {g : FS} (F : FunD K x qual params body scope dvs kws f fd) (S : FnScope N ps scope) (har : ps.length = ar) (hn : N.length = n)
    (hbody : ∀ (cdv : Value) (A : Around) (outer : List Env) (s : Shared) (H : Hp) (E : XK), Rm k (cxD P w K mg base N qual scope f cdv A outer s H E).A → Takes (cxD P w K mg base N qual scope f cdv A outer s H E) (cxC n ow E).W →
      PassesOwn (model P w) (cxD P w K mg base N qual scope f cdv A outer s H E).A (cxD P w K mg base N qual scope f cdv A outer s H E).env (cxD P w K mg base N qual scope f cdv A outer s H E).xe →
      ∃ O', DSs (cxD P w K mg base N qual scope f cdv A outer s H E) (cxC n ow E) [] O' body g) :
    FnR P w K mg base (k + 1) f fd ps (spD K ow ar (runF n g)) := by
  subst har hn
  refine fnR F S (fun vs H Q E h => ?_) (fun cdv A outer s H vs Q E hr h => ?_)
  · obtain ⟨ds, av, r, hl, _⟩ := h
    rw [r.length]; exact hl
  · obtain ⟨O', hb⟩ := hbody cdv A outer s H E hr (takes_of rfl rfl rfl rfl) (passes_of rfl)
    refine ⟨_, hb, ?_⟩
    obtain ⟨ds, av, r, hl, hav, q⟩ := h
    have hpl : ps.length ≤ N.length := by have := congrArg List.length S.pre; rw [List.length_take] at this; omega
    refine ⟨⟨H, av⟩, _, _, rl_start r (by omega) hav, ?_⟩
    unfold runF at q
    split at q
    · rename_i d e
      rw [e]
      intro v H' s z
      refine q v H' s ?_
      unfold Ret at z
      unfold RetF
      cases ow with
      | true => exact z
      | false => exact z
    · rename_i c x δ' e
      rw [e]
      exact fun cls dd ad' σ' H' _ r' z => q cls dd H' r'.keep z
    · exact q.elim
/-- a call of a def -/
theorem pe_callR {X : Cx} {k : Nat} {f : Addr} {fd : FuncData} {ps : List Str} {sp : Sp} {E : L2.St → XK} {x : Str} {p pos : Pos} {e : Expr} {es : List Expr} {t : TA} (F : FnR X.prog X.w X.K X.mg X.base k f fd ps sp) (hr : Rm k X.A) (hg : Gl X x) (hm : X.mg x = some (.ref f))
    (hk : PySem.W.keepIn X.K (.ref f) = true) (hb : Binds X.K fd ps []) (hx : ∀ σ, PassesAt (L2.CX X.prog X.w) X σ (E σ)) (ha : PA X (e :: es) t) (hdb : (x == ("__debug__" : Str)) = false)
    (he : starEach (e :: es) X.env = (false, eval e X.env) :: starEach es X.env) (hpl : (backTo pos (starEach es X.env)).any (·.1) = false) : PE X (.Call (.Name x p) (e :: es) [] pos) (tCallS sp E t) := by
  refine ⟨fun pins s σ H Q I h => wpAny_Call_Name_kw (ld_glob I hg hm ?_ hdb)⟩
  refine PySem.W.callWith_K (h₀ := X.base) I.ok.mod.kin hk (thn (ha.run pos pins s σ H _ I h) fun us s1 hh => ?_) he hpl
  obtain ⟨vs, H1, I1, r, q⟩ := hh
  have hl : us.length = ps.length := by rw [← r.length]; exact F.len _ _ _ _ q
  have b := hb s1 us I1.kIn (by rw [List.append_nil]; exact hl)
  rw [List.append_nil] at b
  refine ⟨I1.kIn, wpAny_call (codeAny_mono (F.run X.A X.stack s1 H1 ⟨us, []⟩ us vs Q (E σ) hr I1.env0 b r q) fun rr s' hq => ?_)⟩
  match rr, hq with
  | .error e, hq => exact hx σ pins H1 s1 e s' I1 hq
  | .ok (.ret u), hq => exact I1.after hq
def callF (G : List PyData → R PyData) (fs : List FE) : FE := fun δ => (evs fs δ).bind G
section
variable {X : Cx} {C : Cc} {O : List Nat} {k : Nat} {f : Addr} {fd : FuncData} {ps : List Str} {x : Str} {p pos : Pos} {e : Expr} {es : List Expr} {fs : List FE} {G : List PyData → R PyData} {ow : Bool} {ar : Nat}
theorem tcall {K : PySem.W.Frag} {σ : L2.St} {H : Hp} {Q : VK} (har : fs.length = ar) (h : tX K C O (RetF ow K) (callF G fs) σ H Q) : tCallS (spD K ow ar G) (WE C.W) (tAll K C O fs) σ H Q := by
  obtain ⟨B, δ, ad, r, k⟩ := h
  refine ⟨B, δ, ad, r, k.bind.imp (fun ds ed q vs H1 s1 z => ?_) fun _ _ z => z⟩
  refine ⟨ds, avO B O ad, z, (evs_length ed).trans har, (r.same s1).avdom, q.imp (fun d _ q v H2 s2 z2 => q v H2 (s1.trans s2) ?_) fun c x q cls dd H2 s2 z2 => q cls dd H2 (s1.trans s2) z2⟩
  unfold RetF at z2 ⊢
  cases ow with
  | true => exact relF_ok _ _ _ _ _ _ s1 z2
  | false => exact z2
theorem de_call (F : FnR X.prog X.w X.K X.mg X.base k f fd ps (spD X.K false ar G)) (hr : Rm k X.A) (hg : Gl X x) (hm : X.mg x = some (.ref f)) (hk : PySem.W.keepIn X.K (.ref f) = true) (hb : Binds X.K fd ps []) (tk : Takes X C.W)
    (ha : DA X C O (e :: es) fs) (har : fs.length = ar := by rfl) (hdb : (x == ("__debug__" : Str)) = false := by decide) (he : starEach (e :: es) X.env = (false, eval e X.env) :: starEach es X.env := by rfl) (hpl : (backTo pos (starEach es X.env)).any (·.1) = false := by rfl) :
    DE X C O (.Call (.Name x p) (e :: es) [] pos) (callF G fs) := pe_imp (pe_callR F hr hg hm hk hb (fun σ => passAt tk σ) ha hdb he hpl) fun σ H Q h => tcall (ow := false) har (by
      obtain ⟨B, δ, ad, r, k⟩ := h
      exact ⟨B, δ, ad, r, k.imp (fun d _ q v H' s z => q v H' s z) fun _ _ z => z⟩)
theorem df_call (F : FnR X.prog X.w X.K X.mg X.base k f fd ps (spD X.K true ar G)) (hr : Rm k X.A) (hg : Gl X x) (hm : X.mg x = some (.ref f)) (hk : PySem.W.keepIn X.K (.ref f) = true) (hb : Binds X.K fd ps []) (tk : Takes X C.W)
    (ha : DA X C O (e :: es) fs) (har : fs.length = ar := by rfl) (hdb : (x == ("__debug__" : Str)) = false := by decide) (he : starEach (e :: es) X.env = (false, eval e X.env) :: starEach es X.env := by rfl) (hpl : (backTo pos (starEach es X.env)).any (·.1) = false := by rfl) :
    DF X C O (.Call (.Name x p) (e :: es) [] pos) (callF G fs) := pe_imp (pe_callR F hr hg hm hk hb (fun σ => passAt tk σ) ha hdb he hpl) fun σ H Q h => tcall (ow := true) har (by
      obtain ⟨B, δ, ad, r, k⟩ := h
      exact ⟨B, δ, ad, r, k.imp (fun d _ q v H' s z => q v H' s z) fun _ _ z => z⟩)
end
/-- no calls left -/
theorem fn0 {P : Program} {w : World} {K : PySem.W.Frag} {mg : Str → Option Value} {base : Heap} {f : Addr} {fd : FuncData} {ps : List Str} {ow : Bool} {ar : Nat} : FnR P w K mg base 0 f fd ps (spD K ow ar fun _ => .bad) := by
  have no : ∀ vs H Q E, ¬ spD K ow ar (fun _ => .bad) vs H Q E := fun vs H Q E h => by
    obtain ⟨_, _, _, _, _, z⟩ := h
    exact z
  exact ⟨fun vs H Q E h => absurd h (no vs H Q E), fun A outer s H args us vs Q E _ _ _ _ h => absurd h (no vs H Q E)⟩
end Dl

namespace Dl
open PySem PySem.Spec L2

/-! ### zip of lists or tuples -/
def itZA (fa fb : FE) : FI := fun δ => (evs [fa, fb] δ).bind fun ds => match ds with
  | [.list xs, .list ys] => .ok (zipL xs ys)
  | [.tuple xs, .tuple ys] => .ok (zipL xs ys)
  | _ => .bad
theorem ItD.zipT {K : PySem.W.Frag} {ok : OkH} {ds : List PyData} {a b : Addr} {xs ys : List V} {es : List PyData} (h : ∀ H' av', ok H' av' → SqT K H' a xs ∧ RpAll K H' av' xs ds ∧ SqT K H' b ys ∧ RpAll K H' av' ys es) : ItD K ok (RZ.ItzT K a b) (zipL ds es) := fun H' av' o => by
  obtain ⟨h1, h2, h3, h4⟩ := h H' av' o
  have e1 := h2.length
  have e2 := h4.length
  have hz : (zipL ds es).length = min ds.length es.length := by simp [zipL]
  refine ⟨fun i hi => ?_, ⟨xs, ys, h1, h3, ?_⟩, fun i x H'' hi y => ?_⟩
  · rw [hz] at hi
    exact ⟨xs, ys, xs[i]'(by omega), ys[i]'(by omega), h1, h3, by simp, by simp⟩
  · rw [hz]; omega
  · obtain ⟨T, u, v, rfl, hT, rfl, y1, y2⟩ := y
    obtain ⟨d, q1, q2⟩ := h2.get (y1 xs h1)
    obtain ⟨d', q3, q4⟩ := h4.get (y2 ys h3)
    have s := same_new hT (.tup [u, v])
    exact ⟨s, _, zipL_get q1 q3, .tup (SqT.of upd_same) (.cons (q2.same s) (.cons (q4.same s) .nil))⟩
section
variable {X : Cx} {C : Cc} {O : List Nat} {tg e e2 iter : Expr} {f f2 : FE}
theorem di_zipA (h : DA X C O [e, e2] [f, f2]) (hh : ∀ ta, PA X [e, e2] ta → PI X tg iter (RZ.iZipA X.K ta)) : DI X C O tg iter (itZA f f2) := pi_imp (hh _ h) fun σ H Q ⟨B, δ, ad, r, k⟩ => by
  refine ⟨B, δ, ad, r, k.bind.imp (fun ds e q vs H1 s1 z => ?_) fun _ _ z => z⟩
  have hl := evs_length e
  match ds, hl, z with
  | [d, d2], _, .cons z1 (.cons z2 .nil) =>
    cases d with
    | list xs =>
      cases d2 with
      | list ys =>
        obtain ⟨a, vs, rfl, h1, _, h2⟩ := okL_list z1
        obtain ⟨b, ws, rfl, h3, _, h4⟩ := okL_list z2
        exact ⟨a, b, vs, ws, rfl, .inl ⟨h1, h3, q _ H1 s1 (ItD.zip fun H' av' o => ⟨(h2 H' av' o).1, (h2 H' av' o).2, (h4 H' av' o).1, (h4 H' av' o).2⟩)⟩⟩
      | _ => exact q.elim
    | tuple xs =>
      cases d2 with
      | tuple ys =>
        obtain ⟨a, vs, rfl, h1, _, h2⟩ := okL_tup (Rp.bw z1)
        obtain ⟨b, ws, rfl, h3, _, h4⟩ := okL_tup (Rp.bw z2)
        exact ⟨a, b, vs, ws, rfl, .inr ⟨h1, h3, q _ H1 s1 (ItD.zipT fun H' av' o => ⟨(h2 H' av' o).1, (h2 H' av' o).2, (h4 H' av' o).1, (h4 H' av' o).2⟩)⟩⟩
      | _ => exact q.elim
    | _ => exact q.elim
theorem dc_zipA (h : DAB X C O [e, e2] [f, f2]) (hh : ∀ ta, PA X [e, e2] ta → PI X tg iter (RZ.iZipA X.K ta)) : DC X C O tg iter (itZA f f2) := pi_imp (hh _ h) fun σ H Q ⟨B, δ, ad, r, k⟩ => by
  refine ⟨B, δ, ad, r, k.bind.imp (fun ds e q vs H1 s1 z => ?_) fun _ _ z => z⟩
  have hl := evs_length e
  match ds, hl, z with
  | [d, d2], _, .cons z1 (.cons z2 .nil) =>
    cases d with
    | list xs =>
      cases d2 with
      | list ys =>
        obtain ⟨a, vs, rfl, h1, _, h2⟩ := okC_list z1
        obtain ⟨b, ws, rfl, h3, _, h4⟩ := okC_list z2
        exact ⟨a, b, vs, ws, rfl, .inl ⟨h1, h3, q _ H1 s1 (ItD.zip fun H' av' o => ⟨(h2 H' av' o).1, (h2 H' av' o).2, (h4 H' av' o).1, (h4 H' av' o).2⟩)⟩⟩
      | _ => exact q.elim
    | tuple xs =>
      cases d2 with
      | tuple ys =>
        obtain ⟨a, vs, rfl, h1, _, h2⟩ := okC_tup z1
        obtain ⟨b, ws, rfl, h3, _, h4⟩ := okC_tup z2
        exact ⟨a, b, vs, ws, rfl, .inr ⟨h1, h3, q _ H1 s1 (ItD.zipT fun H' av' o => ⟨(h2 H' av' o).1, (h2 H' av' o).2, (h4 H' av' o).1, (h4 H' av' o).2⟩)⟩⟩
      | _ => exact q.elim
    | _ => exact q.elim
end

/-! ### isinstance of a built-in class -/
def tyN : PyData → String
  | .none => "NoneType" | .bool _ => "bool" | .int _ => "int" | .str _ => "str" | .list _ => "list" | .tuple _ => "tuple" | .dict _ => "dict"
def isiS (T s : String) : Bool := decide (T = s) || (decide (T = "int") && decide (s = "bool"))
def isiB (T : String) (d : PyData) : Bool := isiS T (tyN d)
theorem kit_all (T : String) (h : (["NoneType", "bool", "int", "str", "list", "tuple", "dict"].all fun s => decide (kitB s T = some (isiS T s))) = true) (d : PyData) : kitB (tyN d) T = some (isiB T d) := by
  have m : tyN d ∈ ["NoneType", "bool", "int", "str", "list", "tuple", "dict"] := by cases d <;> simp [tyN]
  exact of_decide_eq_true (List.all_eq_true.mp h _ m)
theorem kit_str : ∀ d, kitB (tyN d) "str" = some (isiB "str" d) := kit_all _ (by decide +kernel)
theorem kit_int : ∀ d, kitB (tyN d) "int" = some (isiB "int" d) := kit_all _ (by decide +kernel)
theorem kit_bool : ∀ d, kitB (tyN d) "bool" = some (isiB "bool" d) := kit_all _ (by decide +kernel)
theorem kit_list : ∀ d, kitB (tyN d) "list" = some (isiB "list" d) := kit_all _ (by decide +kernel)
theorem kit_tuple : ∀ d, kitB (tyN d) "tuple" = some (isiB "tuple" d) := kit_all _ (by decide +kernel)
def isiF (T : String) (f : FE) : FE := fun δ => (f δ).bind fun d => .ok (.bool (isiB T d))
theorem tyX_of {K : PySem.W.Frag} {H : Hp} {av : Addr → Prop} {v : V} {d : PyData} (h : Bw K H av v d) : TyX K H v (.type (tyN d)) := by
  cases d with
  | none => rw [h.none]; exact .base .non
  | bool b => rw [h.bool]; exact .base (.bl _)
  | int b => rw [h.int]; exact .base (.int _)
  | str b => rw [h.str]; exact .base (.str _)
  | list b =>
    obtain ⟨a, xs, rfl, h1, _⟩ := h.list
    rcases h1 with h1 | ⟨o, h1⟩
    · exact .base (.lst h1)
    · exact .base (.frz h1)
  | tuple b =>
    obtain ⟨a, xs, rfl, h1, _⟩ := h.tuple
    rcases h1 with (h1 | ⟨o, h1⟩) | ⟨o, its, n, h1, h2, _⟩
    · exact .base (.tup h1)
    · exact .fTuple h1
    · exact .kTuple h1 h2
  | dict b =>
    rcases h with h | ⟨a, rfl, kvs, ds, h1, _⟩
    · cases h with
      | dct h1 _ _ => exact .base (.dK h1)
    · exact .base (.dK h1)
section
variable {X : Cx} {C : Cc} {O : List Nat} {e ex eT : Expr} {f : FE} {T : String}
theorem de_isi (hk : ∀ d, kitB (tyN d) T = some (isiB T d)) (h : ∀ ta, PA X [e, eT] ta → PE X ex (tCB (rIsi X.K) ta)) (he : DB X C O e f) (hT : PE X eT (tC (.ty T))) (hs : starEach [e, eT] X.env = (false, eval e X.env) :: starEach [eT] X.env := by rfl) (hs2 : starEach [eT] X.env = (false, eval eT X.env) :: starEach [] X.env := by rfl) : DE X C O ex (isiF T f) := pe_imp (h _ (pa_cons he (pa_cons hT pa_nil hs2) hs)) fun σ H Q ⟨B, δ, ad, r, k⟩ => by
  refine ⟨B, δ, ad, r, k.bind.imp (fun d _ q v H1 s1 z => ?_) fun _ _ z => z⟩
  exact ⟨v, .ty T, .type (tyN d), .type T, isiB T d, rfl, .ty T, tyX_of z, kit_ty (hk d), q _ H1 s1 (.bl _)⟩
end

/-! ### sep.join(xs) -/
def joinD (a : Str) : PyData → Option PyData
  | .list ds => match strs? ds with
    | some ys => if (ys.map (·.length)).sum + ys.length * a.length ≤ 16777216 then some (.str (Txt.join a ys)) else none
    | none => none
  | _ => none
section
variable {X : Cx} {C : Cc} {O : List Nat} {o e : Expr} {f : FE} {a : Str} {apos pos : Pos}
theorem de_join (ho : PE X o (tC (.str a))) (he : DB X C O e f) (hs : starEach [e] X.env = [(false, eval e X.env)] := by rfl) (hbase : attributeBase o "join" X.env (eval o X.env) = eval o X.env := by rfl) (hline : (apos.endLine == pos.line) = true := by rfl) :
    DE X C O (.Call (.Attribute o "join" apos) [e] [] pos) (un1 (joinD a) f) := pe_imp (pe_join ho he hs hbase hline) fun σ H Q ⟨B, δ, ad, r, k⟩ => by
  refine ⟨⟨a, rfl⟩, B, δ, ad, r, k.bind.imp (fun d _ q y H2 s2 r2 => ?_) fun _ _ z => z⟩
  obtain ⟨z, ez, qq⟩ := q.ofO
  clear q
  unfold joinD at ez
  split at ez
  · split at ez
    · rename_i ys hy
      split at ez
      · rename_i hl
        cases ez
        obtain ⟨p, vs, rfl, hp, rp⟩ := Bw.list r2
        have e2 := strs_of rp hy
        subst e2
        exact ⟨_, p, ys, rfl, rfl, .inl (.inl hp), hl, qq _ H2 s2 (.str _)⟩
      · cases ez
    · cases ez
  · cases ez
end
end Dl
namespace Dl
open PySem PySem.Spec L2
theorem tgN {K : PySem.W.Frag} {C : Cc} {O : List Nat} {i : Nat} (hi : i ∉ O := by decide) : ∀ v σ H Q, tG K C O [i] (bN i) v σ H Q → gName i v σ H Q := fun v σ H Q ⟨B, δ, ad, d, δ', r, z, e, q⟩ => by
  cases e
  exact q _ (r.set hi z) (EqBut.set EqBut.refl)
end Dl

namespace Dl
open PySem PySem.Spec PyProof.Rows L2

/-! ### name op= e, whole numbers -/
def augS (i : Nat) (op : Int → Int → Int) (f : FE) : FS := fun δ => match vr i δ with
  | .ok (.int a) => exS f (fun d => match d with
    | .int b => .nx (δ.set i (some (.int (op a b))))
    | _ => .bad) δ
  | _ => .bad
section
variable {X : Cx} {C : Cc} {O : List Nat} {st : Stmt} {f : FE} {i : Nat}
theorem vr_ok {δ : Ev} {d : PyData} (h : vr i δ = .ok d) : δ[i]? = some (some d) := by
  unfold vr at h
  split at h
  · cases h; assumption
  · cases h
theorem ds_aug {op : Int → Int → Int} (h : PS X st (tAug i (tX X.K C O (relE X.K) f) (ipI op))) (hi : i ∉ O := by decide) (hOe : ∀ i ∈ C.Oe, i ∈ O := by exact fun _ h => nomatch h) : DS X C O O st (augS i op f) := ps_imp h fun D σ H ⟨B, δ, ad, r, k⟩ => by
  unfold augS at k
  split at k
  · rename_i a e
    obtain ⟨v, h1, h2⟩ := r.fro i _ hi (vr_ok e)
    have hv := h2.bw.int
    subst hv
    refine ⟨_, h1, B, δ, ad, r, ?_⟩
    unfold exS at k
    cases ef : f δ with
    | err c x => simp only [ef] at k; exact fun cls dd H' s z => k cls dd ad σ H' ((Stp.same s).trans (Stp.frz hOe)) ((r.same s).freeze hOe) z
    | bad => simp only [ef] at k; exact k.elim
    | ok d =>
      simp only [ef] at k
      cases d with
      | int b =>
        intro w H' s z
        have hw := (Rp.bw z).int
        subst hw
        exact ⟨a, b, rfl, rfl, k ad _ H' (Stp.same s) ((r.same s).set hi (.int _))⟩
      | _ => exact k.elim
  · exact k.elim
end

/-! ### a op b op c -/
def chn (s1 s2 : PyData → PyData → Option PyData) (fa fb fc : FE) : FE := fun δ => (fa δ).bind fun a => (fb δ).bind fun b => (ofO (s1 a b)).bind fun z => (asB z).bind fun k => if k = true then (fc δ).bind fun c => ofO (s2 b c) else .ok (.bool false)
section
variable {X : Cx} {C : Cc} {O : List Nat} {a b c : Expr} {fa fb fc : FE} {op op' : CmpOp} {s1 s2 : PyData → PyData → Option PyData} {pos : Pos}
theorem chain_pre {Q : VK} {σ : L2.St} {H : Hp} {pins : List (Addr × Obj)} (ho : OpD X (compareOp op) s1) (ho' : OpD X (compareOp op') s2) (h : tX X.K C O (relE X.K) (chn s1 s2 fa fb fc) σ H Q) :
    tX X.K C O (relB X.K) fa σ H fun x H1 => tX X.K C O (relB X.K) fb σ H1 fun y H2 => ∀ v u s2, Inv X pins σ H2 s2 → RelV x v → RelV y u → wpAny (model X.prog X.w) X.A (compareOp op v u) (EP X pins σ fun z H3 => ∃ k, z = .bl k ∧
      (if k = true then tX X.K C O (relB X.K) fc σ H3 fun w' H4 => ∀ v' s4, Inv X pins σ H4 s4 → RelV w' v' → wpAny (model X.prog X.w) X.A (compareOp op' u v') (EP X pins σ Q) X.xe s4 else Q (.bl false) H3)) X.xe s2 := by
  obtain ⟨B, δ, ad, r, q⟩ := h
  unfold chn at q
  refine ⟨B, δ, ad, r, q.bind.imp (fun d _ q x H1 t1 r1 => ⟨B, δ, ad, r.same t1, q.bind.imp (fun e _ q y H2 t2 r2 v u st I rx ry => ?_) fun c x z cls dd H' s => z cls dd H' (t1.trans s)⟩) fun _ _ z => z⟩
  obtain ⟨z, ez, q⟩ := q.bind.ofO
  obtain ⟨k, ek, q3⟩ := q.bind.asB
  subst ek
  have t12 := t1.trans t2
  refine ho pins st σ H2 x y v u _ (avO B O ad) d e _ I rx ry ((r.same t12).avdom) (Bw.same r1 t2) r2 ez fun w H3 t3 rz => ?_
  have t13 := t12.trans t3
  refine ⟨k, rz.bw.bool, ?_⟩
  by_cases hk : k = true
  · rw [if_pos hk] at q3 ⊢
    refine ⟨B, δ, ad, r.same t13, q3.bind.imp (fun g _ q w' H4 t4 r4 v' s4 I4 rw' => ?_) fun c x z cls dd H' s => z cls dd H' (t13.trans s)⟩
    obtain ⟨z', ez', q⟩ := q.ofO
    exact ho' pins s4 σ H4 y w' u v' Q (avO B O ad) e g _ I4 ry rw' ((r.same (t13.trans t4)).avdom) (Bw.same r2 (t3.trans t4)) r4 ez' fun w2 H5 t5 rz5 => q w2 H5 ((t13.trans t4).trans t5) rz5
  · rw [if_neg hk] at q3 ⊢
    exact q3 _ H3 t13 (.bl _)
theorem de_chn (ho : OpD X (compareOp op) s1) (ho' : OpD X (compareOp op') s2) (ha : DB X C O a fa) (hb : DB X C O b fb) (hc : DB X C O c fc) (hm : lastMarks [op, op'] [b, c] = false := by with_unfolding_all rfl) : DE X C O (.Compare a [op, op'] [b, c] pos) (chn s1 s2 fa fb fc) := by
  refine ⟨fun pins s σ H Q I h => ?_⟩
  have h := chain_pre (pins := pins) ho ho' h
  refine Compare_chain (thn (ha.run pins s σ H _ I h) fun v s1 ⟨x, H1, I1, r1, q1⟩ => chain_link (thn (hb.run pins s1 σ H1 _ I1 q1) fun u s2 ⟨y, H2, I2, r2, q2⟩ =>
    thn (q2 v u s2 I2 r1 r2) fun d s3 ⟨z, H3, I3, r3, k, e, q3⟩ => ?_)) hm
  subst e
  cases r3
  refine wpAny_truthy_bool ?_
  cases k with
  | false => exact ite_ff ⟨.bl false, H3, I3, rfl, q3⟩
  | true => exact ite_tt (chain_last (thn (hc.run pins s3 σ H3 _ I3 q3) fun w' s4 ⟨z', H4, I4, r4, q4⟩ => q4 w' s4 I4 r4))
theorem dt_chn (ho : OpD X (compareOp op) s1) (ho' : OpD X (compareOp op') s2) (ha : DB X C O a fa) (hb : DB X C O b fb) (hc : DB X C O c fc) (hm : lastMarks [op, op'] [b, c] = false := by with_unfolding_all rfl) : DT X C O (.Compare a [op, op'] [b, c] pos) (tst (chn s1 s2 fa fb fc)) := by
  refine ⟨fun pins s σ H Q I h => ?_⟩
  have h' : tX X.K C O (relE X.K) (chn s1 s2 fa fb fc) σ H (fun v H' => ∃ k, v = .bl k ∧ Q k H') := by
    obtain ⟨B, δ, ad, r, k⟩ := h
    refine ⟨B, δ, ad, r, k.bind.imp (fun d _ q v H' s z => ?_) fun _ _ z => z⟩
    obtain ⟨b, rfl, q⟩ := q.asB
    exact ⟨b, z.bw.bool, q H' s⟩
  have h := chain_pre (pins := pins) ho ho' h'
  refine isTrue_chain (thn (ha.run pins s σ H _ I h) fun v s1 ⟨x, H1, I1, r1, q1⟩ => test_link (thn (hb.run pins s1 σ H1 _ I1 q1) fun u s2 ⟨y, H2, I2, r2, q2⟩ =>
    thn (q2 v u s2 I2 r1 r2) fun d s3 ⟨z, H3, I3, r3, k, e, q3⟩ => ?_)) hm
  subst e
  cases r3
  refine wpAny_truthy_bool ?_
  cases k with
  | false =>
    obtain ⟨k', e', q'⟩ := q3
    cases e'
    exact ite_ff ⟨H3, I3, q'⟩
  | true =>
    refine ite_tt (test_last (thn (hc.run pins s3 σ H3 _ I3 q3) fun w' s4 ⟨z', H4, I4, r4, q4⟩ => thn (q4 w' s4 I4 r4) fun d' s5 ⟨z2, H5, I5, r5, k2, e2, q5⟩ => ?_))
    subst e2
    cases r5
    exact wpAny_truthy_bool ⟨H5, I5, q5⟩
end

/-! ### range(a, b, -1) -/
def downL (hi : Int) (n : Nat) : List PyData := (List.range n).map fun i => .int (hi - (i : Nat))
def itD (fs : List FE) : FI := fun δ => (evs fs δ).bind fun ds => match ds with
  | [.int a, .int b, .int c] => if c = -1 ∧ (-(2 ^ 62) ≤ a ∧ a < 2 ^ 62) ∧ (-(2 ^ 62) ≤ b ∧ b < 2 ^ 62) then .ok (downL a (a - b).toNat) else .bad
  | _ => .bad
theorem ItD.down {K : PySem.W.Frag} {ok : OkH} {lo : Int} {n : Nat} : ItD K ok (Itc lo (-1) n) (downL lo n) := fun H' av' o => by
  refine ⟨fun i hi => by show i < n; simpa [downL] using hi, by show n ≤ _; simp [downL], fun i x H'' hi y => ?_⟩
  obtain ⟨e, y⟩ := y
  subst e y
  have hi' : i < n := by simpa [downL] using hi
  refine ⟨Same.refl _, .int (lo - (i : Nat)), by simp [downL, hi'], ?_⟩
  have e : lo + (i : Int) * -1 = lo - i := by omega
  rw [e]
  exact .int _
theorem dx_range3 {X : Cx} {C : Cc} {O : List Nat} {tg e e2 e3 : Expr} {f f2 f3 : FE} {ok : (Addr → Prop) → Hp → OkH} {p pos : Pos} (h : DAB X C O [e, e2, e3] [f, f2, f3]) (hh : ∀ ta, PA X [e, e2, e3] ta → PI X tg (.Call (.Name "range" p) [e, e2, e3] [] pos) (iRng3 ta)) : PI X tg (.Call (.Name "range" p) [e, e2, e3] [] pos) (tI ok X.K C O (itD [f, f2, f3])) := pi_imp (hh _ h) fun σ H Q ⟨B, δ, ad, r, k⟩ => by
  refine ⟨B, δ, ad, r, k.bind.imp (fun ds e q vs H1 s1 z => ?_) fun _ _ z => z⟩
  split at q
  · rename_i a b c
    by_cases hc : c = -1 ∧ (-(2 ^ 62) ≤ a ∧ a < 2 ^ 62) ∧ (-(2 ^ 62) ≤ b ∧ b < 2 ^ 62)
    · rw [if_pos hc] at q
      obtain ⟨rfl, h1, h2⟩ := hc
      cases z with
      | cons z1 z =>
        cases z with
        | cons z2 z =>
          cases z with
          | cons z3 z =>
            cases z
            have e1 := z1.int
            have e2 := z2.int
            have e3 := z3.int
            subst e1 e2 e3
            exact ⟨a, b, -1, _, rfl, RgC.neg h1.1 h1.2 h2.1 h2.2, q _ H1 s1 ItD.down⟩
    · rw [if_neg hc] at q; exact q.elim
  · exact q.elim

/-! ### xs.extend(e) -/
section
variable {X : Cx} {C : Cc} {O : List Nat} {st : Stmt} {f : FE} {i : Nat}
theorem ds_ext (h : PS X st (tDrop (tBM X.K "list" rExtend (tVar i) (tCons (tX X.K C O (relF X.K) f) tNil)))) (hi : i ∈ O := by decide) (hOe : ∀ i ∈ C.Oe, i ∈ O := by exact fun _ h => nomatch h) : DS X C O O st (extS i f) := ps_imp h fun D σ H ⟨B, δ, ad, r, k⟩ => by
  unfold extS at k
  cases e : slotL i δ with
  | none => rw [e] at k; exact k.elim
  | some ds =>
    rw [e] at k
    obtain ⟨h1, vs, h2, h3⟩ := slotL_own r hi e
    refine ⟨_, h1, .inl ⟨rfl, vs, .inl (.inl h2)⟩, B, δ, ad, r, ?_⟩
    unfold exS at k
    cases ef : f δ with
    | err c x => simp only [ef] at k; exact fun cls dd H' s z => k cls dd ad σ H' ((Stp.same s).trans (Stp.frz hOe)) ((r.same s).freeze hOe) z
    | bad => simp only [ef] at k; exact k.elim
    | ok d =>
      simp only [ef] at k
      rintro v H' s ⟨p, rfl, hp, o⟩
      cases d with
      | list es =>
        simp only at k
        obtain ⟨ws, hw, rw'⟩ := o
        by_cases hl : ds.length + es.length ≤ sizeLine
        · rw [if_pos hl] at k
          have rs := r.same s
          have ra : RpAll X.K H' (avO B O ad) (vs ++ ws) (ds ++ es) := (h3.same s).append (rw'.weak fun a z => .inl z)
          obtain ⟨g1, g2⟩ := rs.relist hi ra
          exact ⟨ad i, p, vs, ws, rfl, rfl, s _ _ h2, hw, by rw [h3.length, rw'.length]; exact hl, k ad σ _ ((Stp.same s).trans g2) g1⟩
        · rw [if_neg hl] at k; exact k.elim
      | _ => exact k.elim
/-- xs.insert(k, e), the place not below nought -/
def insS (i : Nat) (fk f : FE) : FS := fun δ => match slotL i δ with
  | some ds => exS fk (fun kd => exS f (fun d => match kd with
    | .int z => if ds.length < sizeLine ∧ 0 ≤ z ∧ z < 2 ^ 63 then .nx (δ.set i (some (.list (ds.take z.toNat ++ [d] ++ ds.drop z.toNat)))) else .bad
    | _ => .bad) δ) δ
  | none => .bad
end
end Dl

namespace Dl
open PySem PySem.Spec PyProof.Rows L2

/-! ### dicts, keys whole numbers or texts -/
def keyD : PyData → Option Key
  | .int i => some (.inl i)
  | .str x => some (.inr x)
  | _ => none
theorem keyD_kD (k : Key) : keyD (kD k) = some k := by cases k <;> rfl
theorem keyD_some {d : PyData} {k : Key} (h : keyD d = some k) : d = kD k := by
  cases d <;> simp [keyD] at h <;> (subst h; rfl)
def getK (kds : List (PyData × PyData)) (k : Key) : Option PyData := (kds.find? fun p => decide (keyD p.1 = some k)).map (·.2)
def putKD (kds : List (PyData × PyData)) (k : Key) (d : PyData) : List (PyData × PyData) :=
  if (kds.any fun p => decide (keyD p.1 = some k)) = true then kds.map (fun p => if keyD p.1 = some k then (p.1, d) else p) else kds ++ [(kD k, d)]
/-- the entries told -/
def RpD (K : PySem.W.Frag) (H : Hp) (av : Addr → Prop) : List (Key × V) → List (PyData × PyData) → Prop := Paired fun p q => q.1 = kD p.1 ∧ Rp K H av p.2 q.2
section
variable {K : PySem.W.Frag} {H H' : Hp} {av av' : Addr → Prop}
theorem RpD.of : ∀ {kvs : List (Key × V)} {ds : List PyData}, RpAll K H av (kvs.map (·.2)) ds → RpD K H av kvs ((kvs.map fun p => kD p.1).zip ds)
  | [], _, .nil => .nil
  | p :: r, _, .cons h t => .cons ⟨rfl, h⟩ (RpD.of t)
theorem RpD.to : ∀ {kvs : List (Key × V)} {kds : List (PyData × PyData)}, RpD K H av kvs kds → ∃ ds, RpAll K H av (kvs.map (·.2)) ds ∧ kds = (kvs.map fun p => kD p.1).zip ds
  | _, _, .nil => ⟨[], .nil, rfl⟩
  | _, _, .cons (a := p) (b := q) h t => by
    obtain ⟨ds, h1, h2⟩ := RpD.to t
    refine ⟨q.2 :: ds, .cons h.2 h1, ?_⟩
    rw [h2]
    show q :: _ = (kD p.1, q.2) :: _
    rw [← h.1]
    rfl
theorem RpD.mono (k : Kp av H H') (ha : ∀ a, H a ≠ none → ¬ av a → ¬ av' a) : ∀ {kvs : List (Key × V)} {kds : List (PyData × PyData)}, RpD K H av kvs kds → RpD K H' av' kvs kds
  | _, _, .nil => .nil
  | _, _, .cons h t => .cons ⟨h.1, h.2.mono k ha⟩ (RpD.mono k ha t)
theorem RpD.same {kvs : List (Key × V)} {kds : List (PyData × PyData)} (s : Same H H') (h : RpD K H av kvs kds) : RpD K H' av kvs kds := h.mono (Kp.of_same s) fun _ _ n => n
theorem RpD.length {kvs : List (Key × V)} {kds : List (PyData × PyData)} (h : RpD K H av kvs kds) : kvs.length = kds.length := by
  unfold RpD at h
  induction h with
  | nil => rfl
  | cons _ _ ih => simp [ih]
theorem RpD.append : ∀ {kvs kvs' : List (Key × V)} {kds kds' : List (PyData × PyData)}, RpD K H av kvs kds → RpD K H av kvs' kds' → RpD K H av (kvs ++ kvs') (kds ++ kds')
  | _, _, _, _, .nil, g => g
  | _, _, _, _, .cons h t, g => .cons h (RpD.append t g)
theorem key_eq {p : Key × V} {q : PyData × PyData} {k : Key} (h : q.1 = kD p.1) : decide (keyD q.1 = some k) = decide (p.1 = k) := by
  rw [h, keyD_kD]
  simp
theorem RpD.get : ∀ {kvs : List (Key × V)} {kds : List (PyData × PyData)} (k : Key), RpD K H av kvs kds → match getK kds k with | some d => ∃ v, valV kvs k = some v ∧ Rp K H av v d | none => valV kvs k = none
  | _, _, k, .nil => rfl
  | _, _, k, .cons (a := p) (b := q) h t => by
    have ih := RpD.get k t
    unfold getK valV at *
    rw [List.find?_cons, List.find?_cons, key_eq h.1]
    by_cases e : p.1 = k
    · simp only [e, decide_true]
      exact ⟨p.2, rfl, h.2⟩
    · simp only [e, decide_false]
      exact ih
theorem RpD.any : ∀ {kvs : List (Key × V)} {kds : List (PyData × PyData)} (k : Key), RpD K H av kvs kds → (kds.any fun p => decide (keyD p.1 = some k)) = kvs.any fun p => decide (p.1 = k)
  | _, _, k, .nil => rfl
  | _, _, k, .cons h t => by
    rw [List.any_cons, List.any_cons, key_eq h.1, RpD.any k t]
theorem RpD.put {kvs : List (Key × V)} {kds : List (PyData × PyData)} {v : V} {d : PyData} (k : Key) (r : RpD K H av kvs kds) (h : Rp K H av v d) : RpD K H av (putK kvs k v) (putKD kds k d) := by
  unfold putK putKD
  rw [r.any k]
  split
  · have go : ∀ {kvs : List (Key × V)} {kds : List (PyData × PyData)}, RpD K H av kvs kds → RpD K H av (kvs.map fun kv => if kv.1 = k then (kv.1, v) else kv) (kds.map fun p => if keyD p.1 = some k then (p.1, d) else p) := by
      intro kvs kds r
      unfold RpD at r
      induction r with
      | nil => exact .nil
      | @cons p q kvs kds g t ih =>
        refine .cons ?_ ih
        have := key_eq (k := k) g.1
        rw [decide_eq_decide] at this
        show (if keyD q.1 = some k then (q.1, d) else q).1 = kD (if p.1 = k then (p.1, v) else p).1 ∧ Rp K H av (if p.1 = k then (p.1, v) else p).2 (if keyD q.1 = some k then (q.1, d) else q).2
        by_cases e : p.1 = k
        · rw [if_pos e, if_pos (this.mpr e)]; exact ⟨g.1, h⟩
        · rw [if_neg e, if_neg (fun z => e (this.mp z))]; exact g
    exact go r
  · exact r.append (.cons ⟨rfl, h⟩ .nil)
theorem Bw.dict {v : V} {kds : List (PyData × PyData)} (h : Bw K H av v (.dict kds)) : ∃ a kvs, v = .ref a ∧ H a = some (.dK kvs) ∧ RpD K H av kvs kds := by
  rcases h with h | ⟨a, rfl, kvs, ds, e, r, rfl⟩
  · cases h with
    | dct h n r => exact ⟨_, _, rfl, h, RpD.of r⟩
  · exact ⟨a, kvs, rfl, e, RpD.of r⟩
theorem own_dict {a : Addr} {kvs : List (Key × V)} {kds : List (PyData × PyData)} (h : H a = some (.dK kvs)) (r : RpD K H av kvs kds) : Own K H av a (.dict kds) := by
  obtain ⟨ds, h1, h2⟩ := r.to
  exact ⟨kvs, ds, h, h1, h2⟩
end
theorem kV_of {K : PySem.W.Frag} {H : Hp} {av : Addr → Prop} {v : V} {d : PyData} {k : Key} (h : Bw K H av v d) (e : keyD d = some k) : v = kV k := by
  rw [keyD_some e] at h
  cases k with
  | inl i => exact h.int
  | inr x => exact h.str

/-! d[k], k in d, k not in d -/
def dixD : PyData → PyData → Option PyData
  | .dict kds, k => (keyD k).bind fun k => getK kds k
  | _, _ => none
def dinD : PyData → PyData → Option PyData
  | k, .dict kds => (keyD k).bind fun k => some (.bool (getK kds k).isSome)
  | _, _ => none
def dnotInD : PyData → PyData → Option PyData
  | k, .dict kds => (keyD k).bind fun k => some (.bool !(getK kds k).isSome)
  | _, _ => none
section
variable {X : Cx} {C : Cc} {O : List Nat} {a b : Expr} {fa fb : FE} {pos : Pos} {st : Stmt} {f : FE} {i : Nat}
theorem de_dix (hu : X.A.units + 1 < cLine) (ha : DB X C O a fa) (hb : DB X C O b fb) (hs : NoSl b := by exact fun _ _ => rfl) : DE X C O (.Subscript a b pos) (op2 dixD fa fb) := pe_imp (pe_dget hu ha hb hs) fun σ H Q h => two h fun B ad δ x y d e H1 H2 r s1 s2 r1 r2 q => by
  obtain ⟨z, ez, q9⟩ := q.ofO
  cases d with
  | dict kds =>
    simp only [dixD] at ez
    cases ek : keyD e with
    | none => rw [ek] at ez; cases ez
    | some k =>
      rw [ek] at ez
      simp only [Option.bind_some] at ez
      obtain ⟨p, kvs, rfl, hp, rp⟩ := (Bw.same r1 s2).dict
      have hy := kV_of r2 ek
      subst hy
      have g := rp.get k
      rw [ez] at g
      obtain ⟨v, hv, rv⟩ := g
      exact ⟨p, v, rfl, by rw [← hv]; exact DGet.k hp, q9 v H2 (s1.trans s2) rv⟩
  | _ => cases ez
theorem od_din (hu : X.A.units + 1 < cLine) : OpD X (compareOp .In) dinD := fun pins s σ H x y v u Q av d e z I rx ry hav bx be hz q => by
  cases e with
  | dict kds =>
    simp only [dinD] at hz
    cases ek : keyD d with
    | none => rw [ek] at hz; cases hz
    | some k =>
      rw [ek] at hz
      simp only [Option.bind_some] at hz
      cases hz
      obtain ⟨p, kvs, rfl, hp, rp⟩ := be.dict
      have hy := kV_of bx ek
      subst hy
      obtain rfl : u = Value.ref p := ry
      have g := rp.get k
      have es : (valV kvs k).isSome = (getK kds k).isSome := by
        split at g
        · rename_i e; obtain ⟨v, hv, _⟩ := g; rw [hv, e]; rfl
        · rename_i e; rw [g, e]; rfl
      exact d_in hu I (DGet.k hp) rx fun s3 I3 => ⟨.bl _, H, I3, rfl, q _ H (Same.refl H) (by rw [es]; exact .bl _)⟩
  | _ => simp [dinD] at hz
theorem od_dnotin (hu : X.A.units + 1 < cLine) : OpD X (compareOp .NotIn) dnotInD := fun pins s σ H x y v u Q av d e z I rx ry hav bx be hz q => by
  cases e with
  | dict kds =>
    simp only [dnotInD] at hz
    cases ek : keyD d with
    | none => rw [ek] at hz; cases hz
    | some k =>
      rw [ek] at hz
      simp only [Option.bind_some] at hz
      cases hz
      obtain ⟨p, kvs, rfl, hp, rp⟩ := be.dict
      have hy := kV_of bx ek
      subst hy
      obtain rfl : u = Value.ref p := ry
      have g := rp.get k
      have es : (valV kvs k).isSome = (getK kds k).isSome := by
        split at g
        · rename_i e; obtain ⟨v, hv, _⟩ := g; rw [hv, e]; rfl
        · rename_i e; rw [g, e]; rfl
      exact d_notIn hu I (DGet.k hp) rx fun s3 I3 => ⟨.bl _, H, I3, rfl, q _ H (Same.refl H) (by rw [es]; exact .bl _)⟩
  | _ => simp [dnotInD] at hz
/-- {} -/
theorem df_d0 : DF X C O (.Dict [] [] pos) (cst (.dict [])) := pe_imp pe_dnewK fun σ H Q ⟨B, δ, ad, r, k⟩ p hp => k _ _ (same_new hp _) ⟨p, rfl, hp, own_dict upd_same .nil⟩
/-- a new address is avoided from now on -/
theorem Rl.avoid {K : PySem.W.Frag} {n : Nat} {B : Bs} {ad : Nat → Addr} {δ : Ev} {σ : L2.St} {H : Hp} {p : Addr} {o : HO} (r : Rl K n B O ad δ σ H) (hp : H p = none) : Rl K n ⟨B.H0, fun a => B.av0 a ∨ a = p⟩ O ad δ σ (upd H p o) where
  len := r.len
  lenN := r.lenN
  inj := r.inj
  new := r.new
  fro := fun i d hi e => by
    obtain ⟨v, h1, h2⟩ := r.fro i d hi e
    refine ⟨v, h1, h2.mono (Kp.of_same (same_new hp o)) fun a ha n z => ?_⟩
    rcases z with (z | z) | z
    · exact n (.inl z)
    · exact ha (z ▸ hp)
    · exact n (.inr z)
  own := fun i hi => by
    obtain ⟨d, h1, h2, ow⟩ := r.own i hi
    obtain ⟨u, e, _⟩ := ow.some
    refine ⟨d, h1, h2, ow.mono (Kp.of_same (same_new hp o)) (fun a ha n z => ?_) (upd_ne (ne_of_none e hp))⟩
    rcases z with (z | z) | z
    · exact n (.inl z)
    · exact ha (z ▸ hp)
    · exact n (.inr z)
  keep := r.keep.trans (same_new hp o)
  dom := fun a h => by
    rcases h with h | rfl
    · exact ⟨fun z => (r.dom a h).1 ((same_new hp o).free z), (r.dom a h).2⟩
    · refine ⟨by rw [upd_same]; simp, fun i hi z => ?_⟩
      obtain ⟨d, h1, h2, ow⟩ := r.own i hi
      obtain ⟨u, e, _⟩ := ow.some
      rw [← z, hp] at e; cases e
def evps : List (FE × FE) → Ev → R (List (Key × PyData))
  | [], _ => .ok []
  | (fk, fv) :: r, δ => (fk δ).bind fun k => (fv δ).bind fun v => (evps r δ).bind fun ps => match keyD k with
    | some k => .ok ((k, v) :: ps)
    | none => .bad
def mergeKD (kds : List (PyData × PyData)) (more : List (Key × PyData)) : List (PyData × PyData) := more.foldl (fun acc kv => putKD acc kv.1 kv.2) kds
def mkD (ps : List (FE × FE)) : FE := fun δ => (evps ps δ).bind fun ps => .ok (.dict (mergeKD [] ps))
def trP (K : PySem.W.Frag) (C : Cc) (O : List Nat) (ps : List (FE × FE)) : List (TE × TE) := ps.map fun p => (tX K C O (relB K) p.1, tX K C O (relE K) p.2)
theorem dps_nil : PPs X pos [] [] (trP X.K C O []) := pps_nil
theorem dps_cons {k v : Expr} {fk fv : FE} {ks : List (Option Expr)} {vs : List Expr} {ps : List (FE × FE)} (hk : DB X C O k fk) (hv : DE X C O v fv) (hr : PPs X pos ks vs (trP X.K C O ps)) : PPs X pos (some k :: ks) (v :: vs) (trP X.K C O ((fk, fv) :: ps)) := pps_cons hk hv hr
/-- pairs told -/
def RpP (K : PySem.W.Frag) (H : Hp) (av : Addr → Prop) : List (Key × V) → List (Key × PyData) → Prop := Paired fun p q => q.1 = p.1 ∧ Rp K H av p.2 q.2
theorem RpP.mono {K : PySem.W.Frag} {H H' : Hp} {av av' : Addr → Prop} (k : Kp av H H') (ha : ∀ a, H a ≠ none → ¬ av a → ¬ av' a) : ∀ {kvs : List (Key × V)} {kds : List (Key × PyData)}, RpP K H av kvs kds → RpP K H' av' kvs kds
  | _, _, .nil => .nil
  | _, _, .cons h t => .cons ⟨h.1, h.2.mono k ha⟩ (RpP.mono k ha t)
theorem RpP.length {K : PySem.W.Frag} {H : Hp} {av : Addr → Prop} {kvs : List (Key × V)} {kds : List (Key × PyData)} (h : RpP K H av kvs kds) : kvs.length = kds.length := by
  unfold RpP at h
  induction h with
  | nil => rfl
  | cons _ _ ih => simp [ih]
theorem RpP.merge {K : PySem.W.Frag} {H : Hp} {av : Addr → Prop} : ∀ {kvs : List (Key × V)} {kds : List (Key × PyData)} {acc : List (Key × V)} {accd : List (PyData × PyData)}, RpP K H av kvs kds → RpD K H av acc accd → RpD K H av (mergeK acc kvs) (mergeKD accd kds)
  | _, _, _, _, .nil, g => g
  | _, _, _, _, .cons (a := p) (b := q) h t, g => by
    show RpD K H av (mergeK (putK _ p.1 p.2) _) (mergeKD (putKD _ q.1 q.2) _)
    rw [h.1]
    exact RpP.merge t (g.put _ h.2)
theorem evps_length {ps : List (FE × FE)} {δ : Ev} {kds : List (Key × PyData)} (h : evps ps δ = .ok kds) : kds.length = ps.length := by
  induction ps generalizing kds with
  | nil => cases h; rfl
  | cons p r ih =>
    unfold evps at h
    cases e1 : p.1 δ with
    | ok k =>
      simp only [e1, R.bind] at h
      cases e2 : p.2 δ with
      | ok v =>
        simp only [e2] at h
        cases e3 : evps r δ with
        | ok qs =>
          simp only [e3] at h
          split at h
          · cases h; simp [ih e3]
          · cases h
        | _ => simp only [e3] at h; cases h
      | _ => simp only [e2] at h; cases h
    | _ => simp only [e1, R.bind] at h; cases h
theorem pairs_ok {K : PySem.W.Frag} {σ : L2.St} {ad : Nat → Addr} {δ : Ev} {B : Bs} {W : WX} : ∀ {ps : List (FE × FE)} {H : Hp} {Q : List (V × V) → Hp → Prop}, Rl K C.n B O ad δ σ H →
    Rk (evps ps δ) (fun kds => ∀ kvs H', Same H H' → RpP K H' (avO B O ad) kvs kds → Q (kvs.map fun kv => (kV kv.1, kv.2)) H') (fun c x => ∀ cls dd H', Same H H' → Er K c x cls dd H' → C.W cls dd σ H') → tPairs (trP K C O ps) σ H Q
  | [], H, Q, r, k => k [] H (Same.refl H) .nil
  | (fk, fv) :: ps, H, Q, r, k => by
    unfold evps at k
    refine ⟨B, δ, ad, r, k.bind.imp (fun kd _ k x H1 s1 z1 => ?_) fun _ _ z => z⟩
    refine ⟨B, δ, ad, r.same s1, k.bind.imp (fun d _ k y H2 s2 z2 => ?_) fun c x z cls dd H' s => z cls dd H' (s1.trans s)⟩
    refine pairs_ok (W := W) (ps := ps) ((r.same s1).same s2) (k.bind.imp (fun kds _ k kvs H3 s3 z3 => ?_) fun c x z cls dd H' s => z cls dd H' ((s1.trans s2).trans s))
    cases ek : keyD kd with
    | none => simp only [ek] at k; exact k.elim
    | some kk =>
      simp only [ek] at k
      have hx := kV_of z1 ek
      subst hx
      exact k ((kk, y) :: kvs) H3 ((s1.trans s2).trans s3) (.cons ⟨rfl, Rp.same s3 z2⟩ z3)
/-- {k: v, ..} -/
theorem df_disp {keys : List (Option Expr)} {values : List Expr} {ps : List (FE × FE)} (h : PPs X pos keys values (trP X.K C O ps)) (hall : keys.all (·.isSome) = true := by rfl) (hl : keys.length = values.length := by rfl) (h0 : keys ≠ [] := by exact fun z => nomatch z) (h15 : keys.length ≤ 15 := by decide) (hp15 : ps.length ≤ 15 := by decide) : DF X C O (.Dict keys values pos) (mkD ps) := pe_imp (pe_disp h hall hl h0 h15) fun σ H Q ⟨B, δ, ad, r, k⟩ p hp => by
  unfold mkD at k
  refine pairs_ok (W := C.W) (r.avoid hp) (k.bind.imp (fun kds ek k kvs H2 s2 z => ?_) fun c x z cls dd H' s => z cls dd H' ((same_new hp _).trans s))
  have hp2 : H2 p = some (.dK []) := s2 _ _ upd_same
  refine ⟨hp2, kvs, rfl, by rw [z.length, evps_length ek]; exact hp15, ?_⟩
  have s02 : Same H H2 := (same_new hp _).trans s2
  have s3 : Same H (upd H2 p (.dK (mergeK [] kvs))) := fun b u q => by rw [upd_ne (ne_of_none q hp)]; exact s02 _ _ q
  refine k _ _ s3 ⟨p, rfl, hp, own_dict upd_same (RpP.merge (z.mono (fun b u e n => ?_) fun a _ n z => ?_) .nil)⟩
  · refine (upd_ne fun q => ?_).trans e
    subst q
    rcases n with n | ⟨xs, n⟩
    · exact n (.inl (.inr rfl))
    · rcases n with n | ⟨_, n⟩ <;> (rw [hp2] at n; cases n)
  · rcases z with (z | z) | z
    · exact n (.inl (.inl z))
    · exact n (.inr z)
    · exact n (.inl (.inr z))
def slotD (i : Nat) (δ : Ev) : Option (List (PyData × PyData)) := match δ[i]? with
  | some (some (.dict ds)) => some ds
  | _ => none
theorem slotD_own {K : PySem.W.Frag} {n : Nat} {B : Bs} {ad : Nat → Addr} {δ : Ev} {σ : L2.St} {H : Hp} {ds : List (PyData × PyData)} (r : Rl K n B O ad δ σ H) (hi : i ∈ O) (e : slotD i δ = some ds) : σ[i]? = some (some (.ref (ad i))) ∧ ∃ kvs, H (ad i) = some (.dK kvs) ∧ RpD K H (avO B O ad) kvs ds := by
  obtain ⟨d, h1, h2, o⟩ := r.own i hi
  unfold slotD at e
  rw [h1] at e
  cases d with
  | dict xs =>
    cases e
    obtain ⟨kvs, ds, h3, h4, rfl⟩ := o
    exact ⟨h2, kvs, h3, RpD.of h4⟩
  | _ => cases e
theorem Rl.redict {K : PySem.W.Frag} {n : Nat} {B : Bs} {ad : Nat → Addr} {δ : Ev} {σ : L2.St} {H : Hp} {kvs : List (Key × V)} {kds : List (PyData × PyData)} (r : Rl K n B O ad δ σ H) (hi : i ∈ O) (ra : RpD K H (avO B O ad) kvs kds) :
    Rl K n B O ad (δ.set i (some (.dict kds))) σ (upd H (ad i) (.dK kvs)) ∧ Stp B O ad O ad H (upd H (ad i) (.dK kvs)) := by
  refine r.mut hi trivial (own_dict upd_same (ra.mono (fun b u e n => ?_) fun _ _ n => n))
  obtain ⟨d, _, _, o⟩ := r.own i hi
  refine (upd_ne fun z => ?_).trans e
  subst z
  rcases n with n | ⟨xs, n⟩
  · exact n (.inr ⟨i, hi, rfl⟩)
  · exact o.notTup n
/-- d[k] = e -/
def dputS (i : Nat) (fk f : FE) : FS := fun δ => exS f (fun d => match slotD i δ with
  | some ds => exS fk (fun kd => match keyD kd with
    | some k => if ds.length < sizeLine then .nx (δ.set i (some (.dict (putKD ds k d)))) else .bad
    | none => .bad) δ
  | none => .bad) δ
theorem ds_dput {fk : FE} (h : PS X st (sDPut (tVar i) (tX X.K C O (relB X.K) fk) (tX X.K C O (relE X.K) f))) (hi : i ∈ O := by decide) (hOe : ∀ i ∈ C.Oe, i ∈ O := by exact fun _ h => nomatch h) : DS X C O O st (dputS i fk f) := ps_imp h fun D σ H ⟨B, δ, ad, r, k⟩ => by
  unfold dputS exS at k
  refine ⟨B, δ, ad, r, ?_⟩
  cases ef : f δ with
  | err c x => simp only [ef] at k; exact fun cls dd H' s z => k cls dd ad σ H' ((Stp.same s).trans (Stp.frz hOe)) ((r.same s).freeze hOe) z
  | bad => simp only [ef] at k; exact k.elim
  | ok d =>
    simp only [ef] at k
    intro v H' s z
    cases e : slotD i δ with
    | none => simp only [e] at k; exact k.elim
    | some ds =>
      simp only [e] at k
      obtain ⟨h1, kvs, h2, h3⟩ := slotD_own r hi e
      refine ⟨_, h1, B, δ, ad, r.same s, ?_⟩
      cases ek : fk δ with
      | err c x => simp only [ek] at k; exact fun cls dd H2 s2 z => k cls dd ad σ H2 ((Stp.same (s.trans s2)).trans (Stp.frz hOe)) ((r.same (s.trans s2)).freeze hOe) z
      | bad => simp only [ek] at k; exact k.elim
      | ok kd =>
        simp only [ek] at k
        intro u H2 s2 zk
        cases ekk : keyD kd with
        | none => simp only [ekk] at k; exact k.elim
        | some kk =>
          simp only [ekk] at k
          by_cases hl : ds.length < sizeLine
          · rw [if_pos hl] at k
            have ss := s.trans s2
            have hu := kV_of zk ekk
            subst hu
            obtain ⟨g1, g2⟩ := (r.same ss).redict hi ((h3.same ss).put kk (Rp.same s2 z))
            exact ⟨ad i, _, rfl, DPut.k (ss _ _ h2) (by rw [h3.length]; exact hl), k ad σ _ ((Stp.same ss).trans g2) g1⟩
          · rw [if_neg hl] at k; exact k.elim
/-- list(d) -/
def keysD : List PyData → Option PyData
  | [.dict kds] => some (.list (kds.map (·.1)))
  | _ => none
theorem keys_rp {K : PySem.W.Frag} {H : Hp} {av : Addr → Prop} : ∀ {kvs : List (Key × V)} {kds : List (PyData × PyData)}, RpD K H av kvs kds → ∀ {H' : Hp} {av' : Addr → Prop}, RpAll K H' av' (kvs.map fun kv => kV kv.1) (kds.map (·.1))
  | _, _, .nil, _, _ => .nil
  | _, _, .cons (a := p) (b := q) h t, H', av' => by
    refine .cons ?_ (keys_rp t)
    show Rp K H' av' (kV p.1) q.1
    rw [h.1]
    cases p.1 with
    | inl i => exact .int i
    | inr x => exact .str x
theorem cf_keys (hc : X.calm = true) : CallF X (.type "list") keysD := by
  intro pins s σ H xs us Q av ds z I rv hav hb hz q
  unfold keysD at hz
  split at hz
  · cases hz
    obtain ⟨v, rfl, b⟩ := hb.one
    obtain ⟨p, kvs, rfl, hp, rp⟩ := b.dict
    exact call_list_dK hc pins s σ H _ us Q I rv ⟨p, kvs, rfl, hp, fun l hl => q _ _ (same_new hl _) ⟨l, rfl, hl, _, upd_same, keys_rp rp⟩⟩
  · cases hz
/-- a dict of the top, text keys -/
def cdx (kvs : List (Str × PyData)) (f : FE) : FE := fun δ => (f δ).bind fun d => match d with
  | .str z => ofO ((kvs.find? fun p => decide (p.1 = z)).map (·.2))
  | _ => .bad
theorem de_cdx {p : Addr} {kvs : List (Str × PyData)} (ha : PE X a (tC (.ref p))) (hk : ∀ q ∈ kvs, ∃ v, KDct X.K X.w p q.1 v ∧ ∀ H av, Rp X.K H av v q.2) (hb : DB X C O b fb) (hs : PlainIx b := by exact fun _ _ => rfl) : DE X C O (.Subscript a b pos) (cdx kvs fb) := pe_imp (pe_ix ix_kdict ha hb hs) fun σ H Q ⟨B, δ, ad, r, k⟩ => by
  unfold cdx at k
  refine ⟨B, δ, ad, r, k.bind.imp (fun d _ q y H1 s1 z => ?_) fun _ _ z => z⟩
  cases d with
  | str x =>
    obtain ⟨d, ed, q⟩ := Rk.ofO q
    have hy := Bw.str z
    subst hy
    cases ef : kvs.find? (fun p => decide (p.1 = x)) with
    | none => rw [ef] at ed; cases ed
    | some e =>
      rw [ef] at ed
      cases ed
      have h1 := List.find?_some ef
      have h2 := List.mem_of_find?_eq_some ef
      obtain ⟨v, kd, rv⟩ := hk e h2
      have h3 : e.1 = x := of_decide_eq_true h1
      rw [h3] at kd
      exact ⟨p, x, v, rfl, rfl, kd, q v H1 s1 (rv _ _)⟩
  | _ => exact q.elim
end
end Dl

set_option maxHeartbeats 1000000
namespace Dl
open PySem PySem.Spec PyProof.Rows L2 RT

/-! ### list(reversed(list)) -/
section
variable {prog : Program} {w : World} {A : Around} {E : Value → Shared → Prop} {s : Shared}
theorem extend_rev {R : Result → Shared → Prop} {it l S : Addr} {items : Array Value} {c₀ : Nat} (hh : A.handled = none) (hit : s.heap.IsRevIter it l ((items.size : Int) - 1)) (hl : s.heap.IsList l items) (hne : l ≠ it) (hSi : S ≠ it) (hSl : S ≠ l) (hn : items.size ≤ sizeLine) (hS : s.heap.get? S = some { cls := .type "list", data := .seq #[] c₀ })
    (hR : ∀ (h' : Heap) (tk : Nat) (acc : Array Value) (c' : Nat), (∀ b o, b ≠ it → b ≠ S → s.heap.get? b = some o → h'.get? b = some o) → h'.get? S = some { cls := .type "list", dict := none, data := .seq acc c', slots := #[] } → ItemsOf (fun i v => items[items.size - 1 - i]? = some v) acc items.size → R (.ok (.ret .none)) { s with heap := h', toks := tk }) :
    wpAny (model prog w) A.in1 (Builtin.List.listExtendWith (.ref S) (.ref it) .none)
      (fun fin s' => match fin with | .done f => R (.ok f) s' | .again c' => c'.quiet = true ∧ codeAny (model prog w) A c' R s') (fun e s' => R (.error e) s') s := by
  have W := (Walks.listRev (prog := prog) (w := w) (A := A.in1) hh it l hne items).toS
  have hSf : S ∉ [it, l] := by simp only [List.mem_cons, List.not_mem_nil, or_false, not_or]; exact ⟨hSi, hSl⟩
  have hT : s.TypeIs (.ref it) "list_reverseiterator" := Heap.IsRevIter.typeIs hit
  have h1 : Builtin.List.listSameRef (.ref S) (.ref it) = false := by simp [Builtin.List.listSameRef, hSi]
  unfold Builtin.List.listExtendWith
  refine wpAny_bind (wpAny_typeOf hT ?_)
  rw [if_neg (by rw [h1]; decide)]
  refine wpAny_bind (wpAny_pyIter_revIter hit ?_)
  refine wpAny_bind (wpAny_holding ?_)
  unfold Builtin.List.listLengthHint
  refine wpAny_bind (wpAny_specialOf hT nolen_lri ?_)
  show wpAny _ A.in1 (specialOf (Value.ref it) (Str.ofString "__length_hint__") >>= _) _ _ _
  refine wpAny_bind (wpAny_specialOf hT hint_lri ?_)
  generalize hid : ("list_reverseiterator.__length_hint__" : String) = id0
  wp_delta
  rw [show splitId id0 = some ("list_reverseiterator", "__length_hint__") from by subst hid; decide +kernel]
  subst hid
  refine wpAny_bind (wpAny_isInstance (b := true) hT (by rw [isSubtype_type]; kernel_rfl) ?_)
  refine wpAny_pure ?_
  rw [if_neg (by decide)]
  have e0 : ((items.size : Nat) : Int) - 1 - ((0 : Nat) : Int) = (items.size : Int) - 1 := by omega
  refine wpAny_pure ⟨plainId_quiet F.plain_extend_loop _, codeAny_extend_loopS W hn _ hSf _ items.size 0 _ _ _ rfl (Nat.zero_le _) ⟨Nat.zero_le _, by rw [e0]; exact hit, hl⟩ hS (ItemsOf.nil _) fun s' acc' c' hm hS' hacc => ?_⟩
  rw [Moved.eq_with hm]
  refine hR s'.heap s'.toks acc' c' (fun b o hb hb2 e => hm.heap b o (fun hmem => ?_) e) hS' hacc
  rcases List.mem_cons.mp hmem with e' | hmem
  · exact hb2 e'
  · exact hb (List.mem_singleton.mp hmem)
theorem call_list_rev {it l : Addr} {items : Array Value} {Q : Value → Shared → Prop} (hh : A.handled = none) (hit : s.heap.IsRevIter it l ((items.size : Int) - 1)) (hl : s.heap.IsList l items) (hne : l ≠ it) (hn : items.size ≤ sizeLine)
    (hQ : ∀ (h' : Heap) (tk : Nat) (acc : Array Value) (c' : Nat), (∀ b o, b ≠ it → s.heap.get? b = some o → h'.get? b = some o) → h'.get? s.heap.objs.size = some { cls := .type "list", dict := none, data := .seq acc c', slots := #[] } → ItemsOf (fun i v => items[items.size - 1 - i]? = some v) acc items.size →
      Q (.ref s.heap.objs.size) { s with heap := h', toks := tk }) :
    wpAny (model prog w) A (call (.type "list") [.ref it]) Q E s := by
  obtain ⟨oi, hoi, _⟩ := id hit
  obtain ⟨ol, hol, _⟩ := id hl
  have hSi : s.heap.objs.size ≠ it := Nat.ne_of_gt (Heap.lt_size hoi)
  have hSl : s.heap.objs.size ≠ l := Nat.ne_of_gt (Heap.lt_size hol)
  refine callType_codes (Q₁ := fun obj s₁ => obj = .ref s.heap.objs.size ∧ s₁ = { s with heap := s.heap.push { cls := .type "list", data := .seq #[] } }) F.called_list (F.typeCall_list_1 _) F.entry_list_init
    (code_list_new _ ⟨rfl, rfl⟩) fun obj s₁ h₁ => ?_
  obtain ⟨rfl, rfl⟩ := h₁
  have hS : (s.heap.push { cls := .type "list", data := .seq #[] }).get? s.heap.objs.size = some { cls := .type "list", data := .seq #[] } := Heap.get?_push_size _ rfl
  refine ⟨⟨_, hS, rfl⟩, F.args_list_init_2 _ _, ?_⟩
  show wpAny _ _ (do let old ← Builtin.List.listItems (.ref s.heap.objs.size); Builtin.List.listUpdate (.ref s.heap.objs.size) (fun _ => #[]); letGo old.toList.reverse; Builtin.List.listExtendWith (.ref s.heap.objs.size) (.ref it) .none) _ _ _
  refine wpAny_bind ?_
  unfold Builtin.List.listItems
  refine wpAny_bind (wpAny_seqItems hS rfl (wpAny_pure ?_))
  show wpAny _ _ (updateSeq s.heap.objs.size (fun _ => #[]) >>= fun _ => letGo (#[] : Array Value).toList.reverse >>= fun _ => Builtin.List.listExtendWith (.ref s.heap.objs.size) (.ref it) .none) _ _ _
  refine wpAny_bind (wpAny_updateSeq hS rfl ?_)
  have hS₂ := Heap.get?_update_self (Obj.mapSeq (fun _ => (#[] : Array Value))) hS rfl
  have oth : ∀ b o, b ≠ s.heap.objs.size → s.heap.get? b = some o → ((s.heap.push { cls := .type "list", data := .seq #[] }).update s.heap.objs.size (Obj.mapSeq (fun _ => (#[] : Array Value)))).get? b = some o :=
    fun b o hb e => (Heap.get?_update_other _ _ (Ne.symm hb)).trans (Heap.get?_push_of_some _ e)
  refine wpAny_bind (wpAny_letGo ?_)
  refine extend_rev (A := A.in1) hh (hit.at fun o e => oth _ o (Ne.symm hSi) e) (hl.at fun o e => oth _ o (Ne.symm hSl) e) hne hSi hSl hn hS₂ fun h' tk acc c' hk hS' hacc => ?_
  exact ⟨rfl, hQ h' tk acc c' (fun b o hb e => hk b o hb (Nat.ne_of_lt (Heap.lt_size e)) (oth b o (Nat.ne_of_lt (Heap.lt_size e)) e)) hS' hacc⟩
end
def tListRev (K : PySem.W.Frag) (te : TE) : TE := fun σ H Q => te σ H fun v H1 => ∃ (a : Addr) (xs : List V), v = .ref a ∧ SqL K H1 a xs ∧ ∀ p, H1 p = none → Q (.ref p) (upd H1 p (.lst xs.reverse))
section
variable {X : Cx} {C : Cc} {O : List Nat} {e : Expr} {f : FE}
theorem pe_listRev {te : TE} {p p2 pos pos2 : Pos} (hc : X.calm = true) (hg : Gl X "list") (hm : X.mg "list" = none) (hg2 : Gl X "reversed") (hm2 : X.mg "reversed" = none) (he : PE X e te)
    (hs : starEach [e] X.env = (false, eval e X.env) :: starEach [] X.env := by rfl)
    (hs2 : starEach [.Call (.Name "reversed" p2) [e] [] pos2] X.env = (false, eval (.Call (.Name "reversed" p2) [e] [] pos2) X.env) :: starEach [] X.env := by rfl) :
    PE X (.Call (.Name "list" p) [.Call (.Name "reversed" p2) [e] [] pos2] [] pos) (tListRev X.K te) := by
  refine ⟨fun pins s σ H Q I h => ?_⟩
  refine Call_ (ld_blt I hg hm boot_list (PyProof.Rows.callWith_type1 (args_cons (Call_ (ld_blt I hg2 hm2 PyProof.Rows.boot_reversed (PyProof.Rows.callWith_type1 (args_cons (thn (he.run pins s σ H _ I h) fun u s1 ⟨v, H1, I1, r1, q1⟩ => args_nil ?_) hs) hs rfl))) hs2) hs2 rfl))
  obtain ⟨a, xs, ev, hq, q⟩ := q1
  subst ev
  obtain rfl : u = Value.ref a := r1
  obtain ⟨its, rv, p', hz⟩ := I1.list hq
  refine call_reversed_list p'.isList (args_nil ?_)
  have k0 : ∀ b o, s1.heap.get? b = some o → (s1.heap.push (revObj a ((its.toArray.size : Int) - 1))).get? b = some o := fun b o e => Heap.get?_push_of_some _ e
  have hl := p'.isList
  obtain ⟨ol, hol, _⟩ := id hl
  have hne : a ≠ s1.heap.objs.size := Nat.ne_of_lt (Heap.lt_size hol)
  have hn : its.toArray.size ≤ sizeLine := by rw [List.size_toArray, ← rv.length]; exact hz
  refine call_list_rev (s := { s1 with heap := s1.heap.push (revObj a ((its.toArray.size : Int) - 1)) }) (I1.ok.hd hc) ⟨_, Heap.get?_push_size _ rfl, rfl, rfl⟩ (hl.push _) hne hn fun h' tk acc c' hk hS hi => ?_
  have hsz : (s1.heap.push (revObj a ((its.toArray.size : Int) - 1))).objs.size = s1.heap.objs.size + 1 := by simp [Heap.push]
  have hge : s1.heap.objs.size ≤ (s1.heap.push (revObj a ((its.toArray.size : Int) - 1))).objs.size := by rw [hsz]; exact Nat.le_succ _
  refine ⟨.ref _, upd H1 _ (.lst xs.reverse), I1.laid (t' := tk) (h' := h') (fun c o e => hk c o (Nat.ne_of_lt (Heap.lt_size e)) (k0 c o e)) hge (show ObjOk X.prog X.w _ _ _ (.lst xs.reverse) from ⟨by rw [List.length_reverse]; exact hz, acc.toList, c', vals_rev rv hi, ?_⟩), rfl, q _ (I1.hok.fresh hge)⟩
  rw [Array.toArray_toList]
  exact hS
def revF (f : FE) : FE := fun δ => (f δ).bind fun d => match d with
  | .list ds => .ok (.list ds.reverse)
  | _ => .bad
theorem df_listRev {p p2 pos pos2 : Pos} (hc : X.calm = true) (hg : Gl X "list") (hm : X.mg "list" = none) (hg2 : Gl X "reversed") (hm2 : X.mg "reversed" = none) (he : DB X C O e f)
    (hs : starEach [e] X.env = (false, eval e X.env) :: starEach [] X.env := by rfl)
    (hs2 : starEach [.Call (.Name "reversed" p2) [e] [] pos2] X.env = (false, eval (.Call (.Name "reversed" p2) [e] [] pos2) X.env) :: starEach [] X.env := by rfl) :
    DF X C O (.Call (.Name "list" p) [.Call (.Name "reversed" p2) [e] [] pos2] [] pos) (revF f) := pe_imp (pe_listRev hc hg hm hg2 hm2 he hs hs2) fun σ H Q ⟨B, δ, ad, r, k⟩ => by
  unfold revF at k
  refine ⟨B, δ, ad, r, k.bind.imp (fun d _ q v H1 s1 z => ?_) fun _ _ z => z⟩
  cases d with
  | list ds =>
    obtain ⟨a, xs, rfl, h1, ra⟩ := Bw.list z
    exact ⟨a, xs, rfl, .inl h1, fun p hp => q _ _ (s1.trans (same_new hp _)) ⟨p, rfl, s1.free hp, _, upd_same, ra.reverse.fresh hp (same_new hp _)⟩⟩
  | _ => exact q.elim

/-! ### xs.index(e) -/
def idxF (fa f : FE) : FE := fun δ => (fa δ).bind fun a => match a with
  | .list ds => (f δ).bind fun d => if SeqAt.shaped (.list ds) = true ∧ SeqAt.shaped d = true then ofO ((ds.findIdx? fun z => PyData.eqv z d).map fun j => .int (j : Nat)) else .bad
  | _ => .bad
theorem de_idx {a : Expr} {fa : FE} {apos pos : Pos} (hu : X.A.units + 65 < cLine) (ha : DB X C O a fa) (hb : DB X C O e f)
    (hbase : attributeBase a "index" X.env (eval a X.env) = eval a X.env := by rfl)
    (hfew : ((backTo pos (starEach [e] X.env)).all (fun x => !x.1) && (backToKw pos (keywordEach [] X.env)).all (fun x => x.1.isSome) && decide ([e].length + ([] : List Keyword).length + (if ([] : List Keyword).isEmpty then 0 else 1) < 30)) = true := by rfl)
    (hline : (apos.endLine == pos.line) = true := by rfl) (hs : starEach [e] X.env = (false, eval e X.env) :: starEach [] X.env := by rfl) : DE X C O (.Call (.Attribute a "index" apos) [e] [] pos) (idxF fa f) := pe_imp (pe_bm PySem.F.plainAttrs_list PySem.F.slot_list_index PySem.F.type_list_index (mt_indexD hu) ha (pa_cons hb pa_nil hs) hbase hfew hline hs) fun σ H Q ⟨B, δ, ad, r, k⟩ => by
  unfold idxF at k
  refine ⟨B, δ, ad, r, k.bind.imp (fun d _ q v H1 s1 z => ?_) fun _ _ z => z⟩
  cases d with
  | list ds =>
    obtain ⟨p, xs, rfl, h1, ra⟩ := Bw.list z
    refine ⟨.inl ⟨rfl, xs, .inl h1⟩, B, δ, ad, r.same s1, q.bind.imp (fun d _ q y H2 s2 zy => ?_) fun c x z cls dd H' s => z cls dd H' (s1.trans s)⟩
    by_cases hc : SeqAt.shaped (.list ds) = true ∧ SeqAt.shaped d = true
    · rw [if_pos hc] at q
      obtain ⟨w, ew, q⟩ := Rk.ofO q
      cases ej : ds.findIdx? (fun z => PyData.eqv z d) with
      | none => rw [ej] at ew; cases ew
      | some j =>
        rw [ej] at ew
        cases ew
        obtain ⟨hj, hz, hno⟩ := List.findIdx?_eq_some_iff_getElem.mp ej
        have zl : Dp X.K H2 (.ref p) (.list ds) := (Bw.same z s2).dp (SeqAt.canLay_of_shaped hc.1)
        refine ⟨p, y, d, ds, j, ds[j], rfl, rfl, zl, Bw.dp zy (SeqAt.canLay_of_shaped hc.2), hc.1, hc.2, by simp, hz, fun m z' hm hz' => ?_, q _ H2 (s1.trans s2) (.int _)⟩
        obtain ⟨hm', e'⟩ := List.getElem?_eq_some_iff.mp hz'
        have := hno m hm
        rw [e'] at this
        simpa using this
    · rw [if_neg hc] at q; exact q.elim
  | _ => exact q.elim
/-- xs.insert(k, e) -/
theorem ds_ins {st : Stmt} {i : Nat} {fk : FE} {r : V → List V → Hp → VK → Prop} (hr : r = fun x vs H Q => ∃ (l : Addr) (xs : List V) (i : Int) (y : V), x = .ref l ∧ vs = [.int i, y] ∧ H l = some (.lst xs) ∧ xs.length < sizeLine ∧ 0 ≤ i ∧ i < 2 ^ 63 ∧
    Q .non (upd H l (.lst (xs.take i.toNat ++ [y] ++ xs.drop i.toNat)))) (h : PS X st (tDrop (tBM X.K "list" r (tVar i) (tCons (tX X.K C O (relE X.K) fk) (tCons (tX X.K C O (relE X.K) f) tNil))))) (hi : i ∈ O := by decide) (hOe : ∀ i ∈ C.Oe, i ∈ O := by exact fun _ h => nomatch h) : DS X C O O st (insS i fk f) := ps_imp h fun D σ H ⟨B, δ, ad, r', k⟩ => by
  subst hr
  unfold insS at k
  cases e : slotL i δ with
  | none => rw [e] at k; exact k.elim
  | some ds =>
    rw [e] at k
    obtain ⟨h1, vs, h2, h3⟩ := slotL_own r' hi e
    refine ⟨_, h1, .inl ⟨rfl, vs, .inl (.inl h2)⟩, B, δ, ad, r', ?_⟩
    unfold exS at k
    cases ek : fk δ with
    | err c x => simp only [ek] at k; exact fun cls dd H' s z => k cls dd ad σ H' ((Stp.same s).trans (Stp.frz hOe)) ((r'.same s).freeze hOe) z
    | bad => simp only [ek] at k; exact k.elim
    | ok kd =>
      simp only [ek] at k
      intro u H' s zk
      refine ⟨B, δ, ad, r'.same s, ?_⟩
      cases ef : f δ with
      | err c x => simp only [ef] at k; exact fun cls dd H2 s2 z => k cls dd ad σ H2 ((Stp.same (s.trans s2)).trans (Stp.frz hOe)) ((r'.same (s.trans s2)).freeze hOe) z
      | bad => simp only [ef] at k; exact k.elim
      | ok d =>
        simp only [ef] at k
        intro v H2 s2 z
        cases kd with
        | int q =>
          simp only at k
          by_cases hl : ds.length < sizeLine ∧ 0 ≤ q ∧ q < 2 ^ 63
          · rw [if_pos hl] at k
            have ss := s.trans s2
            have hu := (Rp.bw zk).int
            subst hu
            have ra : RpAll X.K H2 (avO B O ad) (vs.take q.toNat ++ [v] ++ vs.drop q.toNat) (ds.take q.toNat ++ [d] ++ ds.drop q.toNat) := (((h3.same ss).take _).append (.cons z .nil)).append ((h3.same ss).drop _)
            obtain ⟨g1, g2⟩ := (r'.same ss).relist hi ra
            exact ⟨ad i, vs, q, v, rfl, rfl, ss _ _ h2, by rw [h3.length]; exact hl.1, hl.2.1, hl.2.2, k ad σ _ ((Stp.same ss).trans g2) g1⟩
          · rw [if_neg hl] at k; exact k.elim
        | _ => exact k.elim
/-- a + b, a new list -/
def catF (fa fb : FE) : FE := fun δ => (fa δ).bind fun a => (fb δ).bind fun b => match a, b with
  | .list xs, .list ys => if xs.length + ys.length ≤ sizeLine then .ok (.list (xs ++ ys)) else .bad
  | _, _ => .bad
theorem df_cat {a b : Expr} {fa fb : FE} {pos : Pos} (ha : DB X C O a fa) (hb : DB X C O b fb) : DF X C O (.BinOp a .Add b pos) (catF fa fb) := by
  refine ⟨fun pins s σ H Q I h => ?_⟩
  have h' : tX X.K C O (relB X.K) fa σ H fun x H1 => tX X.K C O (relB X.K) fb σ H1 fun y H2 => ∀ v u s2, Inv X pins σ H2 s2 → RelV x v → RelV y u → wpAny (model X.prog X.w) X.A (binaryOp .Add v u) (EP X pins σ Q) X.xe s2 := by
    refine Dl.two (g := fun a b => match a, b with | .list xs, .list ys => if xs.length + ys.length ≤ sizeLine then R.ok (.list (xs ++ ys)) else .bad | _, _ => .bad) h fun B ad δ x y d e H1 H2 r s1 s2 r1 r2 q v u st I rx ry => ?_
    have hd : Bw X.K H2 (avO B O ad) x d := Bw.same r1 s2
    split at q
    · rename_i xs ys
      by_cases hc : xs.length + ys.length ≤ sizeLine
      · rw [if_pos hc] at q
        obtain ⟨a, vs, rfl, ha, ra⟩ := hd.list
        obtain ⟨b, ws, rfl, hb, rb⟩ := (show Bw X.K H2 (avO B O ad) y (.list ys) from r2).list
        cases rx
        cases ry
        obtain ⟨z1, its, n, r, e1⟩ := ha.ok I.hok
        obtain ⟨z2, its2, n2, r2, e2⟩ := hb.ok I.hok
        have l1 := r.length
        have l2 := r2.length
        rw [← ra.length, ← rb.length] at hc
        refine PySem.P.add_list e1 e2 ?_ (by rw [List.size_toArray, List.size_toArray]; omega)
        have ea : its.toArray ++ its2.toArray = (its ++ its2).toArray := by simp
        rw [ea]
        have hf := I.fresh
        exact ⟨.ref _, _, I.lnew (t' := st.toks) (r.append r2) (by rw [List.length_append]; omega), rfl,
          q _ _ ((s1.trans s2).trans (same_new hf _)) ⟨_, rfl, (s1.trans s2).free hf, _, upd_same, (ra.append rb).fresh hf (same_new hf _)⟩⟩
      · rw [if_neg hc] at q; exact q.elim
    · exact q.elim
  exact wpAny_BinOp (binT ha hb I h' fun v u s2 x y H2 I2 rx ry q => q v u s2 I2 rx ry)
end
theorem Rm.u1 {n : Nat} {A : Around} (r : Rm n A) : A.units + 1 < cLine := by have h := r.un; omega
theorem tab_fact {K : PySem.W.Frag} {w : World} {p : Addr} {x : Str} {v : V} {d : PyData} (h : ∃ u, PySem.W.nsIn K p x = some (some u) ∧ RelV v u) (t : ∃ es n, KDict K w p es n) (r : ∀ H av, Rp K H av v d) : ∃ v, KDct K w p x v ∧ ∀ H av, Rp K H av v d := by
  obtain ⟨u, h1, h2⟩ := h
  obtain ⟨es, n, k⟩ := t
  exact ⟨v, ⟨es, n, u, k.at_, k.lit, h1, h2⟩, r⟩
end Dl

namespace Dl
open PySem PySem.Spec PyProof.Rows PySem.W PySem.SeqAt L2

/-! ### data that can be compared: a later place only where the earlier ones are equal -/
mutual
def cmpD : PyData → PyData → Bool
  | .bool _, .bool _ => true
  | .int _, .int _ => true
  | .str _, .str _ => true
  | .tuple xs, .tuple ys => cmpA xs ys
  | _, _ => false
def cmpA : List PyData → List PyData → Bool
  | x :: xs, y :: ys => cmpD x y && (!PyData.eqv x y || cmpA xs ys)
  | [], _ => true
  | _ :: _, [] => true
end
theorem cmpA_cons {x y : PyData} {xs ys : List PyData} (h : cmpA (x :: xs) (y :: ys) = true) : cmpD x y = true ∧ (PyData.eqv x y = true → cmpA xs ys = true) := by
  rw [cmpA, Bool.and_eq_true, Bool.or_eq_true] at h
  exact ⟨h.1, fun e => h.2.resolve_left (by rw [e]; decide)⟩
mutual
theorem toks_c : ∀ (x y : PyData), cmpD x y = true → (PyData.eqv x y = true → keyToks x = keyToks y) ∧ (PyData.eqv x y = false → ∀ l m, PyProof.Rows.lexLt itemOrd (keyToks x ++ l) (keyToks y ++ m) = PyProof.Rows.lexLt itemOrd (keyToks x) (keyToks y))
  | .bool a, y, h => by
    cases y with
    | bool b => exact toks_eqv (.bool a) (.bool b) (by simp [alike])
    | _ => exact absurd h (by simp [cmpD])
  | .int a, y, h => by
    cases y with
    | int b => exact toks_eqv (.int a) (.int b) (by simp [alike])
    | _ => exact absurd h (by simp [cmpD])
  | .str a, y, h => by
    cases y with
    | str b => exact toks_eqv (.str a) (.str b) (by simp [alike])
    | _ => exact absurd h (by simp [cmpD])
  | .tuple xs, y, h => by
    cases y with
    | tuple ys =>
      have t := toks_cA xs ys (by simpa [cmpD] using h)
      simp only [keyToks, PyData.eqv]
      exact t
    | _ => exact absurd h (by simp [cmpD])
  | .none, y, h => absurd h (by cases y <;> simp [cmpD])
  | .list _, y, h => absurd h (by cases y <;> simp [cmpD])
  | .dict _, y, h => absurd h (by cases y <;> simp [cmpD])
theorem toks_cA : ∀ (xs ys : List PyData), cmpA xs ys = true → (PyData.eqvAll xs ys = true → keyToksAll xs = keyToksAll ys) ∧ (PyData.eqvAll xs ys = false → ∀ l m, PyProof.Rows.lexLt itemOrd (keyToksAll xs ++ l) (keyToksAll ys ++ m) = PyProof.Rows.lexLt itemOrd (keyToksAll xs) (keyToksAll ys))
  | [], ys, _ => toksAll_eqv [] ys (by simp [alikeAll])
  | x :: xs, [], _ => toksAll_eqv (x :: xs) [] (by simp [alikeAll])
  | x :: xs, y :: ys, h => by
    obtain ⟨h1, h2⟩ := cmpA_cons h
    obtain ⟨a1, a2⟩ := toks_c x y h1
    rw [eqv_all_cons, toks_all_cons, toks_all_cons]
    cases hx : PyData.eqv x y with
    | true =>
      obtain ⟨b1, b2⟩ := toks_cA xs ys (h2 hx)
      rw [a1 hx, Bool.true_and]
      refine ⟨fun e => by rw [b1 e], fun e l m => ?_⟩
      simp only [List.cons_append, List.append_assoc]
      exact (lex_self (O := itemOrd) _ _ _).trans ((lex_pre _ _ _).trans ((b2 e l m).trans ((lex_pre _ _ _).symm.trans (lex_self (O := itemOrd) _ _ _).symm)))
    | false =>
      rw [Bool.false_and]
      refine ⟨fun e => absurd e Bool.false_ne_true, fun _ l m => ?_⟩
      simp only [List.cons_append, List.append_assoc]
      exact (lex_self (O := itemOrd) _ _ _).trans ((a2 hx _ _).trans ((a2 hx _ _).symm.trans (lex_self (O := itemOrd) _ _ _).symm))
end
theorem lt_yes {x y : PyData} {xs ys : List PyData} (h : cmpD x y = true) (e : PyData.eqv x y = true) : PyProof.Rows.lexLt itemOrd (keyToksAll (x :: xs)) (keyToksAll (y :: ys)) = PyProof.Rows.lexLt itemOrd (keyToksAll xs) (keyToksAll ys) := by
  rw [toks_all_cons, toks_all_cons, (toks_c x y h).1 e]
  exact (lex_self (O := itemOrd) _ _ _).trans (lex_pre _ _ _)
theorem lt_no {x y : PyData} {xs ys : List PyData} (h : cmpD x y = true) (e : PyData.eqv x y = false) : PyProof.Rows.lexLt itemOrd (keyToksAll (x :: xs)) (keyToksAll (y :: ys)) = dataLt x y := by
  rw [toks_all_cons, toks_all_cons]
  exact (lex_self (O := itemOrd) _ _ _).trans ((toks_c x y h).2 e _ _)
theorem firstLt_c : ∀ (xs ys : List PyData), cmpA xs ys = true →
    firstLt (pairEq xs ys) (fun j => dataLt (xs.getD j .none) (ys.getD j .none)) (decide (xs.length < ys.length)) (List.range (min xs.length ys.length)) = PyProof.Rows.lexLt itemOrd (keyToksAll xs) (keyToksAll ys)
  | [], ys, _ => firstLt_toks [] ys (by simp [alikeAll])
  | x :: xs, [], _ => firstLt_toks (x :: xs) [] (by simp [alikeAll])
  | x :: xs, y :: ys, h => by
    obtain ⟨h1, h2⟩ := cmpA_cons h
    have em : min (x :: xs).length (y :: ys).length = min xs.length ys.length + 1 := by
      rw [List.length_cons, List.length_cons]
      omega
    have ed : decide ((x :: xs).length < (y :: ys).length) = decide (xs.length < ys.length) := by
      rw [List.length_cons, List.length_cons]
      exact decide_eq_decide.mpr (by omega)
    rw [em, ed, List.range_succ_eq_map]
    cases hx : PyData.eqv x y with
    | true =>
      have ih := firstLt_c xs ys (h2 hx)
      rw [firstLt_yes (show pairEq (x :: xs) (y :: ys) 0 = true from hx), firstLt_map, lt_yes h1 hx, ← ih]
      rfl
    | false =>
      rw [firstLt_no (show pairEq (x :: xs) (y :: ys) 0 = false from hx), lt_no h1 hx]
      rfl

/-! ### a < b for tuples: what is asked behind the first place that differs is asked of nothing -/
section
open AutoSeq1 (wpAny_loadPart')
open MeetsSeq MeetsSeq2 MeetsSeq3 SeqRoads2
theorem tuple_ltC (l b : Addr) (items items2 : Array Value) (n n2 : Nat) (dd dd2 : Option Addr) (sl sl2 : Array (Option Value)) (e r : Nat → Bool) :
    Meets (Builtin.«tuple.__lt__» ⟨[.ref l, .ref b], []⟩)
      (fun A R s => s.heap.get? l = some { cls := .type "tuple", dict := dd, data := .seq items n, slots := sl } ∧ s.heap.get? b = some { cls := .type "tuple", dict := dd2, data := .seq items2 n2, slots := sl2 } ∧
        (∀ j (h1 : j < items.size) (h2 : j < items2.size), EqAt A.in1 s items[j] items2[j] (e j)) ∧ (∀ j (h1 : j < items.size) (h2 : j < items2.size), (∀ i, i < j → e i = true) → e j = false → RcLt A.in1 s items[j] items2[j] (r j)) ∧
        R (.ok (.ret (.bool (firstLt e r (decide (items.size < items2.size)) (List.range (min items.size items2.size)))))) s) :=
  .of_wp fun prog w A R s h => by
    obtain ⟨hp, g, d, tk, os⟩ := s; obtain ⟨hl, hb, he, hr, h⟩ := h
    have f2 := AutoSeq1.sub_tuple_tuple
    have hZ : (items.toList.zip items2.toList).length = min items.size items2.size := by simp
    wp_walk using wpAny_loadPart' hl, wpAny_loadPart' hb, wpAny_forIn_list _ (fun rest b s' => b.1 = none ∧ s' = ⟨hp, g, d, tk, os⟩ ∧ ∃ i, rest = (items.toList.zip items2.toList).drop i ∧ (∀ k, k < i → e k = true) ∧
      R (.ok (.ret (.bool (firstLt e r (decide (items.size < items2.size)) ((List.range (min items.size items2.size)).drop i))))) ⟨hp, g, d, tk, os⟩) _
    case turn =>
      rintro ⟨y, x⟩ rest b s' ⟨hb', rfl, i, hz, hall, hR⟩
      have hlt : i < (items.toList.zip items2.toList).length := by
        rcases Nat.lt_or_ge i (items.toList.zip items2.toList).length with h' | h'
        · exact h'
        · rw [List.drop_of_length_le h'] at hz; cases hz
      have hm : i < min items.size items2.size := hZ ▸ hlt
      have h1 : i < items.size := Nat.lt_of_lt_of_le hm (Nat.min_le_left _ _)
      have h2 : i < items2.size := Nat.lt_of_lt_of_le hm (Nat.min_le_right _ _)
      rw [List.drop_eq_getElem_cons hlt] at hz
      injection hz with hyx hrest
      have hy : y = items[i] := by have := congrArg Prod.fst hyx; simpa using this
      have hx : x = items2[i] := by have := congrArg Prod.snd hyx; simpa using this
      subst hy hx
      have hd : (List.range (min items.size items2.size)).drop i = i :: (List.range (min items.size items2.size)).drop (i + 1) := by simp [List.drop_eq_getElem_cons, hm]
      rw [hd] at hR
      refine wpAny_bind (he i h1 h2 prog w _ _ ?_)
      cases hy : e i with
      | true =>
        rw [firstLt_yes hy] at hR
        wp_walk
        refine ⟨rfl, rfl, i + 1, hrest, fun k hk => ?_, hR⟩
        rcases Nat.lt_succ_iff_lt_or_eq.mp hk with q | q
        · exact hall k q
        · rw [q]; exact hy
      | false =>
        rw [firstLt_no hy] at hR
        refine wpAny_bind (wpAny_rule ?_)
        refine wpAny_bind (hr i h1 h2 hall hy prog w _ _ ?_)
        wp_walk
        exact ⟨_, rfl, hR⟩
    case fin =>
      rintro ⟨b1, b2⟩ s' ⟨hb', rfl, i, hz, _, hR⟩
      simp only at hb'
      subst hb'
      have hge : min items.size items2.size ≤ i := by
        rcases Nat.lt_or_ge i (items.toList.zip items2.toList).length with h' | h'
        · rw [List.drop_eq_getElem_cons h'] at hz; cases hz
        · exact hZ ▸ h'
      rw [List.drop_of_length_le (by simpa using hge)] at hR
      wp_walk
      exact ⟨_, rfl, by simpa [Builtin.Tuple.tupleCompareSizes, firstLt] using hR⟩
    case h =>
      exact ⟨rfl, rfl, 0, rfl, fun k hk => absurd hk (Nat.not_lt_zero _), by simpa using h⟩
theorem rcLt_tuples {A : Around} {s : Shared} {l b : Addr} {items items2 : Array Value} {e r : Nat → Bool} (hl : s.heap.IsTuple l items) (hb : s.heap.IsTuple b items2) (hu : A.units < cLine)
    (he : ∀ j (h1 : j < items.size) (h2 : j < items2.size), EqAt A.in1 s items[j] items2[j] (e j)) (hr : ∀ j (h1 : j < items.size) (h2 : j < items2.size), (∀ i, i < j → e i = true) → e j = false → RcLt A.in1 s items[j] items2[j] (r j)) :
    RcLt A s (.ref l) (.ref b) (firstLt e r (decide (items.size < items2.size)) (List.range (min items.size items2.size))) := fun prog w E Q h => by
  obtain ⟨⟨cls, dd, data, sl⟩, ho, hc, n, hd⟩ := id hl
  obtain ⟨⟨cls2, dd2, data2, sl2⟩, ho2, hc2, n2, hd2⟩ := id hb
  simp only at hc hd hc2 hd2
  subst hc hd hc2 hd2
  exact richCompare_meets_room (op := .Lt) ⟨_, ho, rfl⟩ ⟨_, ho2, rfl⟩ F.slot_tuple_lt F.entry_tuple_lt (F.args_tuple_lt_2 _ _) (tuple_ltC l b items items2 n n2 dd dd2 sl sl2 e r)
    ⟨ho, ho2, he, hr, show Value.bool (firstLt e r (decide (items.size < items2.size)) (List.range (min items.size items2.size))) ≠ Value.notImplemented ∧ Q (.bool (firstLt e r (decide (items.size < items2.size)) (List.range (min items.size items2.size)))) s from ⟨(fun x => nomatch x), h⟩⟩ hu
end
mutual
theorem rcLt_c : ∀ (da db : PyData) (A : Around) (s : Shared) (a b : Value) (as bs : List Addr), Reads s.heap a da as → Reads s.heap b db bs → da.canLay0 = true → db.canLay0 = true → cmpD da db = true → A.units + min da.depth db.depth < cLine → RcLt A s a b (dataLt da db)
  | .bool x, db, A, s, a, b, as, bs, ra, rb, ca, cb, h, hu => by
    cases db with
    | bool y => exact rcLt_alike _ _ A s a b as bs ra rb (by simp [alike]) (fun z => nomatch z) hu
    | _ => exact absurd h (by simp [cmpD])
  | .int x, db, A, s, a, b, as, bs, ra, rb, ca, cb, h, hu => by
    cases db with
    | int y => exact rcLt_alike _ _ A s a b as bs ra rb (by simp [alike]) (fun z => nomatch z) hu
    | _ => exact absurd h (by simp [cmpD])
  | .str x, db, A, s, a, b, as, bs, ra, rb, ca, cb, h, hu => by
    cases db with
    | str y => exact rcLt_alike _ _ A s a b as bs ra rb (by simp [alike]) (fun z => nomatch z) hu
    | _ => exact absurd h (by simp [cmpD])
  | .tuple xs, db, A, s, a, b, as, bs, ra, rb, ca, cb, h, hu => by
    cases db with
    | tuple ys =>
      have hal : cmpA xs ys = true := by simpa [cmpD] using h
      have ca' : PyData.canLayAll0 xs = true := by simpa [PyData.canLay0] using ca
      have cb' : PyData.canLayAll0 ys = true := by simpa [PyData.canLay0] using cb
      cases ra with
      | @tuple l o vs n _ as₁ h1 h2 h3 h4 =>
        cases rb with
        | @tuple l' o' vs' n' _ bs₁ k1 k2 k3 k4 =>
          have n1 : vs.size = xs.length := by simpa using ReadsAll.length _ _ _ h4
          have n2 : vs'.size = ys.length := by simpa using ReadsAll.length _ _ _ k4
          rw [dataLt_tuple, ← firstLt_c xs ys hal, ← n1, ← n2]
          refine rcLt_tuples ⟨_, h1, h2, _, h3⟩ ⟨_, k1, k2, _, k3⟩ (room_here hu) (fun j j1 j2 => ?_) fun j j1 j2 hall hj => ?_
          · have := eqAt_readsAll xs ys A.in1 s vs.toList vs'.toList _ _ h4 k4 ca' cb' (room_in hu) j (by simpa using j1) (by simpa using j2)
            simpa using this
          · have := rcLt_cA xs ys A.in1 s vs.toList vs'.toList _ _ h4 k4 ca' cb' hal (room_in hu) j (by simpa using j1) (by simpa using j2) hall hj
            simpa using this
    | _ => exact absurd h (by simp [cmpD])
  | .none, db, _, _, _, _, _, _, _, _, _, _, h, _ => absurd h (by cases db <;> simp [cmpD])
  | .list _, db, _, _, _, _, _, _, _, _, _, _, h, _ => absurd h (by cases db <;> simp [cmpD])
  | .dict _, db, _, _, _, _, _, _, _, _, _, _, h, _ => absurd h (by cases db <;> simp [cmpD])
theorem rcLt_cA : ∀ (xs ys : List PyData) (A : Around) (s : Shared) (vs ws : List Value) (as bs : List Addr), ReadsAll s.heap vs xs as → ReadsAll s.heap ws ys bs → PyData.canLayAll0 xs = true → PyData.canLayAll0 ys = true → cmpA xs ys = true →
    A.units + min (PyData.depthAll xs) (PyData.depthAll ys) < cLine → ∀ j (h1 : j < vs.length) (h2 : j < ws.length), (∀ i, i < j → pairEq xs ys i = true) → pairEq xs ys j = false → RcLt A s vs[j] ws[j] (dataLt (xs.getD j .none) (ys.getD j .none))
  | [], _, _, _, _, _, _, _, ra, _, _, _, _, _, j, h1, _, _, _ => by cases ra; exact absurd h1 (Nat.not_lt_zero _)
  | _ :: _, [], _, _, _, _, _, _, _, rb, _, _, _, _, j, _, h2, _, _ => by cases rb; exact absurd h2 (Nat.not_lt_zero _)
  | x :: xs, y :: ys, A, s, _, _, _, _, ra, rb, ca, cb, h, hu, j, h1, h2, hall, hj => by
    rw [PyData.canLayAll0, Bool.and_eq_true] at ca cb
    cases ra with
    | cons r rs =>
      cases rb with
      | cons r' rs' =>
        cases j with
        | zero => exact rcLt_c x y A s _ _ _ _ r r' ca.1 cb.1 (cmpA_cons h).1 (room_head hu)
        | succ j => exact rcLt_cA xs ys A s _ _ _ _ rs rs' ca.2 cb.2 ((cmpA_cons h).2 (hall 0 (Nat.succ_pos _))) (room_tail hu) j (Nat.lt_of_succ_lt_succ h1) (Nat.lt_of_succ_lt_succ h2) (fun i hi => hall (i + 1) (Nat.succ_lt_succ hi)) hj
end
section
variable {prog : Program} {w : World} {A : Around} {E : Value → Shared → Prop} {s : Shared}
theorem oneLt_c {f : Bool} {da db : PyData} {a b : Value} {as bs : List Addr} {Q : Bool → Shared → Prop} (hf : f = true → ∀ xs, da ≠ .tuple xs) (ra : Reads s.heap a da as) (rb : Reads s.heap b db bs) (ca : da.canLay0 = true) (cb : db.canLay0 = true) (h : cmpD da db = true)
    (hu : A.units + min da.depth db.depth < cLine) (hq : Q (dataLt da db) s) : wpAny (model prog w) A (oneLt' f a b) Q E s := by
  cases f with
  | false =>
    rw [oneLt'_eq]
    simp only [Bool.false_eq_true, if_false]
    exact wpAny_bind (rcLt_c da db A s a b as bs ra rb ca cb h hu prog w E _ (wpAny_truthy_bool hq))
  | true =>
    have hal : alike da db = true := by
      cases da with
      | tuple xs => exact absurd rfl (hf rfl xs)
      | _ => cases db <;> first | (simp [alike]; done) | exact absurd h (by simp [cmpD])
    exact oneLt_alike hf ra rb hal (fun z => by subst z; cases db <;> simp [cmpD] at h) hu hq
theorem katLex_c {b fin : Bool} {Q : Bool → Shared → Prop} : ∀ (xs ys : List PyData) (i : Nat) (vs ws : List Value) (as bs : List Addr), ReadsAll s.heap vs xs as → ReadsAll s.heap ws ys bs → PyData.canLayAll0 xs = true → PyData.canLayAll0 ys = true → cmpA xs ys = true →
    A.units + min (PyData.depthAll xs) (PyData.depthAll ys) < cLine → (b = true → i = 0 → ∀ x r t, xs = x :: r → x ≠ .tuple t) → fin = decide (xs.length < ys.length) → Q (PyProof.Rows.lexLt itemOrd (keyToksAll xs) (keyToksAll ys)) s → KatLex prog w A b fin Q (vs.zip ws) i s
  | [], ys, i, vs, ws, as, bs, ra, rb, _, _, _, hu, hb, hf, hq => katLex_alike [] ys i vs ws as bs ra rb (by simp [alikeAll]) hu hb hf hq
  | x :: xs, [], i, vs, ws, as, bs, ra, rb, _, _, _, hu, hb, hf, hq => katLex_alike (x :: xs) [] i vs ws as bs ra rb (by simp [alikeAll]) hu hb hf hq
  | x :: xs, y :: ys, i, _, _, _, _, ra, rb, ca, cb, h, hu, hb, hf, hq => by
    obtain ⟨h1, h2⟩ := cmpA_cons h
    rw [PyData.canLayAll0, Bool.and_eq_true] at ca cb
    have hf' : fin = decide (xs.length < ys.length) := by
      rw [hf]
      simp only [List.length_cons, Nat.add_lt_add_iff_right]
    cases ra with
    | cons r rs =>
      cases rb with
      | cons r' rs' =>
        rw [List.zip_cons_cons]
        refine kat_cons (eqAt_reads x y A s _ _ _ _ r r' ca.1 cb.1 (room_head hu) prog w _ _ ?_)
        cases hx : PyData.eqv x y with
        | true =>
          rw [lt_yes h1 hx] at hq
          exact kat_yes (katLex_c xs ys (i + 1) _ _ _ _ rs rs' ca.2 cb.2 (h2 hx) (room_tail hu) (fun _ hi => absurd hi (Nat.succ_ne_zero i)) hf' hq)
        | false =>
          rw [lt_no h1 hx] at hq
          refine kat_no (oneLt_c (fun hbi t => ?_) r r' ca.1 cb.1 h1 (room_head hu) hq)
          rw [Bool.and_eq_true] at hbi
          exact hb hbi.1 (by simpa using hbi.2) x xs t rfl
def AllC (ds : List PyData) : Prop := (∀ d ∈ ds, d.canLay0 = true) ∧ ∀ d ∈ ds, ∀ d' ∈ ds, cmpD d d' = true
theorem dataKind_c {h : Heap} {ds : List PyData} (hal : AllC ds) {v : Value} {d : PyData} {as : List Addr} (hd : d ∈ ds) (r : Reads h v d as) : (dataKind h ds).keyOf v = some (keyToks d) := by
  have q : ∃ d, d ∈ ds ∧ ∃ as, Reads h v d as := ⟨d, hd, as, r⟩
  have e : (dataKind h ds).keyOf v = some (keyToks q.choose) := by
    show (open Classical in if q : ∃ d, d ∈ ds ∧ ∃ as, Reads h v d as then some (keyToks q.choose) else none) = _
    rw [dif_pos q]
  obtain ⟨h1, as', h2⟩ := q.choose_spec
  have ed : q.choose = d := (readOf_eq (hal.1 _ h1) h2).symm.trans (readOf_eq (hal.1 _ hd) r)
  rw [e, ed]
theorem dataType_c {x y : PyData} (h : cmpD x y = true) : dataType x = dataType y := by
  cases x <;> cases y <;> first | rfl | exact absurd h (by simp [cmpD])
theorem SortsAt.c {vs : List Value} {ds : List PyData} (e : EachIs (fun v d => ∃ as, Reads s.heap v d as) vs ds) (hal : AllC ds) (hk : Sortable ds) (hu : ∀ d, d ∈ ds → A.units + d.depth < cLine) : SortsAt prog w A s (dataKind s.heap ds) vs := by
  have room : ∀ {d d' : PyData}, d ∈ ds → A.units + min d.depth d'.depth < cLine := fun {d d'} hd => Nat.lt_of_le_of_lt (Nat.add_le_add_left (Nat.min_le_left _ _) _) (hu d hd)
  refine ⟨fun v hv => ?_, ?_⟩
  · obtain ⟨d, hd, as, r⟩ := e.left v hv
    exact ⟨_, dataKind_c hal hd r⟩
  · rcases hk with ht | hn
    · cases ds with
      | nil =>
        cases e
        exact ⟨general', fun E x y a b Q ha _ _ => (by
          obtain ⟨d, _, hd, _⟩ := dataKind_inv ha
          exact absurd hd (by simp)), fun h2 => absurd h2 (by simp)⟩
      | cons d₀ ds₀ =>
        obtain ⟨x₀, r₀, e₀⟩ := ht d₀ (List.mem_cons_self ..)
        have hfirst : ∀ x r, PyData.tuple (x :: r) ∈ d₀ :: ds₀ → cmpD x x₀ = true := by
          intro x r hm
          have q := hal.2 _ hm d₀ (List.mem_cons_self ..)
          rw [e₀] at q
          exact (cmpA_cons (by simpa [cmpD] using q)).1
        refine ⟨tuples' (dataType x₀ != Value.type "tuple"), ?_, fun h2 E Q hq => ?_⟩
        · intro E x y a b Q ha hb hq
          obtain ⟨d, as, hd, ra, rfl⟩ := dataKind_inv ha
          obtain ⟨d', as', hd', rb, rfl⟩ := dataKind_inv hb
          have hdd := hal.2 d hd d' hd'
          have c1 := hal.1 d hd
          have c2 := hal.1 d' hd'
          have hroom := room (d' := d') hd
          obtain ⟨x1, r1, rfl⟩ := ht d hd
          obtain ⟨x2, r2, rfl⟩ := ht d' hd'
          have hq' : Q (dataLt (.tuple (x1 :: r1)) (.tuple (x2 :: r2))) s := hq
          rw [dataLt_tuple] at hq'
          cases ra with
          | @tuple l o xs n _ _ h1 h2 h3 h4 =>
            cases rb with
            | @tuple l' o' xs' n' _ _ k1 k2 k3 k4 =>
              have n1 : xs.size = (x1 :: r1).length := by simpa using SeqAt.ReadsAll.length _ _ _ h4
              have n2 : xs'.size = (x2 :: r2).length := by simpa using SeqAt.ReadsAll.length _ _ _ k4
              refine kat_lt h1 h3 k1 k3 (katLex_c (x1 :: r1) (x2 :: r2) 0 _ _ _ _ h4 k4 (by simpa [PyData.canLay0] using c1) (by simpa [PyData.canLay0] using c2) (by simpa [cmpD] using hdd) (by have q := SeqAt.room_in hroom; omega) (fun hb _ x r t ex => ?_) (by rw [n1, n2]) hq')
              obtain ⟨rfl, rfl⟩ := List.cons.inj ex
              have q := dataType_c (hfirst _ _ hd)
              rw [← q] at hb
              exact dataType_tuple hb t
        · obtain ⟨fs, t1, t2, t3⟩ := each_katTups e ht
          refine kat_kind (T := dataType x₀) t1 (by omega) (fun f hf => ?_) (beq_self_eq_true _) hq
          obtain ⟨x, r, as, m1, m2⟩ := t3 f hf
          rw [← dataType_c (hfirst x r m1)]
          exact looks_reads m2
    · refine ⟨oneType', ?_, fun h2 E Q hq => ?_⟩
      · intro E x y a b Q ha hb hq
        obtain ⟨d, as, hd, ra, rfl⟩ := dataKind_inv ha
        obtain ⟨d', as', hd', rb, rfl⟩ := dataKind_inv hb
        rw [keyLt'_oneType]
        exact oneLt_c (fun _ => (hn d hd).2) ra rb (hal.1 d hd) (hal.1 d' hd') (hal.2 d hd d' hd') (room hd) hq
      · cases ds with
        | nil =>
          cases e
          exact absurd h2 (by simp)
        | cons d₀ ds₀ =>
          refine kas_kind (T := dataType d₀) h2 (fun v hv => ?_) (dataType_other (hn d₀ (List.mem_cons_self ..)).2) (beq_self_eq_true _) hq
          obtain ⟨d, hd, as, r⟩ := e.left v hv
          rw [← dataType_c (hal.2 d hd d₀ (List.mem_cons_self ..))]
          exact looks_reads r
end
def isTup1 : PyData → Bool
  | .tuple (_ :: _) => true
  | _ => false
def isFlat1 : PyData → Bool
  | .int _ => true
  | .str _ => true
  | .bool _ => true
  | _ => false
def sortOk (ds : List PyData) : Bool := SeqAt.shaped (.list ds) && (ds.all fun d => ds.all fun d' => cmpD d d') && (ds.all isTup1 || ds.all isFlat1)
def sortL (ds : List PyData) : List PyData := ds.mergeSort (dataLe false id)
def sortD : List PyData → Option PyData
  | [.list ds] => if sortOk ds = true then some (.list (sortL ds)) else none
  | _ => none
theorem canLay_mem : ∀ {ds : List PyData}, PyData.canLayAll0 ds = true → ∀ d ∈ ds, d.canLay0 = true
  | [], _, d, h => by cases h
  | x :: xs, c, d, h => by
    rw [PyData.canLayAll0, Bool.and_eq_true] at c
    rcases List.mem_cons.mp h with rfl | h
    · exact c.1
    · exact canLay_mem c.2 d h
theorem depth_mem : ∀ {ds : List PyData} {d : PyData}, d ∈ ds → d.depth ≤ PyData.depthAll ds
  | x :: xs, d, h => by
    rcases List.mem_cons.mp h with rfl | h
    · exact Nat.le_max_left _ _
    · exact Nat.le_trans (depth_mem h) (Nat.le_max_right _ _)
theorem sortOk_c {ds : List PyData} (h : sortOk ds = true) : AllC ds ∧ Sortable ds ∧ ∀ d ∈ ds, d.depth ≤ 64 := by
  unfold sortOk at h
  rw [Bool.and_eq_true, Bool.and_eq_true, Bool.or_eq_true] at h
  obtain ⟨⟨h1, h2⟩, h3⟩ := h
  have hd := depth_of_shaped h1
  refine ⟨⟨canLay_mem (by simpa [PyData.canLay0] using canLay_of_shaped h1), fun d hd d' hd' => ?_⟩, ?_, fun d hm => ?_⟩
  · exact List.all_eq_true.mp (List.all_eq_true.mp h2 d hd) d' hd'
  · rcases h3 with h3 | h3
    · refine .inl fun d hd => ?_
      have := List.all_eq_true.mp h3 d hd
      unfold isTup1 at this
      split at this
      · exact ⟨_, _, rfl⟩
      · cases this
    · refine .inr fun d hd => ?_
      have := List.all_eq_true.mp h3 d hd
      cases d with
      | none => exact absurd this (by simp [isFlat1])
      | tuple xs => exact absurd this (by simp [isFlat1])
      | _ => exact ⟨fun z => (by cases z), fun _ z => (by cases z)⟩
  · have := depth_mem hm
    have e : (PyData.list ds).depth = PyData.depthAll ds + 1 := rfl
    omega
theorem rp_each {X : Cx} {pins : List (Addr × Obj)} {σ : L2.St} {H : Hp} {s : Shared} {av : Addr → Prop} (I : Inv X pins σ H s) : ∀ {vs : List V} {ds : List PyData} {its : List Value}, RpAll X.K H av vs ds → Vals vs its → (∀ d ∈ ds, d.canLay0 = true) →
    EachIs (fun u (b : V × PyData) => RelV b.1 u ∧ Rp X.K H av b.1 b.2) its (vs.zip ds) ∧ EachIs (fun u (b : V × PyData) => ∃ as, Reads s.heap u b.2 as) its (vs.zip ds)
  | _, _, _, .nil, .nil, _ => ⟨.nil, .nil⟩
  | _, _, _, .cons h t, .cons r rs, c => by
    obtain ⟨h1, h2⟩ := rp_each I t rs fun d hd => c d (List.mem_cons_of_mem _ hd)
    exact ⟨.cons ⟨r, h⟩ h1, .cons (Dp.reads I _ _ _ (h.dp (c _ List.mem_cons_self)) r) h2⟩
theorem each_rp {K : PySem.W.Frag} {H : Hp} {av : Addr → Prop} : ∀ {out : List Value} {bs : List (V × PyData)}, EachIs (fun u (b : V × PyData) => RelV b.1 u ∧ Rp K H av b.1 b.2) out bs → Vals (bs.map (·.1)) out ∧ RpAll K H av (bs.map (·.1)) (bs.map (·.2))
  | _, _, .nil => ⟨.nil, .nil⟩
  | _, _, .cons h t => by
    obtain ⟨h1, h2⟩ := each_rp t
    exact ⟨.cons h.1 h1, .cons h.2 h2⟩
theorem zip_snd {vs : List V} {ds : List PyData} (h : vs.length = ds.length) : (vs.zip ds).map (·.2) = ds := by
  rw [List.map_snd_zip]; omega
theorem cf_sorted {X : Cx} (hu : X.A.units + 200 < cLine) : CallF X (.builtin "sorted") sortD := by
  intro pins s σ H xs us Q av ds z I rv hav hb hz q
  unfold sortD at hz
  split at hz
  · rename_i ds
    split at hz
    · rename_i hok
      cases hz
      obtain ⟨v, rfl, b⟩ := hb.one
      obtain ⟨p, vs, rfl, hp, rp⟩ := b.list
      obtain ⟨u, rfl, ru⟩ := rv.one
      obtain rfl : u = Value.ref p := ru
      obtain ⟨its, rvs, p', hzl⟩ := I.list (.inl hp)
      obtain ⟨hc, hs, hdep⟩ := sortOk_c hok
      have hzip := zip_snd (rp.length)
      obtain ⟨e1, e2⟩ := rp_each I rp rvs hc.1
      have hlen : its.length = (vs.zip ds).length := e1.length
      have e2' : EachIs (fun u (b : V × PyData) => ∃ as, Reads (sortingHeap (copyHeap s.heap its) (s.heap.objs.size + 1) its) u b.2 as) its (vs.zip ds) := e2.mono fun _ _ ⟨as, r⟩ => ⟨as, PyProof.Rows.Reads.keeps (fun _ _ => sorting_copy_old) r⟩
      have hcz : AllC ((vs.zip ds).map (·.2)) := by rw [hzip]; exact hc
      have hsz : Sortable ((vs.zip ds).map (·.2)) := by rw [hzip]; exact hs
      have em := each_map (R := fun v d => ∃ as, Reads (sortingHeap (copyHeap s.heap its) (s.heap.objs.size + 1) its) v d as) (fun b : V × PyData => b.2) e2'
      refine sorted_vals (κ := dataKind (sortingHeap (copyHeap s.heap its) (s.heap.objs.size + 1) its) ((vs.zip ds).map (·.2))) p'.isList (SortsAt.c (s := { s with heap := sortingHeap (copyHeap s.heap its) (s.heap.objs.size + 1) its }) em hcz hsz fun d hd => ?_) (by rw [← rvs.length]; exact hzl) ?_
      · rw [hzip] at hd
        have := hdep d hd
        show X.A.units + 1 + 1 + d.depth < cLine
        omega
      · have hk : EachIs (fun v (b : V × PyData) => (dataKind (sortingHeap (copyHeap s.heap its) (s.heap.objs.size + 1) its) ((vs.zip ds).map (·.2))).keyOf v = some (keyToks b.2)) its (vs.zip ds) :=
          (each_mem e2').mono fun _ b ⟨⟨_, r⟩, hb⟩ => dataKind_c hcz (List.mem_map.mpr ⟨b, hb, rfl⟩) r
        have eo := sortVals_each (κ := dataKind (sortingHeap (copyHeap s.heap its) (s.heap.objs.size + 1) its) ((vs.zip ds).map (·.2))) (rev := false) (fun b : V × PyData => keyToks b.2) e1 hk
        obtain ⟨o1, o2⟩ := each_rp eo
        have hms : ((vs.zip ds).mergeSort (dataLe false (fun b : V × PyData => b.2))).map (·.2) = sortL ds := by
          unfold sortL
          rw [List.map_mergeSort (r := dataLe false (fun b : V × PyData => b.2)) (s := dataLe false id) (f := (·.2)) (fun a _ b _ => rfl), hzip]
        have o2' : RpAll X.K H av (((vs.zip ds).mergeSort (dataLe false (fun b : V × PyData => b.2))).map (·.1)) (sortL ds) := hms ▸ o2
        obtain ⟨ep, he'⟩ := PyProof.Rows.sortedAll_at s.heap its (sortVals (dataKind (sortingHeap (copyHeap s.heap its) (s.heap.objs.size + 1) its) ((vs.zip ds).map (·.2))) false its its).toArray
        have hf : H (s.heap.objs.size + 1) = none := I.hok.fresh (Nat.le_succ _)
        refine ⟨.ref _, upd H (s.heap.objs.size + 1) (.lst _), I.laid (t' := s.toks) (fun _ _ => PyProof.Rows.sortedAll_old) (Nat.le_succ _) ⟨?_, _, ep, o1, he'⟩, rfl, q _ _ (same_new hf _) ⟨_, rfl, hf, _, upd_same, o2'.fresh hf (same_new hf _)⟩⟩
        have hl3 : (sortL ds).length = vs.length := by unfold sortL; rw [List.length_mergeSort, ← rp.length]
        exact Nat.le_trans (Nat.le_of_eq (o2'.length.trans hl3)) hzl
    · cases hz
  · cases hz
end Dl

set_option maxHeartbeats 1000000
namespace Dl
open PySem PySem.Spec PyProof.Rows L2
/-! ### list(d.keys()) -/
def tListKeys (te : TE) : TE := fun σ H Q => te σ H fun x H1 => ∃ d kvs, x = .ref d ∧ H1 d = some (.dK kvs) ∧ ∀ q, H1 q = none → Q (.ref q) (upd H1 q (.lst (kvs.map fun kv => kV kv.1)))
section
variable {X : Cx} {C : Cc} {O : List Nat} {e : Expr} {f : FE}
theorem pe_listKeys {te : TE} {p pos apos cpos : Pos} (hc : X.calm = true) (he : PE X e te) (hg : Gl X "list") (hm : X.mg "list" = none) (hbase : attributeBase e "keys" X.env (eval e X.env) = eval e X.env := by rfl) (hline : (apos.endLine == cpos.line) = true := by rfl)
    (hs : starEach [.Call (.Attribute e "keys" apos) [] [] cpos] X.env = (false, eval (.Call (.Attribute e "keys" apos) [] [] cpos) X.env) :: starEach [] X.env := by rfl) :
    PE X (.Call (.Name "list" p) [.Call (.Attribute e "keys" apos) [] [] cpos] [] pos) (tListKeys te) := by
  refine ⟨fun pins s σ H Q I hq => ?_⟩
  refine wpAny_Call_Name_kw (ld_blt I hg hm boot_list ?_)
  refine PyProof.Rows.callWith_type1 ?_ hs rfl
  rw [hs]
  show wpAny _ _ (spliced ((false, eval (.Call (.Attribute e "keys" apos) [] [] cpos) X.env) :: backTo pos (starEach [] X.env))) _ _ s
  refine Calls.spliced_cons ?_
  refine wpAny_Call_method (T := "dict") (id := "dict.keys") hbase rfl hline F.plainAttrs_dict F.slot_dict_keys F.type_dict_keys (thn (he.run pins s σ H _ I hq) fun u s1 ⟨x, H1, I1, rx, d, kvs, ex, hd, q⟩ => ?_)
  subst ex
  obtain rfl : u = Value.ref d := rx
  obtain ⟨hz, hs0, vs, kv, hdo⟩ := I1.hok d _ hd
  obtain ⟨ep, hat⟩ := hdo.dictAt
  have lk : kvs.length = vs.length := Paired.length kv
  have I2 : Inv X pins σ H1 { s1 with heap := s1.heap.push { cls := .type "dict_keys", data := .fields #[.ref d] } } := I1.kept (t' := s1.toks) fun b ob q => Heap.get?_push_of_some _ q
  refine ⟨hdo.typeIs, hdo.mapOf.noDict, ?_⟩
  show wpAny _ _ (callWith cpos (.builtin "dict.keys") [.ref d] [] []) _ X.xe s1
  refine method_meetsIn F.slot_dict_keys F.entry_dict_keys rfl (PySem.evalArgs_none ⟨rfl, hdo.typeIs, F.args_dict_keys_1 _, _, PySem.W.kdl_meets_keys (mixKind X.prog X.w) d hs0, ⟨vs, hdo⟩, ?_⟩)
  refine Calls.spliced_nil ?_
  refine PySem.W.kdl_call (PySem.W.kdl_keys (knd := mixKind X.prog X.w) (kvs := vs) (ep := ep)) (I1.ok.hd hc) ⟨⟨_, Heap.get?_push_size _ rfl, rfl, rfl⟩, hat.push _⟩ (by omega) fun h' tk acc' c' hkeep hS hacc => ?_
  refine ⟨.ref _, upd H1 _ (.lst (kvs.map fun kv => kV kv.1)), I2.laid hkeep (Nat.le_refl _) (show ObjOk X.prog X.w _ _ _ (.lst (kvs.map fun kv => kV kv.1)) from ⟨?_, acc'.toList, c', ?_, ?_⟩), rfl, q _ (I2.hok.fresh (Nat.le_refl _))⟩
  · rw [List.length_map]; exact hz
  · have el : acc'.toList.length = acc'.size := by simp
    refine vals_of_at (by rw [List.length_map, el, hacc.1, lk]) fun j x w h1 h2 => ?_
    obtain ⟨k, y, hky, hi⟩ := hacc.2 j w (by rw [← Array.getElem?_toList]; exact h2)
    have e1 : (kvs.map (·.1))[j]? = some k := by
      rw [KV.keys kv, List.getElem?_map, hky] <;> rfl
    have e2 : (kvs.map fun kv => kV kv.1)[j]? = some (kV k) := by
      have e3 : (kvs.map fun kv => kV kv.1) = (kvs.map (·.1)).map kV := by rw [List.map_map] <;> rfl
      rw [e3, List.getElem?_map, e1] <;> rfl
    rw [e2] at h1
    cases h1
    exact keyIs_rel hi
  · rw [Array.toArray_toList]; exact hS
def keysF (f : FE) : FE := fun δ => (f δ).bind fun d => match d with
  | .dict kds => .ok (.list (kds.map (·.1)))
  | _ => .bad
theorem df_listKeys {p pos apos cpos : Pos} (hc : X.calm = true) (he : DB X C O e f) (hg : Gl X "list") (hm : X.mg "list" = none) (hbase : attributeBase e "keys" X.env (eval e X.env) = eval e X.env := by rfl) (hline : (apos.endLine == cpos.line) = true := by rfl)
    (hs : starEach [.Call (.Attribute e "keys" apos) [] [] cpos] X.env = (false, eval (.Call (.Attribute e "keys" apos) [] [] cpos) X.env) :: starEach [] X.env := by rfl) :
    DF X C O (.Call (.Name "list" p) [.Call (.Attribute e "keys" apos) [] [] cpos] [] pos) (keysF f) := pe_imp (pe_listKeys hc he hg hm hbase hline hs) fun σ H Q ⟨B, δ, ad, r, k⟩ => by
  unfold keysF at k
  refine ⟨B, δ, ad, r, k.bind.imp (fun d _ q v H1 s1 z => ?_) fun _ _ z => z⟩
  cases d with
  | dict kds =>
    obtain ⟨p, kvs, rfl, hp, rp⟩ := Bw.dict z
    exact ⟨p, kvs, rfl, hp, fun l hl => q _ _ (s1.trans (same_new hl _)) ⟨l, rfl, s1.free hl, _, upd_same, keys_rp rp⟩⟩
  | _ => exact q.elim
end
end Dl

namespace Dl
open PySem PySem.Spec PyProof.Rows L2
/-! ### a call that borrows: an owned list handed in, a flat answer -/
def flatE : PyData → Bool
  | .none => true
  | .bool _ => true
  | .int _ => true
  | .str _ => true
  | _ => false
theorem Rp.flat {K : PySem.W.Frag} {H : Hp} {av av' : Addr → Prop} {v : V} {d : PyData} (h : Rp K H av v d) (f : flatE d = true) : Rp K H av' v d := by
  cases h with
  | non => exact .non
  | bl b => exact .bl b
  | int i => exact .int i
  | str x => exact .str x
  | lst _ _ _ => cases f
  | tup _ _ => cases f
  | dct _ _ _ => cases f
def callB (G : List PyData → R PyData) (fs : List FE) : FE := fun δ => (evs fs δ).bind fun ds => (G ds).bind fun d => if flatE d = true then .ok d else .bad
theorem lend {K : PySem.W.Frag} {H : Hp} {av : Addr → Prop} (ws : List V) {vs : List V} {ds : List PyData} (h : ∀ v ∈ vs, v ∈ ws) (b : BwAll K H av vs ds) : RpAll K H (fun a => av a ∧ V.ref a ∉ ws) vs ds := by
  unfold BwAll at b
  induction b with
  | nil => exact .nil
  | cons b t ih =>
    refine .cons ?_ (ih fun u hu => h u (List.mem_cons_of_mem _ hu))
    rcases b with b | ⟨a, rfl, o⟩
    · exact b.weak fun a z => z.1
    · exact o.rp (fun a z => z.1) fun z => z.2 (h _ List.mem_cons_self)
section
variable {X : Cx} {C : Cc} {O : List Nat} {k : Nat} {f : Addr} {fd : FuncData} {ps : List Str} {x : Str} {p pos : Pos} {e : Expr} {es : List Expr} {fs : List FE} {G : List PyData → R PyData} {ar : Nat}
theorem tcallB {K : PySem.W.Frag} {σ : L2.St} {H : Hp} {Q : VK} (har : fs.length = ar) (h : tX K C O (relE K) (callB G fs) σ H Q) : tCallS (spD K false ar G) (WE C.W) (tAllB K C O fs) σ H Q := by
  obtain ⟨B, δ, ad, r, k⟩ := h
  refine ⟨B, δ, ad, r, k.bind.imp (fun ds ed q vs H1 s1 z => ?_) fun _ _ z => z⟩
  refine ⟨ds, _, lend vs (fun v h => h) z, (evs_length ed).trans har, fun a h => (r.same s1).avdom a h.1, q.bind.imp (fun d _ q v H2 s2 z2 => ?_) fun c x q cls dd H2 s2 z2 => q cls dd H2 (s1.trans s2) z2⟩
  by_cases hf : flatE d = true
  · rw [if_pos hf] at q
    exact q v H2 (s1.trans s2) (Rp.flat (show Rp K H2 _ v d from z2) hf)
  · rw [if_neg hf] at q; exact q.elim
theorem de_callB (F : FnR X.prog X.w X.K X.mg X.base k f fd ps (spD X.K false ar G)) (hr : Rm k X.A) (hg : Gl X x) (hm : X.mg x = some (.ref f)) (hk : PySem.W.keepIn X.K (.ref f) = true) (hb : Binds X.K fd ps []) (tk : Takes X C.W)
    (ha : DAB X C O (e :: es) fs) (har : fs.length = ar := by rfl) (hdb : (x == ("__debug__" : Str)) = false := by decide) (he : starEach (e :: es) X.env = (false, eval e X.env) :: starEach es X.env := by rfl) (hpl : (backTo pos (starEach es X.env)).any (·.1) = false := by rfl) :
    DE X C O (.Call (.Name x p) (e :: es) [] pos) (callB G fs) := pe_imp (pe_callR F hr hg hm hk hb (fun σ => passAt tk σ) ha hdb he hpl) fun σ H Q h => tcallB har h
end
end Dl

namespace Dl
open PySem PySem.Spec PyProof.Rows L2

/-! ### raise -/
def raiseS (c : Str) : FS := fun δ => .err c none δ
section
variable {X : Cx} {C : Cc} {O O' : List Nat} {st : Stmt}
/-- raise C('..'), C an own class without an __init__ -/
theorem ds_raise {c : Str} (h : PS X st (fun _ σ H => C.W (.ref (He.ga X.K c)) none σ H)) (hOe : ∀ i ∈ C.Oe, i ∈ O := by exact fun _ h => nomatch h) : DS X C O O' st (raiseS c) :=
  ps_imp h fun D σ H ⟨B, δ, ad, r, k⟩ => k _ _ ad σ H (Stp.frz hOe) (r.freeze hOe) ⟨rfl, rfl⟩
def raiseI (c f : Str) (fe : FE) : FS := fun δ => exS fe (fun d => match d with | .int i => .err c (some (f, i)) δ | _ => .bad) δ
def tMkI (C : Addr) (f : Str) (ta : TA) : L2.St → Hp → XK → Prop := fun σ H Q => ta σ H fun vs H1 => ∃ v, vs = [v] ∧ ∀ d, H1 d = none → Q (.ref C) (some d) (upd H1 d (.xd [(f, v)]))
/-- raise C(e), C an own class whose __init__ keeps e -/
theorem ds_raiseI {c f : Str} {fe : FE} (h : PS X st (fun _ σ H => tMkI (He.ga X.K c) f (tCons (tX X.K C O (relE X.K) fe) tNil) σ H fun cls d H' => C.W cls d σ H')) (hOe : ∀ i ∈ C.Oe, i ∈ O := by exact fun _ h => nomatch h) : DS X C O O' st (raiseI c f fe) :=
  ps_imp h fun D σ H ⟨B, δ, ad, r, k⟩ => by
    refine ⟨B, δ, ad, r, ?_⟩
    unfold raiseI exS at k
    cases e : fe δ with
    | err c x => rw [e] at k; exact fun cls dd H' s z => k cls dd ad σ H' ((Stp.same s).trans (Stp.frz hOe)) ((r.same s).freeze hOe) z
    | bad => rw [e] at k; exact k
    | ok d =>
      rw [e] at k
      cases d with
      | int i =>
        intro v H' s z
        have ev := z.bw.int
        subst ev
        refine ⟨_, rfl, fun d hd => ?_⟩
        have s2 := s.trans (same_new hd (.xd [(f, .int i)]))
        exact k _ _ ad σ _ ((Stp.same s2).trans (Stp.frz hOe)) ((r.same s2).freeze hOe) ⟨rfl, d, rfl, upd_same⟩
      | _ => exact k.elim
end

/-! ### what a suite holds -/
theorem Er.same {K : PySem.W.Frag} {c : Str} {x : Option (Str × Int)} {cls : Value} {d : Option Addr} {H H' : Hp} (h : Er K c x cls d H) (s : Same H H') : Er K c x cls d H' := by
  refine ⟨h.1, ?_⟩
  cases x with
  | none => exact h.2
  | some p => obtain ⟨a, e, q⟩ := h.2; exact ⟨a, e, s _ _ q⟩
/-- slot e holds the exception at a -/
def Gd (K : PySem.W.Frag) (e : Nat) (a : Addr) (c : Str) (x : Option (Str × Int)) (cls : Value) (d : Option Addr) (σ : L2.St) (H : Hp) : Prop := σ[e]? = some (some (.ref a)) ∧ Er K c x cls d H
theorem Gd.same {K : PySem.W.Frag} {e : Nat} {a : Addr} {c : Str} {x : Option (Str × Int)} {cls : Value} {d : Option Addr} {σ : L2.St} {H H' : Hp} (g : Gd K e a c x cls d σ H) (s : Same H H') : Gd K e a c x cls d σ H' := ⟨g.1, g.2.same s⟩
abbrev G3 := L2.St → Hp → Prop
structure Gs (G : G3) : Prop where
  same : ∀ {σ H H'}, G σ H → Same H H' → G σ H'
def tXg (G : G3) (K : PySem.W.Frag) (C : Cc) (O : List Nat) (f : FE) : TE := fun σ H Q => G σ H ∧ tX K C O (relE K) f σ H Q
def tAg (G : G3) (K : PySem.W.Frag) (C : Cc) (O : List Nat) (fs : List FE) : TA := fun σ H Q => G σ H ∧ tAll K C O fs σ H Q
def tSg (G : G3) (K : PySem.W.Frag) (C : Cc) (O : List Nat) (g : FS) : TS := fun D σ H => G σ H ∧ ∃ B δ ad, Rl K C.n B O ad δ σ H ∧ match g δ with
  | .nx δ' => ∀ σ' H', Same H H' → G σ' H' → Rl K C.n B O ad δ' σ' H' → D.nx σ' H'
  | _ => False
section
variable {X : Cx} {G : G3} {C : Cc} {O : List Nat} {e : Expr} {es : List Expr} {f : FE} {fs : List FE} {pos : Pos} {st : Stmt} {sts : List Stmt}
theorem eg (h : DE X C O e f) : PE X e (tXg G X.K C O f) := pe_imp h fun σ H Q q => q.2
theorem ag_nil : PA X [] (tAg G X.K C O []) := pa_imp pa_nil fun σ H Q ⟨_, B, δ, ad, r, k⟩ => k [] H (Same.refl H) .nil
theorem ag_cons (hG : Gs G) (he : PE X e (tXg G X.K C O f)) (hr : PA X es (tAg G X.K C O fs)) (hs : starEach (e :: es) X.env = (false, eval e X.env) :: starEach es X.env := by rfl) : PA X (e :: es) (tAg G X.K C O (f :: fs)) := pa_imp (pa_cons he hr hs) fun σ H Q ⟨g, B, δ, ad, r, k⟩ => by
  unfold evs at k
  refine ⟨g, B, δ, ad, r, k.bind.imp (fun d _ q v H1 s1 z => ?_) fun _ _ z => z⟩
  refine ⟨hG.same g s1, B, δ, ad, r.same s1, q.bind.imp (fun ds _ q vs H2 s2 zs => ?_) fun c x z cls dd H2 s2 => z cls dd H2 (s1.trans s2)⟩
  exact q (v :: vs) H2 (s1.trans s2) (.cons (Rp.same s2 z) zs)
theorem eg_lst (h : PA X es (tAg G X.K C O fs)) (hl : decide (fs.length ≤ 1000) = true := by rfl) : PE X (.List es pos) (tXg G X.K C O (mkL fs)) := pe_imp (pe_lst h) fun σ H Q ⟨g, B, δ, ad, r, k⟩ => by
  refine ⟨g, B, δ, ad, r, k.bind.imp (fun ds e q vs H1 s1 zs => ?_) fun _ _ z => z⟩
  refine ⟨?_, fun p hp => q _ _ (s1.trans (same_new hp _)) (.lst (.inl upd_same) ((r.same s1).notAv hp) (zs.same (same_new hp _)))⟩
  rw [zs.length, evs_length e]
  exact Nat.le_of_lt (small1000 (of_decide_eq_true hl))
theorem eg_tup {x1 : Nat} (h : PA X es (tAg G X.K C O fs)) (hl : decide (fs.length ≤ 1000) = true := by rfl) : PE X (.Tuple es x1 pos) (tXg G X.K C O (mkT fs)) := pe_imp (pe_tup h) fun σ H Q ⟨g, B, δ, ad, r, k⟩ => by
  refine ⟨g, B, δ, ad, r, k.bind.imp (fun ds e q vs H1 s1 zs => ?_) fun _ _ z => z⟩
  refine ⟨?_, fun p hp => q _ _ (s1.trans (same_new hp _)) (.tup (SqT.of upd_same) (zs.same (same_new hp _)))⟩
  rw [zs.length, evs_length e]
  exact Nat.le_of_lt (small1000 (of_decide_eq_true hl))
theorem sg_set {i : Nat} (hG : Gs G) (hi2 : ∀ σ H v, G σ H → G (σ.set i v) H) (h : PS X st (tAsg (tXg G X.K C O f) (gName i))) (hi : i ∉ O := by decide) (hf : ∀ δ c x, f δ ≠ .err c x := by intro δ c x h; cases h) : PS X st (tSg G X.K C O (setS i f)) := ps_imp h fun D σ H ⟨g, B, δ, ad, r, k⟩ => by
  refine ⟨g, B, δ, ad, r, ?_⟩
  unfold setS exS at k
  cases e : f δ with
  | ok d => simp only [e] at k; exact fun v H' s z => k _ H' s (hi2 _ _ _ (hG.same g s)) ((r.same s).set hi z)
  | err c x => exact absurd e (hf _ _ _)
  | bad => simp only [e] at k
theorem ssg_one {g : FS} (h : PS X st (tSg G X.K C O g)) : PSs X [st] (tSg G X.K C O g) := pss_one h
theorem ssg_cons {g h : FS} (h1 : PS X st (tSg G X.K C O g)) (h2 : PSs X sts (tSg G X.K C O h)) : PSs X (st :: sts) (tSg G X.K C O (sq g h)) := pss_imp (pss_cons h1 h2) fun D σ H ⟨q, B, δ, ad, r, k⟩ => by
  refine ⟨q, B, δ, ad, r, ?_⟩
  unfold sq at k
  cases e : g δ with
  | nx δ1 =>
    simp only [e] at k
    refine fun σ1 H1 s1 q1 r1 => ⟨q1, B, δ1, ad, r1, ?_⟩
    cases e2 : h δ1 with
    | nx δ2 => simp only [e2] at k; exact fun σ2 H2 s2 q2 r2 => k σ2 H2 (s1.trans s2) q2 r2
    | rt d => simp only [e2] at k
    | bk d => simp only [e2] at k
    | ct d => simp only [e2] at k
    | err c x d => simp only [e2] at k
    | bad => simp only [e2] at k
  | rt d => simp only [e] at k
  | bk d => simp only [e] at k
  | ct d => simp only [e] at k
  | err c x d => simp only [e] at k
  | bad => simp only [e] at k
end

/-! ### isinstance of what a suite holds -/
structure ExC (K : PySem.W.Frag) (D : Addr) : Prop where
  hc : (PySem.W.clsIn K D).isSome = true
  hg : PySem.W.findIn K (.ref D) "__getattribute__" = some (some (.builtin "BaseException.__getattribute__"))
  hk : PySem.W.findIn K (.ref D) "__getattr__" = some none
  hs : PySem.W.subIn K (.ref D) (.type "BaseException") = some true
  ha : PySem.W.findIn K (.ref D) "__class__" = some (some (.builtin "object.__class__"))
  hn : PySem.W.specialIn K (.builtin "object.__class__") "__get__" = some (some (.builtin "getset_descriptor.__get__"))
  ht : PySem.W.takesIn K (.builtin "object.__class__") = some true
  hm : PySem.W.mroIn K D (.type "object") = some true
def exCB (K : PySem.W.Frag) (D : Addr) : Bool := (PySem.W.clsIn K D).isSome && (He.eqO (PySem.W.findIn K (.ref D) "__getattribute__") (some (some (.builtin "BaseException.__getattribute__"))) && (He.eqO (PySem.W.findIn K (.ref D) "__getattr__") (some none) &&
  (decide (PySem.W.subIn K (.ref D) (.type "BaseException") = some true) && (He.eqO (PySem.W.findIn K (.ref D) "__class__") (some (some (.builtin "object.__class__"))) && (He.eqO (PySem.W.specialIn K (.builtin "object.__class__") "__get__") (some (some (.builtin "getset_descriptor.__get__"))) &&
  (decide (PySem.W.takesIn K (.builtin "object.__class__") = some true) && decide (PySem.W.mroIn K D (.type "object") = some true)))))))
theorem exCB_ok {K : PySem.W.Frag} {D : Addr} (h : exCB K D = true) : ExC K D := by
  obtain ⟨h1, h⟩ := He.ba h
  obtain ⟨h2, h⟩ := He.ba h
  obtain ⟨h3, h⟩ := He.ba h
  obtain ⟨h4, h⟩ := He.ba h
  obtain ⟨h5, h⟩ := He.ba h
  obtain ⟨h6, h⟩ := He.ba h
  obtain ⟨h7, h8⟩ := He.ba h
  exact ⟨h1, He.eqO_ok h2, He.eqO_ok h3, of_decide_eq_true h4, He.eqO_ok h5, He.eqO_ok h6, of_decide_eq_true h7, of_decide_eq_true h8⟩
section
variable {X : Cx} {a D : Addr} {oe : Obj} {pn : List (Addr × Obj)} {cls : Value} {d : Option Addr}
theorem inst_of {pins : List (Addr × Obj)} {s : Shared} {σ : L2.St} {H : Hp} {x : Option (Str × Int)} {c : Str} (I : Inv (X.suite a ((a, oe) :: pn)) pins σ H s) (hz : Zc cls d oe) (hf : ∃ vs, oe.data = .fields vs) (he : Er X.K c x cls d H) : ∃ od, PySem.W.InstAt s.heap a oe (He.ga X.K c) od := by
  obtain ⟨ha, _⟩ := I.pin (a, oe) (List.mem_append_left _ List.mem_cons_self)
  obtain ⟨vs, hd⟩ := hf
  obtain ⟨hc, hx⟩ := he
  have nc : PySem.W.notCls oe = true := by unfold PySem.W.notCls; rw [hd] <;> rfl
  cases x with
  | none =>
    have hx' : d = none := hx
    exact ⟨none, ha, by rw [hz.1, hc], nc, by rw [hz.2, hx']; trivial⟩
  | some p =>
    obtain ⟨dd, e, q⟩ := hx
    obtain ⟨mA, hns, hr⟩ := (show ObjOk X.prog X.w H s.heap dd (.xd _) from I.hok dd _ q)
    obtain ⟨od, ho, hl⟩ := lookIn_ns hns
    exact ⟨some od, ha, by rw [hz.1, hc], nc, by rw [hz.2, e]; exact ho⟩
def rIsX (K : PySem.W.Frag) (c : Str) (x : Option (Str × Int)) (cls : Value) (d : Option Addr) (a : Addr) : List V → Hp → VK → Prop := fun xs H Q => Er K c x cls d H ∧
  ((∃ (t : V) (cv : Value) (b : Bool), xs = [.ref a, t] ∧ ClsV t cv ∧ PySem.W.kitOne K (.ref (He.ga K c)) cv = some b ∧ Q (.bl b) H) ∨
   (∃ (tp : Addr) (cs : List V) (us : List Value) (b : Bool), xs = [.ref a, .ref tp] ∧ H tp = some (.tup cs) ∧ Paired ClsV cs us ∧ PySem.W.kitAny K (.ref (He.ga K c)) us = some b ∧ Q (.bl b) H))
theorem call_isX {c : Str} {x : Option (Str × Int)} (C : ExC X.K (He.ga X.K c)) (hz : Zc cls d oe) (hf : ∃ vs, oe.data = .fields vs) : CallR (X.suite a ((a, oe) :: pn)) (.builtin "isinstance") (rIsX X.K c x cls d a) := by
  intro pins s σ H xs us Q I r h
  obtain ⟨he, h⟩ := h
  obtain ⟨od, J⟩ := inst_of I hz hf he
  have Z := PySem.W.kitx_exc (x := a) (ox := oe) (od := od) C.hc C.hg C.hk C.hs C.ha C.hn C.ht C.hm
  rcases h with ⟨t, cv, b, rfl, k, e, q⟩ | ⟨tp, cs, ws, b, rfl, hT, k, e, q⟩
  · obtain ⟨u1, u2, rfl, r1, r2⟩ := vals2 r
    have e2 := k.eq r2
    subst e2
    cases (show u1 = Value.ref a from r1)
    exact PySem.W.kia_one Z I.kIn J e (fun z => nomatch z) fun tk => ⟨.bl b, H, I.tok tk, rfl, q⟩
  · obtain ⟨u1, u2, rfl, r1, r2⟩ := vals2 r
    cases (show u1 = Value.ref a from r1)
    cases (show u2 = Value.ref tp from r2)
    obtain ⟨_, its, rv, o, h1, h2, n, h3⟩ := (show ObjOk X.prog X.w H s.heap tp (.tup cs) from I.hok tp _ hT)
    have e3 := ClsV.all k rv
    subst e3
    obtain ⟨oc, odd, odt, osl⟩ := o
    dsimp only at h2 h3
    subst h2 h3
    exact PySem.W.kia_tup Z I.kIn J h1 e (fun z => nomatch z) fun tk => ⟨.bl b, H, I.tok tk, rfl, q⟩
end
def tCs : List V → TA
  | [] => tNil
  | v :: vs => tCons (tC v) (tCs vs)
theorem tCs_ok {vs : List V} {σ : L2.St} {H : Hp} {Q : List V → Hp → Prop} (h : Q vs H) : tCs vs σ H Q := by
  induction vs generalizing Q with
  | nil => exact h
  | cons v vs ih => exact ih (Q := fun xs H2 => Q (v :: xs) H2) h
section
variable {X : Cx} {K : PySem.W.Frag} {C : Cc} {O : List Nat} {ex : Expr} {e : Nat} {a : Addr} {c : Str} {x : Option (Str × Int)} {cls : Value} {d : Option Addr}
theorem eg_isi {t : V} {cv : Value} {b : Bool} (h : PE X ex (tCB (rIsX X.K c x cls d a) (tCons (tVar e) (tCons (tC t) tNil)))) (hk : ClsV t cv) (hb : PySem.W.kitOne X.K (.ref (He.ga X.K c)) cv = some b) : PE X ex (tXg (Gd X.K e a c x cls d) X.K C O (cst (.bool b))) := pe_imp h fun σ H Q ⟨g, B, δ, ad, r, k⟩ =>
  ⟨_, g.1, g.2, .inl ⟨t, cv, b, rfl, hk, hb, k _ H (Same.refl H) (.bl b)⟩⟩
theorem eg_isiT {vs : List V} {us : List Value} {b : Bool} (h : PE X ex (tCB (rIsX X.K c x cls d a) (tCons (tVar e) (tCons (tTup (tCs vs)) tNil)))) (hk : Paired ClsV vs us) (hb : PySem.W.kitAny X.K (.ref (He.ga X.K c)) us = some b) (hl : decide (vs.length ≤ 1000) = true := by rfl) : PE X ex (tXg (Gd X.K e a c x cls d) X.K C O (cst (.bool b))) := pe_imp h fun σ H Q ⟨g, B, δ, ad, r, k⟩ =>
  ⟨_, g.1, tCs_ok ⟨Nat.le_of_lt (small1000 (of_decide_eq_true hl)), fun p hp => ⟨g.2.same (same_new hp _), .inr ⟨p, vs, us, b, rfl, upd_same, hk, hb, k _ _ (same_new hp _) (.bl b)⟩⟩⟩⟩
def fldF (x : Option (Str × Int)) : FE := fun _ => match x with
  | some p => .ok (.int p.2)
  | none => .bad
def tFld (K : PySem.W.Frag) (c f : Str) (a : Addr) (cls : Value) (d : Option Addr) (te : TE) : TE := fun σ H Q => te σ H fun y H1 => y = .ref a ∧ cls = .ref (He.ga K c) ∧ ∃ (dd : Addr) (v : V), d = some dd ∧ H1 dd = some (.xd [(f, v)]) ∧ Q v H1
theorem eg_fld {f : Str} (h : PE X ex (tFld X.K c f a cls d (tVar e))) (hx : ∀ p, x = some p → p.1 = f) : PE X ex (tXg (Gd X.K e a c x cls d) X.K C O (fldF x)) := pe_imp h fun σ H Q ⟨g, B, δ, ad, r, k⟩ => by
  cases x with
  | none => exact k.elim
  | some p =>
    obtain ⟨g1, g2, dd, g3, g4⟩ := g
    have := hx p rfl
    obtain ⟨f', i⟩ := p
    dsimp only at this
    subst this
    exact ⟨_, g1, rfl, g2, dd, .int i, g3, g4, k _ H (Same.refl H) (.int i)⟩
theorem gs_gd : Gs (Gd K e a c x cls d) := ⟨fun g s => g.same s⟩
theorem gd_set {i : Nat} (hi : i ≠ e) (σ : L2.St) (H : Hp) (v : Option V) (g : Gd K e a c x cls d σ H) : Gd K e a c x cls d (σ.set i v) H := ⟨by rw [List.getElem?_set_ne hi]; exact g.1, g.2⟩
end

/-! ### try .. except C as e -/
def fin1 (i : Nat) : SR → SR
  | .nx δ => .nx (δ.set i none)
  | _ => .bad
def tryS (c : Str) (f : Option Str) (i : Nat) (g : FS) (h : Option (Str × Int) → FS) : FS := fun δ => match g δ with
  | .nx δ' => .nx δ'
  | .rt d => .rt d
  | .err c' x δ' => if c' = c ∧ x.map (·.1) = f then fin1 i (h x (δ'.set i none)) else .bad
  | _ => .bad
theorem Rl.hold {K : PySem.W.Frag} {n : Nat} {B : Bs} {O : List Nat} {ad : Nat → Addr} {δ : Ev} {σ : L2.St} {H : Hp} {i : Nat} {v : Option V} (r : Rl K n B O ad δ σ H) (hi : i ∉ O) : Rl K n B O ad (δ.set i none) (σ.set i v) H where
  len := by rw [List.length_set, List.length_set]; exact r.len
  lenN := by rw [List.length_set]; exact r.lenN
  inj := r.inj
  new := r.new
  fro := fun j e hj q => by
    by_cases hij : i = j
    · subst hij
      by_cases hl : i < δ.length
      · rw [List.getElem?_set_self hl] at q; cases q
      · rw [List.getElem?_eq_none (by simpa using hl)] at q; cases q
    · rw [List.getElem?_set_ne hij] at q ⊢
      exact r.fro j e hj q
  own := fun j hj => by
    have hij : i ≠ j := fun z => hi (z ▸ hj)
    obtain ⟨d', h1, h2, o⟩ := r.own j hj
    exact ⟨d', by rw [List.getElem?_set_ne hij]; exact h1, by rw [List.getElem?_set_ne hij]; exact h2, o⟩
  keep := r.keep
  dom := r.dom
section
variable {X : Cx} {C : Cc} {O O' Oh : List Nat} {st : Stmt} {g : FS} {h : Option (Str × Int) → FS} {c : Str} {f : Option Str} {i : Nat}
abbrev cTry (C : Cc) (Oh : List Nat) (W : WX) : Cc := { C with Oe := Oh, W := W, Ol := [] }
def tHn (K : PySem.W.Frag) (C : Cc) (Oh : List Nat) (i : Nat) (c : Str) (f : Option Str) (h : Option (Str × Int) → FS) : Addr → Value → Option Addr → TS := fun a cls d D σ H => ∃ x, x.map (·.1) = f ∧ tSg (Gd K i a c x cls d) K C Oh (h x) D σ H
theorem ds_tryAs (hp : PS X st (fun D σ H => tS X.K (cTry C Oh (wAs X.K (.ref (He.ga X.K c)) i (tHn X.K C Oh i c f h) C.W D)) O O' g D σ H)) (hm : PySem.W.exmOne X.K (.ref (He.ga X.K c)) (.ref (He.ga X.K c)) = some true)
    (hi : i < C.n := by exact Nat.le_of_ble_eq_true rfl) (ho : i ∉ Oh := by decide) (hs : ∀ j ∈ O', j ∈ Oh := by decide) : DS X C O O' st (tryS c f i g h) := ps_imp hp fun D σ H ⟨B, δ, ad, r, k⟩ => by
  refine ⟨B, δ, ad, r, ?_⟩
  unfold tryS at k
  cases e : g δ with
  | nx δ' => rw [e] at k; exact k
  | rt d => rw [e] at k; exact k
  | bk δ' => rw [e] at k; exact k.elim
  | ct δ' => rw [e] at k; exact k.elim
  | bad => rw [e] at k; exact k.elim
  | err c' x δ' =>
    rw [e] at k
    by_cases hc : c' = c ∧ x.map (·.1) = f
    · simp only [if_pos hc] at k
      obtain ⟨rfl, hx⟩ := hc
      intro cls dd ad' σ' H' s' r' z
      refine ⟨true, by rw [z.1]; exact hm, fun _ a ha => ?_, fun q => by cases q⟩
      have hl : i < σ'.length := by rw [r'.len, r'.lenN]; exact hi
      refine ⟨x, hx, ⟨List.getElem?_set_self hl, z⟩, B, δ'.set i none, ad', r'.hold ho, ?_⟩
      cases e2 : h x (δ'.set i none) with
      | nx δ2 =>
        rw [e2] at k
        intro σ2 H2 s2 _ r2
        exact k ad' _ H2 ((s'.trans (Stp.same s2)).trans (Stp.frz hs)) ((r2.hold ho).freeze hs)
      | rt d => rw [e2] at k; exact k.elim
      | bk d => rw [e2] at k; exact k.elim
      | ct d => rw [e2] at k; exact k.elim
      | err c x d => rw [e2] at k; exact k.elim
      | bad => rw [e2] at k; exact k.elim
    · simp only [if_neg hc] at k; exact k.elim
/-! ### try .. except C -/
def tryO (c : Str) (g h : FS) : FS := fun δ => match g δ with
  | .nx δ' => .nx δ'
  | .rt d => .rt d
  | .err c' _ δ' => if c' = c then (match h δ' with | .nx δ2 => .nx δ2 | .rt d => .rt d | _ => .bad) else .bad
  | _ => .bad
theorem ds_tryOnly {h : FS} (hp : PS X st (fun D σ H => tS X.K (cTry C Oh (wOnly X.K (.ref (He.ga X.K c)) (fun _ _ _ => tS X.K (noW C) Oh O' h) C.W D)) O O' g D σ H)) (hm : PySem.W.exmOne X.K (.ref (He.ga X.K c)) (.ref (He.ga X.K c)) = some true) :
    DS X C O O' st (tryO c g h) := ps_imp hp fun D σ H ⟨B, δ, ad, r, k⟩ => by
  refine ⟨B, δ, ad, r, ?_⟩
  unfold tryO at k
  cases e : g δ with
  | nx δ' => rw [e] at k; exact k
  | rt d => rw [e] at k; exact k
  | bk δ' => rw [e] at k; exact k.elim
  | ct δ' => rw [e] at k; exact k.elim
  | bad => rw [e] at k; exact k.elim
  | err c' x δ' =>
    rw [e] at k
    by_cases hc : c' = c
    · simp only [if_pos hc] at k
      subst hc
      intro cls dd ad' σ' H' s' r' z
      refine ⟨true, by rw [z.1]; exact hm, fun _ a ha => ⟨B, δ', ad', r', ?_⟩, fun q => by cases q⟩
      cases e2 : h δ' with
      | nx δ2 => simp only [e2] at k; exact fun ad2 σ2 H2 s2 r2 => k ad2 σ2 H2 (s'.trans s2) r2
      | rt d => simp only [e2] at k; exact k
      | bk d => simp only [e2] at k; exact k.elim
      | ct d => simp only [e2] at k; exact k.elim
      | err c x d => simp only [e2] at k; exact k.elim
      | bad => simp only [e2] at k; exact k.elim
    · simp only [if_neg hc] at k; exact k.elim
end
end Dl
namespace Dl
open PySem PySem.Spec PyProof.Rows L2
/-! ### an own error's class, found by a check -/
def clsB (K : PySem.W.Frag) (C : Addr) : Bool := match K.lookup C with
  | some ⟨.type "type", _, .cls cd, sl⟩ => (match cd.mro, sl.toList with
    | .ref C' :: bm, [_, _, _, _, some (.builtin n), _] => C' == C && (n == "ValueError.__new__" && (!cd.hasDel && (cd.hasDict && PySem.HandSPX.refsVE bm)))
    | _, _ => false)
  | _ => false
theorem clsB_ok {K : PySem.W.Frag} {C : Addr} (h : clsB K C = true) : ∃ nm q N bs bm sn sub ab col dd k0 k1 k2 k3 k5, K.lookup C = some (PySem.excClassObj nm q C N bs bm true sn sub ab col dd k0 k1 k2 k3 k5 "ValueError.__new__") ∧ PySem.HandSPX.refsVE bm = true := by
  unfold clsB at h
  split at h
  · rename_i dd cd sl ho
    split at h
    · rename_i C' bm k0 k1 k2 k3 n k5 hm hs
      simp only [Bool.and_eq_true, beq_iff_eq, Bool.not_eq_true'] at h
      obtain ⟨rfl, rfl, h3, h4, h5⟩ := h
      obtain ⟨c1, c2, c3, c4, c5, c6, c7, c8, c9, c10, c11⟩ := cd
      dsimp only at hm h3 h4
      subst hm h3 h4
      have hsl : sl = #[k0, k1, k2, k3, some (.builtin "ValueError.__new__"), k5] := by
        rw [← Array.toArray_toList (xs := sl), hs]
      subst hsl
      exact ⟨_, _, _, _, _, _, _, _, _, _, _, _, _, _, _, ho, h5⟩
    · cases h
  · cases h
end Dl

namespace Dl
open PySem PySem.Spec PyProof.Rows L2
/-! ### what raises nothing -/
def NE (f : FE) : Prop := ∀ δ c x, f δ ≠ .err c x
theorem ne_cst {d : PyData} : NE (cst d) := fun δ c x h => by cases h
theorem ne_vr {i : Nat} : NE (vr i) := fun δ c x h => by
  unfold vr at h
  split at h <;> cases h
theorem ne_fld {y : Option (Str × Int)} : NE (fldF y) := fun δ c x h => by
  unfold fldF at h
  split at h <;> cases h
def NEs (fs : List FE) : Prop := ∀ δ c x, evs fs δ ≠ .err c x
theorem nes_nil : NEs [] := fun δ c x h => by cases h
theorem nes_cons {f : FE} {fs : List FE} (h : NE f) (hs : NEs fs) : NEs (f :: fs) := fun δ c x e => by
  unfold evs at e
  cases q : f δ with
  | ok d =>
    rw [q] at e
    cases q2 : evs fs δ with
    | ok ds => simp only [R.bind, q2] at e; cases e
    | err c x => exact hs _ _ _ q2
    | bad => simp only [R.bind, q2] at e; cases e
  | err c x => exact h _ _ _ q
  | bad => rw [q] at e; cases e
theorem ne_mkL {fs : List FE} (h : NEs fs) : NE (mkL fs) := fun δ c x e => by
  unfold mkL at e
  cases q : evs fs δ with
  | ok ds => rw [q] at e; cases e
  | err c x => exact h _ _ _ q
  | bad => rw [q] at e; cases e
theorem ne_mkT {fs : List FE} (h : NEs fs) : NE (mkT fs) := fun δ c x e => by
  unfold mkT at e
  cases q : evs fs δ with
  | ok ds => rw [q] at e; cases e
  | err c x => exact h _ _ _ q
  | bad => rw [q] at e; cases e
theorem hn_of {X : Cx} {sts : List Stmt} {C : Cc} {Oh : List Nat} {i : Nat} {c : Str} {f : Option Str} {h : Option (Str × Int) → FS} {a : Addr} {cls : Value} {d : Option Addr} (H : ∀ x : Option (Str × Int), x.map (·.1) = f → PSs X sts (tSg (Gd X.K i a c x cls d) X.K C Oh (h x))) : PSs X sts (tHn X.K C Oh i c f h a cls d) :=
  ⟨fun pins s σ H0 D I ⟨x, hx, q⟩ => (H x hx).run pins s σ H0 D I q⟩
theorem fst_of {x : Option (Str × Int)} {f : Str} (h : x.map (·.1) = some f) : ∀ p, x = some p → p.1 = f := fun p e => by
  subst e
  exact Option.some.inj h
/-- the def within a class -/
def mth (s : Stmt) : Stmt := match s with
  | .ClassDef (body := b) .. => b.headD (.Pass ⟨0, 0, 0, 0⟩)
  | s => s
/-! ### xs.extend(f(xs.pop())) -/
def extPopS (i : Nat) (G : List PyData → R PyData) : FS := fun δ => match slotL i δ with
  | some ds => (match ds.getLast? with
    | some d => (match G [d] with
      | .ok (.list es) => if ds.length + es.length ≤ sizeLine then .nx (δ.set i (some (.list (ds.dropLast ++ es)))) else .bad
      | .err c x => .err c x (δ.set i (some (.list ds.dropLast)))
      | _ => .bad)
    | none => .bad)
  | none => .bad
section
variable {X : Cx} {C : Cc} {O : List Nat} {st : Stmt} {i : Nat} {G : List PyData → R PyData}
theorem ds_extPop (h : PS X st (tDrop (tBM X.K "list" rExtend (tVar i) (tCons (tCallS (spD X.K true 1 G) (WE C.W) (tCons (tBM0 X.K "list" rPop (tVar i)) tNil)) tNil)))) (hi : i ∈ O := by decide) (hOe : ∀ i ∈ C.Oe, i ∈ O := by exact fun _ h => nomatch h) : DS X C O O st (extPopS i G) := ps_imp h fun D σ H ⟨B, δ, ad, r, k⟩ => by
  unfold extPopS at k
  cases e : slotL i δ with
  | none => rw [e] at k; exact k.elim
  | some ds =>
    rw [e] at k
    obtain ⟨h1, vs, h2, h3⟩ := slotL_own r hi e
    cases el : ds.getLast? with
    | none => simp only [el] at k; exact k.elim
    | some d =>
      simp only [el] at k
      refine ⟨_, h1, .inl ⟨rfl, vs, .inl (.inl h2)⟩, ?_⟩
      have hx : ds[ds.length - 1]? = some d := by rw [← List.getLast?_eq_getElem?]; exact el
      obtain ⟨v, hv, rv⟩ := h3.get' hx
      have rd := h3.dropLast
      obtain ⟨g1, g2⟩ := r.relist hi rd
      refine ⟨_, h1, .inl ⟨rfl, vs, .inl (.inl h2)⟩, ⟨ad i, vs, v, rfl, rfl, h2, by rw [h3.length]; exact hv, ?_⟩⟩
      refine ⟨[d], avO B O ad, .cons (rv.mono g2.kp fun _ _ n => n) .nil, rfl, g1.avdom, ?_⟩
      cases eG : G [d] with
      | bad => simp only [eG] at k; exact k.elim
      | err c x => simp only [eG] at k; exact fun cls dd H' s z => k cls dd ad σ H' ((g2.trans (Stp.same s)).trans (Stp.frz hOe)) ((g1.same s).freeze hOe) z
      | ok z =>
        cases z with
        | list es =>
          simp only [eG] at k
          rintro w H' s ⟨p, rfl, hp, ws, hw, rw'⟩
          by_cases hl : ds.length + es.length ≤ sizeLine
          · rw [if_pos hl] at k
            have rs := g1.same s
            have ra : RpAll X.K H' (avO B O ad) (vs.dropLast ++ ws) (ds.dropLast ++ es) := ((rd.mono g2.kp fun _ _ n => n).same s).append (rw'.weak fun a z => .inl z)
            obtain ⟨q1, q2⟩ := rs.relist hi ra
            rw [List.set_set] at q1
            refine ⟨ad i, p, vs.dropLast, ws, rfl, rfl, s _ _ upd_same, hw, ?_, k ad σ _ ((g2.trans (Stp.same s)).trans q2) q1⟩
            have q3 := rd.length
            have q4 := rw'.length
            have q5 : ds.dropLast.length ≤ ds.length := by simp
            omega
          · rw [if_neg hl] at k; exact k.elim
        | _ => simp only [eG] at k; exact k.elim
end
/-! ### for c in a text -/
def chL (x : Str) : List PyData := x.cps.toList.map fun c => .str ⟨#[c]⟩
def itS (f : FE) : FI := fun δ => (f δ).bind fun d => match d with
  | .str x => .ok (chL x)
  | _ => .bad
theorem ItD.str {K : PySem.W.Frag} {ok : OkH} {x : Str} : ItD K ok (Its x) (chL x) := fun H' av' o => by
  have hl : (chL x).length = x.cps.size := by simp [chL]
  refine ⟨fun i hi => by rw [hl] at hi; exact hi, by rw [hl]; exact Nat.le_refl _, fun i v H'' hi y => ?_⟩
  obtain ⟨rfl, c, hc, rfl⟩ := y
  refine ⟨Same.refl _, .str ⟨#[c]⟩, ?_, .str _⟩
  rw [chL, List.getElem?_map, Array.getElem?_toList, hc]; rfl
section
variable {X : Cx} {C : Cc} {O : List Nat} {tg e : Expr} {f : FE}
theorem dx_str {ok : (Addr → Prop) → Hp → OkH} (h : DB X C O e f) : PI X tg e (tI ok X.K C O (itS f)) := pi_imp (pi_str h) fun σ H Q ⟨B, δ, ad, r, k⟩ => by
  refine ⟨B, δ, ad, r, k.bind.imp (fun d _ q v H1 s1 z => ?_) fun _ _ z => z⟩
  cases d with
  | str x => exact ⟨x, z.str, q _ H1 s1 ItD.str⟩
  | _ => exact q.elim
theorem di_str (h : DB X C O e f) : DI X C O tg e (itS f) := dx_str h
theorem dc_str (h : DB X C O e f) : DC X C O tg e (itS f) := dx_str h
end
theorem boot_ValueError : bootBuiltins "ValueError" = some (.type "ValueError") := by decide +kernel
end Dl

set_option maxHeartbeats 1000000
namespace Dl
open PySem PySem.Spec L2

/-! ### list(range(..)) -/
section
variable {X : Cx} {C : Cc} {O : List Nat} {a b : Expr} {fa fb : FE}
def lrgF (f : FE) : FE := fun δ => (f δ).bind fun d => match d with
  | .int n => if -(2 ^ 62) ≤ n ∧ n ≤ 2 ^ 24 then .ok (.list (rangeL 0 n.toNat)) else .bad
  | _ => .bad
def lrgG (f g : FE) : FE := fun δ => (f δ).bind fun d => (g δ).bind fun e => match d, e with
  | .int m, .int n => if (-(2 ^ 62) ≤ m ∧ m < 2 ^ 62) ∧ (-(2 ^ 62) ≤ n ∧ n < 2 ^ 62) ∧ n - m ≤ 2 ^ 24 then .ok (.list (rangeL m (n - m).toNat)) else .bad
  | _, _ => .bad
theorem rp_ints {K : PySem.W.Frag} {H : Hp} {av : Addr → Prop} (m : Int) : ∀ n : List Nat, RpAll K H av (n.map fun i => V.int (m + (i : Nat))) (n.map fun i => PyData.int (m + (i : Nat)))
  | [] => .nil
  | i :: n => .cons (.int _) (rp_ints m n)
theorem df_listRg1 {p p2 pos pos2 : Pos} (hc : X.calm = true) (hg : Gl X "list") (hm : X.mg "list" = none) (hg2 : Gl X "range") (hm2 : X.mg "range" = none) (ha : DB X C O a fa)
    (hs : starEach [a] X.env = (false, eval a X.env) :: starEach [] X.env := by rfl)
    (hs2 : starEach [.Call (.Name "range" p2) [a] [] pos2] X.env = (false, eval (.Call (.Name "range" p2) [a] [] pos2) X.env) :: starEach [] X.env := by rfl) :
    DF X C O (.Call (.Name "list" p) [.Call (.Name "range" p2) [a] [] pos2] [] pos) (lrgF fa) := pe_imp (pe_listRg hc hg hm (prg_1 hg2 hm2 ha hs) hs2) fun σ H Q ⟨B, δ, ad, r, k⟩ => by
  unfold lrgF at k
  refine ⟨B, δ, ad, r, k.bind.imp (fun d _ q v H1 s1 z => ?_) fun _ _ z => z⟩
  cases d with
  | int n =>
    by_cases hn : -(2 ^ 62) ≤ n ∧ n ≤ 2 ^ 24
    · simp only [if_pos hn] at q
      have e := z.int
      subst e
      refine ⟨n, rfl, ⟨by omega, by omega, by omega, by omega, by omega⟩, fun p hp => q _ _ (s1.trans (same_new hp _)) ⟨p, rfl, s1.free hp, _, upd_same, ?_⟩⟩
      unfold rgV rangeL
      rw [Int.sub_zero]
      exact rp_ints 0 _
    · simp only [if_neg hn] at q; exact q.elim
  | _ => exact q.elim
theorem df_listRg2 {p p2 pos pos2 : Pos} (hc : X.calm = true) (hg : Gl X "list") (hm : X.mg "list" = none) (hg2 : Gl X "range") (hm2 : X.mg "range" = none) (ha : DB X C O a fa) (hb : DB X C O b fb)
    (hs : starEach [a, b] X.env = (false, eval a X.env) :: starEach [b] X.env := by rfl)
    (hs1 : starEach [b] X.env = (false, eval b X.env) :: starEach [] X.env := by rfl)
    (hs3 : ((backTo pos2 (starEach [b] X.env)).any fun x => x.fst) = false := by rfl)
    (hs2 : starEach [.Call (.Name "range" p2) [a, b] [] pos2] X.env = (false, eval (.Call (.Name "range" p2) [a, b] [] pos2) X.env) :: starEach [] X.env := by rfl) :
    DF X C O (.Call (.Name "list" p) [.Call (.Name "range" p2) [a, b] [] pos2] [] pos) (lrgG fa fb) := pe_imp (pe_listRg hc hg hm (prg_2 hg2 hm2 ha hb hs hs1 hs3) hs2) fun σ H Q h => by
  refine two (RR := fun x y H2 => ∃ i j, x = V.int i ∧ y = V.int j ∧ RgOk i j ∧ ∀ q, H2 q = none → Q (.ref q) (upd H2 q (.lst (rgV i j)))) h fun B ad δ x y d e H1 H2 r s1 s2 r1 r2 q => ?_
  cases d with
  | int m =>
    cases e with
    | int n =>
      by_cases hn : (-(2 ^ 62) ≤ m ∧ m < 2 ^ 62) ∧ (-(2 ^ 62) ≤ n ∧ n < 2 ^ 62) ∧ n - m ≤ 2 ^ 24
      · simp only [if_pos hn] at q
        have e1 := Bw.int r1
        have e2 := Bw.int r2
        subst e1
        subst e2
        refine ⟨m, n, rfl, rfl, ⟨by omega, by omega, by omega, by omega, by omega⟩, fun p hp => q _ _ ((s1.trans s2).trans (same_new hp _)) ⟨p, rfl, (s1.trans s2).free hp, _, upd_same, ?_⟩⟩
        unfold rgV rangeL
        exact rp_ints m _
      · simp only [if_neg hn] at q; exact q.elim
    | _ => exact q.elim
  | _ => cases e <;> exact q.elim
end
end Dl

set_option maxHeartbeats 1000000
namespace Dl
open PySem PySem.Spec PyProof.Rows L2
/-! ### what a value stands for is one thing alone -/
mutual
def noDi : PyData → Bool
  | .list xs => noDis xs
  | .tuple xs => noDis xs
  | .dict _ => false
  | _ => true
def noDis : List PyData → Bool
  | [] => true
  | x :: xs => noDi x && noDis xs
end
section
variable {X : Cx} {pins : List (Addr × Obj)} {σ : L2.St} {H : Hp} {s : Shared} {av av2 : Addr → Prop}
theorem sqT_det (I : Inv X pins σ H s) {a : Addr} {xs ys : List V} (h1 : SqT X.K H a xs) (h2 : SqT X.K H a ys) : xs = ys := by
  obtain ⟨i1, v1, ⟨o1, g1, _, n1, d1⟩, _⟩ := I.tuple h1
  obtain ⟨i2, v2, ⟨o2, g2, _, n2, d2⟩, _⟩ := I.tuple h2
  rw [g1] at g2
  cases g2
  rw [d1] at d2
  injection d2 with e1 e2
  have : i1 = i2 := by simpa using e1
  subst this
  exact v1.inj v2
theorem rdL_det {a : Addr} {xs ys : List V} (h1 : Rd H a (.lst xs)) (h2 : Rd H a (.lst ys)) : xs = ys := by
  rcases h1 with h1 | ⟨o, h1⟩ <;> rcases h2 with h2 | ⟨o2, h2⟩ <;> (rw [h1] at h2; cases h2)
  all_goals rfl
theorem lt_not (I : Inv X pins σ H s) {a : Addr} {xs ys : List V} (h1 : Rd H a (.lst xs)) (h2 : SqT X.K H a ys) : False := by
  obtain ⟨i1, v1, ⟨o1, n1, g1, c1, _, d1⟩, _⟩ := I.list (show SqL X.K H a xs from .inl h1)
  obtain ⟨i2, v2, ⟨o2, g2, c2, n2, d2⟩, _⟩ := I.tuple h2
  rw [g1] at g2
  cases g2
  rw [c1] at c2
  exact absurd c2 (by decide)
mutual
theorem Rp.det (I : Inv X pins σ H s) : ∀ {v : V} {d e : PyData}, Rp X.K H av v d → Rp X.K H av2 v e → noDi d = true → noDi e = true → d = e
  | _, _, _, .non, h, _, _ => by cases h; rfl
  | _, _, _, .bl b, h, _, _ => by cases h; rfl
  | _, _, _, .int i, h, _, _ => by cases h; rfl
  | _, _, _, .str x, h, _, _ => by cases h; rfl
  | _, _, _, .lst h1 _ r, h, n1, n2 => by
    cases h with
    | lst h2 _ r2 =>
      cases rdL_det h1 h2
      rw [RpAll.det I r r2 (by simpa [noDi] using n1) (by simpa [noDi] using n2)]
    | tup h2 r2 => exact (lt_not I h1 h2).elim
    | dct _ _ _ => simp [noDi] at n2
  | _, _, _, .tup h1 r, h, n1, n2 => by
    cases h with
    | lst h2 _ r2 => exact (lt_not I h2 h1).elim
    | tup h2 r2 =>
      cases sqT_det I h1 h2
      rw [RpAll.det I r r2 (by simpa [noDi] using n1) (by simpa [noDi] using n2)]
    | dct _ _ _ => simp [noDi] at n2
  | _, _, _, .dct _ _ _, _, n1, _ => by simp [noDi] at n1
theorem RpAll.det (I : Inv X pins σ H s) : ∀ {vs : List V} {ds es : List PyData}, RpAll X.K H av vs ds → RpAll X.K H av2 vs es → noDis ds = true → noDis es = true → ds = es
  | _, _, _, .nil, h, _, _ => by cases h; rfl
  | _, _, _, .cons h r, h2, n1, n2 => by
    cases h2 with
    | cons g t =>
      rw [noDis, Bool.and_eq_true] at n1 n2
      rw [Rp.det I h g n1.1 n2.1, RpAll.det I r t n1.2 n2.2]
end
end
/-! ### within -/
inductive Inn (t : PyData) : PyData → Prop
  | here : Inn t t
  | list {x : PyData} {xs : List PyData} : x ∈ xs → Inn t x → Inn t (.list xs)
  | tuple {x : PyData} {xs : List PyData} : x ∈ xs → Inn t x → Inn t (.tuple xs)
mutual
theorem Rp.avoid {K : PySem.W.Frag} {H : Hp} {av av' : Addr → Prop} {Bad : PyData → Prop} (hb : ∀ a xs ds, av a → Rd H a (.lst xs) → RpAll K H av' xs ds → noDis ds = true → ¬ av' a → Bad (.list ds)) :
    ∀ {v : V} {d : PyData}, Rp K H av' v d → noDi d = true → (∀ x, Bad x → ¬ Inn x d) → Rp K H av v d
  | _, _, .non, _, _ => .non
  | _, _, .bl b, _, _ => .bl b
  | _, _, .int i, _, _ => .int i
  | _, _, .str x, _, _ => .str x
  | _, _, .lst h n r, nd, q => .lst h (fun z => q _ (hb _ _ _ z h r (by simpa [noDi] using nd) n) .here) (RpAll.avoid hb r (by simpa [noDi] using nd) fun x bx y hy i => q x bx (.list hy i))
  | _, _, .tup h r, nd, q => .tup h (RpAll.avoid hb r (by simpa [noDi] using nd) fun x bx y hy i => q x bx (.tuple hy i))
  | _, _, .dct _ _ _, nd, _ => by simp [noDi] at nd
theorem RpAll.avoid {K : PySem.W.Frag} {H : Hp} {av av' : Addr → Prop} {Bad : PyData → Prop} (hb : ∀ a xs ds, av a → Rd H a (.lst xs) → RpAll K H av' xs ds → noDis ds = true → ¬ av' a → Bad (.list ds)) :
    ∀ {vs : List V} {ds : List PyData}, RpAll K H av' vs ds → noDis ds = true → (∀ x, Bad x → ∀ y ∈ ds, ¬ Inn x y) → RpAll K H av vs ds
  | _, _, .nil, _, _ => .nil
  | _, _, .cons h r, nd, q => by
    rw [noDis, Bool.and_eq_true] at nd
    exact .cons (Rp.avoid hb h nd.1 fun x bx i => q x bx _ List.mem_cons_self i) (RpAll.avoid hb r nd.2 fun x bx y hy i => q x bx y (List.mem_cons_of_mem _ hy) i)
end
/-! ### a call that borrows: an owned list handed in; the answer doesn't hold it -/
def isLs : PyData → Bool
  | .list _ => true
  | _ => false
/-- what is handed in isn't within what is told -/
def Apart (ds : List PyData) (d : PyData) : Prop := noDi d = true ∧ ∀ x ∈ ds, isLs x = true → noDi x = true ∧ ¬ Inn x d
open Classical in
noncomputable def callC (G : List PyData → R PyData) (fs : List FE) : FE := fun δ => (evs fs δ).bind fun ds => (G ds).bind fun d => if Apart ds d then .ok d else .bad
theorem bw_at {K : PySem.W.Frag} {H : Hp} {av : Addr → Prop} {vs : List V} {ds : List PyData} (b : BwAll K H av vs ds) {v : V} (hv : v ∈ vs) : ∃ d ∈ ds, Bw K H av v d := by
  unfold BwAll at b
  induction b with
  | nil => cases hv
  | cons b t ih =>
    rcases List.mem_cons.mp hv with e | hv
    · exact ⟨_, List.mem_cons_self, e ▸ b⟩
    · obtain ⟨d, h1, h2⟩ := ih hv
      exact ⟨d, List.mem_cons_of_mem _ h1, h2⟩
section
variable {X : Cx} {C : Cc} {O : List Nat} {k : Nat} {f : Addr} {fd : FuncData} {ps : List Str} {x : Str} {p pos : Pos} {e : Expr} {es : List Expr} {fs : List FE} {G : List PyData → R PyData} {ar : Nat}
theorem de_callC (F : FnR X.prog X.w X.K X.mg X.base k f fd ps (spD X.K false ar G)) (hr : Rm k X.A) (hg : Gl X x) (hm : X.mg x = some (.ref f)) (hk : PySem.W.keepIn X.K (.ref f) = true) (hb : Binds X.K fd ps []) (tk : Takes X C.W)
    (ha : DAB X C O (e :: es) fs) (har : fs.length = ar := by rfl) (hdb : (x == ("__debug__" : Str)) = false := by decide) (he : starEach (e :: es) X.env = (false, eval e X.env) :: starEach es X.env := by rfl) (hpl : (backTo pos (starEach es X.env)).any (·.1) = false := by rfl) :
    DE X C O (.Call (.Name x p) (e :: es) [] pos) (callC G fs) := by
  refine ⟨fun pins s σ H Q I h => ?_⟩
  obtain ⟨B, δ, ad, r, kk⟩ := h
  -- the end, with what is known of it
  let Q' : VK := fun v H2 => ∃ ds d vs H1, Same H H1 ∧ BwAll X.K H1 (avO B O ad) vs ds ∧ Same H1 H2 ∧ Rp X.K H2 (fun a => avO B O ad a ∧ V.ref a ∉ vs) v d ∧ Apart ds d ∧ ∀ v H', Same H H' → Rp X.K H' (avO B O ad) v d → Q v H'
  have run := (pe_callR (p := p) (pos := pos) F hr hg hm hk hb (fun σ => passAt tk σ) ha hdb he hpl).run pins s σ H Q' I ⟨B, δ, ad, r, kk.bind.imp (fun ds ed q vs H1 s1 z => by
    refine ⟨ds, _, lend vs (fun v h => h) z, (evs_length ed).trans har, fun a h => (r.same s1).avdom a h.1, q.bind.imp (fun d _ q v H2 s2 z2 => ?_) fun c x q cls dd H2 s2 z2 => q cls dd H2 (s1.trans s2) z2⟩
    by_cases hf : Apart ds d
    · rw [if_pos hf] at q
      exact ⟨ds, d, vs, H1, s1, z, s2, show Rp X.K H2 _ v d from z2, hf, q⟩
    · rw [if_neg hf] at q; exact q.elim) fun _ _ z => z⟩
  refine thn run fun u s2 ⟨v, H2, I2, rv, ds, d, vs, H1, s1, z, s12, z2, ap, q⟩ => ⟨v, H2, I2, rv, ?_⟩
  refine q v H2 (s1.trans s12) (Rp.avoid (Bad := fun x => x ∈ ds ∧ isLs x = true) (fun a xs es hav hrd hxs hnd hnav => ?_) z2 ap.1 fun x hx => (ap.2 x hx.1 hx.2).2)
  have hin : V.ref a ∈ vs := by
    by_cases q : V.ref a ∈ vs
    · exact q
    · exact absurd ⟨hav, q⟩ hnav
  obtain ⟨y, hy, b⟩ := bw_at z hin
  have b2 := b.same s12
  rcases b2 with b2 | ⟨a2, e2, o⟩
  · -- data that avoids
    cases b2 with
    | lst _ n _ => exact absurd hav n
    | tup h2 _ => exact (lt_not I2 hrd h2).elim
    | dct h2 _ _ =>
      rcases hrd with hrd | ⟨_, hrd⟩ <;> (rw [h2] at hrd; cases hrd)
  · cases e2
    cases y with
    | list ys =>
      obtain ⟨ws, ew, rw_⟩ := o
      have hx := rdL_det hrd (.inl ew)
      subst hx
      have hny := (ap.2 _ hy rfl).1
      have : es = ys := RpAll.det I2 hxs rw_ hnd (by simpa [noDi] using hny)
      subst this
      exact ⟨hy, rfl⟩
    | dict ys =>
      obtain ⟨kvs, es2, h2, _, _⟩ := o
      rcases hrd with hrd | ⟨_, hrd⟩ <;> (rw [h2] at hrd; cases hrd)
    | _ => exact o.elim
/-- the same, where the answer is a new thing of the caller's own -/
theorem df_callC (F : FnR X.prog X.w X.K X.mg X.base k f fd ps (spD X.K true ar G)) (hr : Rm k X.A) (hg : Gl X x) (hm : X.mg x = some (.ref f)) (hk : PySem.W.keepIn X.K (.ref f) = true) (hb : Binds X.K fd ps []) (tk : Takes X C.W)
    (ha : DAB X C O (e :: es) fs) (har : fs.length = ar := by rfl) (hdb : (x == ("__debug__" : Str)) = false := by decide) (he : starEach (e :: es) X.env = (false, eval e X.env) :: starEach es X.env := by rfl) (hpl : (backTo pos (starEach es X.env)).any (·.1) = false := by rfl) :
    DF X C O (.Call (.Name x p) (e :: es) [] pos) (callC G fs) := by
  refine ⟨fun pins s σ H Q I h => ?_⟩
  obtain ⟨B, δ, ad, r, kk⟩ := h
  let Q' : VK := fun v H2 => ∃ ds d vs H1, Same H H1 ∧ BwAll X.K H1 (avO B O ad) vs ds ∧ Same H1 H2 ∧ relF X.K H1 H2 (fun a => avO B O ad a ∧ V.ref a ∉ vs) v d ∧ Apart ds d ∧ ∀ v H', Same H H' → relF X.K H H' (avO B O ad) v d → Q v H'
  have run := (pe_callR (p := p) (pos := pos) F hr hg hm hk hb (fun σ => passAt tk σ) ha hdb he hpl).run pins s σ H Q' I ⟨B, δ, ad, r, kk.bind.imp (fun ds ed q vs H1 s1 z => by
    refine ⟨ds, _, lend vs (fun v h => h) z, (evs_length ed).trans har, fun a h => (r.same s1).avdom a h.1, q.bind.imp (fun d _ q v H2 s2 z2 => ?_) fun c x q cls dd H2 s2 z2 => q cls dd H2 (s1.trans s2) z2⟩
    by_cases hf : Apart ds d
    · rw [if_pos hf] at q
      exact ⟨ds, d, vs, H1, s1, z, s2, show relF X.K H1 H2 _ v d from z2, hf, q⟩
    · rw [if_neg hf] at q; exact q.elim) fun _ _ z => z⟩
  refine thn run fun u s2 ⟨v, H2, I2, rv, ds, d, vs, H1, s1, z, s12, z2, ap, q⟩ => ⟨v, H2, I2, rv, ?_⟩
  obtain ⟨a0, rfl, hn0, o0⟩ := z2
  refine q _ H2 (s1.trans s12) ⟨a0, rfl, s1.free hn0, ?_⟩
  cases d with
  | list es2 =>
    obtain ⟨us, eu, ru⟩ := o0
    refine ⟨us, eu, RpAll.avoid (Bad := fun x => x ∈ ds ∧ isLs x = true) (fun a xs es hav hrd hxs hnd hnav => ?_) ru (by simpa [noDi] using ap.1) fun x hx y hy i => (ap.2 x hx.1 hx.2).2 (.list hy i)⟩
    have ha0 : ¬ a = a0 := fun e => hnav (.inr e)
    have hav' : avO B O ad a := hav.resolve_right ha0
    have hin : V.ref a ∈ vs := by
      by_cases q : V.ref a ∈ vs
      · exact q
      · exact absurd (.inl ⟨hav', q⟩) hnav
    obtain ⟨y, hy, b⟩ := bw_at z hin
    have b2 := b.same s12
    rcases b2 with b2 | ⟨a2, e2, o⟩
    · cases b2 with
      | lst _ n _ => exact absurd hav' n
      | tup h2 _ => exact (lt_not I2 hrd h2).elim
      | dct h2 _ _ =>
        rcases hrd with hrd | ⟨_, hrd⟩ <;> (rw [h2] at hrd; cases hrd)
    · cases e2
      cases y with
      | list ys =>
        obtain ⟨ws, ew, rw_⟩ := o
        have hx := rdL_det hrd (.inl ew)
        subst hx
        have hny := (ap.2 _ hy rfl).1
        have : es = ys := RpAll.det I2 hxs rw_ hnd (by simpa [noDi] using hny)
        subst this
        exact ⟨hy, rfl⟩
      | dict ys =>
        obtain ⟨kvs, es2, h2, _, _⟩ := o
        rcases hrd with hrd | ⟨_, hrd⟩ <;> (rw [h2] at hrd; cases hrd)
      | _ => exact o.elim
  | dict _ => exact absurd ap.1 (by simp [noDi])
  | _ => exact o0.elim
end
end Dl

namespace Dl
open PySem PySem.Spec PyProof.Rows L2
/-! ### range(a, b, c), c above nought -/
def stepN (a b c : Int) : Nat := if a < b then ((b - a - 1) / c + 1).toNat else 0
def stepL (lo c : Int) (n : Nat) : List PyData := (List.range n).map fun i => .int (lo + (i : Nat) * c)
def itW (fs : List FE) : FI := fun δ => (evs fs δ).bind fun ds => match ds with
  | [.int a, .int b, .int c] => if (1 ≤ c ∧ c < 2 ^ 20) ∧ (0 ≤ a ∧ a < 2 ^ 60) ∧ (0 ≤ b ∧ b < 2 ^ 60) then .ok (stepL a c (stepN a b c)) else .bad
  | _ => .bad
theorem rgc_pos {i j c : Int} (hi : 0 ≤ i ∧ i < 2 ^ 60) (hj : 0 ≤ j ∧ j < 2 ^ 60) (hc : 1 ≤ c ∧ c < 2 ^ 20) : RgC i j c (stepN i j c) := by
  have e : Builtin.Range.rangeSize i j c = ((stepN i j c : Nat) : Int) := by
    unfold Builtin.Range.rangeSize stepN
    rw [if_pos (by omega)]
    split
    · have := Int.ediv_nonneg (show 0 ≤ j - i - 1 by omega) (show 0 ≤ c by omega)
      omega
    · rfl
  have hn : ((stepN i j c : Nat) : Int) ≤ 2 ^ 60 := by
    unfold stepN
    split
    · have h1 := Int.ediv_nonneg (show 0 ≤ j - i - 1 by omega) (show 0 ≤ c by omega)
      have h2 := Int.ediv_le_self c (show 0 ≤ j - i - 1 by omega)
      omega
    · omega
  refine ⟨by omega, by omega, ?_, e⟩
  unfold Builtin.Range.small
  rw [e, if_pos (by omega)]
  unfold Builtin.Range.rangeFitsLong
  simp only [Bool.and_eq_true, Bool.or_eq_true, decide_eq_true_eq]
  refine ⟨⟨⟨⟨⟨by omega, by omega⟩, by omega, by omega⟩, by omega, by omega⟩, by omega, by omega⟩, .inr ⟨by omega, by omega⟩⟩
theorem ItD.step {K : PySem.W.Frag} {ok : OkH} {lo c : Int} {n : Nat} : ItD K ok (Itc lo c n) (stepL lo c n) := fun H' av' o => by
  refine ⟨fun i hi => by show i < n; simpa [stepL] using hi, by show n ≤ _; simp [stepL], fun i x H'' hi y => ?_⟩
  obtain ⟨e, y⟩ := y
  subst e y
  have hi' : i < n := by simpa [stepL] using hi
  exact ⟨Same.refl _, .int (lo + (i : Nat) * c), by simp [stepL, hi'], .int _⟩
theorem dx_rangeS {X : Cx} {C : Cc} {O : List Nat} {tg e e2 e3 : Expr} {f f2 f3 : FE} {ok : (Addr → Prop) → Hp → OkH} {p pos : Pos} (h : DAB X C O [e, e2, e3] [f, f2, f3]) (hh : ∀ ta, PA X [e, e2, e3] ta → PI X tg (.Call (.Name "range" p) [e, e2, e3] [] pos) (iRng3 ta)) : PI X tg (.Call (.Name "range" p) [e, e2, e3] [] pos) (tI ok X.K C O (itW [f, f2, f3])) := pi_imp (hh _ h) fun σ H Q ⟨B, δ, ad, r, k⟩ => by
  refine ⟨B, δ, ad, r, k.bind.imp (fun ds e q vs H1 s1 z => ?_) fun _ _ z => z⟩
  split at q
  · rename_i a b c
    by_cases hc : (1 ≤ c ∧ c < 2 ^ 20) ∧ (0 ≤ a ∧ a < 2 ^ 60) ∧ (0 ≤ b ∧ b < 2 ^ 60)
    · rw [if_pos hc] at q
      obtain ⟨h0, h1, h2⟩ := hc
      cases z with
      | cons z1 z =>
        cases z with
        | cons z2 z =>
          cases z with
          | cons z3 z =>
            cases z
            have e1 := z1.int
            have e2 := z2.int
            have e3 := z3.int
            subst e1 e2 e3
            exact ⟨a, b, c, _, rfl, rgc_pos h1 h2 h0, q _ H1 s1 ItD.step⟩
    · rw [if_neg hc] at q; exact q.elim
  · exact q.elim
/-! ### is not True -/
def isntB : PyData → PyData → Option PyData
  | .bool a, .bool b => some (.bool (!decide (a = b)))
  | _, _ => none
theorem od_isntB {X : Cx} : OpD X (compareOp .IsNot) isntB := by
  intro pins s σ H x y v u Q av d e z I rx ry hav hd he hz q
  unfold isntB at hz
  split at hz
  · cases hz; exact op_notBl pins s σ H x y v u Q I rx ry ⟨_, _, hd.bool, he.bool, q _ H (Same.refl H) (.bl _)⟩
  · cases hz
end Dl

namespace Dl
open PySem PySem.Spec PyProof.Rows L2
/-! ### sets of texts -/
structure TxS (P : Program) (w : World) (D : Froz.SD) (l : List Str) : Prop where
  ok : Froz.TxOk P w D l
  nd : l.Nodup
  pm : ∃ us : List (Str × Tok), us.map (·.1) = l ∧ D.1.toList.Perm (us.map fun p => (hashStr w p.1, Value.str p.1 p.2))
  ris : Ris D.2.2.place.toList
  led : w.params.followText "set-order" = true ∨ D.2.2.led = true
def SetX (P : Program) (w : World) (h : Heap) (a : Addr) (l : List Str) : Prop := ∃ D, h.get? a = some (Froz.sObj "set" D) ∧ TxS P w D l
theorem SetX.at {P : Program} {w : World} {h h' : Heap} {a : Addr} {l : List Str} (R : SetX P w h a l) (k : ∀ o, h.get? a = some o → h'.get? a = some o) : SetX P w h' a l := by
  obtain ⟨D, ho, r⟩ := R
  exact ⟨D, k _ ho, r⟩
section
variable {P : Program} {w : World} {A : Around} {E : Value → Shared → Prop} {s : Shared} {a : Addr} {l : List Str}
theorem tailTx_perm (ep : Nat) (es : Array (Int × Value)) (t : SetTable) (b : Bool) : (Froz.tailTx ep es t b).1.toList.Perm es.toList := by
  unfold Froz.tailTx
  split
  · exact relayAll_perm _ _ _
  · exact List.Perm.refl _
theorem tailTx_ris (ep : Nat) (es : Array (Int × Value)) (t : SetTable) (b : Bool) (r : Ris t.place.toList) : Ris (Froz.tailTx ep es t b).2.2.place.toList := by
  unfold Froz.tailTx
  split
  · exact relayAll_ris _ _ _
  · exact r
theorem tailTx_led (ep : Nat) (es : Array (Int × Value)) (t : SetTable) (b : Bool) : (Froz.tailTx ep es t b).2.2.led = t.led := by
  unfold Froz.tailTx
  split
  · exact relayAll_led _ _ _
  · rfl
theorem addTx_perm (h : Int) (v : Value) (D : Froz.SD) : (Froz.addTx h v D).1.toList.Perm (D.1.push (h, v)).toList := (tailTx_perm _ _ _ _).trans (layNew_perm D.2.2 D.1 h v)
theorem addTx_ris (h : Int) (v : Value) (D : Froz.SD) (r : Ris D.2.2.place.toList) : Ris (Froz.addTx h v D).2.2.place.toList := by
  have hp := layNew_ris D.2.2 D.1 h v r
  refine tailTx_ris _ _ _ _ ?_
  generalize (layNew D.2.2 D.1 h v).2.1 = t at hp ⊢
  split
  · exact hp
  · exact hp
theorem addTx_led (h : Int) (v : Value) (D : Froz.SD) : (Froz.addTx h v D).2.2.led = D.2.2.led := by
  have hp := layNew_led D.2.2 D.1 h v
  refine (tailTx_led _ _ _ _).trans ?_
  generalize (layNew D.2.2 D.1 h v).2.1 = t at hp ⊢
  split
  · exact hp
  · exact hp
theorem TxS.add {D : Froz.SD} {k : Str} (u : Tok) (F : TxS P w D l) (hk : k ∉ l) : TxS P w (Froz.addTx (hashStr w k) (.str k u) D) (k :: l) := by
  refine ⟨Froz.add_ok u F.ok, List.nodup_cons.mpr ⟨hk, F.nd⟩, ?_, addTx_ris _ _ _ F.ris, F.led.imp id fun z => by rw [addTx_led]; exact z⟩
  obtain ⟨us, e, p⟩ := F.pm
  refine ⟨(k, u) :: us, by simp [e], (addTx_perm _ _ _).trans ?_⟩
  rw [Array.toList_push]
  exact (List.perm_append_singleton _ _).trans (List.Perm.cons _ p)
theorem setX_add {k : Str} {u : Tok} {Q : Bool → Shared → Prop} (R : SetX P w s.heap a l) (room : l.length + 1 < scanBound)
    (hQ : ∀ (b : Bool) (h' : Heap), Heap.SameBut a s.heap h' → SetX P w h' a (if k ∈ l then l else k :: l) → Q b { s with heap := h' }) : wpAny (model P w) A (setAddHashed a (.str k u) (hashStr w k)) Q E s := by
  obtain ⟨D, ho, F⟩ := R
  by_cases hk : k ∈ l
  · have q := hQ false s.heap (Heap.SameBut.refl a s.heap) (by rw [if_pos hk]; exact ⟨D, ho, F⟩)
    obtain ⟨es, ep, t⟩ := D
    have hd : (Froz.sObj "set" (es, ep, t)).data = Data.set es ep t := rfl
    have hkey : (strKind P w).is k (.str k u) = true := strKind_is P w k u
    have hsc : (Value.str k u).scannable = true := rfl
    have hb : es.size < scanBound := by have := F.ok.sz; dsimp only at this; omega
    unfold setAddHashed setAddHashedIn
    refine wpAny_holding (wpAny_bind (wpAny_setState_of ho hd F.ok.fit ?_))
    dsimp only
    rw [byScan_of (knd := strKind P w) hsc hb F.ok.el]
    simp only [↓reduceIte]
    unfold setAddByScan
    refine wpAny_bind ?_
    refine wpAny_bind (wpAny_rule ?_)
    refine wpAny_bind (wpAny_setScan_of (knd := strKind P w) hkey ho hd F.ok.fit F.ok.el ?_)
    cases hfi : List.findIdx? (fun e => (strKind P w).is k e.2) es.toList with
    | some j =>
      dsimp only
      exact wpAny_pure (wpAny_pure q)
    | none =>
      obtain ⟨e, he, q2⟩ := (F.ok.mem k).mp hk
      have c := List.findIdx?_eq_none_iff.mp hfi e he
      rw [q2] at c
      cases c
  · refine Froz.add_x ho F.ok hk room (hQ true _ ⟨?_, fun b hb => Heap.get?_update_ne _ _ _ _ hb⟩ ?_)
    · exact Heap.size_update _ _ _
    · rw [if_neg hk]
      exact ⟨_, Heap.get?_update_self (e := ho) (hf := rfl) .., F.add u hk⟩
/-- what is kept of a list of texts, each once -/
def addL (l : List Str) (k : Str) : List Str := if k ∈ l then l else k :: l
theorem addL_mem (l : List Str) (k x : Str) : x ∈ addL l k ↔ x ∈ l ∨ x = k := by
  unfold addL
  split
  · rename_i h
    exact ⟨.inl, fun q => q.elim id fun e => e ▸ h⟩
  · rw [List.mem_cons]; exact Or.comm
theorem addL_len (l : List Str) (k : Str) : (addL l k).length ≤ l.length + 1 := by
  unfold addL
  split
  · omega
  · simp
theorem tx_loop {I : Addr} {fp wr : List Addr} {G : Array GenState → Array GenState → Prop} {n : Nat} {Pv : Nat → Value → Prop} {St : Nat → Shared → Prop} {R : Result → Shared → Prop}
    (W : WalksS P w A.in1 I fp wr G n Pv St) (S : Addr) (hSf : S ∉ fp) (xs : List Str) (hn : n = xs.length) (hb : xs.length + 1 < scanBound) (hval : ∀ i v, Pv i v → ∃ k t, xs[i]? = some k ∧ v = .str k t) :
    ∀ (k i : Nat) (s : Shared) (l : List Str), n - i = k → i ≤ n → St i s → l.length ≤ i → SetX P w s.heap S l →
      (∀ s' l', Moved (S :: wr) G s s' → l' = (xs.drop i).foldl addL l → SetX P w s'.heap S l' → R (.ok (.ret .none)) s') →
      codeAny (model P w) A (.builtin "set.update.loop" ⟨[.ref S, .ref I], []⟩) R s := by
  have hSw : S ∉ wr := fun h => hSf (W.sub _ h)
  have hsub : ∀ b ∈ wr, b ∈ S :: wr := fun b hb => List.mem_cons_of_mem _ hb
  intro k
  induction k with
  | zero =>
    intro i s l hk' hi hst hl hS hR
    have hin : i = n := by omega
    subst hin
    refine codeAny_builtin F.entry_set_update_loop ?_
    rw [Around.under_plainId F.plain_set_update_loop _]
    show wpAny _ A.in1 (pyNext (.ref I) >>= _) _ _ s
    refine wpAny_bind (W.done s _ _ hst fun s' hm => ?_)
    show wpAny _ A.in1 (ret Value.none) _ _ s'
    refine wpAny_pure (hR s' l (hm.mono hsub) ?_ (hS.at fun o e => hm.heap S o hSw e))
    rw [List.drop_eq_nil_of_le (by omega)]; rfl
  | succ k ih =>
    intro i s l hk' hi hst hl hS hR
    have hlt : i < n := by omega
    refine codeAny_builtin F.entry_set_update_loop ?_
    rw [Around.under_plainId F.plain_set_update_loop _]
    show wpAny _ A.in1 (pyNext (.ref I) >>= _) _ _ s
    refine wpAny_bind (W.item i s _ _ hlt hst fun v s' hP hst' hm => ?_)
    obtain ⟨z, t, hz, rfl⟩ := hval i v hP
    have hS' : SetX P w s'.heap S l := hS.at fun o e => hm.heap S o hSw e
    show wpAny _ A.in1 (holding [Value.str z t] (setAdd S (.str z t)) >>= _) _ _ s'
    refine wpAny_bind (wpAny_holding ?_)
    unfold setAdd
    refine wpAny_holding ?_
    refine wpAny_bind ((strKind P w).pyHash (k := z) (strKind_is _ _ _ _) ?_)
    refine setX_add (s := { s' with toks := s'.toks + 1 }) hS' (by omega) fun b h' hsb hS2 => ?_
    have hS3 : SetX P w h' S (addL l z) := hS2
    refine wpAny_pure ⟨plainId_quiet F.plain_set_update_loop _, ih (i + 1) _ (addL l z) (by omega) hlt (W.frame _ s' _ _ hst' (Nat.le_succ _) fun b hb o e => ?_) (by have := addL_len l z; omega) hS3 fun s'' l2 hm'' hl'' hS'' => ?_⟩
    · rw [hsb.2 b (fun h : b = S => hSf (by rw [← h]; exact hb))]; exact e
    · refine hR s'' l2 (Moved.trans W.gtrans ((hm.mono hsub).then_heap (Nat.le_succ _) fun b o hb e => ?_) hm'') ?_ hS''
      · rw [hsb.2 b (fun h : b = S => hb (by rw [h]; exact List.mem_cons_self))]; exact e
      · rw [hl'', List.drop_eq_getElem_cons (i := i) (by omega)]
        have : xs[i]'(by omega) = z := by
          rw [List.getElem?_eq_getElem (by omega)] at hz; exact Option.some.inj hz
        rw [this]; rfl
theorem setX_new : SetX P w (s.heap.push { cls := .type "set", dict := none, data := .set #[] 0 (.fresh 0 0 (!w.params.followText "set-order")) }) s.heap.objs.size [] := by
  refine ⟨(#[], 0, .fresh 0 0 (!w.params.followText "set-order")), Heap.get?_push_size _ rfl, ⟨⟨fun e he => by simp at he, fun k => by simp, rfl, rfl⟩, List.nodup_nil, ⟨[], rfl, by simp⟩, ?_, ?_⟩⟩
  · show Ris []
    exact List.Pairwise.nil
  · cases w.params.followText "set-order" with
    | true => exact .inl rfl
    | false => exact .inr rfl
end
end Dl

namespace Dl
open PySem PySem.Spec PyProof.Rows L2
section
variable {P : Program} {w : World} {A : Around} {E : Value → Shared → Prop} {s : Shared}
/-! ### set(xs), xs a list of texts -/
set_option maxHeartbeats 3200000 in
theorem call_set_tx {l : Addr} {items : Array Value} {xs : List Str} {Q : Value → Shared → Prop} (hh : A.handled = none) (hl : s.heap.IsList l items) (hi : StrsAre items.toList xs) (hb : xs.length + 1 < scanBound)
    (h : ∀ (h' : Heap) (tk : Nat), SetX P w h' s.heap.objs.size (xs.foldl addL []) → (∀ b o, s.heap.get? b = some o → h'.get? b = some o) → Q (.ref s.heap.objs.size) { s with heap := h', toks := tk }) :
    wpAny (model P w) A (call (.type "set") [.ref l]) Q E s := by
  have hsz : xs.length = items.size := by rw [← StrsAre.len_eq hi, Array.length_toList]
  obtain ⟨c, tl, hmro⟩ := PySem.F.called_set.mro
  have hmade := PySem.F.called_set.made
  have hsub := PySem.F.called_set.sub
  refine wpAny_call (codeAny_of_tree ?_)
  show wpAny _ _ (callAny (.type "set") _) _ _ _
  refine wpAny_pure ⟨Code.quiet_builtin _ (by decide +kernel), codeAny_builtin PySem.F.entry_type_call ?_⟩
  rw [Around.under_plain (weight_type_call_type "set" [.ref l] []) rfl]
  have h1 := PySem.F.called_set.notType
  have h2 := PySem.F.called_set.canCreate
  have hct := PySem.F.typeCall_set_1 (.ref l)
  repeat (any_goals (first | assumption | wp_step))
  have new : SetX P w (s.heap.push ({ cls := .type "set", dict := none, data := .set #[] 0 (.fresh 0 0 (!w.params.followText "set-order")) } : Obj)) s.heap.objs.size [] := setX_new
  refine codeAny_mono (code_set_led1 (.ref l) (E := E) (Q₁ := fun obj s₁ => obj = .ref s.heap.objs.size ∧ s₁ = { s with heap := s.heap.push ({ cls := .type "set", dict := none, data := .set #[] 0 (.fresh 0 0 (!w.params.followText "set-order")) } : Obj) }) ⟨rfl, rfl⟩) fun r s₁ hr => ?_
  cases r with
  | error e => exact hr
  | ok fl =>
    cases fl with
    | ret obj =>
      obtain ⟨rfl, rfl⟩ := hr
      have hS : (s.heap.push ({ cls := .type "set", dict := none, data := .set #[] 0 (.fresh 0 0 (!w.params.followText "set-order")) } : Obj)).get? s.heap.objs.size = some ({ cls := .type "set", dict := none, data := .set #[] 0 (.fresh 0 0 (!w.params.followText "set-order")) } : Obj) := Heap.get?_push_size _ rfl
      have hT : Shared.TypeIs { s with heap := s.heap.push ({ cls := .type "set", dict := none, data := .set #[] 0 (.fresh 0 0 (!w.params.followText "set-order")) } : Obj) } (.ref s.heap.objs.size) "set" := ⟨_, hS, rfl⟩
      have hli := PySem.F.called_set.init.lookup
      have hbi := PySem.F.called_set.init.bind (.ref s.heap.objs.size)
      repeat (any_goals (first | assumption | wp_step))
      refine codeAny_mono (codeAny_call_builtin (R := wants (fun r s₂ => r = .none ∧ ∃ h' tk, s₂ = { s with heap := h', toks := tk } ∧ SetX P w h' s.heap.objs.size (xs.foldl addL []) ∧
          (∀ b o, s.heap.get? b = some o → h'.get? b = some o)) E) PySem.F.called_set.init.plain PySem.F.entry_set_init (check_set_init_1 hT ?_)) fun r₂ s₂ hr₂ => ?_
      · obtain ⟨ol, hol, hcl, nl, hdl⟩ := hl
        obtain ⟨ocls, odict, odata, oslots⟩ := ol
        simp only at hcl hdl
        subst hcl; subst hdl
        have hol' : (s.heap.push ({ cls := .type "set", dict := none, data := .set #[] 0 (.fresh 0 0 (!w.params.followText "set-order")) } : Obj)).get? l = some { cls := .type "list", dict := odict, data := .seq items nl, slots := oslots } := Heap.get?_push_of_some _ hol
        have hsls := PySem.F.sub_list_set
        have hslf := PySem.F.sub_list_frozenset
        have hne : (Value.type "list" == Value.type "dict") = false := by decide
        have hl1 : (s.heap.push ({ cls := .type "set", dict := none, data := .set #[] 0 (.fresh 0 0 (!w.params.followText "set-order")) } : Obj)).IsList l items := ⟨_, hol', rfl, nl, rfl⟩
        unfold Builtin.«set.__init__» noKeywords Builtin.Frozenset.updateFrom
        generalize hPI : pyIter = PI
        wp_walk
        subst hPI
        refine wpAny_pyIter_list hl1 ?_
        refine wpAny_bind (wpAny_runValue ?_)
        have hlS : l < s.heap.objs.size := Heap.lt_size hol
        have hh3 : A.in1.in1.in1.handled = none := by simp [hh]
        have hneI : l ≠ (s.heap.push ({ cls := .type "set", dict := none, data := .set #[] 0 (.fresh 0 0 (!w.params.followText "set-order")) } : Obj)).objs.size := by
          rw [Heap.size_push]; exact Nat.ne_of_lt (Nat.lt_succ_of_lt hlS)
        have hSf : s.heap.objs.size ∉ [(s.heap.push ({ cls := .type "set", dict := none, data := .set #[] 0 (.fresh 0 0 (!w.params.followText "set-order")) } : Obj)).objs.size, l] := by
          rw [Heap.size_push]; simp only [List.mem_cons, List.mem_singleton, List.not_mem_nil, or_false, not_or]
          exact ⟨Nat.ne_of_lt (Nat.lt_succ_self _), Nat.ne_of_gt hlS⟩
        have hval : ∀ (i : Nat) (v : Value), items[i]? = some v → ∃ k t, xs[i]? = some k ∧ v = .str k t := fun i v hv => by
          have hi2 : i < xs.length := by rw [hsz]; exact (Array.getElem?_eq_some_iff.mp hv).1
          obtain ⟨t, e⟩ := SS.strs_at hi i v (by rw [Array.getElem?_toList]; exact hv)
          refine ⟨xs[i], t, List.getElem?_eq_getElem hi2, ?_⟩
          rw [e, List.getD_eq_getElem?_getD, List.getElem?_eq_getElem hi2] <;> rfl
        refine tx_loop ((Walks.list hh3 _ l hneI items).toS) s.heap.objs.size
          hSf xs hsz.symm hb hval (items.size - 0) 0 _ [] (by omega) (Nat.zero_le _)
          ⟨⟨_, Heap.get?_push_size _ rfl, rfl, rfl⟩, (hl1.push _)⟩ (Nat.zero_le _) ?hS0 ?hR
        case hS0 => exact new.at fun o e => Heap.get?_push_of_some _ e
        case hR =>
          intro s' l' hm hl' hS'
          obtain ⟨h', g', d', tk', os'⟩ := s'
          have eg : g' = s.gens := hm.gens
          have ed : d' = s.drawn := hm.drawn
          have eo : os' = s.os := hm.os
          subst eg; subst ed; subst eo
          show wpAny _ _ _ _ _ _
          refine wpAny_pure ?_
          show wpAny _ _ (ret Value.none) _ _ _
          rw [List.drop_zero] at hl'
          subst hl'
          refine wpAny_pure ⟨rfl, h', tk', rfl, hS', fun b o e => ?_⟩
          have hb0 : b < s.heap.objs.size := Heap.lt_size e
          have hb1 : b ≠ s.heap.objs.size := Nat.ne_of_lt hb0
          have hb2 : b ≠ (s.heap.push ({ cls := .type "set", dict := none, data := .set #[] 0 (.fresh 0 0 (!w.params.followText "set-order")) } : Obj)).objs.size := by
            rw [Heap.size_push]; exact Nat.ne_of_lt (Nat.lt_succ_of_lt hb0)
          exact hm.heap b o (by simp only [List.mem_cons, List.mem_singleton, List.not_mem_nil, or_false, not_or]; exact ⟨hb1, hb2⟩) (Heap.get?_push_of_some _ (Heap.get?_push_of_some _ e))
      · cases r₂ with
        | error e => exact hr₂
        | ok fl₂ =>
          cases fl₂ with
          | ret r =>
            obtain ⟨rfl, h', tk, rfl, hS', hk'⟩ := hr₂
            repeat (any_goals (first | assumption | wp_step))
            exact h _ _ hS' hk'
          | _ => exact hr₂.elim
    | _ => exact hr.elim
end
end Dl

namespace Dl
open PySem PySem.Spec PyProof.Rows PySem.W L2
/-! ### sorted(set(xs)), xs texts -/
theorem perm_sorted {α : Type} {r : α → α → Prop} (anti : ∀ a b, r a b → r b a → a = b) : ∀ {l m : List α}, l.Perm m → l.Pairwise r → m.Pairwise r → l = m
  | [], m, p, _, _ => p.nil_eq
  | a :: l, [], p, _, _ => absurd p.symm.nil_eq (by simp)
  | a :: l, b :: m, p, hl, hm => by
    have e : a = b := by
      rcases List.mem_cons.mp (p.mem_iff.mp List.mem_cons_self) with q | q
      · exact q
      · rcases List.mem_cons.mp (p.mem_iff.mpr List.mem_cons_self) with q2 | q2
        · exact q2.symm
        · exact anti a b ((List.pairwise_cons.mp hl).1 b q2) ((List.pairwise_cons.mp hm).1 a q)
    subst e
    rw [perm_sorted anti ((List.perm_cons a).mp p) (List.pairwise_cons.mp hl).2 (List.pairwise_cons.mp hm).2]
def leT (a b : Str) : Bool := dataLe false PyData.str a b
theorem leT_total : TotalLe leT := sortLe_total (listOrd itemOrd) false fun w => keyToks (PyData.str w)
theorem leT_anti (a b : Str) (h1 : leT a b = true) (h2 : leT b a = true) : a = b := by
  have e : keyToks (PyData.str a) = keyToks (PyData.str b) := (listOrd itemOrd).total _ _ (by
    have : (!lexLt itemOrd (keyToks (.str a)) (keyToks (.str b))) = true := h2
    simpa using this) (by
    have : (!lexLt itemOrd (keyToks (.str b)) (keyToks (.str a))) = true := h1
    simpa using this)
  simp only [keyToks] at e
  simp only [List.cons.injEq, Sum.inr.injEq, and_true] at e
  exact str_of_cps e
theorem sortT_perm {ws l : List Str} (h : ws.Perm l) : sortL (ws.map .str) = sortL (l.map .str) := by
  have key : ∀ ws : List Str, sortL (ws.map .str) = (ws.mergeSort leT).map .str := fun ws => by
    unfold sortL
    rw [List.map_mergeSort (r := leT) (s := dataLe false id) (f := PyData.str) (fun a _ b _ => rfl)]
  rw [key, key]
  congr 1
  exact perm_sorted leT_anti (((List.mergeSort_perm ws leT).trans h).trans (List.mergeSort_perm l leT).symm) (sort_pairwise leT_total ws) (sort_pairwise leT_total l)
def SetT (P : Program) (w : World) (a : Addr) (l : List Str) : HO := .ext fun h => SetX P w h a l
theorem setT_new {w : World} {P : Program} {H : Hp} {h : Heap} {a : Addr} {l : List Str} (R : SetX P w h a l) : ObjOk P w H h a (SetT P w a l) := by
  have ⟨D, ho, _⟩ := R
  exact ⟨R, ⟨_, ho⟩, fun h1 h2 p k => p.at k⟩
section
variable {X : Cx}
def rSetT (P : Program) (w : World) : List V → Hp → VK → Prop := fun xs H Q => ∃ (p : Addr) (ws : List Str), xs = [.ref p] ∧ Rd H p (.lst (ws.map V.str)) ∧ ws.length ≤ 3000 ∧ ∀ a, H a = none → Q (.ref a) (upd H a (SetT P w a (ws.foldl addL [])))
theorem strs_vals : ∀ {ws : List Str} {us : List Value}, Vals (ws.map V.str) us → StrsAre us ws
  | [], _, .nil => .nil
  | n :: ns, _, .cons r t => by
    obtain ⟨k, rfl⟩ := r
    exact .cons n k (strs_vals t)
theorem cr_setT (hc : X.calm = true) : CallR X (.type "set") (rSetT X.prog X.w) := by
  intro pins s σ H xs us Q I r h
  obtain ⟨p, ws, rfl, hp, hl, q⟩ := h
  obtain ⟨u, rfl, ru⟩ := r.one
  obtain rfl : u = Value.ref p := ru
  obtain ⟨its, rvs, p', hzl⟩ := I.list (.inl hp)
  refine call_set_tx (I.ok.hd hc) p'.isList (by simpa using strs_vals rvs) (by unfold scanBound; omega) fun h' tk new k => ?_
  exact ⟨.ref _, upd H s.heap.objs.size (SetT X.prog X.w s.heap.objs.size (ws.foldl addL [])), I.laid (t' := tk) k (Nat.le_refl _) (setT_new new), rfl, q _ (I.hok.fresh (Nat.le_refl _))⟩
end
def strV : Value → Str
  | .str k _ => k
  | _ => Str.empty
theorem each_strV : ∀ {vs : List Value}, (∀ v ∈ vs, ∃ k t, v = Value.str k t) → EachIs (fun v k => ∃ t, v = Value.str k t) vs (vs.map strV)
  | [], _ => .nil
  | v :: vs, h => by
    obtain ⟨k, t, e⟩ := h v List.mem_cons_self
    subst e
    exact .cons ⟨t, rfl⟩ (each_strV fun x hx => h x (List.mem_cons_of_mem _ hx))
theorem each_reads (h : Heap) : ∀ {vs : List Value} {ws : List Str}, EachIs (fun v k => ∃ t, v = Value.str k t) vs ws → EachIs (fun v d => ∃ as, Reads h v d as) vs (ws.map .str)
  | _, _, .nil => .nil
  | _, _, .cons ⟨t, e⟩ r => by subst e; exact .cons ⟨[], .str _ t⟩ (each_reads h r)
theorem each_vals : ∀ {vs : List Value} {ws : List Str}, EachIs (fun v k => ∃ t, v = Value.str k t) vs ws → Vals (ws.map V.str) vs
  | _, _, .nil => .nil
  | _, _, .cons ⟨t, e⟩ r => by subst e; exact .cons ⟨t, rfl⟩ (each_vals r)
theorem shaped_strs {ws : List Str} (h : ∀ w ∈ ws, PyData.strOk w = true) : SeqAt.shaped (.list (ws.map .str)) = true := by
  have hc : PyData.canLayAll0 (ws.map .str) = true := by
    induction ws with
    | nil => rw [List.map_nil, PyData.canLayAll0]
    | cons w ws ih =>
      rw [List.map_cons, PyData.canLayAll0, PyData.canLay0, h w List.mem_cons_self, ih fun x hx => h x (List.mem_cons_of_mem _ hx)]
      rfl
  have hd : PyData.depthAll (ws.map .str) = 0 := by
    clear hc h
    induction ws with
    | nil => rw [List.map_nil, PyData.depthAll]
    | cons w ws ih =>
      rw [List.map_cons, PyData.depthAll, ih, PyData.depth]
      rfl
  unfold SeqAt.shaped
  rw [PyData.canLay0, hc, PyData.depth, hd]
  rfl
section
variable {P : Program} {w : World} {A : Around} {E : Value → Shared → Prop} {s : Shared} {a : Addr} {l : List Str}
theorem sorted_tx {Q : Value → Shared → Prop} (R : SetX P w s.heap a l) (hh : A.handled = none) (hn : l.length ≤ 3000) (hu : A.units + 200 < cLine) (hst : ∀ k ∈ l, PyData.strOk k = true)
    (hQ : ∀ s' p (out : Array Value) (c : Nat) (ns : List Str), (∀ b o, s.heap.get? b = some o → s'.heap.get? b = some o) → s'.gens = s.gens → s'.os = s.os → s.heap.objs.size ≤ p →
      s'.heap.get? p = some (seqObj "list" out c) → Vals (ns.map V.str) out.toList → ns.map PyData.str = sortL (l.map .str) → Q (.ref p) s') :
    wpAny (model P w) A (call (.builtin "sorted") [.ref a]) Q E s := by
  obtain ⟨⟨es, ep, t⟩, ho, F⟩ := R
  refine Calls.call_function_entry kind_sorted plain_sorted entry_sorted (args_sorted1 _) ?_
  unfold Builtin.«sorted»
  refine wpAny_bind (m := checkCount "sorted" 1 1 _) (wpAny_pure ?_)
  have hsz : es.size = l.length := F.ok.sz
  refine wpAny_bind (collect_set (A := A.in1) hh ⟨_, ho, rfl, rfl⟩ F.ok.fit (show es.size < scanBound by unfold scanBound; omega) F.ris F.led fun s1 vs k1 hz g1 o1 pm => ?_)
  obtain ⟨ws, hvw, hpw⟩ : ∃ ws : List Str, EachIs (fun v k => ∃ t, v = Value.str k t) vs ws ∧ ws.Perm l := by
    obtain ⟨us, e, p⟩ := F.pm
    have pv : vs.Perm (us.map fun p => Value.str p.1 p.2) := by
      have q := p.map (·.2)
      rw [List.map_map] at q
      exact pm.trans q
    refine ⟨vs.map strV, each_strV fun v hv => ?_, ?_⟩
    · obtain ⟨q, _, e⟩ := List.mem_map.mp (pv.mem_iff.mp hv)
      exact ⟨q.1, q.2, e.symm⟩
    · have q := pv.map strV
      rw [List.map_map] at q
      rw [← e]
      exact q
  have hlen : vs.length = l.length := by rw [hvw.length]; exact hpw.length_eq
  have hok : sortOk (ws.map .str) = true := by
    unfold sortOk
    rw [Bool.and_eq_true, Bool.and_eq_true, Bool.or_eq_true]
    refine ⟨⟨?_, List.all_eq_true.mpr fun d hd => List.all_eq_true.mpr fun d' hd' => ?_⟩, .inr (List.all_eq_true.mpr fun d hd => ?_)⟩
    · exact shaped_strs fun k hk => hst k (hpw.mem_iff.mp hk)
    · obtain ⟨f, hf, rfl⟩ := List.mem_map.mp hd
      obtain ⟨g, hg, rfl⟩ := List.mem_map.mp hd'
      rw [cmpD]
    · obtain ⟨f, hf, rfl⟩ := List.mem_map.mp hd
      rfl
  obtain ⟨hc, hs, hdep⟩ := sortOk_c hok
  refine wpAny_bind (wpAny_newList ?_ (by rw [hlen, sizeLine_eq]; omega))
  have hoL : (s1.heap.push (seqObj "list" vs.toArray 0)).get? s1.heap.objs.size = some (seqObj "list" vs.toArray 0) := Heap.get?_push_size _ rfl
  generalize hG : sortingHeap (s1.heap.push (seqObj "list" vs.toArray 0)) s1.heap.objs.size vs = G
  have er : ∀ h : Heap, EachIs (fun v d => ∃ as, Reads h v d as) vs (ws.map .str) := fun h => each_reads h hvw
  have S : SortsAt P w A.in1.in1 { s1 with heap := G } (dataKind G (ws.map .str)) vs := SortsAt.c (s := { s1 with heap := G }) (er G) hc hs fun d hd => by
    have := hdep d hd
    show A.units + 1 + 1 + d.depth < cLine
    omega
  rw [← hG] at S
  refine wpAny_bind (wpAny_holding (wpAny_call_entry slot_list_sort ⟨_, hoL, rfl⟩ entry_list_sort (list_sort_vals (s := { s1 with heap := s1.heap.push (seqObj "list" vs.toArray 0) }) hoL S (by rw [hlen, sizeLine_eq]; omega) ⟨_, rfl, ?_⟩) (args_list_sort _)))
  rw [hG]
  have hk : EachIs (fun v (k : Str) => (dataKind G (ws.map .str)).keyOf v = some (keyToks (.str k))) vs ws := (each_mem hvw).mono fun v k ⟨⟨t, e⟩, hk⟩ => by
    subst e
    exact dataKind_c hc (List.mem_map.mpr ⟨k, hk, rfl⟩) (.str k t)
  have eo := sortVals_each (κ := dataKind G (ws.map .str)) (rev := false) (fun k : Str => keyToks (.str k)) hvw hk
  generalize hout : (sortVals (dataKind G (ws.map .str)) false vs vs) = out at eo
  obtain ⟨c, hc2⟩ := sortedHeap_at (vs := vs) (out := out.toArray) hoL
  refine wpAny_pure ⟨_, rfl, hQ _ s1.heap.objs.size out.toArray c (ws.mergeSort leT) (fun b u e => ?_) g1 o1 hz hc2 (show Vals ((ws.mergeSort leT).map V.str) out from each_vals eo) ?_⟩
  · have q := k1 b u e
    have hlt := Heap.lt_size q
    show (sortedHeap (s1.heap.push (seqObj "list" vs.toArray 0)) s1.heap.objs.size vs out.toArray).get? b = some u
    rw [sortedHeap_old (Nat.ne_of_lt hlt) (by rw [size_push']; exact Nat.lt_succ_of_lt hlt)]
    exact Heap.get?_push_of_some _ q
  · rw [← sortT_perm hpw]
    unfold sortL
    rw [List.map_mergeSort (r := leT) (s := dataLe false id) (f := PyData.str) (fun a _ b _ => rfl)]
end
section
variable {X : Cx}
def rSortT (P : Program) (w : World) : List V → Hp → VK → Prop := fun xs H Q => ∃ (a : Addr) (l : List Str), xs = [.ref a] ∧ H a = some (SetT P w a l) ∧ l.length ≤ 3000 ∧ (∀ k ∈ l, PyData.strOk k = true) ∧ ∀ (p : Addr) (ns : List Str), H p = none → ns.map PyData.str = sortL (l.map .str) → Q (.ref p) (upd H p (.lst (ns.map V.str)))
theorem cr_sortT (hc : X.calm = true) (hu : X.A.units + 200 < cLine) : CallR X (.builtin "sorted") (rSortT X.prog X.w) := by
  intro pins s σ H xs us Q I r h
  obtain ⟨a, l, rfl, ha, hl, hst, q⟩ := h
  obtain ⟨u, rfl, ru⟩ := r.one
  obtain rfl : u = Value.ref a := ru
  refine sorted_tx (I.hok a _ ha).1 (I.ok.hd hc) hl hu hst fun s' p out c ns k g o hp hL hv hns => ?_
  have hf : H p = none := I.hok.fresh hp
  have hlen : ns.length ≤ sizeLine := by
    have e := congrArg List.length hns
    unfold sortL at e
    rw [List.length_map, List.length_mergeSort, List.length_map] at e
    rw [sizeLine_eq]; omega
  have new : ObjOk X.prog X.w (upd H p (.lst (ns.map V.str))) s'.heap p (.lst (ns.map V.str)) := ⟨by rw [List.length_map]; exact hlen, out.toList, c, hv, by rw [hL]⟩
  exact ⟨.ref p, upd H p (.lst (ns.map V.str)), I.call' (ch := []) o (Un.laid k hp hf) (I.hok.laid k hp new) (by rw [g]; exact I.bare) (fun _ z => nomatch z), rfl, q p ns hf hns⟩
end
/-! ### the data's side -/
def txs? : List PyData → Option (List Str)
  | [] => some []
  | .str w :: ds => (txs? ds).map (w :: ·)
  | _ :: _ => none
theorem txs?_map : ∀ ws : List Str, txs? (ws.map .str) = some ws
  | [] => rfl
  | w :: ws => by show (txs? (ws.map .str)).map (w :: ·) = _; rw [txs?_map ws]; rfl
theorem txs?_of : ∀ {ds : List PyData} {ws : List Str}, txs? ds = some ws → ds = ws.map .str
  | [], ws, h => by cases h; rfl
  | .str w :: ds, ws, h => by
    have h' : (txs? ds).map (w :: ·) = some ws := h
    cases e : txs? ds with
    | none => rw [e] at h'; cases h'
    | some vs => rw [e] at h'; cases h'; rw [txs?_of e]; rfl
  | .none :: _, _, h => nomatch h
  | .bool _ :: _, _, h => nomatch h
  | .int _ :: _, _, h => nomatch h
  | .list _ :: _, _, h => nomatch h
  | .tuple _ :: _, _, h => nomatch h
  | .dict _ :: _, _, h => nomatch h
def sortSetD : List PyData → Option PyData
  | [.list ds] => (txs? ds).bind fun ws => if ws.length ≤ 3000 ∧ ws.all PyData.strOk = true then some (.list (sortL ((ws.foldl addL []).map .str))) else none
  | _ => none
theorem fold_mem : ∀ (ws l : List Str) (k : Str), k ∈ ws.foldl addL l ↔ k ∈ l ∨ k ∈ ws
  | [], l, k => by simp
  | w :: ws, l, k => by
    rw [List.foldl_cons, fold_mem ws (addL l w) k, addL_mem, List.mem_cons, or_assoc]
theorem fold_len : ∀ (ws l : List Str), (ws.foldl addL l).length ≤ l.length + ws.length
  | [], l => by simp
  | w :: ws, l => by
    have h1 := fold_len ws (addL l w)
    have h2 := addL_len l w
    rw [List.foldl_cons, List.length_cons]
    omega
theorem rp_strs {K : PySem.W.Frag} {H : Hp} {av : Addr → Prop} : ∀ {vs : List V} {ws : List Str}, RpAll K H av vs (ws.map .str) → vs = ws.map V.str
  | _, [], .nil => rfl
  | _, w :: ws, .cons h r => by rw [rp_strs r, h.bw.str]; rfl
theorem strs_rp {K : PySem.W.Frag} {H : Hp} {av : Addr → Prop} : ∀ (ws : List Str), RpAll K H av (ws.map V.str) (ws.map .str)
  | [] => .nil
  | w :: ws => .cons (.str w) (strs_rp ws)
section
variable {X : Cx} {C : Cc} {O : List Nat} {e : Expr} {f : FE} {p p2 pos pos2 : Pos}
theorem df_sortSet (hc : X.calm = true) (hu : X.A.units + 200 < cLine) (hg : Gl X "sorted") (hm : X.mg "sorted" = none) (hg2 : Gl X "set") (hm2 : X.mg "set" = none) (ha : DAB X C O [e] [f])
    (hs : starEach [e] X.env = (false, eval e X.env) :: starEach [] X.env := by rfl) :
    DF X C O (.Call (.Name "sorted" p) [.Call (.Name "set" p2) [e] [] pos2] [] pos) (cal sortSetD [f]) := by
  have h1 : PE X (.Call (.Name "set" p2) [e] [] pos2) _ := pe_callTy (cr_setT hc) hg2 hm2 PyProof.Rows.boot_set ha (by decide) (by decide) hs (by rfl)
  refine pe_imp (pe_callB (cr_sortT hc hu) hg hm boot_sorted (pa_cons h1 pa_nil (by rfl)) (by decide) (by decide) (by rfl) (by rfl)) fun σ H Q h => ?_
  obtain ⟨B, δ, ad, r, k⟩ := h
  refine ⟨B, δ, ad, r, k.bind.imp (fun ds _ q vs H1 s1 zs => ?_) fun _ _ z => z⟩
  obtain ⟨z, ez, q⟩ := q.ofO
  unfold sortSetD at ez
  split at ez
  · rename_i ds _
    cases est : txs? ds with
    | none => rw [est] at ez; cases ez
    | some ws =>
      rw [est] at ez
      simp only [Option.bind_some] at ez
      split at ez
      · rename_i hw
        cases ez
        obtain ⟨v, rfl, b⟩ := zs.one
        obtain ⟨a, xs, rfl, hp, rp⟩ := b.list
        rw [txs?_of est] at rp
        have ex := rp_strs rp
        subst ex
        refine ⟨a, ws, rfl, hp, hw.1, fun a1 h1 => ⟨a1, ws.foldl addL [], rfl, upd_same, by have := fold_len ws []; simp at this; omega, fun kk hk => ?_, fun p1 ns hp1 hns => ?_⟩⟩
        · rcases (fold_mem ws [] kk).mp hk with z | z
          · cases z
          · exact List.all_eq_true.mp hw.2 kk z
        · have sa := same_new h1 (SetT X.prog X.w a1 (ws.foldl addL []))
          have sb := same_new hp1 (HO.lst (ns.map V.str))
          refine q _ _ (s1.trans (sa.trans sb)) ⟨p1, rfl, s1.free (sa.free hp1), _, upd_same, ?_⟩
          rw [← hns]
          exact strs_rp ns
      · cases ez
  · cases ez
end
end Dl


namespace Kn
open PySem Dl
abbrev Fx := List PyData → R PyData
abbrev Cl := Nat → Fx
end Kn
namespace Kn
open PySem Dl
noncomputable section
/-- _law_mix: 0 cell_here, 1 k, 2 first -/
def b__law_mix : FS :=
  (sq (setS 2 (op2 modD (op2 mulD (op2 addD (vr 0) (cst (.int 1))) (op2 addD (cst (.int 48271)) (op2 mulD (cst (.int 118)) (vr 1)))) (cst (.int 2147483629)))) (retS (op2 modD (op2 addD (op2 addD (op2 mulD (op2 fdivD (vr 2) (cst (.int 977))) (cst (.int 16807))) (op2 mulD (vr 2) (op2 addD (op2 mulD (vr 1) (vr 1)) (cst (.int 7))))) (vr 1)) (cst (.int 2147483587)))))
def b__law_cell_r1 (f_law_mix : Fx) : FS :=
  (retS (callF f_law_mix [(vr 2), (op2 addD (vr 1) (cst (.int 101)))]))
/-- _law_cell: 0 script, 1 k, 2 cell_here -/
def b__law_cell (f_law_mix : Fx) : FS :=
  (sq (setS 2 (cst (.int 0))) (sq (ifS (tst (op2 ltD (vr 1) (cal lenD [(vr 0)]))) (setS 2 (op2 modD (op2 ixD (vr 0) (vr 1)) (cst (.int 2147483647)))) skp) (b__law_cell_r1 f_law_mix)))
def b__law_words_l1 (f_law_mix : Fx) : FS :=
  (sq (setS 9 (op2 ixD (vr 1) (op2 modD (op2 addD (vr 7) (op2 mulD (cst (.int 7)) (vr 6))) (cst (.int 26))))) (appS 8 (op2 addD (op2 addD (slc (vr 4) noP (prt (vr 3))) (vr 9)) (slc (vr 4) (prt (op2 addD (vr 3) (cst (.int 1)))) noP))))
def b__law_words_r1 (f_law_mix : Fx) : FS :=
  (retS (vr 8))
def b__law_words_r2 (f_law_mix : Fx) : FS :=
  (sq (setS 7 (op2 modD (op2 fdivD (vr 0) (cst (.int 128))) (cst (.int 26)))) (sq (setS 8 (mkL [])) (sq (forS (itR [(op2 addD (cst (.int 2)) (op2 modD (op2 fdivD (vr 0) (cst (.int 4096))) (cst (.int 3))))]) (bN 6) (b__law_words_l1 f_law_mix)) (b__law_words_r1 f_law_mix))))
/-- _law_words: 0 cell_here, 1 small, 2 size, 3 at, 4 stem, 5 signs, 6 k, 7 first, 8 found, 9 sign -/
def b__law_words (f_law_mix : Fx) : FS :=
  (sq (setS 1 (cst (.str "abcdefghijklmnopqrstuvwxyz"))) (sq (setS 2 (op2 addD (cst (.int 1)) (op2 modD (vr 0) (cst (.int 8))))) (sq (setS 3 (op2 modD (op2 fdivD (vr 0) (cst (.int 8))) (vr 2))) (sq (setS 4 (op2 mulD (cst (.str "k")) (vr 2))) (sq (ifS (tst (op2 eqD (op2 modD (op2 fdivD (vr 0) (cst (.int 64))) (cst (.int 2))) (cst (.int 0)))) (sq (setS 5 (lcF [6] (itR [(vr 2)]) (bN 6) yesT (op2 ixD (vr 1) (op2 modD (callF f_law_mix [(vr 0), (op2 addD (cst (.int 60)) (vr 6))]) (cst (.int 26)))))) (setS 4 (un1 (joinD "") (vr 5)))) skp) (b__law_words_r2 f_law_mix))))))
def b__law_words_v2_r1 : FS :=
  (sq (setS 6 (op2 modD (op2 fdivD (vr 0) (cst (.int 256))) (cst (.int 6)))) (retS (slc (op2 addD (slc (vr 2) (prt (vr 6)) noP) (slc (vr 2) noP (prt (vr 6)))) noP (prt (vr 1)))))
def b__law_words_v2_r2 : FS :=
  (sq (ifS (tst (op2 eqD (op2 modD (vr 0) (cst (.int 4))) (cst (.int 3)))) (setS 2 (mkL [(cst (.str "low")), (cst (.str "one")), (cst (.str "both")), (cst (.str "then")), (cst (.str "letter")), (cst (.str "lows"))])) skp) b__law_words_v2_r1)
def b__law_words_v2_r3 : FS :=
  (sq (ifS (tst (op2 eqD (op2 modD (vr 0) (cst (.int 4))) (cst (.int 2)))) (sq (setS 4 (op2 addD (cst (.int 1)) (op2 modD (op2 fdivD (vr 0) (cst (.int 4))) (cst (.int 8))))) (sq (setS 5 (op2 modD (op2 fdivD (vr 0) (cst (.int 32))) (vr 4))) (setS 2 (lcF [3] (itR [(cst (.int 6))]) (bN 3) yesT (op2 addD (op2 addD (op2 mulD (cst (.str "m")) (vr 5)) (op2 ixD (cst (.str "aghmxz")) (vr 3))) (op2 mulD (cst (.str "m")) (op2 subD (op2 subD (vr 4) (cst (.int 1))) (vr 5)))))))) skp) b__law_words_v2_r2)
/-- _law_words: 0 cell_here, 1 many, 2 some_here, 3 k, 4 size, 5 at, 6 start -/
def b__law_words_v2 : FS :=
  (sq (setS 2 (mkL [(cst (.str "a")), (cst (.str "b")), (cst (.str "c")), (cst (.str "d")), (cst (.str "e")), (cst (.str "f"))])) (sq (ifS (tst (op2 eqD (op2 modD (vr 0) (cst (.int 4))) (cst (.int 1)))) (setS 2 (lcF [3] (itR [(cst (.int 6))]) (bN 3) yesT (op2 mulD (cst (.str "k")) (op2 addD (cst (.int 1)) (vr 3))))) skp) b__law_words_v2_r3))
def b__law_statement_r1 (f_law_mix : Fx) (f_law_statement : Fx) : FS :=
  (sq (setS 4 (op2 addD (cst (.int 1)) (op2 mulD (op2 modD (op2 fdivD (vr 0) (cst (.int 5))) (op2 fdivD (op2 subD (vr 1) (cst (.int 1))) (cst (.int 2)))) (cst (.int 2))))) (sq (setS 5 (callF f_law_statement [(callF f_law_mix [(vr 0), (cst (.int 2))]), (vr 4), (vr 2)])) (retS (mkT [(vr 3), (vr 5), (callF f_law_statement [(callF f_law_mix [(vr 0), (cst (.int 3))]), (op2 subD (op2 subD (vr 1) (cst (.int 1))) (vr 4)), (vr 2)])]))))
def b__law_statement_r2 (f_law_mix : Fx) (f_law_statement : Fx) : FS :=
  (sq (setS 3 (op2 ixD (mkL [(cst (.str "both")), (cst (.str "one")), (cst (.str "then")), (cst (.str "then")), (cst (.str "not"))]) (op2 modD (vr 0) (cst (.int 5))))) (sq (ifS (tst (op2 eqD (vr 3) (cst (.str "not")))) (retS (mkT [(cst (.str "then")), (callF f_law_statement [(callF f_law_mix [(vr 0), (cst (.int 1))]), (op2 subD (vr 1) (cst (.int 2))), (vr 2)]), (mkT [(cst (.str "low"))])])) skp) (b__law_statement_r1 f_law_mix f_law_statement)))
/-- _law_statement: 0 cell_here, 1 many, 2 words_here, 3 form, 4 first, 5 one -/
def b__law_statement (f_law_mix : Fx) (f_law_statement : Fx) : FS :=
  (sq (ifS (tst (op2 ltD (vr 1) (cst (.int 3)))) (sq (ifS (tst (op2 eqD (op2 modD (vr 0) (cst (.int 6))) (cst (.int 0)))) (retS (mkT [(cst (.str "low"))])) skp) (retS (mkT [(cst (.str "letter")), (op2 ixD (vr 2) (op2 modD (op2 fdivD (vr 0) (cst (.int 6))) (cal lenD [(vr 2)])))]))) skp) (b__law_statement_r2 f_law_mix f_law_statement))
def b__law_statement_v2_r1 (f_law_leaf : Fx) (f_law_mix : Fx) (f_law_statement : Fx) : FS :=
  (sq (setS 5 (callF f_law_statement [(callF f_law_mix [(vr 0), (cst (.int 3))]), (vr 4), (vr 2)])) (sq (setS 6 (callF f_law_statement [(callF f_law_mix [(vr 0), (cst (.int 4))]), (op2 subD (vr 3) (vr 4)), (vr 2)])) (retS (mkT [(op2 ixD (mkL [(cst (.str "both")), (cst (.str "one")), (cst (.str "then")), (cst (.str "then"))]) (op2 modD (vr 0) (cst (.int 4)))), (vr 5), (vr 6)]))))
def b__law_statement_v2_r2 (f_law_leaf : Fx) (f_law_mix : Fx) (f_law_statement : Fx) : FS :=
  (sq (setS 3 (op2 subD (vr 1) (cst (.int 1)))) (sq (setS 4 (op2 addD (cst (.int 1)) (op2 modD (callF f_law_mix [(vr 0), (cst (.int 2))]) (op2 subD (vr 3) (cst (.int 1)))))) (sq (ifS (tst (op2 geD (vr 1) (cst (.int 40)))) (setS 4 (op2 addD (op2 fdivD (vr 3) (cst (.int 4))) (op2 modD (callF f_law_mix [(vr 0), (cst (.int 2))]) (op2 fdivD (vr 3) (cst (.int 2)))))) skp) (b__law_statement_v2_r1 f_law_leaf f_law_mix f_law_statement))))
def b__law_statement_v2_r3 (f_law_leaf : Fx) (f_law_mix : Fx) (f_law_statement : Fx) : FS :=
  (sq (ifS (andT (tst (op2 ltD (vr 1) (cst (.int 40)))) (tst (op2 eqD (op2 modD (op2 fdivD (vr 0) (cst (.int 4))) (cst (.int 4))) (cst (.int 0))))) (retS (mkT [(cst (.str "then")), (callF f_law_statement [(callF f_law_mix [(vr 0), (cst (.int 1))]), (op2 subD (vr 1) (cst (.int 2))), (vr 2)]), (mkT [(cst (.str "low"))])])) skp) (b__law_statement_v2_r2 f_law_leaf f_law_mix f_law_statement))
/-- _law_statement: 0 cell_here, 1 size_here, 2 words_here, 3 rest, 4 few, 5 one, 6 other -/
def b__law_statement_v2 (f_law_leaf : Fx) (f_law_mix : Fx) (f_law_statement : Fx) : FS :=
  (sq (ifS (tst (op2 ltD (vr 1) (cst (.int 3)))) (retS (callF f_law_leaf [(op2 fdivD (vr 0) (cst (.int 5))), (vr 2)])) skp) (b__law_statement_v2_r3 f_law_leaf f_law_mix f_law_statement))
def b_once_l1 : FS :=
  (ifS (orT (tst (op2 eqD (vr 1) (mkL []))) (tst (op2 neD (op2 ixD (vr 1) (un1 negD (cst (.int 1)))) (vr 2)))) (appS 1 (vr 2)) skp)
def b_once_r1 : FS :=
  (retS (vr 1))
/-- once: 0 some, 1 found, 2 statement -/
def b_once : FS :=
  (sq (setS 1 (mkL [])) (sq (forS (itL (cal sortD [(vr 0)])) (bN 2) b_once_l1) b_once_r1))
/-- _law_whole: 0 found -/
def b__law_whole : FS :=
  (retS (andV (isiF "int" (vr 0)) (notV (isiF "bool" (vr 0)))))
def b_later_l1 : FS :=
  (ifS (andT (tst (op2 gtD (vr 3) (vr 1))) (tst (op2 dinD (op2 ixD (vr 4) (cst (.int 0))) (vr 2)))) (dputS 2 (vr 3) (cst (.bool true))) skp)
def b_later_r1 : FS :=
  (retS (keysF (vr 2)))
/-- later: 0 worlds, 1 world, 2 found, 3 number, 4 pair -/
def b_later : FS :=
  (sq (setS 2 (mkD [((vr 1), (cst (.bool true)))])) (sq (forS (it1 enumL (vr 0)) (bT [3, 4]) b_later_l1) b_later_r1))
def b__law_worlds_l1 (f_law_cell : Fx) (f_law_some : Fx) (f_law_mix : Fx) : FS :=
  (sq (setS 6 (callF f_law_mix [(callF f_law_cell [(vr 0), (op2 addD (op2 addD (vr 1) (cst (.int 2))) (op2 modD (vr 5) (cal maxD [(cst (.int 1)), (cal lenD [(vr 0)])])))]), (op2 addD (vr 5) (cst (.int 40)))])) (sq (setS 7 (op2 modD (vr 6) (vr 5))) (sq (ifS (tst (op2 eqD (op2 modD (op2 fdivD (vr 6) (cst (.int 64))) (cst (.int 4))) (cst (.int 0)))) (setS 7 (op2 subD (vr 5) (cst (.int 1)))) skp) (appS 4 (mkT [(vr 7), (callF f_law_some [(op2 fdivD (vr 6) (cst (.int 256))), (op2 ixD (op2 ixD (vr 4) (vr 7)) (cst (.int 1))), (vr 3)])])))))
def b__law_worlds_r1 (f_law_cell : Fx) (f_law_some : Fx) (f_law_mix : Fx) : FS :=
  (retS (vr 4))
/-- _law_worlds: 0 script, 1 start, 2 most, 3 words_here, 4 made, 5 k, 6 cell_here, 7 before -/
def b__law_worlds (f_law_cell : Fx) (f_law_some : Fx) (f_law_mix : Fx) : FS :=
  (sq (setS 4 (mkL [(mkT [(cst .none), (callF f_law_some [(callF f_law_cell [(vr 0), (vr 1)]), (mkL []), (vr 3)])])])) (sq (forS (itR [(cst (.int 1)), (op2 addD (cst (.int 1)) (op2 modD (callF f_law_cell [(vr 0), (op2 addD (vr 1) (cst (.int 1)))]) (vr 2)))]) (bN 5) (b__law_worlds_l1 f_law_cell f_law_some f_law_mix)) (b__law_worlds_r1 f_law_cell f_law_some f_law_mix)))
def b__law_some_l1 (f_law_mix : Fx) : FS :=
  (ifS (andT (tst (op2 notInD (vr 5) (vr 3))) (tst (op2 eqD (op2 modD (callF f_law_mix [(vr 0), (op2 addD (cst (.int 60)) (vr 4))]) (cst (.int 4))) (cst (.int 0))))) (appS 3 (vr 5)) skp)
def b__law_some_r1 (f_law_mix : Fx) : FS :=
  (retS (cal sortD [(vr 3)]))
/-- _law_some: 0 cell_here, 1 old, 2 words_here, 3 found, 4 k, 5 word -/
def b__law_some (f_law_mix : Fx) : FS :=
  (sq (setS 3 (cal listD [(vr 1)])) (sq (forS (it1 enumL (vr 2)) (bT [4, 5]) (b__law_some_l1 f_law_mix)) (b__law_some_r1 f_law_mix)))
/-- _law_copy: 0 worlds_here, 1 before, 2 words_here -/
def b__law_copy : FS :=
  (retS (lcF [1, 2] (itL (vr 0)) (bT [1, 2]) yesT (mkT [(vr 1), (cal listD [(vr 2)])])))
def b__law_closed_l1 (f_law_whole : Fx) : FS :=
  (ifS (notT (tst (op2 ltD (vr 3) (vr 4)))) (retS (cst (.bool false))) skp)
def b__law_closed_l2 (f_law_whole : Fx) : FS :=
  (ifS (orT (notT (tst (callF f_law_whole [(vr 5)]))) (tst (op2 geD (vr 5) (cal lenD [(vr 1)])))) (retS (cst (.bool false))) skp)
def b__law_closed_l3 (f_law_whole : Fx) : FS :=
  (ifS (tst (op2 neD (op2 inD (vr 5) (vr 0)) (op2 inD (op2 ixD (op2 ixD (vr 1) (vr 5)) (cst (.int 0))) (vr 0)))) (retS (cst (.bool false))) skp)
def b__law_closed_r1 (f_law_whole : Fx) : FS :=
  (retS (cst (.bool true)))
def b__law_closed_r2 (f_law_whole : Fx) : FS :=
  (sq (forS (itR [(op2 addD (vr 2) (cst (.int 1))), (cal lenD [(vr 1)])]) (bN 5) (b__law_closed_l3 f_law_whole)) (b__law_closed_r1 f_law_whole))
def b__law_closed_r3 (f_law_whole : Fx) : FS :=
  (sq (forS (itL (vr 0)) (bN 5) (b__law_closed_l2 f_law_whole)) (b__law_closed_r2 f_law_whole))
def b__law_closed_r4 (f_law_whole : Fx) : FS :=
  (sq (forS (itZA (slc (vr 0) noP (prt (un1 negD (cst (.int 1))))) (slc (vr 0) (prt (cst (.int 1))) noP)) (bT [3, 4]) (b__law_closed_l1 f_law_whole)) (b__law_closed_r3 f_law_whole))
/-- _law_closed: 0 found, 1 worlds_here, 2 world, 3 one, 4 other, 5 number -/
def b__law_closed (f_law_whole : Fx) : FS :=
  (sq (ifS (orT (notT (tst (isiF "list" (vr 0)))) (orT (tst (op2 eqD (vr 0) (mkL []))) (tst (op2 neD (op2 ixD (vr 0) (cst (.int 0))) (vr 2))))) (retS (cst (.bool false))) skp) (b__law_closed_r4 f_law_whole))
def b__law_leaf_r1 : FS :=
  (retS (mkT [(cst (.str "letter")), (op2 ixD (vr 1) (op2 modD (op2 fdivD (vr 0) (cst (.int 6))) (cal lenD [(vr 1)])))]))
/-- _law_leaf: 0 cell_here, 1 words_here -/
def b__law_leaf : FS :=
  (sq (ifS (tst (op2 eqD (op2 modD (vr 0) (cst (.int 6))) (cst (.int 0)))) (retS (mkT [(cst (.str "low"))])) skp) b__law_leaf_r1)
def b__law_lifted_r1 (f_law_lifted : Fx) : FS :=
  (retS (op2 addD (mkT [(op2 ixD (vr 0) (cst (.int 0))), (callF f_law_lifted [(op2 ixD (vr 0) (cst (.int 1))), (vr 1)])]) (slc (vr 0) (prt (cst (.int 2))) noP)))
def b__law_lifted_r2 (f_law_lifted : Fx) : FS :=
  (sq (ifS (tst (op2 inD (op2 ixD (vr 0) (cst (.int 0))) (mkT [(cst (.str "pair")), (cst (.str "use"))]))) (retS (mkT [(op2 ixD (vr 0) (cst (.int 0))), (callF f_law_lifted [(op2 ixD (vr 0) (cst (.int 1))), (vr 1)]), (callF f_law_lifted [(op2 ixD (vr 0) (cst (.int 2))), (vr 1)])])) skp) (b__law_lifted_r1 f_law_lifted))
def b__law_lifted_r3 (f_law_lifted : Fx) : FS :=
  (sq (ifS (tst (op2 eqD (op2 ixD (vr 0) (cst (.int 0))) (cst (.str "cases")))) (sq (setS 2 (mkT [(callF f_law_lifted [(op2 ixD (vr 0) (cst (.int 2))), (op2 addD (vr 1) (cst (.int 1)))]), (callF f_law_lifted [(op2 ixD (vr 0) (cst (.int 3))), (op2 addD (vr 1) (cst (.int 1)))])])) (retS (op2 addD (mkT [(cst (.str "cases")), (callF f_law_lifted [(op2 ixD (vr 0) (cst (.int 1))), (vr 1)])]) (vr 2)))) skp) (b__law_lifted_r2 f_law_lifted))
def b__law_lifted_r4 (f_law_lifted : Fx) : FS :=
  (sq (ifS (tst (op2 eqD (op2 ixD (vr 0) (cst (.int 0))) (cst (.str "fun")))) (retS (mkT [(cst (.str "fun")), (op2 ixD (vr 0) (cst (.int 1))), (callF f_law_lifted [(op2 ixD (vr 0) (cst (.int 2))), (op2 addD (vr 1) (cst (.int 1)))])])) skp) (b__law_lifted_r3 f_law_lifted))
/-- _law_lifted: 0 term, 1 own, 2 rest -/
def b__law_lifted (f_law_lifted : Fx) : FS :=
  (sq (ifS (tst (op2 eqD (op2 ixD (vr 0) (cst (.int 0))) (cst (.str "at")))) (retS (op2 ixD (mkL [(vr 0), (mkT [(cst (.str "at")), (op2 addD (op2 ixD (vr 0) (cst (.int 1))) (cst (.int 1)))])]) (cal intD [(op2 geD (op2 ixD (vr 0) (cst (.int 1))) (vr 1))]))) skp) (b__law_lifted_r4 f_law_lifted))
def b__law_size_l1 : FS :=
  (sq (popS 2 (bN 3)) (sq (augS 1 (fun a b => a + b) (cst (.int 1))) (ifS (tst (op2 eqD (cal lenD [(vr 3)]) (cst (.int 3)))) (extS 2 (mkL [(op2 ixD (vr 3) (cst (.int 1))), (op2 ixD (vr 3) (cst (.int 2)))])) skp)))
def b__law_size_r1 : FS :=
  (retS (vr 1))
/-- _law_size: 0 statement_here, 1 many, 2 todo, 3 here -/
def b__law_size : FS :=
  (sq (setS 1 (cst (.int 0))) (sq (setS 2 (mkL [(vr 0)])) (sq (whD (tst (op2 neD (vr 2) (mkL []))) b__law_size_l1 1000000000) b__law_size_r1)))
def b__law_simple_r1 (f_law_statement : Fx) : FS :=
  (retS (mkT [(mkT [(cst (.str "at")), (op2 modD (op2 fdivD (vr 0) (cst (.int 7))) (cal lenD [(vr 1)]))]), (op2 ixD (vr 1) (op2 modD (op2 fdivD (vr 0) (cst (.int 7))) (cal lenD [(vr 1)])))]))
/-- _law_simple: 0 cell_here, 1 given_here, 2 words_here, 3 here -/
def b__law_simple (f_law_statement : Fx) : FS :=
  (sq (ifS (orT (tst (op2 eqD (vr 1) (mkL []))) (tst (op2 eqD (op2 modD (vr 0) (cst (.int 7))) (cst (.int 0))))) (sq (setS 3 (callF f_law_statement [(op2 fdivD (vr 0) (cst (.int 7))), (op2 addD (cst (.int 1)) (op2 modD (op2 fdivD (vr 0) (cst (.int 7))) (cst (.int 4)))), (vr 2)])) (retS (mkT [(mkT [(cst (.str "fun")), (vr 3), (mkT [(cst (.str "at")), (cst (.int 0))])]), (mkT [(cst (.str "then")), (vr 3), (vr 3)])]))) skp) (b__law_simple_r1 f_law_statement))
def b__law_sided_r1 (f_law_mix : Fx) (f_law_made : Fx) (f_law_simple : Fx) : FS :=
  (sq (setS 6 (op2 ixD (callF f_law_simple [(callF f_law_mix [(vr 0), (cst (.int 2))]), (vr 2), (vr 3)]) (cst (.int 0)))) (retS (mkT [(op2 ixD (mkL [(mkT [(cst (.str "left")), (mkT [(cst (.str "pair")), (vr 4), (vr 6)])]), (mkT [(cst (.str "right")), (mkT [(cst (.str "pair")), (vr 6), (vr 4)])])]) (op2 modD (vr 0) (cst (.int 2)))), (vr 5)])))
/-- _law_sided: 0 cell_here, 1 size_here, 2 given_here, 3 words_here, 4 term, 5 shape, 6 other -/
def b__law_sided (f_law_mix : Fx) (f_law_made : Fx) (f_law_simple : Fx) : FS :=
  (sq (asgS (bT [4, 5]) (callF f_law_made [(callF f_law_mix [(vr 0), (cst (.int 1))]), (op2 subD (vr 1) (cst (.int 1))), (vr 2), (vr 3)])) (sq (ifS (tst (op2 eqD (op2 ixD (vr 5) (cst (.int 0))) (cst (.str "both")))) (retS (op2 ixD (mkL [(mkT [(mkT [(cst (.str "left")), (vr 4)]), (op2 ixD (vr 5) (cst (.int 1)))]), (mkT [(mkT [(cst (.str "right")), (vr 4)]), (op2 ixD (vr 5) (cst (.int 2)))])]) (op2 modD (vr 0) (cst (.int 2))))) skp) (b__law_sided_r1 f_law_mix f_law_made f_law_simple)))
def b__law_long_v2_l1 (f_law_mix : Fx) (f_later : Fx) (f_known : Fx) : FS :=
  (sq (setS 6 (lcF [7, 8] (itL (mkL [(mkT [(cst (.str "a")), (vr 2)]), (mkT [(cst (.str "b")), (vr 3)])])) (bT [7, 8]) (tst (op2 geD (vr 5) (vr 8))) (vr 7))) (appS 4 (mkT [(op2 ixD (mkL [(op2 subD (vr 5) (cst (.int 1))), (cst .none)]) (cal intD [(op2 eqD (vr 5) (cst (.int 0)))])), (vr 6)])))
def b__law_long_v2_r1 (f_law_mix : Fx) (f_later : Fx) (f_known : Fx) : FS :=
  (sq (setS 9 (lcF [5] (itR [(vr 1)]) (bN 5) yesT (op2 geD (cal maxD [(vr 5), (vr 2)]) (vr 3)))) (retS (op2 eqD (callF f_known [(vr 4), (mkT [(cst (.str "then")), (mkT [(cst (.str "letter")), (cst (.str "a"))]), (mkT [(cst (.str "letter")), (cst (.str "b"))])])]) (vr 9))))
def b__law_long_v2_r2 (f_law_mix : Fx) (f_later : Fx) (f_known : Fx) : FS :=
  (sq (ifS (tst (op2 neD (callF f_known [(vr 4), (mkT [(cst (.str "letter")), (cst (.str "a"))])]) (lcF [5] (itR [(vr 1)]) (bN 5) yesT (op2 geD (vr 5) (vr 2))))) (retS (cst (.bool false))) skp) (b__law_long_v2_r1 f_law_mix f_later f_known))
def b__law_long_v2_r3 (f_law_mix : Fx) (f_later : Fx) (f_known : Fx) : FS :=
  (sq (ifS (orT (tst (op2 neD (callF f_later [(vr 4), (cst (.int 0))]) (lrgF (vr 1)))) (tst (op2 neD (callF f_later [(vr 4), (vr 2)]) (lrgG (vr 2) (vr 1))))) (retS (cst (.bool false))) skp) (b__law_long_v2_r2 f_law_mix f_later f_known))
/-- _law_long: 0 cell_here, 1 size, 2 first, 3 second, 4 worlds_here, 5 k, 6 words_here, 7 word, 8 start, 9 due -/
def b__law_long_v2 (f_law_mix : Fx) (f_later : Fx) (f_known : Fx) : FS :=
  (sq (setS 1 (op2 addD (cst (.int 1100)) (op2 modD (vr 0) (cst (.int 401))))) (sq (setS 2 (op2 modD (op2 fdivD (vr 0) (cst (.int 401))) (vr 1))) (sq (setS 3 (op2 modD (callF f_law_mix [(vr 0), (cst (.int 1))]) (vr 1))) (sq (setS 4 (mkL [])) (sq (forS (itR [(vr 1)]) (bN 5) (b__law_long_v2_l1 f_law_mix f_later f_known)) (b__law_long_v2_r3 f_law_mix f_later f_known))))))
def b_lacking_l1 : FS :=
  (ifS (tst (op2 ixD (vr 3) (vr 6))) (putS 3 (op2 ixD (op2 ixD (vr 0) (vr 6)) (cst (.int 0))) (cst (.bool true))) skp)
def b_lacking_r1 : FS :=
  (retS (vr 3))
/-- lacking: 0 worlds, 1 ones, 2 others, 3 lacks, 4 one, 5 other, 6 number -/
def b_lacking : FS :=
  (sq (setS 3 (lcF [4, 5] (itZA (vr 1) (vr 2)) (bT [4, 5]) yesT (andV (vr 4) (notV (vr 5))))) (sq (forS (itD [(op2 subD (cal lenD [(vr 0)]) (cst (.int 1))), (cst (.int 0)), (un1 negD (cst (.int 1)))]) (bN 6) b_lacking_l1) b_lacking_r1))
def b_known_r1 (f_known : Fx) (f_lacking : Fx) : FS :=
  (retS (lcF [9] (itL (callF f_lacking [(vr 0), (vr 5), (vr 6)])) (bN 9) yesT (notV (vr 9))))
def b_known_r2 (f_known : Fx) (f_lacking : Fx) : FS :=
  (sq (ifS (tst (op2 eqD (op2 ixD (vr 1) (cst (.int 0))) (cst (.str "one")))) (retS (lcF [7, 8] (itZA (vr 5) (vr 6)) (bT [7, 8]) yesT (orV (vr 7) (vr 8)))) skp) (b_known_r1 f_known f_lacking))
def b_known_r3 (f_known : Fx) (f_lacking : Fx) : FS :=
  (sq (setS 5 (callF f_known [(vr 0), (op2 ixD (vr 1) (cst (.int 1)))])) (sq (setS 6 (callF f_known [(vr 0), (op2 ixD (vr 1) (cst (.int 2)))])) (sq (ifS (tst (op2 eqD (op2 ixD (vr 1) (cst (.int 0))) (cst (.str "both")))) (retS (lcF [7, 8] (itZA (vr 5) (vr 6)) (bT [7, 8]) yesT (andV (vr 7) (vr 8)))) skp) (b_known_r2 f_known f_lacking))))
def b_known_r4 (f_known : Fx) (f_lacking : Fx) : FS :=
  (sq (ifS (tst (op2 eqD (op2 ixD (vr 1) (cst (.int 0))) (cst (.str "letter")))) (retS (lcF [3, 4] (itL (vr 0)) (bT [3, 4]) yesT (op2 inD (op2 ixD (vr 1) (cst (.int 1))) (vr 4)))) skp) (b_known_r3 f_known f_lacking))
/-- known: 0 worlds, 1 statement, 2 pair, 3 before, 4 words, 5 ones, 6 others, 7 one, 8 other, 9 lacks -/
def b_known (f_known : Fx) (f_lacking : Fx) : FS :=
  (sq (ifS (tst (op2 eqD (op2 ixD (vr 1) (cst (.int 0))) (cst (.str "low")))) (retS (lcF [2] (itL (vr 0)) (bN 2) yesT (cst (.bool false)))) skp) (b_known_r4 f_known f_lacking))
def b__law_holds_l1 (f_law_told : Fx) : FS :=
  (sq (setS 5 (callF f_law_told [(vr 0), (vr 4)])) (sq (ifS (tst (op2 isD (vr 5) (cst .none))) (retS (cst (.bool false))) skp) (setS 3 (lcF [6, 7] (itZA (vr 3) (vr 5)) (bT [6, 7]) yesT (andV (vr 6) (vr 7))))))
def b__law_holds_r1 (f_law_told : Fx) : FS :=
  (retS (op2 eqD (lcF [8] (itR [(cal lenD [(vr 0)])]) (bN 8) (andT (tst (op2 ixD (vr 3) (vr 8))) (notT (tst (op2 ixD (vr 2) (vr 8))))) (vr 8)) (mkL [])))
def b__law_holds_r2 (f_law_told : Fx) : FS :=
  (sq (setS 3 (op2 mulD (mkL [(cst (.bool true))]) (cal lenD [(vr 0)]))) (sq (forS (itL (op2 ixD (vr 1) (cst (.int 1)))) (bN 4) (b__law_holds_l1 f_law_told)) (b__law_holds_r1 f_law_told)))
/-- _law_holds: 0 worlds_here, 1 line, 2 due, 3 all_known, 4 wish_here, 5 found_here, 6 one, 7 other, 8 k -/
def b__law_holds (f_law_told : Fx) : FS :=
  (sq (setS 2 (callF f_law_told [(vr 0), (op2 ixD (vr 1) (cst (.int 2)))])) (sq (ifS (tst (op2 isD (vr 2) (cst .none))) (retS (cst (.bool false))) skp) (b__law_holds_r2 f_law_told)))
def b__law_later_l1 : FS :=
  (ifS (tst (op2 inD (op2 ixD (op2 ixD (vr 0) (vr 3)) (cst (.int 0))) (vr 2))) (appS 2 (vr 3)) skp)
def b__law_later_r1 : FS :=
  (retS (vr 2))
/-- _law_later: 0 worlds_here, 1 world, 2 found, 3 number -/
def b__law_later : FS :=
  (sq (setS 2 (mkL [(vr 1)])) (sq (forS (itR [(op2 addD (vr 1) (cst (.int 1))), (cal lenD [(vr 0)])]) (bN 3) b__law_later_l1) b__law_later_r1))
def b__law_truths_r1 : FS :=
  (retS (op2 eqD (lcF [2] (itL (vr 0)) (bN 2) (notT (tst (isiF "bool" (vr 2)))) (vr 2)) (mkL [])))
/-- _law_truths: 0 found, 1 size, 2 truth -/
def b__law_truths : FS :=
  (sq (ifS (orT (notT (tst (isiF "list" (vr 0)))) (tst (op2 neD (cal lenD [(vr 0)]) (vr 1)))) (retS (cst (.bool false))) skp) b__law_truths_r1)
def b__law_alone_l1 : FS :=
  (sq (asgS (bT [4, 5]) (op2 ixD (vr 0) (vr 3))) (ifS (tst (op2 eqD (vr 2) (mkL []))) (appS 2 (mkT [(cst .none), (cal listD [(vr 5)])])) (appS 2 (mkT [(idxF (vr 1) (vr 4)), (cal listD [(vr 5)])]))))
def b__law_alone_r1 : FS :=
  (retS (vr 2))
/-- _law_alone: 0 worlds_here, 1 some_here, 2 made, 3 number, 4 before, 5 words_here -/
def b__law_alone : FS :=
  (sq (setS 2 (mkL [])) (sq (forS (itL (vr 1)) (bN 3) b__law_alone_l1) b__law_alone_r1))
def b__law_within_l1 : FS :=
  (sq (ifS (tst (op2 eqD (cal lenD [(op2 ixD (vr 1) (vr 2))]) (cst (.int 3)))) (sq (appS 1 (op2 ixD (op2 ixD (vr 1) (vr 2)) (cst (.int 1)))) (appS 1 (op2 ixD (op2 ixD (vr 1) (vr 2)) (cst (.int 2))))) skp) (augS 2 (fun a b => a + b) (cst (.int 1))))
def b__law_within_r1 : FS :=
  (retS (vr 1))
/-- _law_within: 0 statement_here, 1 found, 2 at -/
def b__law_within : FS :=
  (sq (setS 1 (mkL [(vr 0)])) (sq (setS 2 (cst (.int 0))) (sq (whD (tst (op2 ltD (vr 2) (cal lenD [(vr 1)]))) b__law_within_l1 1000000000) b__law_within_r1)))
end
end Kn

namespace Dl
open PySem L2

/-! ### how denotations are reckoned -/
theorem vr0 (d : PyData) (r : Ev) : vr 0 (some d :: r) = .ok d := Eq.trans rfl rfl
theorem vrS (i : Nat) (x : Option PyData) (r : Ev) : vr (i + 1) (x :: r) = vr i r := Eq.trans rfl rfl
theorem R.bind_ok {α β : Type} (a : α) (f : α → R β) : (R.ok a).bind f = f a := Eq.trans rfl rfl
theorem R.bind_err {α β : Type} (c : Str) (x : Option (Str × Int)) (f : α → R β) : (R.err c x : R α).bind f = .err c x := Eq.trans rfl rfl
theorem R.bind_bad {α β : Type} (f : α → R β) : (R.bad : R α).bind f = .bad := Eq.trans rfl rfl
theorem ofO_some {α : Type} (a : α) : ofO (some a) = .ok a := Eq.trans rfl rfl
/-- what stands behind a statement's end, a test's, an expression's -/
def sqK (r : SR) (h : FS) : SR := match r with
  | .nx δ => h δ
  | r => r
theorem ev_sq (g h : FS) (δ : Ev) : sq g h δ = sqK (g δ) h := Eq.trans rfl rfl
theorem sqK_nx (δ : Ev) (h : FS) : sqK (.nx δ) h = h δ := Eq.trans rfl rfl
theorem sqK_rt (d : PyData) (h : FS) : sqK (.rt d) h = .rt d := Eq.trans rfl rfl
theorem sqK_bk (δ : Ev) (h : FS) : sqK (.bk δ) h = .bk δ := Eq.trans rfl rfl
theorem sqK_ct (δ : Ev) (h : FS) : sqK (.ct δ) h = .ct δ := Eq.trans rfl rfl
theorem sqK_err (c : Str) (x : Option (Str × Int)) (δ : Ev) (h : FS) : sqK (.err c x δ) h = .err c x δ := Eq.trans rfl rfl
def ifK (r : R Bool) (a b : FS) (δ : Ev) : SR := match r with
  | .ok true => a δ
  | .ok false => b δ
  | .err c x => .err c x δ
  | .bad => .bad
theorem ev_if (c : FT) (a b : FS) (δ : Ev) : ifS c a b δ = ifK (c δ) a b δ := Eq.trans rfl rfl
theorem ifK_t (a b : FS) (δ : Ev) : ifK (.ok true) a b δ = a δ := Eq.trans rfl rfl
theorem ifK_f (a b : FS) (δ : Ev) : ifK (.ok false) a b δ = b δ := Eq.trans rfl rfl
theorem ifK_err (c : Str) (x : Option (Str × Int)) (a b : FS) (δ : Ev) : ifK (.err c x) a b δ = .err c x δ := Eq.trans rfl rfl
theorem ifK_ite (p : Prop) [Decidable p] (a b : FS) (δ : Ev) : ifK (.ok (decide p)) a b δ = if p then a δ else b δ := by by_cases h : p <;> simp [h, ifK]
def setK (r : R PyData) (i : Nat) (δ : Ev) : SR := match r with
  | .ok d => .nx (δ.set i (some d))
  | .err c x => .err c x δ
  | .bad => .bad
theorem ev_set (i : Nat) (f : FE) (δ : Ev) : setS i f δ = setK (f δ) i δ := by unfold setS exS setK; cases f δ <;> rfl
theorem setK_ok (d : PyData) (i : Nat) (δ : Ev) : setK (.ok d) i δ = .nx (δ.set i (some d)) := Eq.trans rfl rfl
theorem setK_err (c : Str) (x : Option (Str × Int)) (i : Nat) (δ : Ev) : setK (.err c x) i δ = .err c x δ := Eq.trans rfl rfl
def retK (r : R PyData) (δ : Ev) : SR := match r with
  | .ok d => .rt d
  | .err c x => .err c x δ
  | .bad => .bad
theorem ev_ret (f : FE) (δ : Ev) : retS f δ = retK (f δ) δ := by unfold retS exS retK; cases f δ <;> rfl
theorem retK_ok (d : PyData) (δ : Ev) : retK (.ok d) δ = .rt d := Eq.trans rfl rfl
theorem retK_err (c : Str) (x : Option (Str × Int)) (δ : Ev) : retK (.err c x) δ = .err c x δ := Eq.trans rfl rfl
def expK (r : R PyData) (δ : Ev) : SR := match r with
  | .ok _ => .nx δ
  | .err c x => .err c x δ
  | .bad => .bad
theorem ev_exp (f : FE) (δ : Ev) : expS f δ = expK (f δ) δ := by unfold expS exS expK; cases f δ <;> rfl
theorem expK_ok (d : PyData) (δ : Ev) : expK (.ok d) δ = .nx δ := Eq.trans rfl rfl
theorem expK_err (c : Str) (x : Option (Str × Int)) (δ : Ev) : expK (.err c x) δ = .err c x δ := Eq.trans rfl rfl
theorem ev_skp (δ : Ev) : skp δ = .nx δ := Eq.trans rfl rfl
theorem ev_brk (δ : Ev) : brk δ = .bk δ := Eq.trans rfl rfl
theorem ev_cnt (δ : Ev) : cnt δ = .ct δ := Eq.trans rfl rfl
def runK (r : SR) : R PyData := match r with
  | .rt d => .ok d
  | .err c x _ => .err c x
  | _ => .bad
theorem ev_run (n : Nat) (g : FS) (ds : List PyData) : runF n g ds = runK (g (ds.map some ++ List.replicate (n - ds.length) none)) := Eq.trans rfl rfl
theorem runK_rt (d : PyData) : runK (.rt d) = .ok d := Eq.trans rfl rfl
theorem runK_err (c : Str) (x : Option (Str × Int)) (δ : Ev) : runK (.err c x δ) = .err c x := Eq.trans rfl rfl
theorem ev_cst (d : PyData) (δ : Ev) : cst d δ = .ok d := Eq.trans rfl rfl
theorem ev_op2 (s : PyData → PyData → Option PyData) (a b : FE) (δ : Ev) : op2 s a b δ = (a δ).bind fun d => (b δ).bind fun e => ofO (s d e) := Eq.trans rfl rfl
theorem ev_un1 (s : PyData → Option PyData) (a : FE) (δ : Ev) : un1 s a δ = (a δ).bind fun d => ofO (s d) := Eq.trans rfl rfl
theorem ev_tst (f : FE) (δ : Ev) : tst f δ = (f δ).bind asB := Eq.trans rfl rfl
theorem asB_b (b : Bool) : asB (.bool b) = .ok b := Eq.trans rfl rfl
def andK (r : R Bool) (g : FT) (δ : Ev) : R Bool := match r with
  | .ok true => g δ
  | .ok false => .ok false
  | .err c x => .err c x
  | .bad => .bad
def orK (r : R Bool) (g : FT) (δ : Ev) : R Bool := match r with
  | .ok true => .ok true
  | .ok false => g δ
  | .err c x => .err c x
  | .bad => .bad
theorem ev_andT (f g : FT) (δ : Ev) : andT f g δ = andK (f δ) g δ := by unfold andT andK; cases h : f δ with | ok b => cases b <;> rfl | err c x => rfl | bad => rfl
theorem ev_orT (f g : FT) (δ : Ev) : orT f g δ = orK (f δ) g δ := by unfold orT orK; cases h : f δ with | ok b => cases b <;> rfl | err c x => rfl | bad => rfl
theorem andK_t (g : FT) (δ : Ev) : andK (.ok true) g δ = g δ := Eq.trans rfl rfl
theorem andK_f (g : FT) (δ : Ev) : andK (.ok false) g δ = .ok false := Eq.trans rfl rfl
theorem orK_t (g : FT) (δ : Ev) : orK (.ok true) g δ = .ok true := Eq.trans rfl rfl
theorem orK_f (g : FT) (δ : Ev) : orK (.ok false) g δ = g δ := Eq.trans rfl rfl
theorem ev_notT (f : FT) (δ : Ev) : notT f δ = (f δ).bind fun b => .ok (!b) := Eq.trans rfl rfl
def andW (r : R PyData) (g : FE) (δ : Ev) : R PyData := match r with
  | .ok (.bool true) => g δ
  | .ok (.bool false) => .ok (.bool false)
  | .err c x => .err c x
  | _ => .bad
def orW (r : R PyData) (g : FE) (δ : Ev) : R PyData := match r with
  | .ok (.bool true) => .ok (.bool true)
  | .ok (.bool false) => g δ
  | .err c x => .err c x
  | _ => .bad
theorem ev_andV (f g : FE) (δ : Ev) : andV f g δ = andW (f δ) g δ := by
  unfold andV andW
  cases h : f δ with
  | ok d => cases d with
    | bool b => cases b <;> rfl
    | _ => rfl
  | err c x => rfl
  | bad => rfl
theorem ev_orV (f g : FE) (δ : Ev) : orV f g δ = orW (f δ) g δ := by
  unfold orV orW
  cases h : f δ with
  | ok d => cases d with
    | bool b => cases b <;> rfl
    | _ => rfl
  | err c x => rfl
  | bad => rfl
theorem andW_t (g : FE) (δ : Ev) : andW (.ok (.bool true)) g δ = g δ := Eq.trans rfl rfl
theorem andW_f (g : FE) (δ : Ev) : andW (.ok (.bool false)) g δ = .ok (.bool false) := Eq.trans rfl rfl
theorem orW_t (g : FE) (δ : Ev) : orW (.ok (.bool true)) g δ = .ok (.bool true) := Eq.trans rfl rfl
theorem orW_f (g : FE) (δ : Ev) : orW (.ok (.bool false)) g δ = g δ := Eq.trans rfl rfl
theorem ev_notV (f : FE) (δ : Ev) : notV f δ = (f δ).bind fun d => (asB d).bind fun b => .ok (.bool !b) := Eq.trans rfl rfl
theorem ev_isi (T : String) (f : FE) (δ : Ev) : isiF T f δ = (f δ).bind fun d => .ok (.bool (isiB T d)) := Eq.trans rfl rfl
theorem evs_nil (δ : Ev) : evs [] δ = .ok [] := Eq.trans rfl rfl
theorem evs_cons (f : FE) (fs : List FE) (δ : Ev) : evs (f :: fs) δ = (f δ).bind fun d => (evs fs δ).bind fun ds => .ok (d :: ds) := Eq.trans rfl rfl
theorem ev_mkT (fs : List FE) (δ : Ev) : mkT fs δ = (evs fs δ).bind fun ds => .ok (.tuple ds) := Eq.trans rfl rfl
theorem ev_mkL (fs : List FE) (δ : Ev) : mkL fs δ = (evs fs δ).bind fun ds => .ok (.list ds) := Eq.trans rfl rfl
theorem ev_cal (s : List PyData → Option PyData) (fs : List FE) (δ : Ev) : cal s fs δ = (evs fs δ).bind fun ds => ofO (s ds) := Eq.trans rfl rfl
theorem ev_call (G : List PyData → R PyData) (fs : List FE) (δ : Ev) : callF G fs δ = (evs fs δ).bind G := Eq.trans rfl rfl
theorem ev_slc (f : FE) (lo hi : FO) (δ : Ev) : slc f lo hi δ = (f δ).bind fun d => (lo δ).bind fun l => (hi δ).bind fun u => ofO (slD d l u) := Eq.trans rfl rfl
theorem ev_noP (δ : Ev) : noP δ = .ok none := Eq.trans rfl rfl
theorem ev_prt (f : FE) (δ : Ev) : prt f δ = (f δ).bind fun d => (asI d).bind fun i => .ok (some i) := Eq.trans rfl rfl
theorem asI_i (i : Int) : asI (.int i) = .ok i := Eq.trans rfl rfl
def forK (r : R (List PyData)) (b : FB) (g : FS) (δ : Ev) : SR := match r with
  | .ok ds => forD b g ds δ
  | .err c x => .err c x δ
  | .bad => .bad
theorem ev_for (fi : FI) (b : FB) (g : FS) (δ : Ev) : forS fi b g δ = forK (fi δ) b g δ := Eq.trans rfl rfl
theorem forK_ok (ds : List PyData) (b : FB) (g : FS) (δ : Ev) : forK (.ok ds) b g δ = forD b g ds δ := Eq.trans rfl rfl
theorem forD_nil (b : FB) (g : FS) (δ : Ev) : forD b g [] δ = .nx δ := Eq.trans rfl rfl
/-- a turn's end -/
def lpK (r : SR) (k : FS) : SR := match r with
  | .nx δ => k δ
  | .ct δ => k δ
  | .bk δ => .nx δ
  | r => r
theorem lpK_nx (δ : Ev) (k : FS) : lpK (.nx δ) k = k δ := Eq.trans rfl rfl
theorem lpK_ct (δ : Ev) (k : FS) : lpK (.ct δ) k = k δ := Eq.trans rfl rfl
theorem lpK_bk (δ : Ev) (k : FS) : lpK (.bk δ) k = .nx δ := Eq.trans rfl rfl
theorem lpK_rt (d : PyData) (k : FS) : lpK (.rt d) k = .rt d := Eq.trans rfl rfl
theorem lpK_err (c : Str) (x : Option (Str × Int)) (δ : Ev) (k : FS) : lpK (.err c x δ) k = .err c x δ := Eq.trans rfl rfl
theorem forD_N (i : Nat) (g : FS) (d : PyData) (ds : List PyData) (δ : Ev) : forD (bN i) g (d :: ds) δ = lpK (g (δ.set i (some d))) (forD (bN i) g ds) := by
  rw [forD]
  simp only [bN]
  cases g (δ.set i (some d)) <;> rfl
theorem forD_T (is : List Nat) (g : FS) (xs ds : List PyData) (δ : Ev) (h : xs.length = is.length) : forD (bT is) g (.tuple xs :: ds) δ = lpK (g (sets is xs δ)) (forD (bT is) g ds) := by
  rw [forD]
  simp only [bT, if_pos h]
  cases g (sets is xs δ) <;> rfl
def whK (r : R Bool) (g k : FS) (δ : Ev) : SR := match r with
  | .ok true => lpK (g δ) k
  | .ok false => .nx δ
  | .err c x => .err c x δ
  | .bad => .bad
theorem ev_wh (c : FT) (g : FS) (n : Nat) (δ : Ev) : whD c g (n + 1) δ = whK (c δ) g (whD c g n) δ := by
  rw [whD]
  cases h : c δ with
  | ok b => cases b with
    | true =>
      simp only [whK]
      cases g δ <;> rfl
    | false => rfl
  | err c x => rfl
  | bad => rfl
theorem whK_t (g k : FS) (δ : Ev) : whK (.ok true) g k δ = lpK (g δ) k := Eq.trans rfl rfl
theorem whK_f (g k : FS) (δ : Ev) : whK (.ok false) g k δ = .nx δ := Eq.trans rfl rfl
theorem ev_itL (f : FE) (δ : Ev) (ds : List PyData) (h : f δ = .ok (.list ds)) : itL f δ = .ok ds := by unfold itL; rw [h]; rfl
def itLK : PyData → R (List PyData)
  | .list ds => .ok ds
  | _ => .bad
theorem ev_itLK (f : FE) (δ : Ev) : itL f δ = (f δ).bind itLK := by unfold itL; cases f δ with | ok d => cases d <;> rfl | err c x => rfl | bad => rfl
theorem itLK_l (ds : List PyData) : itLK (.list ds) = .ok ds := Eq.trans rfl rfl
def itRK : List PyData → R (List PyData)
  | [.int n] => if -(2 ^ 62) ≤ n ∧ n < 2 ^ 62 then .ok (rangeL 0 n.toNat) else .bad
  | [.int a, .int b] => if (-(2 ^ 62) ≤ a ∧ a < 2 ^ 62) ∧ (-(2 ^ 62) ≤ b ∧ b < 2 ^ 62) then .ok (rangeL a (b - a).toNat) else .bad
  | _ => .bad
theorem ev_itR (fs : List FE) (δ : Ev) : itR fs δ = (evs fs δ).bind itRK := Eq.trans rfl rfl
theorem itRK_1 {n : Int} (h : -(2 ^ 62) ≤ n ∧ n < 2 ^ 62) : itRK [.int n] = .ok (rangeL 0 n.toNat) := if_pos h
theorem itRK_2 {a b : Int} (h : (-(2 ^ 62) ≤ a ∧ a < 2 ^ 62) ∧ (-(2 ^ 62) ≤ b ∧ b < 2 ^ 62)) : itRK [.int a, .int b] = .ok (rangeL a (b - a).toNat) := if_pos h
def itZK : List PyData → R (List PyData)
  | [.list xs, .list ys] => .ok (zipL xs ys)
  | [.tuple xs, .tuple ys] => .ok (zipL xs ys)
  | _ => .bad
theorem ev_itZ (a b : FE) (δ : Ev) : itZA a b δ = (evs [a, b] δ).bind itZK := Eq.trans rfl rfl
theorem itZK_l (xs ys : List PyData) : itZK [.list xs, .list ys] = .ok (zipL xs ys) := Eq.trans rfl rfl
theorem itZK_t (xs ys : List PyData) : itZK [.tuple xs, .tuple ys] = .ok (zipL xs ys) := Eq.trans rfl rfl
def it1K (w : List PyData → List PyData) : List PyData → R (List PyData)
  | [.list xs] => .ok (w xs)
  | _ => .bad
theorem ev_it1 (w : List PyData → List PyData) (f : FE) (δ : Ev) : it1 w f δ = (evs [f] δ).bind (it1K w) := Eq.trans rfl rfl
theorem it1K_l (w : List PyData → List PyData) (xs : List PyData) : it1K w [.list xs] = .ok (w xs) := Eq.trans rfl rfl
/-- xs.append(e) -/
def appK (o : Option (List PyData)) (f : FE) (i : Nat) (δ : Ev) : SR := match o with
  | some ds => exS f (fun d => if ds.length < sizeLine then .nx (δ.set i (some (.list (ds ++ [d])))) else .bad) δ
  | none => .bad
theorem ev_app (i : Nat) (f : FE) (δ : Ev) : appS i f δ = appK (slotL i δ) f i δ := Eq.trans rfl rfl
theorem slotL_0 (ds : List PyData) (r : Ev) : slotL 0 (some (.list ds) :: r) = some ds := Eq.trans rfl rfl
theorem slotL_S (i : Nat) (x : Option PyData) (r : Ev) : slotL (i + 1) (x :: r) = slotL i r := Eq.trans rfl rfl
theorem appK_ok {ds : List PyData} {f : FE} {i : Nat} {δ : Ev} (h : ds.length < 16000000) : appK (some ds) f i δ = setK ((f δ).bind fun d => .ok (.list (ds ++ [d]))) i δ := by
  have e : sizeLine = 16777216 := sizeLine_eq
  unfold appK exS
  cases f δ with
  | ok d => simp only [R.bind_ok, setK_ok, if_pos (show ds.length < sizeLine by omega)]
  | err c x => rfl
  | bad => rfl
theorem addD_i (i j : Int) : addD (.int i) (.int j) = some (.int (i + j)) := Eq.trans rfl rfl
theorem subD_i (i j : Int) : subD (.int i) (.int j) = some (.int (i - j)) := Eq.trans rfl rfl
theorem ltD_i (i j : Int) : ltD (.int i) (.int j) = some (.bool (decide (i < j))) := Eq.trans rfl rfl
theorem leD_i (i j : Int) : leD (.int i) (.int j) = some (.bool (decide (i ≤ j))) := Eq.trans rfl rfl
theorem gtD_i (i j : Int) : gtD (.int i) (.int j) = some (.bool (decide (j < i))) := Eq.trans rfl rfl
theorem geD_i (i j : Int) : geD (.int i) (.int j) = some (.bool (decide (j ≤ i))) := Eq.trans rfl rfl
theorem ltD_s (x y : Str) : ltD (.str x) (.str y) = some (.bool (decide (x.cps.toList < y.cps.toList))) := Eq.trans rfl rfl
theorem negD_i (i : Int) : negD (.int i) = some (.int (-i)) := Eq.trans rfl rfl
theorem isD_n (d : PyData) : isD d .none = some (.bool (isNone d)) := Eq.trans rfl rfl
theorem isntD_n (d : PyData) : isntD d .none = some (.bool (!isNone d)) := Eq.trans rfl rfl
theorem isNone_n : isNone .none = true := Eq.trans rfl rfl
theorem isNone_t (xs : List PyData) : isNone (.tuple xs) = false := Eq.trans rfl rfl
theorem isNone_l (xs : List PyData) : isNone (.list xs) = false := Eq.trans rfl rfl
theorem isNone_i (i : Int) : isNone (.int i) = false := Eq.trans rfl rfl
theorem isNone_s (x : Str) : isNone (.str x) = false := Eq.trans rfl rfl
theorem isNone_b (b : Bool) : isNone (.bool b) = false := Eq.trans rfl rfl
theorem lenD_l (xs : List PyData) : lenD [.list xs] = some (.int xs.length) := Eq.trans rfl rfl
theorem lenD_t (xs : List PyData) : lenD [.tuple xs] = some (.int xs.length) := Eq.trans rfl rfl
theorem minD_i (i j : Int) : minD [.int i, .int j] = some (.int (min i j)) := Eq.trans rfl rfl
theorem maxD_i (i j : Int) : maxD [.int i, .int j] = some (.int (max i j)) := Eq.trans rfl rfl
theorem addD_l {xs ys : List PyData} (h : xs.length + ys.length ≤ 16000000) : addD (.list xs) (.list ys) = some (.list (xs ++ ys)) := by
  have e : sizeLine = 16777216 := sizeLine_eq
  exact if_pos (show xs.length + ys.length ≤ sizeLine by omega)
theorem addD_s {x y : Str} (h : x.length + y.length ≤ 16000000) : addD (.str x) (.str y) = some (.str (x ++ y)) := by
  have e : sizeLine = 16777216 := sizeLine_eq
  exact if_pos (show x.length + y.length ≤ sizeLine by omega)
theorem addD_t {xs ys : List PyData} (h : xs.length + ys.length ≤ 16000000) : addD (.tuple xs) (.tuple ys) = some (.tuple (xs ++ ys)) := by
  have e : sizeLine = 16777216 := sizeLine_eq
  exact if_pos (show xs.length + ys.length ≤ sizeLine by omega)
theorem ix0 (x : PyData) (r : List PyData) : ixD (.tuple (x :: r)) (.int 0) = some x := by
  simp [ixD, atI, ixN]
theorem ix1 (x y : PyData) (r : List PyData) : ixD (.tuple (x :: y :: r)) (.int 1) = some y := by
  simp only [ixD, atI, ixN]
  have h : (1 : Int) < ((x :: y :: r).length : Nat) := by simp; omega
  rw [if_pos (by decide), if_pos h]; rfl
theorem ix2 (x y z : PyData) (r : List PyData) : ixD (.tuple (x :: y :: z :: r)) (.int 2) = some z := by
  simp only [ixD, atI, ixN]
  have h : (2 : Int) < ((x :: y :: z :: r).length : Nat) := by simp; omega
  rw [if_pos (by decide), if_pos h]; rfl
theorem ix3 (x y z w : PyData) (r : List PyData) : ixD (.tuple (x :: y :: z :: w :: r)) (.int 3) = some w := by
  simp only [ixD, atI, ixN]
  have h : (3 : Int) < ((x :: y :: z :: w :: r).length : Nat) := by simp; omega
  rw [if_pos (by decide), if_pos h]; rfl
/-- an item of a list at a place that is in it -/
theorem ixL {ds : List PyData} {i : Int} {j : Nat} (hj : i = (j : Nat)) (h : j < ds.length) : ixD (.list ds) (.int i) = some ds[j] := by
  subst hj
  simp only [ixD, atI, ixN]
  rw [if_pos (by omega), if_pos (by omega)]
  simp [h]
theorem eqD_int (i j : Int) : eqD (.int i) (.int j) = some (.bool (decide (i = j))) := by
  simp only [eqD, eqOk, scalD, PyData.eqv, Bool.true_or, if_true]
  congr 2
theorem eqD_str (x y : Str) : eqD (.str x) (.str y) = some (.bool (decide (x = y))) := by
  simp only [eqD, eqOk, scalD, PyData.eqv, Bool.true_or, if_true]
  congr 2
theorem neD_int (i j : Int) : neD (.int i) (.int j) = some (.bool (!decide (i = j))) := by
  simp only [neD, eqOk, scalD, PyData.eqv, Bool.true_or, if_true]
  congr 2
theorem neD_str (x y : Str) : neD (.str x) (.str y) = some (.bool (!decide (x = y))) := by
  simp only [neD, eqOk, scalD, PyData.eqv, Bool.true_or, if_true]
  congr 2
theorem mul_ok {i j : Int} (h : (-(2 ^ 64) < i ∧ i < 2 ^ 64) ∨ (-(2 ^ 64) < j ∧ j < 2 ^ 64)) : mulD (.int i) (.int j) = some (.int (i * j)) := by
  have : mulOk i j = true := by
    unfold mulOk
    simp only [Bool.or_eq_true, Bool.and_eq_true, decide_eq_true_eq]
    exact h
  simp only [mulD, this, if_true]
theorem mod_ok {i j : Int} (h : 0 < j) : modD (.int i) (.int j) = some (.int (i % j)) := by simp only [modD, if_pos h]
theorem fdiv_ok {i j : Int} (h : 0 < j ∧ j < 2 ^ 63) : fdivD (.int i) (.int j) = some (.int (i / j)) := by simp only [fdivD, if_pos h]

/-! ### statements -/
inductive Kd where | both | one | then_
  deriving DecidableEq
def Kd.str : Kd → Str
  | .both => "both" | .one => "one" | .then_ => "then"
inductive Fm where
  | low
  | lt (w : Str)
  | bin (k : Kd) (a b : Fm)
  deriving DecidableEq
def enc : Fm → PyData
  | .low => .tuple [.str "low"]
  | .lt w => .tuple [.str "letter", .str w]
  | .bin k a b => .tuple [.str k.str, enc a, enc b]
def Fm.parts : Fm → Nat
  | .low => 1 | .lt _ => 1
  | .bin _ a b => 1 + a.parts + b.parts
def Fm.deep : Fm → Nat
  | .low => 1 | .lt _ => 1
  | .bin _ a b => 1 + max a.deep b.deep
theorem Fm.deep_parts : ∀ f : Fm, 2 * f.deep ≤ f.parts + 1
  | .low => by simp [deep, parts]
  | .lt _ => by simp [deep, parts]
  | .bin _ a b => by
    have h1 := deep_parts a
    have h2 := deep_parts b
    have h3 : 1 ≤ b.parts := by cases b <;> simp [parts] <;> omega
    have h4 : 1 ≤ a.parts := by cases a <;> simp [parts] <;> omega
    simp only [deep, parts]
    omega
end Dl

namespace Dl
open PySem L2
/-! ### texts by their codes -/
abbrev cs (x : Str) : List Nat := x.cps.toList
theorem cs_length (x : Str) : x.length = (cs x).length := by simp [cs, Str.length]
theorem cs_app (x y : Str) : cs (x ++ y) = cs x ++ cs y := by
  show (Str.append x y).cps.toList = _
  simp [Str.append, cs]
theorem cs_cut (x : Str) (lo hi : Option Int) : cs (cutS x lo hi) = ((cs x).drop (HT.sIx x.length 0 lo)).take (HT.sIx x.length x.length hi - HT.sIx x.length 0 lo) := by
  simp [cutS, cs]
theorem cs_pre (x : Str) (k : Nat) (h : k ≤ x.length) : cs (cutS x none (some (k : Int))) = (cs x).take k := by
  rw [cs_cut, HT.sIx_none, HT.sIx_nat, Nat.min_eq_left h]; simp
theorem cs_suf (x : Str) (k : Nat) (h : k ≤ x.length) : cs (cutS x (some (k : Int)) none) = (cs x).drop k := by
  rw [cs_cut, HT.sIx_none, HT.sIx_nat, Nat.min_eq_left h]
  rw [List.take_of_length_le]
  rw [List.length_drop, cs_length]; exact Nat.le_refl _
def Low (x : Str) : Prop := ∀ c ∈ cs x, 97 ≤ c ∧ c ≤ 122
theorem Low.app {x y : Str} (h : Low x) (g : Low y) : Low (x ++ y) := fun c hc => by
  rw [cs_app] at hc
  exact (List.mem_append.mp hc).elim (h c) (g c)
theorem Low.cut {x : Str} (h : Low x) (lo hi : Option Int) : Low (cutS x lo hi) := fun c hc => by
  rw [cs_cut] at hc
  exact h c (List.mem_of_mem_drop (List.mem_of_mem_take hc))
theorem foldl_app : ∀ (l : List (Array Nat)) (a : Array Nat), (l.foldl (· ++ ·) a).toList = a.toList ++ (l.map Array.toList).flatten
  | [], a => by simp
  | b :: l, a => by rw [List.foldl_cons, foldl_app l]; simp
theorem cs_mul (x : Str) (n : Int) (h : 1 ≤ n) : cs (Txt.mul x n) = (List.replicate n.toNat (cs x)).flatten := by
  unfold Txt.mul
  rw [if_neg (by omega)]
  by_cases h1 : (n == 1 || x.length == 0) = true
  · rw [if_pos h1]
    rcases Bool.or_eq_true_iff.mp h1 with h2 | h2
    · have e : n = 1 := by simpa using h2
      subst e
      simp
    · have e : x.length = 0 := by simpa using h2
      have e2 : cs x = [] := List.eq_nil_of_length_eq_zero (by rw [← cs_length]; exact e)
      rw [e2]
      simp
  · rw [if_neg h1]
    show (List.foldl (· ++ ·) #[] (List.replicate n.toNat x.cps)).toList = _
    rw [foldl_app]
    simp [cs]
theorem Low.mul {x : Str} (h : Low x) {n : Int} (hn : 1 ≤ n) : Low (Txt.mul x n) := fun c hc => by
  rw [cs_mul x n hn] at hc
  obtain ⟨l, hl, hc⟩ := List.mem_flatten.mp hc
  rw [List.eq_of_mem_replicate hl] at hc
  exact h c hc
theorem mul_length (x : Str) {n : Int} (hn : 1 ≤ n) : (Txt.mul x n).length = n.toNat * x.length := by
  rw [cs_length, cs_mul x n hn, cs_length]
  simp
theorem Low.strOk {x : Str} (h : Low x) : PyData.strOk x = true := by
  unfold PyData.strOk
  rw [Array.all_eq_true']
  intro c hc
  have := h c (by simpa [cs] using hc)
  simp only [decide_eq_true_eq]
  omega
theorem cs_join0 : ∀ ys : List Str, cs (Txt.join "" ys) = (ys.map cs).flatten := by
  intro ys
  have e : Txt.join "" ys = Str.join "" ys := PySem.StrLaws.glued_eq_join _ _
  rw [e]
  clear e
  induction ys with
  | nil => rfl
  | cons y r ih =>
    cases r with
    | nil => simp [Str.join]
    | cons z r =>
      show cs (y ++ "" ++ Str.join "" (z :: r)) = _
      rw [cs_app, cs_app, ih]
      have e : cs ("" : Str) = [] := by decide +kernel
      rw [e]; simp
theorem Low.join0 {ys : List Str} (h : ∀ y ∈ ys, Low y) : Low (Txt.join "" ys) := fun c hc => by
  rw [cs_join0] at hc
  obtain ⟨l, hl, hc⟩ := List.mem_flatten.mp hc
  obtain ⟨y, hy, rfl⟩ := List.mem_map.mp hl
  exact h y hy c hc
theorem ixS {x : Str} {i : Int} {j : Nat} (hj : i = (j : Nat)) (h : j < (cs x).length) (hl : x.length ≤ 16000000) : ixD (.str x) (.int i) = some (.str ⟨#[(cs x)[j]]⟩) := by
  subst hj
  have e : sizeLine = 16777216 := sizeLine_eq
  simp only [ixD, atI, ixN]
  rw [if_pos (show x.length ≤ sizeLine by omega), if_pos (by omega), if_pos (show ((j : Nat) : Int) < ((cs x).length : Nat) by omega)]
  simp only [Option.bind_some, Int.toNat_natCast]
  rw [List.getElem?_eq_getElem h]; rfl
theorem low_one {x : Str} (h : Low x) {j : Nat} (hj : j < (cs x).length) : Low ⟨#[(cs x)[j]]⟩ := fun c hc => by
  have e : c = (cs x)[j] := by simpa [cs] using hc
  rw [e]
  exact h _ (List.getElem_mem hj)
def smallS : Str := "abcdefghijklmnopqrstuvwxyz"
theorem small_cs : cs "abcdefghijklmnopqrstuvwxyz" = [97, 98, 99, 100, 101, 102, 103, 104, 105, 106, 107, 108, 109, 110, 111, 112, 113, 114, 115, 116, 117, 118, 119, 120, 121, 122] := by decide +kernel
theorem small_len : ("abcdefghijklmnopqrstuvwxyz" : Str).length = 26 := by rw [cs_length, small_cs]; rfl
theorem small_low : Low "abcdefghijklmnopqrstuvwxyz" := by
  unfold Low
  rw [small_cs]
  decide
theorem small_ix (i : Int) (h0 : 0 ≤ i) (h1 : i < 26) : ∃ c : Str, ixD (.str "abcdefghijklmnopqrstuvwxyz") (.int i) = some (.str c) ∧ Low c ∧ c.length = 1 := by
  have hl : i.toNat < (cs "abcdefghijklmnopqrstuvwxyz").length := by rw [small_cs]; show i.toNat < 26; omega
  exact ⟨_, ixS (j := i.toNat) (by omega) hl (by rw [small_len]; decide), low_one small_low hl, rfl⟩
theorem k_low : Low "k" := by unfold Low; rw [show cs ("k" : Str) = [107] by decide +kernel]; decide
theorem k_len : ("k" : Str).length = 1 := by decide +kernel
theorem mulS_ok {x : Str} {n : Int} (h0 : 0 ≤ n) (h1 : n ≤ 1000) (h2 : x.length ≤ 1000) : mulD (.str x) (.int n) = some (.str (Txt.mul x n)) := if_pos ⟨h0, h1, h2⟩
theorem slD_s {x : Str} {lo hi : Option Int} (h : x.length ≤ 16000000) : slD (.str x) lo hi = some (.str (cutS x lo hi)) := by
  have e : sizeLine = 16777216 := sizeLine_eq
  exact if_pos (show x.length ≤ sizeLine by omega)
theorem slD_l {ds : List PyData} {lo hi : Option Int} : slD (.list ds) lo hi = some (.list (cutL ds lo hi)) := Eq.trans rfl rfl
theorem slD_t {ds : List PyData} {lo hi : Option Int} : slD (.tuple ds) lo hi = some (.tuple (cutL ds lo hi)) := Eq.trans rfl rfl
theorem strs_map : ∀ ys : List Str, strs? (ys.map PyData.str) = some ys
  | [] => rfl
  | y :: ys => by
    show (strs? (ys.map PyData.str)).map (y :: ·) = _
    rw [strs_map ys]; rfl
theorem joinD_ok {a : Str} {ys : List Str} (h : (ys.map (·.length)).sum + ys.length * a.length ≤ 16777216) : joinD a (.list (ys.map PyData.str)) = some (.str (Txt.join a ys)) := by
  unfold joinD
  simp only [strs_map, if_pos h]
/-! ### comprehensions -/
def lcK (b : FB) (t : FT) (f : FE) (δ : Ev) (ds : List PyData) : R PyData := if ds.length ≤ 1000000 then (lcD b t f δ ds).bind fun xs => .ok (.list xs) else .bad
theorem ev_lc (vs : List Nat) (fi : FI) (b : FB) (t : FT) (f : FE) (δ : Ev) : lcF vs fi b t f δ = (fi δ).bind (lcK b t f (wipeE δ vs)) := Eq.trans rfl rfl
theorem lcD_map {b : FB} {f : FE} {δ : Ev} {g : PyData → PyData} {e : PyData → Ev} : ∀ ds : List PyData, (∀ d ∈ ds, b d δ = some (e d)) → (∀ d ∈ ds, f (e d) = .ok (g d)) → lcD b yesT f δ ds = .ok (ds.map g)
  | [], _, _ => rfl
  | d :: ds, hb, hf => by
    rw [lcD, hb d List.mem_cons_self]
    simp only [yesT]
    rw [hf d List.mem_cons_self, lcD_map ds (fun x hx => hb x (List.mem_cons_of_mem _ hx)) fun x hx => hf x (List.mem_cons_of_mem _ hx)]
    rfl
theorem lcK_map {b : FB} {f : FE} {δ : Ev} {g : PyData → PyData} {e : PyData → Ev} {ds : List PyData} (hl : ds.length ≤ 1000000) (hb : ∀ d ∈ ds, b d δ = some (e d)) (hf : ∀ d ∈ ds, f (e d) = .ok (g d)) : lcK b yesT f δ ds = .ok (.list (ds.map g)) := by
  unfold lcK
  rw [if_pos hl, lcD_map ds hb hf]; rfl
theorem lcK_N {f : FE} {δ : Ev} {g : PyData → PyData} {i : Nat} {ds : List PyData} (hl : ds.length ≤ 1000000) (hf : ∀ d ∈ ds, f (δ.set i (some d)) = .ok (g d)) : lcK (bN i) yesT f δ ds = .ok (.list (ds.map g)) :=
  lcK_map (e := fun d => δ.set i (some d)) hl (fun _ _ => rfl) hf
/-- with a test -/
theorem lcD_filter {b : FB} {t : FT} {f : FE} {δ : Ev} {p : PyData → Bool} {g : PyData → PyData} {e : PyData → Ev} : ∀ ds : List PyData, (∀ d ∈ ds, b d δ = some (e d)) → (∀ d ∈ ds, t (e d) = .ok (p d)) → (∀ d ∈ ds, p d = true → f (e d) = .ok (g d)) → lcD b t f δ ds = .ok ((ds.filter p).map g)
  | [], _, _, _ => rfl
  | d :: ds, hb, ht, hf => by
    have ih := lcD_filter ds (fun x hx => hb x (List.mem_cons_of_mem _ hx)) (fun x hx => ht x (List.mem_cons_of_mem _ hx)) fun x hx => hf x (List.mem_cons_of_mem _ hx)
    rw [lcD, hb d List.mem_cons_self]
    simp only
    rw [ht d List.mem_cons_self]
    cases hp : p d with
    | false =>
      rw [List.filter_cons_of_neg (by simp [hp])]
      exact ih
    | true =>
      rw [List.filter_cons_of_pos hp]
      simp only
      rw [hf d List.mem_cons_self hp, ih]; rfl
theorem lcK_filter {b : FB} {t : FT} {f : FE} {δ : Ev} {p : PyData → Bool} {g : PyData → PyData} {e : PyData → Ev} {ds : List PyData} (hl : ds.length ≤ 1000000) (hb : ∀ d ∈ ds, b d δ = some (e d)) (ht : ∀ d ∈ ds, t (e d) = .ok (p d)) (hf : ∀ d ∈ ds, p d = true → f (e d) = .ok (g d)) : lcK b t f δ ds = .ok (.list ((ds.filter p).map g)) := by
  unfold lcK
  rw [if_pos hl, lcD_filter ds hb ht hf]; rfl
theorem mem_rangeL {lo : Int} {n : Nat} {d : PyData} (h : d ∈ rangeL lo n) : ∃ i : Nat, i < n ∧ d = .int (lo + (i : Nat)) := by
  unfold rangeL at h
  obtain ⟨i, hi, rfl⟩ := List.mem_map.mp h
  exact ⟨i, List.mem_range.mp hi, rfl⟩
theorem rangeL_len (lo : Int) (n : Nat) : (rangeL lo n).length = n := by simp [rangeL]
/-! ### a for loop by what holds between two turns -/
theorem forD_inv {b : FB} {g : FS} (I : List PyData → Ev → Prop) (hs : ∀ d ds δ, I (d :: ds) δ → ∃ δ1 δ2, b d δ = some δ1 ∧ g δ1 = .nx δ2 ∧ I ds δ2) : ∀ ds δ, I ds δ → ∃ δ', forD b g ds δ = .nx δ' ∧ I [] δ'
  | [], δ, h => ⟨δ, rfl, h⟩
  | d :: ds, δ, h => by
    obtain ⟨δ1, δ2, h1, h2, h3⟩ := hs d ds δ h
    obtain ⟨δ', h4, h5⟩ := forD_inv I hs ds δ2 h3
    refine ⟨δ', ?_, h5⟩
    rw [forD, h1]
    simp only [h2]
    exact h4
/-- the same over range: at turn i -/
theorem forD_range {j : Nat} {g : FS} {lo : Int} (I : Nat → Ev → Prop) (n : Nat) (hs : ∀ i δ, i < n → I i δ → ∃ δ2, g (δ.set j (some (.int (lo + (i : Nat))))) = .nx δ2 ∧ I (i + 1) δ2) (δ : Ev) (h : I 0 δ) : ∃ δ', forD (bN j) g (rangeL lo n) δ = .nx δ' ∧ I n δ' := by
  have key : ∀ ds δ, (∃ i, i ≤ n ∧ ds = (rangeL lo n).drop i ∧ I i δ) → ∃ δ', forD (bN j) g ds δ = .nx δ' ∧ I n δ' := by
    intro ds δ h
    obtain ⟨δ', h1, i, hi, h2, h3⟩ := forD_inv (b := bN j) (g := g) (fun ds δ => ∃ i, i ≤ n ∧ ds = (rangeL lo n).drop i ∧ I i δ) (fun d ds δ ⟨i, hi, e, hI⟩ => by
      have hlt : i < n := by
        by_cases q : i < n
        · exact q
        · rw [List.drop_eq_nil_of_le (by rw [rangeL_len]; omega)] at e; cases e
      rw [List.drop_eq_getElem_cons (by rw [rangeL_len]; exact hlt)] at e
      injection e with e1 e2
      have e3 : d = .int (lo + (i : Nat)) := by rw [e1]; simp [rangeL]
      obtain ⟨δ2, h1, h2⟩ := hs i δ hlt hI
      exact ⟨_, δ2, by rw [e3]; rfl, h1, i + 1, hlt, e2, h2⟩) ds δ h
    have : i = n := by
      have e := congrArg List.length h2
      simp [rangeL] at e
      omega
    subst this
    exact ⟨δ', h1, h3⟩
  exact key _ δ ⟨0, Nat.zero_le _, rfl, h⟩
theorem str_inj (a b : String) : (Str.ofString a = Str.ofString b) = (a = b) := by
  apply propext
  constructor
  · intro h
    rw [Str.ofString_eq_toList, Str.ofString_eq_toList] at h
    have h1 : (a.toList.map Char.toNat).toArray = (b.toList.map Char.toNat).toArray := Str.mk.inj h
    have h2 : a.toList.map Char.toNat = b.toList.map Char.toNat := by simpa using h1
    have h3 : a.toList = b.toList := by
      refine List.map_inj_right (f := Char.toNat) (fun x y e => ?_) |>.mp h2
      exact Char.ext (UInt32.toNat_inj.mp e)
    exact String.toList_inj.mp h3
  · intro h; rw [h]
theorem li0 (x : PyData) (r : List PyData) : ixD (.list (x :: r)) (.int 0) = some x := ixL (j := 0) rfl (by simp)
theorem li1 (x y : PyData) (r : List PyData) : ixD (.list (x :: y :: r)) (.int 1) = some y := ixL (j := 1) rfl (by simp)
theorem li2 (x y z : PyData) (r : List PyData) : ixD (.list (x :: y :: z :: r)) (.int 2) = some z := ixL (j := 2) rfl (by simp)
theorem li3 (x y z u : PyData) (r : List PyData) : ixD (.list (x :: y :: z :: u :: r)) (.int 3) = some u := ixL (j := 3) rfl (by simp)
theorem li4 (x y z u v : PyData) (r : List PyData) : ixD (.list (x :: y :: z :: u :: v :: r)) (.int 4) = some v := ixL (j := 4) rfl (by simp)
/-! ### statements as data -/
def Fm.letters : Fm → List Str
  | .low => []
  | .lt w => [w]
  | .bin _ a b => a.letters ++ b.letters
theorem Fm.deep_pos : ∀ f : Fm, 1 ≤ f.deep
  | .low => by simp [deep]
  | .lt _ => by simp [deep]
  | .bin _ _ _ => by simp [deep]
theorem Fm.parts_pos : ∀ f : Fm, 1 ≤ f.parts
  | .low => by simp [parts]
  | .lt _ => by simp [parts]
  | .bin _ _ _ => by simp [parts]; omega
theorem kd_ok (k : Kd) : PyData.strOk k.str = true := by cases k <;> decide +kernel
theorem enc_lay : ∀ f : Fm, (∀ w ∈ f.letters, PyData.strOk w = true) → (enc f).canLay0 = true
  | .low, _ => by decide +kernel
  | .lt w, h => by
    have e : PyData.strOk "letter" = true := by decide +kernel
    simp only [enc, PyData.canLay0, PyData.canLayAll0, e, h w (by simp [Fm.letters]), Bool.and_self]
  | .bin k a b, h => by
    have h1 := enc_lay a fun w hw => h w (by simp [Fm.letters, hw])
    have h2 := enc_lay b fun w hw => h w (by simp [Fm.letters, hw])
    simp only [enc, PyData.canLay0, PyData.canLayAll0, kd_ok, h1, h2, Bool.and_self]
theorem enc_depth : ∀ f : Fm, (enc f).depth = f.deep
  | .low => rfl
  | .lt w => rfl
  | .bin k a b => by
    simp only [enc, PyData.depth, PyData.depthAll, enc_depth a, enc_depth b, Fm.deep]
    omega
theorem kd_inj {k l : Kd} (h : k.str = l.str) : k = l := by
  cases k <;> cases l <;> first | rfl | (simp only [Kd.str, str_inj, String.reduceEq] at h)
theorem eqv_t (xs ys : List PyData) : PyData.eqv (.tuple xs) (.tuple ys) = PyData.eqvAll xs ys := by rw [PyData.eqv]
theorem eqv_l (xs ys : List PyData) : PyData.eqv (.list xs) (.list ys) = PyData.eqvAll xs ys := by rw [PyData.eqv]
theorem eqv_s (x y : Str) : PyData.eqv (.str x) (.str y) = decide (x = y) := by rw [PyData.eqv]; rfl
theorem eqv_i (x y : Int) : PyData.eqv (.int x) (.int y) = decide (x = y) := by rw [PyData.eqv]; rfl
theorem eqv_b (x y : Bool) : PyData.eqv (.bool x) (.bool y) = decide (x = y) := by rw [PyData.eqv]; rfl
theorem eqv_n : PyData.eqv .none .none = true := by rw [PyData.eqv]
theorem eqvAll_c (x y : PyData) (xs ys : List PyData) : PyData.eqvAll (x :: xs) (y :: ys) = (PyData.eqv x y && PyData.eqvAll xs ys) := by rw [PyData.eqvAll]
theorem eqvAll_n : PyData.eqvAll [] [] = true := by rw [PyData.eqvAll]
theorem eqvAll_cn (x : PyData) (xs : List PyData) : PyData.eqvAll (x :: xs) [] = false := by rw [PyData.eqvAll]
theorem eqvAll_nc (x : PyData) (xs : List PyData) : PyData.eqvAll [] (x :: xs) = false := by rw [PyData.eqvAll]
theorem enc_eqv (f : Fm) : ∀ g : Fm, PyData.eqv (enc f) (enc g) = decide (f = g) := by
  induction f with
  | low =>
    intro g
    cases g with
    | low => simp only [enc, eqv_t, eqvAll_c, eqvAll_n, eqv_s, decide_true, Bool.and_self]
    | lt w => simp only [enc, eqv_t, eqvAll_c, eqvAll_nc, eqv_s, Bool.and_false, reduceCtorEq, decide_false]
    | bin k a b => simp only [enc, eqv_t, eqvAll_c, eqvAll_nc, eqv_s, Bool.and_false, reduceCtorEq, decide_false]
  | lt w =>
    intro g
    cases g with
    | low => simp only [enc, eqv_t, eqvAll_c, eqvAll_cn, eqv_s, Bool.and_false, reduceCtorEq, decide_false]
    | lt v => simp only [enc, eqv_t, eqvAll_c, eqvAll_n, eqv_s, decide_true, Bool.and_true, Bool.true_and, Fm.lt.injEq]
    | bin k a b => simp only [enc, eqv_t, eqvAll_c, eqvAll_nc, eqv_s, Bool.and_false, reduceCtorEq, decide_false]
  | bin k a b iha ihb =>
    intro g
    cases g with
    | low => simp only [enc, eqv_t, eqvAll_c, eqvAll_cn, eqv_s, Bool.and_false, reduceCtorEq, decide_false]
    | lt v => simp only [enc, eqv_t, eqvAll_c, eqvAll_cn, eqv_s, Bool.and_false, reduceCtorEq, decide_false]
    | bin l c d =>
      simp only [enc, eqv_t, eqvAll_c, eqvAll_n, eqv_s, iha, ihb, Bool.and_true, Fm.bin.injEq]
      by_cases h : k = l
      · subst h
        simp [Bool.decide_and]
      · have h' : k.str ≠ l.str := fun e => h (kd_inj e)
        simp [h, h']
theorem enc_shaped {f : Fm} (h : ∀ w ∈ f.letters, PyData.strOk w = true) (hd : f.deep ≤ 64) : SeqAt.shaped (enc f) = true := by
  unfold SeqAt.shaped
  rw [enc_lay f h, enc_depth]
  simpa using hd
theorem enc_eqD {f g : Fm} (h1 : ∀ w ∈ f.letters, PyData.strOk w = true) (h2 : ∀ w ∈ g.letters, PyData.strOk w = true) (d1 : f.deep ≤ 64) (d2 : g.deep ≤ 64) : eqD (enc f) (enc g) = some (.bool (decide (f = g))) := by
  have hm : min (enc f).depth (enc g).depth ≤ 1000 := by rw [enc_depth, enc_depth]; omega
  unfold eqD eqOk
  rw [enc_lay f h1, enc_lay g h2, decide_eq_true hm, enc_eqv]
  simp
theorem enc_neD {f g : Fm} (h1 : ∀ w ∈ f.letters, PyData.strOk w = true) (h2 : ∀ w ∈ g.letters, PyData.strOk w = true) (d1 : f.deep ≤ 64) (d2 : g.deep ≤ 64) : neD (enc f) (enc g) = some (.bool (!decide (f = g))) := by
  have hm : min (enc f).depth (enc g).depth ≤ 1000 := by rw [enc_depth, enc_depth]; omega
  unfold neD eqOk
  rw [enc_lay f h1, enc_lay g h2, decide_eq_true hm, enc_eqv]
  simp
theorem isiB_s (T : String) (x : Str) : isiB T (.str x) = isiS T "str" := Eq.trans rfl rfl
theorem isiB_i (T : String) (x : Int) : isiB T (.int x) = isiS T "int" := Eq.trans rfl rfl
theorem isiB_b (T : String) (x : Bool) : isiB T (.bool x) = isiS T "bool" := Eq.trans rfl rfl
theorem isiB_l (T : String) (x : List PyData) : isiB T (.list x) = isiS T "list" := Eq.trans rfl rfl
theorem isiB_t (T : String) (x : List PyData) : isiB T (.tuple x) = isiS T "tuple" := Eq.trans rfl rfl
theorem isiB_n (T : String) : isiB T .none = isiS T "NoneType" := Eq.trans rfl rfl
theorem bools_map : ∀ ys : List Bool, bools? (ys.map PyData.bool) = some ys
  | [] => rfl
  | y :: ys => by
    show (bools? (ys.map PyData.bool)).map (y :: ·) = _
    rw [bools_map ys]; rfl
theorem allD_ok (ys : List Bool) : allD [.list (ys.map PyData.bool)] = some (.bool (ys.all id)) := by
  show (bools? (ys.map PyData.bool)).map _ = _
  rw [bools_map]; rfl
theorem ints_map : ∀ ys : List Int, ints? (ys.map PyData.int) = some ys
  | [] => rfl
  | y :: ys => by
    show (ints? (ys.map PyData.int)).map (y :: ·) = _
    rw [ints_map ys]; rfl
theorem sumD_ok (ys : List Int) : sumD [.list (ys.map PyData.int)] = some (.int ys.sum) := by
  show (ints? (ys.map PyData.int)).map _ = _
  rw [ints_map]; rfl
theorem canLayAll_of : ∀ {xs : List PyData}, (∀ x ∈ xs, x.canLay0 = true) → PyData.canLayAll0 xs = true
  | [], _ => by rw [PyData.canLayAll0]
  | x :: xs, h => by rw [PyData.canLayAll0, h x List.mem_cons_self, canLayAll_of fun y hy => h y (List.mem_cons_of_mem _ hy)]; rfl
theorem depthAll_of {k : Nat} : ∀ {xs : List PyData}, (∀ x ∈ xs, x.depth ≤ k) → PyData.depthAll xs ≤ k
  | [], _ => by rw [PyData.depthAll]; exact Nat.zero_le _
  | x :: xs, h => by rw [PyData.depthAll]; exact Nat.max_le.mpr ⟨h x List.mem_cons_self, depthAll_of fun y hy => h y (List.mem_cons_of_mem _ hy)⟩
/-- data that may be compared -/
structure Sh (k : Nat) (d : PyData) : Prop where
  lay : d.canLay0 = true
  dep : d.depth ≤ k
theorem Sh.mono {k l : Nat} {d : PyData} (h : Sh k d) (e : k ≤ l) : Sh l d := ⟨h.lay, Nat.le_trans h.dep e⟩
theorem Sh.shaped {k : Nat} {d : PyData} (h : Sh k d) (e : k ≤ 64) : SeqAt.shaped d = true := by
  unfold SeqAt.shaped
  rw [h.lay]
  simpa using Nat.le_trans h.dep e
theorem Sh.list {k : Nat} {xs : List PyData} (h : ∀ x ∈ xs, Sh k x) : Sh (k + 1) (.list xs) := ⟨by rw [PyData.canLay0]; exact canLayAll_of fun x hx => (h x hx).lay, by rw [PyData.depth]; exact Nat.succ_le_succ (depthAll_of fun x hx => (h x hx).dep)⟩
theorem Sh.tuple {k : Nat} {xs : List PyData} (h : ∀ x ∈ xs, Sh k x) : Sh (k + 1) (.tuple xs) := ⟨by rw [PyData.canLay0]; exact canLayAll_of fun x hx => (h x hx).lay, by rw [PyData.depth]; exact Nat.succ_le_succ (depthAll_of fun x hx => (h x hx).dep)⟩
theorem Sh.int (k : Nat) (i : Int) : Sh k (.int i) := ⟨by rw [PyData.canLay0], by rw [PyData.depth]; exact Nat.zero_le _⟩
theorem Sh.bool (k : Nat) (i : Bool) : Sh k (.bool i) := ⟨by rw [PyData.canLay0], by rw [PyData.depth]; exact Nat.zero_le _⟩
theorem Sh.none (k : Nat) : Sh k .none := ⟨by rw [PyData.canLay0], by rw [PyData.depth]; exact Nat.zero_le _⟩
theorem Sh.str (k : Nat) {x : Str} (h : PyData.strOk x = true) : Sh k (.str x) := ⟨by rw [PyData.canLay0]; exact h, by rw [PyData.depth]; exact Nat.zero_le _⟩
theorem Sh.enc {k : Nat} {f : Fm} (h : ∀ w ∈ f.letters, PyData.strOk w = true) (hd : f.deep ≤ k) : Sh k (enc f) := ⟨enc_lay f h, by rw [enc_depth]; exact hd⟩
theorem eqD_min {k l : Nat} {d e : PyData} (h1 : Sh k d) (h2 : Sh l e) (hk : min k l ≤ 1000) : eqD d e = some (.bool (PyData.eqv d e)) := by
  have hm : min d.depth e.depth ≤ 1000 := by have := h1.dep; have := h2.dep; omega
  unfold eqD eqOk
  rw [h1.lay, h2.lay, decide_eq_true hm]
  simp
theorem neD_min {k l : Nat} {d e : PyData} (h1 : Sh k d) (h2 : Sh l e) (hk : min k l ≤ 1000) : neD d e = some (.bool (!PyData.eqv d e)) := by
  have hm : min d.depth e.depth ≤ 1000 := by have := h1.dep; have := h2.dep; omega
  unfold neD eqOk
  rw [h1.lay, h2.lay, decide_eq_true hm]
  simp
theorem eqD_of {k : Nat} {d e : PyData} (h1 : Sh k d) (h2 : Sh k e) (hk : k ≤ 1000) : eqD d e = some (.bool (PyData.eqv d e)) := eqD_min h1 h2 (by omega)
theorem neD_of {k : Nat} {d e : PyData} (h1 : Sh k d) (h2 : Sh k e) (hk : k ≤ 1000) : neD d e = some (.bool (!PyData.eqv d e)) := neD_min h1 h2 (by omega)
theorem sh_nil : Sh 1 (.list []) := Sh.list (k := 0) (xs := []) fun x hx => nomatch hx
theorem ne_nil {k : Nat} {xs : List PyData} (h : Sh k (.list xs)) (hk : k ≤ 1000000) (h0 : 1 ≤ k) : neD (.list xs) (.list []) = some (.bool (!xs.isEmpty)) := by
  rw [neD_min h sh_nil (by omega), eqv_l]
  cases xs with
  | nil => rw [eqvAll_n]; rfl
  | cons x xs => rw [eqvAll_cn]; rfl
theorem eq_nil {k : Nat} {xs : List PyData} (h : Sh k (.list xs)) (hk : k ≤ 1000000) (h0 : 1 ≤ k) : eqD (.list xs) (.list []) = some (.bool xs.isEmpty) := by
  rw [eqD_min h sh_nil (by omega), eqv_l]
  cases xs with
  | nil => rw [eqvAll_n]; rfl
  | cons x xs => rw [eqvAll_cn]; rfl
/-- target = xs.pop(), the list ending with d -/
theorem pop_ok {i : Nat} {b : FB} {δ δ' : Ev} {S : List PyData} {d : PyData} (h : slotL i δ = some (S ++ [d])) (hb : b d (δ.set i (some (.list S))) = some δ') : popS i b δ = .nx δ' := by
  unfold popS
  rw [h]
  simp only [List.getLast?_append, List.getLast?_singleton, Option.some_or, List.dropLast_concat]
  rw [hb]
end Dl

namespace Dl
open PySem PySem.W PyProof.Rows

/-! ### statements in order -/
abbrev Tk := Int ⊕ List Nat
theorem toks_low : keyToks (enc .low) = [.inl 1, .inr (cs "low"), .inl 0] := by simp [enc, keyToks, keyToksAll]
theorem toks_lt (w : Str) : keyToks (enc (.lt w)) = [.inl 1, .inr (cs "letter"), .inl 1, .inr (cs w), .inl 0] := by simp [enc, keyToks, keyToksAll]
theorem toks_bin (k : Kd) (a b : Fm) : keyToks (enc (.bin k a b)) = .inl 1 :: .inr (cs k.str) :: .inl 1 :: (keyToks (enc a) ++ (.inl 1 :: (keyToks (enc b) ++ [.inl 0]))) := by simp [enc, keyToks, keyToksAll]
theorem cs_inj {x y : Str} (h : cs x = cs y) : x = y := str_of_cps h
theorem toks_free (f : Fm) : ∀ (g : Fm) (l m : List Tk), keyToks (enc f) ++ l = keyToks (enc g) ++ m → f = g ∧ l = m := by
  have n1 : ∀ k : Kd, cs ("low" : Str) ≠ cs k.str := fun k => by cases k <;> decide +kernel
  have n2 : ∀ k : Kd, cs ("letter" : Str) ≠ cs k.str := fun k => by cases k <;> decide +kernel
  have n3 : cs ("low" : Str) ≠ cs "letter" := by decide +kernel
  induction f with
  | low =>
    intro g l m h
    cases g with
    | low => rw [toks_low] at h; simpa using h
    | lt w => rw [toks_low, toks_lt] at h; simp [n3] at h
    | bin k a b => rw [toks_low, toks_bin] at h; simp [n1] at h
  | lt w =>
    intro g l m h
    cases g with
    | low => rw [toks_low, toks_lt] at h; simp [n3.symm] at h
    | lt v =>
      rw [toks_lt, toks_lt] at h
      simp only [List.cons_append, List.nil_append, List.cons.injEq, Sum.inr.injEq, true_and] at h
      exact ⟨by rw [cs_inj h.1], h.2⟩
    | bin k a b => rw [toks_lt, toks_bin] at h; simp [n2] at h
  | bin k a b iha ihb =>
    intro g l m h
    cases g with
    | low => rw [toks_low, toks_bin] at h; simp [(n1 k).symm] at h
    | lt v => rw [toks_lt, toks_bin] at h; simp [(n2 k).symm] at h
    | bin k' a' b' =>
      rw [toks_bin, toks_bin] at h
      simp only [List.cons_append, List.append_assoc, List.nil_append, List.cons.injEq, Sum.inr.injEq, true_and] at h
      obtain ⟨hk, h⟩ := h
      obtain ⟨ea, h⟩ := iha a' _ _ h
      simp only [List.cons.injEq, true_and] at h
      obtain ⟨eb, h⟩ := ihb b' _ _ h
      simp only [List.cons.injEq, true_and] at h
      exact ⟨by rw [kd_inj (cs_inj hk), ea, eb], h⟩
theorem toks_inj {f g : Fm} (h : keyToks (enc f) = keyToks (enc g)) : f = g := (toks_free f g [] [] (by rw [h])).1
def leF (a b : Fm) : Bool := dataLe false enc a b
theorem leF_total : TotalLe leF := sortLe_total (listOrd itemOrd) false fun f => keyToks (enc f)
theorem leF_anti {a b : Fm} (h1 : leF a b = true) (h2 : leF b a = true) : a = b := by
  refine toks_inj ((listOrd itemOrd).total _ _ ?_ ?_)
  · have : (!lexLt itemOrd (keyToks (enc a)) (keyToks (enc b))) = true := h2
    simpa using this
  · have : (!lexLt itemOrd (keyToks (enc b)) (keyToks (enc a))) = true := h1
    simpa using this
def sortF (fs : List Fm) : List Fm := fs.mergeSort leF
theorem sortF_sorted (fs : List Fm) : (sortF fs).Pairwise (fun a b => leF a b = true) := sort_pairwise leF_total fs
theorem sortF_perm (fs : List Fm) : (sortF fs).Perm fs := List.mergeSort_perm fs leF
theorem sortL_enc (fs : List Fm) : sortL (fs.map enc) = (sortF fs).map enc := by
  unfold sortL sortF
  rw [List.map_mergeSort (r := leF) (s := dataLe false id) (f := enc) (fun a _ b _ => rfl)]
theorem cmpD_t (xs ys : List PyData) : cmpD (.tuple xs) (.tuple ys) = cmpA xs ys := by rw [cmpD]
theorem cmpD_s (x y : Str) : cmpD (.str x) (.str y) = true := by rw [cmpD]
theorem cmpA_c (x y : PyData) (xs ys : List PyData) : cmpA (x :: xs) (y :: ys) = (cmpD x y && (!PyData.eqv x y || cmpA xs ys)) := by rw [cmpA]
theorem cmpA_n (ys : List PyData) : cmpA [] ys = true := by rw [cmpA]
theorem head_no {x y : Str} (xs ys : List PyData) (h : x ≠ y) : cmpD (.tuple (.str x :: xs)) (.tuple (.str y :: ys)) = true := by
  rw [cmpD_t, cmpA_c, cmpD_s, eqv_s, decide_eq_false h]
  rfl
theorem cmp_enc (f : Fm) : ∀ g : Fm, cmpD (enc f) (enc g) = true := by
  have n1 : ∀ k : Kd, ("low" : Str) ≠ k.str := fun k => by cases k <;> decide +kernel
  have n2 : ∀ k : Kd, ("letter" : Str) ≠ k.str := fun k => by cases k <;> decide +kernel
  have n3 : ("low" : Str) ≠ "letter" := by decide +kernel
  induction f with
  | low =>
    intro g
    cases g with
    | low => unfold enc; rw [cmpD_t, cmpA_c, cmpD_s, cmpA_n, Bool.or_true]; rfl
    | lt w => exact head_no _ _ n3
    | bin k a b => exact head_no _ _ (n1 k)
  | lt w =>
    intro g
    cases g with
    | low => exact head_no _ _ n3.symm
    | lt v => unfold enc; rw [cmpD_t, cmpA_c, cmpD_s, cmpA_c, cmpD_s, cmpA_n, Bool.or_true, Bool.and_true, Bool.or_true]; rfl
    | bin k a b => exact head_no _ _ (n2 k)
  | bin k a b iha ihb =>
    intro g
    cases g with
    | low => exact head_no _ _ (n1 k).symm
    | lt v => exact head_no _ _ (n2 k).symm
    | bin k' a' b' =>
      unfold enc
      rw [cmpD_t, cmpA_c, cmpD_s, cmpA_c, iha, cmpA_c, ihb, cmpA_n, Bool.or_true, Bool.and_true, Bool.or_true, Bool.and_true, Bool.or_true]; rfl
/-- good statements: their words may stand in the heap, and they are not too deep -/
structure Ok (k : Nat) (f : Fm) : Prop where
  lt : ∀ w ∈ f.letters, PyData.strOk w = true
  dp : f.deep ≤ k
theorem Ok.sh {k : Nat} {f : Fm} (h : Ok k f) : Sh k (enc f) := Sh.enc h.lt h.dp
theorem tup1_enc (f : Fm) : isTup1 (enc f) = true := by cases f <;> rfl
theorem sortOk_enc {fs : List Fm} {k : Nat} (hk : k ≤ 63) (h : ∀ f ∈ fs, Ok k f) : sortOk (fs.map enc) = true := by
  unfold sortOk
  rw [Bool.and_eq_true, Bool.and_eq_true, Bool.or_eq_true]
  refine ⟨⟨Sh.shaped (k := k + 1) (Sh.list fun x hx => ?_) (by omega), List.all_eq_true.mpr fun d hd => List.all_eq_true.mpr fun d' hd' => ?_⟩, .inl (List.all_eq_true.mpr fun d hd => ?_)⟩
  · obtain ⟨f, hf, rfl⟩ := List.mem_map.mp hx
    exact (h f hf).sh
  · obtain ⟨f, hf, rfl⟩ := List.mem_map.mp hd
    obtain ⟨g, hg, rfl⟩ := List.mem_map.mp hd'
    exact cmp_enc f g
  · obtain ⟨f, hf, rfl⟩ := List.mem_map.mp hd
    exact tup1_enc f
theorem sortD_enc {fs : List Fm} {k : Nat} (hk : k ≤ 63) (h : ∀ f ∈ fs, Ok k f) : sortD [.list (fs.map enc)] = some (.list ((sortF fs).map enc)) := by
  show (if sortOk (fs.map enc) = true then some (PyData.list (sortL (fs.map enc))) else none) = _
  rw [if_pos (sortOk_enc hk h), sortL_enc]
/-- each once, of what is in order -/
def ddF : List Fm → List Fm → List Fm
  | acc, [] => acc
  | acc, f :: fs => ddF (if acc.getLast? = some f then acc else acc ++ [f]) fs
def onceF (fs : List Fm) : List Fm := ddF [] (sortF fs)
abbrev ltF (a b : Fm) : Prop := leF a b = true ∧ a ≠ b
theorem ddF_spec : ∀ (fs acc : List Fm), acc.Pairwise ltF → (acc ++ fs).Pairwise (fun a b => leF a b = true) → (ddF acc fs).Pairwise ltF ∧ ∀ f, f ∈ ddF acc fs ↔ f ∈ acc ∨ f ∈ fs
  | [], acc, h, _ => ⟨h, fun f => by simp [ddF]⟩
  | g :: fs, acc, h, hs => by
    unfold ddF
    by_cases e : acc.getLast? = some g
    · rw [if_pos e]
      have hm : g ∈ acc := List.mem_of_getLast? e
      obtain ⟨h1, h2⟩ := ddF_spec fs acc h (hs.sublist ((List.Sublist.refl acc).append (List.sublist_cons_self g fs)))
      refine ⟨h1, fun f => ?_⟩
      rw [h2, List.mem_cons]
      constructor
      · rintro (q | q)
        · exact .inl q
        · exact .inr (.inr q)
      · rintro (q | rfl | q)
        · exact .inl q
        · exact .inl hm
        · exact .inr q
    · rw [if_neg e]
      have hle : ∀ a ∈ acc, leF a g = true := fun a ha => (List.pairwise_append.mp hs).2.2 a ha g List.mem_cons_self
      have hn : ∀ a ∈ acc, ltF a g := fun a ha => ⟨hle a ha, fun q => by
        subst q
        rcases List.eq_nil_or_concat acc with rfl | ⟨pre, z, rfl⟩
        · cases ha
        · rw [List.concat_eq_append] at *
          rw [List.getLast?_append] at e
          simp only [List.getLast?_singleton, Option.some_or, Option.some.injEq] at e
          rcases List.mem_append.mp ha with q | q
          · have h1 := (List.pairwise_append.mp h).2.2 a q z (by simp)
            exact h1.2 (leF_anti h1.1 (hle z (by simp)))
          · exact e (List.mem_singleton.mp q).symm⟩
      obtain ⟨h1, h2⟩ := ddF_spec fs (acc ++ [g]) (List.pairwise_append.mpr ⟨h, List.pairwise_singleton _ _, fun a ha b hb => by rw [List.mem_singleton.mp hb]; exact hn a ha⟩) (by simpa using hs)
      refine ⟨h1, fun f => ?_⟩
      rw [h2, List.mem_append, List.mem_singleton, List.mem_cons]
      constructor
      · rintro ((q | q) | q)
        · exact .inl q
        · exact .inr (.inl q)
        · exact .inr (.inr q)
      · rintro (q | q | q)
        · exact .inl (.inl q)
        · exact .inl (.inr q)
        · exact .inr q
theorem onceF_sorted (fs : List Fm) : (onceF fs).Pairwise ltF := (ddF_spec (sortF fs) [] List.Pairwise.nil (by simpa using sortF_sorted fs)).1
theorem onceF_mem (fs : List Fm) (f : Fm) : f ∈ onceF fs ↔ f ∈ fs := by
  rw [onceF, (ddF_spec (sortF fs) [] List.Pairwise.nil (by simpa using sortF_sorted fs)).2, (sortF_perm fs).mem_iff]
  simp
theorem onceF_nodup (fs : List Fm) : (onceF fs).Nodup := (onceF_sorted fs).imp fun h => h.2
theorem once_unique : ∀ {xs ys : List Fm}, xs.Pairwise ltF → ys.Pairwise ltF → (∀ f, f ∈ xs ↔ f ∈ ys) → xs = ys
  | [], [], _, _, _ => rfl
  | [], y :: ys, _, _, h => absurd ((h y).mpr List.mem_cons_self) (by simp)
  | x :: xs, [], _, _, h => absurd ((h x).mp List.mem_cons_self) (by simp)
  | x :: xs, y :: ys, hx, hy, h => by
    rw [List.pairwise_cons] at hx hy
    have exy : x = y := by
      rcases List.mem_cons.mp ((h x).mp List.mem_cons_self) with q | q
      · exact q
      · rcases List.mem_cons.mp ((h y).mpr List.mem_cons_self) with q' | q'
        · exact q'.symm
        · exact leF_anti (hx.1 y q').1 (hy.1 x q).1
    subst exy
    rw [once_unique hx.2 hy.2 fun f => ?_]
    constructor
    · intro q
      rcases List.mem_cons.mp ((h f).mp (List.mem_cons_of_mem _ q)) with e | e
      · exact absurd e.symm (hx.1 f q).2
      · exact e
    · intro q
      rcases List.mem_cons.mp ((h f).mpr (List.mem_cons_of_mem _ q)) with e | e
      · exact absurd e.symm (hy.1 f q).2
      · exact e
theorem onceF_congr {fs gs : List Fm} (h : ∀ f, f ∈ fs ↔ f ∈ gs) : onceF fs = onceF gs := once_unique (onceF_sorted fs) (onceF_sorted gs) fun f => by rw [onceF_mem, onceF_mem]; exact h f
end Dl

namespace Dl
open PySem PySem.W

def augK (r : R PyData) (op : Int → Int → Int) (s : R PyData) (i : Nat) (δ : Ev) : SR := match r with
  | .ok (.int a) => (match s with
    | .ok (.int b) => .nx (δ.set i (some (.int (op a b))))
    | .ok _ => .bad
    | .err c x => .err c x δ
    | .bad => .bad)
  | _ => .bad
theorem ev_aug (i : Nat) (op : Int → Int → Int) (f : FE) (δ : Ev) : augS i op f δ = augK (vr i δ) op (f δ) i δ := by
  unfold augS augK exS
  cases vr i δ with
  | ok d =>
    cases d with
    | int a =>
      cases f δ with
      | ok d => cases d <;> rfl
      | err c x => rfl
      | bad => rfl
    | _ => rfl
  | err c x => rfl
  | bad => rfl
theorem augK_ok (a b : Int) (op : Int → Int → Int) (i : Nat) (δ : Ev) : augK (.ok (.int a)) op (.ok (.int b)) i δ = .nx (δ.set i (some (.int (op a b)))) := Eq.trans rfl rfl
def asgK (r : R PyData) (b : FB) (δ : Ev) : SR := match r with
  | .ok d => (match b d δ with | some δ' => .nx δ' | none => .bad)
  | .err c x => .err c x δ
  | .bad => .bad
theorem ev_asg (b : FB) (f : FE) (δ : Ev) : asgS b f δ = asgK (f δ) b δ := by unfold asgS asgK exS; cases f δ <;> rfl
theorem asgK_T {is : List Nat} {xs : List PyData} {δ : Ev} (h : xs.length = is.length) : asgK (.ok (.tuple xs)) (bT is) δ = .nx (sets is xs δ) := by unfold asgK bT; simp [h]
theorem asgK_L {is : List Nat} {xs : List PyData} {δ : Ev} (h : xs.length = is.length) : asgK (.ok (.list xs)) (bT is) δ = .nx (sets is xs δ) := by unfold asgK bT; simp [h]
theorem ev_mkD (ps : List (FE × FE)) (δ : Ev) : mkD ps δ = (evps ps δ).bind fun ps => .ok (.dict (mergeKD [] ps)) := Eq.trans rfl rfl
theorem evps_nil (δ : Ev) : evps [] δ = .ok [] := Eq.trans rfl rfl
def pairK (k v : PyData) (ps : List (L2.Key × PyData)) : R (List (L2.Key × PyData)) := match keyD k with
  | some k => .ok ((k, v) :: ps)
  | none => .bad
theorem evps_cons (fk fv : FE) (r : List (FE × FE)) (δ : Ev) : evps ((fk, fv) :: r) δ = (fk δ).bind fun k => (fv δ).bind fun v => (evps r δ).bind fun ps => pairK k v ps := Eq.trans rfl rfl
theorem pairK_s (x : Str) (v : PyData) (ps : List (L2.Key × PyData)) : pairK (.str x) v ps = .ok ((.inr x, v) :: ps) := Eq.trans rfl rfl
theorem pairK_i (x : Int) (v : PyData) (ps : List (L2.Key × PyData)) : pairK (.int x) v ps = .ok ((.inl x, v) :: ps) := Eq.trans rfl rfl
theorem key_ne {a b : Str} (h : a ≠ b) : (keyD (.str a) = some (Sum.inr b : L2.Key)) = False := eq_false fun e => h (Sum.inr.inj (Option.some.inj e))
theorem key_eq' (a : Str) : (keyD (.str a) = some (Sum.inr a : L2.Key)) = True := eq_true rfl
theorem merge3 {a b c : Str} (hab : a ≠ b) (hac : a ≠ c) (hbc : b ≠ c) (d1 d2 d3 : PyData) : mergeKD [] [(.inr a, d1), (.inr b, d2), (.inr c, d3)] = [(.str a, d1), (.str b, d2), (.str c, d3)] := by
  simp only [mergeKD, List.foldl, putKD, List.any_nil, List.any_cons, kD, Bool.false_eq_true, if_false, List.nil_append, List.cons_append, key_ne hab, key_ne hac, key_ne hbc, decide_false, Bool.or_false]
theorem get3 {a b c : Str} (hab : a ≠ b) (hac : a ≠ c) (hbc : b ≠ c) (d1 d2 d3 : PyData) : getK [(.str a, d1), (.str b, d2), (.str c, d3)] (.inr a) = some d1 ∧ getK [(.str a, d1), (.str b, d2), (.str c, d3)] (.inr b) = some d2 ∧ getK [(.str a, d1), (.str b, d2), (.str c, d3)] (.inr c) = some d3 := by
  simp only [getK, List.find?_cons, key_eq', key_ne hab, key_ne hac, key_ne hbc, decide_true, decide_false, Option.map_some, and_self]
theorem disp3 (d1 d2 d3 : PyData) (k : Kd) : dixD (.dict (mergeKD [] [(.inr "both", d1), (.inr "one", d2), (.inr "then", d3)])) (.str k.str) = some (match k with | .both => d1 | .one => d2 | .then_ => d3) := by
  have h1 : ("both" : Str) ≠ "one" := by decide +kernel
  have h2 : ("both" : Str) ≠ "then" := by decide +kernel
  have h3 : ("one" : Str) ≠ "then" := by decide +kernel
  rw [merge3 h1 h2 h3]
  obtain ⟨g1, g2, g3⟩ := get3 h1 h2 h3 d1 d2 d3
  cases k
  · exact g1
  · exact g2
  · exact g3
theorem listD_l (xs : List PyData) : listD [.list xs] = some (.list xs) := Eq.trans rfl rfl
theorem eqvAll_enc : ∀ fs gs : List Fm, PyData.eqvAll (fs.map enc) (gs.map enc) = decide (fs = gs)
  | [], [] => by simp [eqvAll_n]
  | [], g :: gs => by simp [eqvAll_nc]
  | f :: fs, [] => by simp [eqvAll_cn]
  | f :: fs, g :: gs => by rw [List.map_cons, List.map_cons, eqvAll_c, enc_eqv, eqvAll_enc fs gs]; simp
theorem sh_encs {k : Nat} {fs : List Fm} (h : ∀ f ∈ fs, Ok k f) : Sh (k + 1) (.list (fs.map enc)) := Sh.list fun x hx => by
  obtain ⟨f, hf, rfl⟩ := List.mem_map.mp hx
  exact (h f hf).sh
theorem encs_eqD {k : Nat} {fs gs : List Fm} (h1 : ∀ f ∈ fs, Ok k f) (h2 : ∀ f ∈ gs, Ok k f) (hk : k ≤ 63) : eqD (.list (fs.map enc)) (.list (gs.map enc)) = some (.bool (decide (fs = gs))) := by
  rw [eqD_of (sh_encs h1) (sh_encs h2) (by omega), eqv_l, eqvAll_enc]
theorem any_enc (f : Fm) (fs : List Fm) : ((fs.map enc).any fun z => PyData.eqv z (enc f)) = decide (f ∈ fs) := by
  rw [List.any_map]
  induction fs with
  | nil => simp
  | cons g fs ih =>
    rw [List.any_cons, ih]
    simp only [Function.comp_apply, enc_eqv, List.mem_cons, Bool.decide_or]
    congr 1
    exact decide_eq_decide.mpr eq_comm
theorem cutL_pre (xs : List PyData) (k : Nat) (h : k ≤ xs.length) : cutL xs none (some (k : Int)) = xs.take k := by
  unfold cutL
  rw [HT.sIx_none, HT.sIx_nat, Nat.min_eq_left h]; simp
theorem cutL_suf (xs : List PyData) (k : Nat) (h : k ≤ xs.length) : cutL xs (some (k : Int)) none = xs.drop k := by
  unfold cutL
  rw [HT.sIx_none, HT.sIx_nat, Nat.min_eq_left h, List.take_of_length_le]
  rw [List.length_drop]; omega
theorem inL_enc {k : Nat} {f : Fm} {fs : List Fm} (hf : Ok k f) (h : ∀ f ∈ fs, Ok k f) (hk : k ≤ 63) : inL (enc f) (fs.map enc) = some (decide (f ∈ fs)) := by
  have h1 := (sh_encs h).shaped (by omega)
  have h2 := hf.sh.shaped (by omega)
  unfold inL
  rw [h1, h2, any_enc]
  simp
theorem notIn_enc {k : Nat} {f : Fm} {fs : List Fm} (hf : Ok k f) (h : ∀ f ∈ fs, Ok k f) (hk : k ≤ 63) : notInD (enc f) (.list (fs.map enc)) = some (.bool (!decide (f ∈ fs))) := by
  have e : inB (enc f) (.list (fs.map enc)) = inL (enc f) (fs.map enc) := by cases f <;> rfl
  unfold notInD
  rw [e, inL_enc hf h hk]; rfl
theorem in_enc {k : Nat} {f : Fm} {fs : List Fm} (hf : Ok k f) (h : ∀ f ∈ fs, Ok k f) (hk : k ≤ 63) : inD (enc f) (.list (fs.map enc)) = some (.bool (decide (f ∈ fs))) := by
  have e : inB (enc f) (.list (fs.map enc)) = inL (enc f) (fs.map enc) := by cases f <;> rfl
  unfold inD
  rw [e, inL_enc hf h hk]; rfl
theorem ixLast (xs : List PyData) (x : PyData) : ixD (.list (xs ++ [x])) (.int (-1)) = some x := by
  show L2.atI (xs ++ [x]) (-1) = some x
  have h : L2.ixN (xs ++ [x]).length (-1) = some xs.length := by
    unfold L2.ixN
    rw [if_neg (by decide), if_pos (by simp; omega)]
    simp
    omega
  unfold L2.atI
  rw [h]
  simp
def enumF : Nat → List PyData → List PyData
  | _, [] => []
  | k, x :: xs => .tuple [.int (k : Nat), x] :: enumF (k + 1) xs
theorem rangeL_succ (lo : Int) (n : Nat) : rangeL lo (n + 1) = .int lo :: rangeL (lo + 1) n := by
  unfold rangeL
  rw [List.range_succ_eq_map, List.map_cons, List.map_map]
  congr 1
  · simp
  · refine List.map_congr_left fun i _ => ?_
    simp only [Function.comp_apply]
    congr 1
    omega
theorem enumF_eq : ∀ (xs : List PyData) (k : Nat), zipL (rangeL (k : Nat) xs.length) xs = enumF k xs
  | [], k => by simp [zipL, enumF]
  | x :: xs, k => by
    rw [List.length_cons, rangeL_succ]
    have := enumF_eq xs (k + 1)
    have e : ((k : Nat) : Int) + 1 = ((k + 1 : Nat) : Int) := by omega
    rw [e]
    show PyData.tuple [_, x] :: zipL _ xs = _
    rw [this]
    rfl
theorem enumL_F (xs : List PyData) : enumL xs = enumF 0 xs := enumF_eq xs 0
theorem pre_enc (fs : List Fm) (k : Nat) (h : k ≤ fs.length) : cutL (fs.map enc) none (some (k : Int)) = (fs.take k).map enc := by
  rw [cutL_pre _ _ (by simpa using h), List.map_take]
end Dl

namespace Dl
open PySem PySem.W PyProof.Rows
/-! ### texts in order -/
def leS (a b : Str) : Bool := dataLe false PyData.str a b
theorem leS_total : TotalLe leS := sortLe_total (listOrd itemOrd) false fun w => keyToks (PyData.str w)
theorem toksS (w : Str) : keyToks (.str w) = [.inr (cs w)] := by simp [keyToks]
theorem leS_anti {a b : Str} (h1 : leS a b = true) (h2 : leS b a = true) : a = b := by
  have e : keyToks (PyData.str a) = keyToks (PyData.str b) := (listOrd itemOrd).total _ _ (by
    have : (!lexLt itemOrd (keyToks (.str a)) (keyToks (.str b))) = true := h2
    simpa using this) (by
    have : (!lexLt itemOrd (keyToks (.str b)) (keyToks (.str a))) = true := h1
    simpa using this)
  rw [toksS, toksS] at e
  simp only [List.cons.injEq, Sum.inr.injEq, and_true] at e
  exact cs_inj e
def sortS (ws : List Str) : List Str := ws.mergeSort leS
theorem sortS_sorted (ws : List Str) : (sortS ws).Pairwise (fun a b => leS a b = true) := sort_pairwise leS_total ws
theorem sortS_perm (ws : List Str) : (sortS ws).Perm ws := List.mergeSort_perm ws leS
theorem sortL_str (ws : List Str) : sortL (ws.map .str) = (sortS ws).map .str := by
  unfold sortL sortS
  rw [List.map_mergeSort (r := leS) (s := dataLe false id) (f := PyData.str) (fun a _ b _ => rfl)]
theorem sh_strs {ws : List Str} (h : ∀ w ∈ ws, PyData.strOk w = true) : Sh 1 (.list (ws.map .str)) := Sh.list fun x hx => by
  obtain ⟨w, hw, rfl⟩ := List.mem_map.mp hx
  exact Sh.str 0 (h w hw)
theorem sortD_str {ws : List Str} (h : ∀ w ∈ ws, PyData.strOk w = true) : sortD [.list (ws.map .str)] = some (.list ((sortS ws).map .str)) := by
  show (if sortOk (ws.map .str) = true then some (PyData.list (sortL (ws.map .str))) else none) = _
  have : sortOk (ws.map .str) = true := by
    unfold sortOk
    rw [Bool.and_eq_true, Bool.and_eq_true, Bool.or_eq_true]
    refine ⟨⟨(sh_strs h).shaped (by decide), List.all_eq_true.mpr fun d hd => List.all_eq_true.mpr fun d' hd' => ?_⟩, .inr (List.all_eq_true.mpr fun d hd => ?_)⟩
    · obtain ⟨f, hf, rfl⟩ := List.mem_map.mp hd
      obtain ⟨g, hg, rfl⟩ := List.mem_map.mp hd'
      exact cmpD_s f g
    · obtain ⟨f, hf, rfl⟩ := List.mem_map.mp hd
      rfl
  rw [if_pos this, sortL_str]
theorem any_str (w : Str) (ws : List Str) : ((ws.map PyData.str).any fun z => PyData.eqv z (.str w)) = decide (w ∈ ws) := by
  rw [List.any_map]
  induction ws with
  | nil => simp
  | cons g fs ih =>
    rw [List.any_cons, ih]
    simp only [Function.comp_apply, eqv_s, List.mem_cons, Bool.decide_or]
    congr 1
    exact decide_eq_decide.mpr eq_comm
theorem inL_str (w : Str) (ws : List Str) : inL (.str w) (ws.map .str) = some (decide (w ∈ ws)) := by
  have : (ws.map PyData.str).all flatD = true := List.all_eq_true.mpr fun d hd => by
    obtain ⟨f, hf, rfl⟩ := List.mem_map.mp hd
    rfl
  unfold inL
  rw [this, any_str]
  rfl
theorem notIn_str (w : Str) (ws : List Str) : notInD (.str w) (.list (ws.map .str)) = some (.bool (!decide (w ∈ ws))) := by
  have e : inB (.str w) (.list (ws.map .str)) = inL (.str w) (ws.map .str) := rfl
  unfold notInD
  rw [e, inL_str]; rfl
theorem in_str (w : Str) (ws : List Str) : inD (.str w) (.list (ws.map .str)) = some (.bool (decide (w ∈ ws))) := by
  have e : inB (.str w) (.list (ws.map .str)) = inL (.str w) (ws.map .str) := rfl
  unfold inD
  rw [e, inL_str]; rfl
theorem eqvAll_str : ∀ fs gs : List Str, PyData.eqvAll (fs.map .str) (gs.map .str) = decide (fs = gs)
  | [], [] => by simp [eqvAll_n]
  | [], g :: gs => by simp [eqvAll_nc]
  | f :: fs, [] => by simp [eqvAll_cn]
  | f :: fs, g :: gs => by rw [List.map_cons, List.map_cons, eqvAll_c, eqv_s, eqvAll_str fs gs]; simp
end Dl

namespace Dl
open PySem PySem.Spec L2

/-! ### equality of data without truths -/
mutual
def nb : PyData → Bool
  | .bool _ => false
  | .dict _ => false
  | .list xs => nbAll xs
  | .tuple xs => nbAll xs
  | _ => true
def nbAll : List PyData → Bool
  | [] => true
  | x :: xs => nb x && nbAll xs
end
mutual
theorem eqv_iff : ∀ d e : PyData, nb d = true → nb e = true → (PyData.eqv d e = true ↔ d = e)
  | .none, e, _, he => by cases e <;> simp [PyData.eqv, nb] at he ⊢
  | .bool _, _, hd, _ => by simp [nb] at hd
  | .dict _, _, hd, _ => by simp [nb] at hd
  | .int i, e, _, he => by cases e <;> simp [PyData.eqv, nb] at he ⊢
  | .str x, e, _, he => by cases e <;> simp [PyData.eqv, nb] at he ⊢
  | .list xs, e, hd, he => by
    cases e with
    | list ys => rw [PyData.eqv, eqvAll_iff xs ys (by simpa [nb] using hd) (by simpa [nb] using he)]; simp
    | _ => simp [PyData.eqv]
  | .tuple xs, e, hd, he => by
    cases e with
    | tuple ys => rw [PyData.eqv, eqvAll_iff xs ys (by simpa [nb] using hd) (by simpa [nb] using he)]; simp
    | _ => simp [PyData.eqv]
theorem eqvAll_iff : ∀ xs ys : List PyData, nbAll xs = true → nbAll ys = true → (PyData.eqvAll xs ys = true ↔ xs = ys)
  | [], [], _, _ => by simp [PyData.eqvAll]
  | [], _ :: _, _, _ => by simp [PyData.eqvAll]
  | _ :: _, [], _, _ => by simp [PyData.eqvAll]
  | x :: xs, y :: ys, hd, he => by
    rw [nbAll, Bool.and_eq_true] at hd he
    rw [PyData.eqvAll, Bool.and_eq_true, eqv_iff x y hd.1 he.1, eqvAll_iff xs ys hd.2 he.2]; simp
end
noncomputable instance : DecidableEq PyData := fun a b => Classical.propDecidable (a = b)
theorem eqv_dec {d e : PyData} (hd : nb d = true) (he : nb e = true) : PyData.eqv d e = decide (d = e) := by
  by_cases h : d = e
  · rw [decide_eq_true h]; exact (eqv_iff d e hd he).mpr h
  · rw [decide_eq_false h]
    cases q : PyData.eqv d e with
    | false => rfl
    | true => exact absurd ((eqv_iff d e hd he).mp q) h
/-- plain data, at most k deep -/
structure Pl (k : Nat) (d : PyData) : Prop where
  sh : Sh k d
  nb : nb d = true
theorem nbAll_of : ∀ {xs : List PyData}, (∀ x ∈ xs, nb x = true) → nbAll xs = true
  | [], _ => rfl
  | x :: xs, h => by rw [nbAll, h x List.mem_cons_self, nbAll_of fun y hy => h y (List.mem_cons_of_mem _ hy)]; rfl
theorem Pl.mono {k l : Nat} {d : PyData} (h : Pl k d) (e : k ≤ l) : Pl l d := ⟨h.sh.mono e, h.nb⟩
theorem Pl.list {k : Nat} {xs : List PyData} (h : ∀ x ∈ xs, Pl k x) : Pl (k + 1) (.list xs) := ⟨Sh.list fun x hx => (h x hx).sh, by rw [Dl.nb]; exact nbAll_of fun x hx => (h x hx).nb⟩
theorem Pl.tuple {k : Nat} {xs : List PyData} (h : ∀ x ∈ xs, Pl k x) : Pl (k + 1) (.tuple xs) := ⟨Sh.tuple fun x hx => (h x hx).sh, by rw [Dl.nb]; exact nbAll_of fun x hx => (h x hx).nb⟩
theorem Pl.int (k : Nat) (i : Int) : Pl k (.int i) := ⟨Sh.int k i, rfl⟩
theorem Pl.none (k : Nat) : Pl k .none := ⟨Sh.none k, rfl⟩
theorem Pl.str (k : Nat) {x : Str} (h : PyData.strOk x = true) : Pl k (.str x) := ⟨Sh.str k h, rfl⟩
theorem nb_enc : ∀ f : Fm, nb (enc f) = true
  | .low => rfl
  | .lt _ => rfl
  | .bin _ a b => by simp [enc, nb, nbAll, nb_enc a, nb_enc b]
theorem Pl.enc {k : Nat} {f : Fm} (h : Ok k f) : Pl k (enc f) := ⟨h.sh, nb_enc f⟩
theorem Pl.encs {k : Nat} {fs : List Fm} (h : ∀ f ∈ fs, Ok k f) : Pl (k + 1) (.list (fs.map Dl.enc)) := Pl.list fun x hx => by
  obtain ⟨f, hf, rfl⟩ := List.mem_map.mp hx
  exact Pl.enc (h f hf)
theorem Pl.strs {ws : List Str} (h : ∀ w ∈ ws, PyData.strOk w = true) : Pl 1 (.list (ws.map .str)) := Pl.list fun x hx => by
  obtain ⟨w, hw, rfl⟩ := List.mem_map.mp hx
  exact Pl.str 0 (h w hw)
theorem Pl.ints (ks : List Int) : Pl 1 (.list (ks.map .int)) := Pl.list fun x hx => by
  obtain ⟨w, hw, rfl⟩ := List.mem_map.mp hx
  exact Pl.int 0 w
theorem eqD_pl {k : Nat} {d e : PyData} (h1 : Pl k d) (h2 : Pl k e) (hk : k ≤ 1000) : eqD d e = some (.bool (decide (d = e))) := by
  rw [eqD_of h1.sh h2.sh hk, eqv_dec h1.nb h2.nb]
theorem neD_pl {k : Nat} {d e : PyData} (h1 : Pl k d) (h2 : Pl k e) (hk : k ≤ 1000) : neD d e = some (.bool (!decide (d = e))) := by
  rw [neD_of h1.sh h2.sh hk, eqv_dec h1.nb h2.nb]
theorem any_pl {d : PyData} {ds : List PyData} (hd : nb d = true) (h : ∀ x ∈ ds, nb x = true) : (ds.any fun z => PyData.eqv z d) = decide (d ∈ ds) := by
  induction ds with
  | nil => simp
  | cons x xs ih =>
    rw [List.any_cons, ih fun y hy => h y (List.mem_cons_of_mem _ hy), eqv_dec (h x List.mem_cons_self) hd]
    by_cases e : x = d
    · subst e; simp
    · simp [e, Ne.symm e]
theorem inL_pl {k : Nat} {d : PyData} {ds : List PyData} (h1 : Pl k d) (h2 : ∀ x ∈ ds, Pl k x) (hk : k ≤ 63) : inL d ds = some (decide (d ∈ ds)) := by
  unfold inL
  rw [any_pl h1.nb fun x hx => (h2 x hx).nb]
  have s1 := h1.sh.shaped (by omega)
  have s2 := (Sh.list fun x hx => (h2 x hx).sh).shaped (show k + 1 ≤ 64 by omega)
  rw [s1, s2]
  simp
theorem inD_pl {k : Nat} {d : PyData} {ds : List PyData} (h1 : Pl k d) (h2 : ∀ x ∈ ds, Pl k x) (hk : k ≤ 63) : inD d (.list ds) = some (.bool (decide (d ∈ ds))) := by
  have e : inB d (.list ds) = inL d ds := by cases d <;> rfl
  unfold inD; rw [e, inL_pl h1 h2 hk]; rfl
theorem notInD_pl {k : Nat} {d : PyData} {ds : List PyData} (h1 : Pl k d) (h2 : ∀ x ∈ ds, Pl k x) (hk : k ≤ 63) : notInD d (.list ds) = some (.bool (!decide (d ∈ ds))) := by
  have e : inB d (.list ds) = inL d ds := by cases d <;> rfl
  unfold notInD; rw [e, inL_pl h1 h2 hk]; rfl
theorem enc_inj {f g : Fm} : enc f = enc g ↔ f = g := by
  refine ⟨fun h => ?_, fun h => h ▸ rfl⟩
  have := enc_eqv f g
  rw [eqv_dec (nb_enc f) (nb_enc g), decide_eq_true h] at this
  exact of_decide_eq_true this.symm
theorem map_inj {α : Type} {e : α → PyData} (he : ∀ a b, e a = e b → a = b) : ∀ {xs ys : List α}, xs.map e = ys.map e → xs = ys
  | [], [], _ => rfl
  | [], _ :: _, h => by cases h
  | _ :: _, [], h => by cases h
  | x :: xs, y :: ys, h => by
    simp only [List.map_cons, List.cons.injEq] at h
    rw [he _ _ h.1, map_inj he h.2]
/-! ### dicts -/
def dd (kvs : List (Key × PyData)) : List (PyData × PyData) := kvs.map fun p => (kD p.1, p.2)
theorem getK_dd (k : Key) : ∀ kvs : List (Key × PyData), getK (dd kvs) k = (kvs.find? fun p => decide (p.1 = k)).map (·.2)
  | [] => rfl
  | p :: r => by
    have ih := getK_dd k r
    unfold getK dd at ih ⊢
    rw [List.map_cons, List.find?_cons, List.find?_cons, keyD_kD]
    by_cases h : p.1 = k
    · simp [h]
    · simp only [Option.some.injEq, h, decide_false]; exact ih
theorem putKD_dd (k : Key) (d : PyData) (kvs : List (Key × PyData)) : putKD (dd kvs) k d = dd (if (kvs.any fun p => decide (p.1 = k)) = true then kvs.map (fun p => if p.1 = k then (p.1, d) else p) else kvs ++ [(k, d)]) := by
  have ea : ((dd kvs).any fun p => decide (keyD p.1 = some k)) = kvs.any fun p => decide (p.1 = k) := by
    unfold dd
    rw [List.any_map]
    congr 1
    funext p
    simp [keyD_kD]
  unfold putKD
  rw [ea]
  split
  · unfold dd
    rw [List.map_map, List.map_map]
    refine List.map_congr_left fun p _ => ?_
    simp only [Function.comp_apply, keyD_kD, Option.some.injEq]
    split <;> rfl
  · simp [dd]
def slotK (i : Nat) (rf rk : R PyData) (o : Option (List (PyData × PyData))) (δ : Ev) : SR := match rf with
  | .ok d => (match o with
    | some ds => (match rk with
      | .ok kd => (match keyD kd with
        | some k => if ds.length < sizeLine then .nx (δ.set i (some (.dict (putKD ds k d)))) else .bad
        | none => .bad)
      | .err c x => .err c x δ
      | .bad => .bad)
    | none => .bad)
  | .err c x => .err c x δ
  | .bad => .bad
theorem ev_dput (i : Nat) (fk f : FE) (δ : Ev) : dputS i fk f δ = slotK i (f δ) (fk δ) (slotD i δ) δ := by
  unfold dputS exS slotK
  cases f δ with
  | ok d => first | rfl | (cases slotD i δ with
    | none => rfl
    | some ds => first | rfl | (cases fk δ <;> rfl))
  | err c x => rfl
  | bad => rfl
theorem slotD_0 (ds : List (PyData × PyData)) (r : Ev) : slotD 0 (some (.dict ds) :: r) = some ds := Eq.trans rfl rfl
theorem slotD_S (i : Nat) (x : Option PyData) (r : Ev) : slotD (i + 1) (x :: r) = slotD i r := Eq.trans rfl rfl
theorem slotK_i {ds : List (PyData × PyData)} {d : PyData} {k : Int} {i : Nat} {δ : Ev} (h : ds.length < 16000000) : slotK i (.ok d) (.ok (.int k)) (some ds) δ = .nx (δ.set i (some (.dict (putKD ds (.inl k) d)))) := by
  have e : sizeLine = 16777216 := sizeLine_eq
  show (if ds.length < sizeLine then _ else _) = _
  rw [if_pos (by omega)]
theorem slotK_s {ds : List (PyData × PyData)} {d : PyData} {k : Str} {i : Nat} {δ : Ev} (h : ds.length < 16000000) : slotK i (.ok d) (.ok (.str k)) (some ds) δ = .nx (δ.set i (some (.dict (putKD ds (.inr k) d)))) := by
  have e : sizeLine = 16777216 := sizeLine_eq
  show (if ds.length < sizeLine then _ else _) = _
  rw [if_pos (by omega)]
theorem dinD_i (k : Int) (ds : List (PyData × PyData)) : dinD (.int k) (.dict ds) = some (.bool (getK ds (.inl k)).isSome) := Eq.trans rfl rfl
theorem dinD_s (k : Str) (ds : List (PyData × PyData)) : dinD (.str k) (.dict ds) = some (.bool (getK ds (.inr k)).isSome) := Eq.trans rfl rfl
theorem dixD_i (k : Int) (ds : List (PyData × PyData)) : dixD (.dict ds) (.int k) = getK ds (.inl k) := Eq.trans rfl rfl
theorem dixD_s (k : Str) (ds : List (PyData × PyData)) : dixD (.dict ds) (.str k) = getK ds (.inr k) := Eq.trans rfl rfl
def keysK : PyData → R PyData
  | .dict kds => .ok (.list (kds.map (·.1)))
  | _ => .bad
theorem ev_keys (f : FE) (δ : Ev) : keysF f δ = (f δ).bind keysK := by unfold keysF; cases f δ with | ok d => cases d <;> rfl | err c x => rfl | bad => rfl
theorem keysK_d (kds : List (PyData × PyData)) : keysK (.dict kds) = .ok (.list (kds.map (·.1))) := Eq.trans rfl rfl
theorem keysD_d (kds : List (PyData × PyData)) : keysD [.dict kds] = some (.list (kds.map (·.1))) := Eq.trans rfl rfl
/-! numbers that are marked -/
def mkI (ks : List Int) : List (PyData × PyData) := dd (ks.map fun k => (.inl k, .bool true))
theorem mkI_len (ks : List Int) : (mkI ks).length = ks.length := by simp [mkI, dd]
theorem getK_mkI (k : Int) (ks : List Int) : getK (mkI ks) (.inl k) = if k ∈ ks then some (.bool true) else none := by
  unfold mkI
  rw [getK_dd]
  induction ks with
  | nil => rfl
  | cons x xs ih =>
    rw [List.map_cons, List.find?_cons]
    by_cases h : x = k
    · subst h; simp
    · simp only [Sum.inl.injEq, h, decide_false, List.mem_cons, Ne.symm h, false_or]; exact ih
theorem putK_mkI (k : Int) (ks : List Int) : putKD (mkI ks) (.inl k) (.bool true) = mkI (if k ∈ ks then ks else ks ++ [k]) := by
  unfold mkI
  rw [putKD_dd]
  have ea : ((ks.map fun k => ((.inl k : Key), PyData.bool true)).any fun p => decide (p.1 = .inl k)) = decide (k ∈ ks) := by
    rw [List.any_map]
    induction ks with
    | nil => rfl
    | cons x xs ih => rw [List.any_cons, ih]; by_cases h : x = k <;> simp [h, Ne.symm, eq_comm]
  rw [ea]
  by_cases h : k ∈ ks
  · rw [decide_eq_true h, if_pos rfl, if_pos h]
    congr 1
    rw [List.map_map]
    refine List.map_congr_left fun x _ => ?_
    simp only [Function.comp_apply]
    split
    · rename_i e; rw [e]
    · rfl
  · rw [decide_eq_false h, if_neg Bool.false_ne_true, if_neg h]
    simp
theorem keys_mkI (ks : List Int) : (mkI ks).map (·.1) = ks.map .int := by
  unfold mkI dd
  rw [List.map_map, List.map_map]
  rfl
/-! words that are marked -/
def mkW (ks : List Str) : List (PyData × PyData) := dd (ks.map fun k => (.inr k, .bool true))
theorem mkW_len (ks : List Str) : (mkW ks).length = ks.length := by simp [mkW, dd]
theorem getK_mkW (k : Str) (ks : List Str) : getK (mkW ks) (.inr k) = if k ∈ ks then some (.bool true) else none := by
  unfold mkW
  rw [getK_dd]
  induction ks with
  | nil => rfl
  | cons x xs ih =>
    rw [List.map_cons, List.find?_cons]
    by_cases h : x = k
    · subst h; simp
    · simp only [Sum.inr.injEq, h, decide_false, List.mem_cons, Ne.symm h, false_or]; exact ih
theorem putK_mkW (k : Str) (ks : List Str) : putKD (mkW ks) (.inr k) (.bool true) = mkW (if k ∈ ks then ks else ks ++ [k]) := by
  unfold mkW
  rw [putKD_dd]
  have ea : ((ks.map fun k => ((.inr k : Key), PyData.bool true)).any fun p => decide (p.1 = .inr k)) = decide (k ∈ ks) := by
    rw [List.any_map]
    induction ks with
    | nil => rfl
    | cons x xs ih => rw [List.any_cons, ih]; by_cases h : x = k <;> simp [h, Ne.symm, eq_comm]
  rw [ea]
  by_cases h : k ∈ ks
  · rw [decide_eq_true h, if_pos rfl, if_pos h]
    congr 1
    rw [List.map_map]
    refine List.map_congr_left fun x _ => ?_
    simp only [Function.comp_apply]
    split
    · rename_i e; rw [e]
    · rfl
  · rw [decide_eq_false h, if_neg Bool.false_ne_true, if_neg h]
    simp
theorem keys_mkW (ks : List Str) : (mkW ks).map (·.1) = ks.map .str := by
  unfold mkW dd
  rw [List.map_map, List.map_map]
  rfl
/-! ### places of lists -/
theorem ixE {α : Type} {e : α → PyData} {xs : List α} {i : Int} (h0 : 0 ≤ i) (h1 : i < xs.length) : ∃ x, xs[i.toNat]? = some x ∧ x ∈ xs ∧ ixD (.list (xs.map e)) (.int i) = some (e x) := by
  have h : i.toNat < xs.length := by omega
  refine ⟨xs[i.toNat], by simp [h], List.getElem_mem h, ?_⟩
  rw [ixL (j := i.toNat) (by omega) (by simpa using h)]
  simp
theorem ixM {α : Type} {e : α → PyData} {xs : List α} {i : Nat} {x : α} (h : xs[i]? = some x) : ixD (.list (xs.map e)) (.int (i : Nat)) = some (e x) := by
  have hi : i < xs.length := by
    by_cases q : i < xs.length
    · exact q
    · rw [List.getElem?_eq_none (by omega)] at h; cases h
  rw [ixL (j := i) rfl (by simpa using hi)]
  rw [List.getElem?_eq_getElem hi] at h
  simp at h ⊢
  rw [h]
theorem cutL_tail {α : Type} (x : α) (xs : List α) : cutL (x :: xs) (some 1) none = xs := by
  simp only [cutL, HT.sIx, List.length_cons]
  rw [if_neg (by decide), show min (Int.toNat 1) (xs.length + 1) = 1 by simp]; simp
theorem cutL_init {α : Type} (xs : List α) : cutL xs none (some (-1)) = xs.dropLast := by
  simp only [cutL, HT.sIx]
  rw [List.dropLast_eq_take]
  simp
  omega
/-! ### a pop -/
def popN (o : Option (List PyData)) (i j : Nat) (δ : Ev) : SR := match o with
  | some ds => (match ds.getLast? with
    | some d => .nx ((δ.set i (some (.list ds.dropLast))).set j (some d))
    | none => .bad)
  | none => .bad
theorem ev_popN (i j : Nat) (δ : Ev) : popS i (bN j) δ = popN (slotL i δ) i j δ := by
  unfold popS popN bN
  cases slotL i δ with
  | none => rfl
  | some ds => first | rfl | (cases ds.getLast? <;> rfl)
theorem popN_ok (S : List PyData) (d : PyData) (i j : Nat) (δ : Ev) : popN (some (S ++ [d])) i j δ = .nx ((δ.set i (some (.list S))).set j (some d)) := by simp [popN]
def popT (o : Option (List PyData)) (i : Nat) (js : List Nat) (δ : Ev) : SR := match o with
  | some ds => (match ds.getLast? with
    | some (.tuple xs) => if xs.length = js.length then .nx (sets js xs (δ.set i (some (.list ds.dropLast)))) else .bad
    | some (.list xs) => if xs.length = js.length then .nx (sets js xs (δ.set i (some (.list ds.dropLast)))) else .bad
    | _ => .bad)
  | none => .bad
theorem ev_popT (i : Nat) (js : List Nat) (δ : Ev) : popS i (bT js) δ = popT (slotL i δ) i js δ := by
  unfold popS popT bT
  cases slotL i δ with
  | none => rfl
  | some ds =>
    cases hl : ds.getLast? with
    | none => simp [hl]
    | some d =>
      cases d with
      | tuple xs => by_cases hx : xs.length = js.length <;> simp [hl, hx]
      | list xs => by_cases hx : xs.length = js.length <;> simp [hl, hx]
      | _ => simp [hl]
theorem popT_ok {S : List PyData} {xs : List PyData} {i : Nat} {js : List Nat} {δ : Ev} (h : xs.length = js.length) : popT (some (S ++ [.tuple xs])) i js δ = .nx (sets js xs (δ.set i (some (.list S)))) := by simp [popT, h]
end Dl

namespace Dl
open PySem PySem.Spec L2
/-! ### loops that only look -/
theorem set_self {δ : Ev} {j : Nat} {x : Option PyData} (h : δ[j]? = some x) : δ.set j x = δ := by
  refine List.ext_getElem? fun i => ?_
  rw [List.getElem?_set]
  by_cases e : j = i
  · subst e
    have hl : j < δ.length := by
      by_cases q : j < δ.length
      · exact q
      · rw [List.getElem?_eq_none (by omega)] at h; cases h
    rw [if_pos rfl, if_pos hl, h]
  · rw [if_neg e]
theorem forD_chk {j : Nat} {g : FS} : ∀ {ds : List PyData} {δ : Ev} {x0 : Option PyData}, δ[j]? = some x0 → (∀ d ∈ ds, g (δ.set j (some d)) = .nx (δ.set j (some d))) → ∃ x, forD (bN j) g ds δ = .nx (δ.set j x)
  | [], δ, x0, h, _ => ⟨x0, by rw [set_self h]; rfl⟩
  | d :: ds, δ, x0, h, hg => by
    have hl : j < δ.length := by
      by_cases q : j < δ.length
      · exact q
      · rw [List.getElem?_eq_none (by omega)] at h; cases h
    obtain ⟨x, e⟩ := forD_chk (g := g) (ds := ds) (δ := δ.set j (some d)) (x0 := some d) (by rw [List.getElem?_set_self hl]) (fun d' hd' => by rw [List.set_set]; exact hg d' (List.mem_cons_of_mem _ hd'))
    refine ⟨x, ?_⟩
    rw [forD_N, hg d List.mem_cons_self, lpK_nx, e, List.set_set]
theorem forD_chk2 {i j : Nat} {g : FS} (hij : i ≠ j) : ∀ {ds : List PyData} {δ : Ev} {x0 y0 : Option PyData}, δ[i]? = some x0 → δ[j]? = some y0 → (∀ d ∈ ds, ∃ a b, d = .tuple [a, b] ∧ g ((δ.set i (some a)).set j (some b)) = .nx ((δ.set i (some a)).set j (some b))) → ∃ x y, forD (bT [i, j]) g ds δ = .nx ((δ.set i x).set j y)
  | [], δ, x0, y0, h, h', _ => ⟨x0, y0, by rw [set_self h, set_self h']; rfl⟩
  | d :: ds, δ, x0, y0, h, h', hg => by
    have hl : i < δ.length := by
      by_cases q : i < δ.length
      · exact q
      · rw [List.getElem?_eq_none (by omega)] at h; cases h
    have hl' : j < δ.length := by
      by_cases q : j < δ.length
      · exact q
      · rw [List.getElem?_eq_none (by omega)] at h'; cases h'
    obtain ⟨a, b, rfl, e0⟩ := hg d List.mem_cons_self
    have cm : ∀ (a a' b b' : Option PyData), (((δ.set i a).set j b).set i a').set j b' = (δ.set i a').set j b' := fun a a' b b' => by
      rw [List.set_comm b a' (Ne.symm hij), List.set_set, List.set_set]
    obtain ⟨x, y, e⟩ := forD_chk2 (g := g) hij (ds := ds) (δ := (δ.set i (some a)).set j (some b)) (x0 := some a) (y0 := some b) (by rw [List.getElem?_set_ne (Ne.symm hij), List.getElem?_set_self hl]) (by rw [List.getElem?_set_self (by rw [List.length_set]; exact hl')]) (fun d' hd' => by
      obtain ⟨a', b', rfl, e1⟩ := hg d' (List.mem_cons_of_mem _ hd')
      exact ⟨a', b', rfl, by rw [cm]; exact e1⟩)
    refine ⟨x, y, ?_⟩
    rw [forD_T _ _ _ _ _ rfl]
    show lpK (g ((δ.set i (some a)).set j (some b))) _ = _
    rw [e0, lpK_nx, e, cm]
theorem mem_zipL {α β : Type} {e : α → PyData} {e' : β → PyData} {xs : List α} {ys : List β} {d : PyData} (h : d ∈ zipL (xs.map e) (ys.map e')) : ∃ p ∈ xs.zip ys, d = .tuple [e p.1, e' p.2] := by
  unfold zipL at h
  rw [List.zip_map, List.map_map] at h
  obtain ⟨p, hp, rfl⟩ := List.mem_map.mp h
  exact ⟨p, hp, rfl⟩
theorem mem_enumF {α : Type} {e : α → PyData} : ∀ {xs : List α} {k : Nat} {d : PyData}, d ∈ enumF k (xs.map e) → ∃ (i : Nat) (x : α), xs[i]? = some x ∧ d = .tuple [.int ((k + i : Nat) : Int), e x]
  | [], _, _, h => by simp [enumF] at h
  | x :: xs, k, d, h => by
    rw [List.map_cons] at h
    rcases List.mem_cons.mp h with h | h
    · exact ⟨0, x, rfl, h⟩
    · obtain ⟨i, y, e1, e2⟩ := mem_enumF h
      exact ⟨i + 1, y, e1, by rw [e2, show k + 1 + i = k + (i + 1) by omega]⟩
theorem zip_adj {α : Type} {R : α → α → Prop} : ∀ {ks : List α}, ks.Pairwise R → ∀ p ∈ ks.dropLast.zip ks.tail, R p.1 p.2
  | [], _, p, hp => by simp at hp
  | [a], _, p, hp => by simp at hp
  | a :: b :: ks, h, p, hp => by
    rw [List.pairwise_cons] at h
    rw [List.dropLast_cons_cons, List.tail_cons] at hp
    rcases List.mem_cons.mp hp with q | q
    · rw [q]; exact h.1 b List.mem_cons_self
    · exact zip_adj h.2 p q
end Dl

namespace Dl
open PySem PySem.W PyProof.Rows L2
abbrev ltS (a b : Str) : Prop := cs a < cs b
theorem leS_iff (a b : Str) : leS a b = !decide (cs b < cs a) := by
  have h : leS a b = !lexLt itemOrd (keyToks (.str b)) (keyToks (.str a)) := rfl
  rw [h, toksS, toksS]
  have e : lexLt itemOrd [.inr (cs b)] [.inr (cs a)] = decide (cs b < cs a) := by
    rw [lex_cons]
    show (decide (cs b < cs a) || (!decide (cs a < cs b) && lexLt itemOrd [] [])) = _
    have : lexLt itemOrd [] [] = false := rfl
    rw [this]; simp
  rw [e]
theorem ltS_of {a b : Str} (h : leS a b = true) (hn : a ≠ b) : ltS a b := by
  by_cases q : cs a < cs b
  · exact q
  · have h2 : leS b a = true := by rw [leS_iff]; simp [q]
    exact absurd (leS_anti h h2) hn
theorem ltS_irrefl (a : Str) : ¬ ltS a a := fun h => by
  have t := leS_total.total a a
  rw [leS_iff] at t
  simp [h] at t
theorem ltS_asymm {a b : Str} (h : ltS a b) : ¬ ltS b a := fun h2 => by
  have t := leS_total.total a b
  rw [leS_iff, leS_iff] at t
  simp [h, h2] at t
theorem sortS_lt {ws : List Str} (h : ws.Nodup) : (sortS ws).Pairwise ltS := by
  have hn : (sortS ws).Nodup := (sortS_perm ws).nodup_iff.mpr h
  have hs := sortS_sorted ws
  exact (List.pairwise_and_iff.mpr ⟨hs, hn⟩).imp fun ⟨h1, h2⟩ => ltS_of h1 h2
theorem lt_nodup {ws : List Str} (h : ws.Pairwise ltS) : ws.Nodup := by
  refine List.Pairwise.imp (R := ltS) (fun {a b} h => ?_) h
  intro e
  subst e
  exact ltS_irrefl _ h
mutual
theorem eqv_refl : ∀ d : PyData, d.canLay0 = true → PyData.eqv d d = true
  | .none, _ => by rw [PyData.eqv]
  | .bool b, _ => by rw [PyData.eqv]; simp
  | .int i, _ => by rw [PyData.eqv]; simp
  | .str x, _ => by rw [PyData.eqv]; simp
  | .list xs, h => by rw [PyData.eqv]; exact eqvAll_refl xs (by simpa [PyData.canLay0] using h)
  | .tuple xs, h => by rw [PyData.eqv]; exact eqvAll_refl xs (by simpa [PyData.canLay0] using h)
  | .dict _, h => by simp [PyData.canLay0] at h
theorem eqvAll_refl : ∀ ds : List PyData, PyData.canLayAll0 ds = true → PyData.eqvAll ds ds = true
  | [], _ => by rw [PyData.eqvAll]
  | x :: xs, h => by
    rw [PyData.canLayAll0, Bool.and_eq_true] at h
    rw [PyData.eqvAll, eqv_refl x h.1, eqvAll_refl xs h.2]; rfl
end
theorem eqD_self {k : Nat} {d : PyData} (h : Sh k d) (hk : k ≤ 1000) : eqD d d = some (.bool true) := by rw [eqD_of h h hk, eqv_refl d h.lay]
theorem neD_self {k : Nat} {d : PyData} (h : Sh k d) (hk : k ≤ 1000) : neD d d = some (.bool false) := by rw [neD_of h h hk, eqv_refl d h.lay]; rfl
end Dl

namespace Dl
open PySem PySem.Spec L2
def raiK (c f : Str) (r : R PyData) (δ : Ev) : SR := match r with
  | .ok d => (match d with | .int i => .err c (some (f, i)) δ | _ => .bad)
  | .err c x => .err c x δ
  | .bad => .bad
theorem ev_raiseI (c f : Str) (fe : FE) (δ : Ev) : raiseI c f fe δ = raiK c f (fe δ) δ := by unfold raiseI exS raiK; cases fe δ <;> rfl
theorem raiK_i (c f : Str) (i : Int) (δ : Ev) : raiK c f (.ok (.int i)) δ = .err c (some (f, i)) δ := Eq.trans rfl rfl
theorem ev_raise (c : Str) (δ : Ev) : raiseS c δ = .err c none δ := Eq.trans rfl rfl
def tryK (c : Str) (f : Option Str) (i : Nat) (r : SR) (h : Option (Str × Int) → FS) : SR := match r with
  | .nx δ' => .nx δ'
  | .rt d => .rt d
  | .err c' x δ' => if c' = c ∧ x.map (·.1) = f then fin1 i (h x (δ'.set i none)) else .bad
  | _ => .bad
theorem ev_try (c : Str) (f : Option Str) (i : Nat) (g : FS) (h : Option (Str × Int) → FS) (δ : Ev) : tryS c f i g h δ = tryK c f i (g δ) h := by unfold tryS tryK; cases g δ <;> rfl
theorem tryK_nx (c : Str) (f : Option Str) (i : Nat) (δ : Ev) (h : Option (Str × Int) → FS) : tryK c f i (.nx δ) h = .nx δ := Eq.trans rfl rfl
theorem tryK_rt (c : Str) (f : Option Str) (i : Nat) (d : PyData) (h : Option (Str × Int) → FS) : tryK c f i (.rt d) h = .rt d := Eq.trans rfl rfl
theorem tryK_e1 (c : Str) (f : Str) (i : Nat) (z : Int) (δ : Ev) (h : Option (Str × Int) → FS) : tryK c (some f) i (.err c (some (f, z)) δ) h = fin1 i (h (some (f, z)) (δ.set i none)) := if_pos ⟨rfl, rfl⟩
theorem tryK_e0 (c : Str) (i : Nat) (δ : Ev) (h : Option (Str × Int) → FS) : tryK c none i (.err c none δ) h = fin1 i (h none (δ.set i none)) := if_pos ⟨rfl, rfl⟩
theorem fin1_nx (i : Nat) (δ : Ev) : fin1 i (.nx δ) = .nx (δ.set i none) := Eq.trans rfl rfl
theorem ev_fld (f : Str) (z : Int) (δ : Ev) : fldF (some (f, z)) δ = .ok (.int z) := Eq.trans rfl rfl
def tryOK (c : Str) (r : SR) (h : FS) : SR := match r with
  | .nx δ' => .nx δ'
  | .rt d => .rt d
  | .err c' _ δ' => if c' = c then (match h δ' with | .nx δ2 => .nx δ2 | .rt d => .rt d | _ => .bad) else .bad
  | _ => .bad
theorem ev_tryO (c : Str) (g h : FS) (δ : Ev) : tryO c g h δ = tryOK c (g δ) h := by unfold tryO tryOK; cases g δ <;> rfl
theorem tryOK_nx (c : Str) (δ : Ev) (h : FS) : tryOK c (.nx δ) h = .nx δ := Eq.trans rfl rfl
theorem tryOK_rt (c : Str) (d : PyData) (h : FS) : tryOK c (.rt d) h = .rt d := Eq.trans rfl rfl
def finO : SR → SR
  | .nx δ2 => .nx δ2
  | .rt d => .rt d
  | _ => .bad
theorem tryOK_e (c : Str) (x : Option (Str × Int)) (δ : Ev) (h : FS) : tryOK c (.err c x δ) h = finO (h δ) := by
  show (if c = c then (match h δ with | .nx δ2 => SR.nx δ2 | .rt d => .rt d | _ => .bad) else .bad) = _
  rw [if_pos rfl]
  cases h δ <;> rfl
theorem finO_nx (δ : Ev) : finO (.nx δ) = .nx δ := Eq.trans rfl rfl
theorem finO_rt (d : PyData) : finO (.rt d) = .rt d := Eq.trans rfl rfl
theorem isD_b (a b : Bool) : isD (.bool a) (.bool b) = some (.bool (decide (a = b))) := Eq.trans rfl rfl
def revK : PyData → R PyData
  | .list ds => .ok (.list ds.reverse)
  | _ => .bad
theorem ev_rev (f : FE) (δ : Ev) : revF f δ = (f δ).bind revK := by unfold revF; cases f δ with | ok d => cases d <;> rfl | err c x => rfl | bad => rfl
theorem revK_l (ds : List PyData) : revK (.list ds) = .ok (.list ds.reverse) := Eq.trans rfl rfl
def extK (o : Option (List PyData)) (r : R PyData) (i : Nat) (δ : Ev) : SR := match o with
  | some ds => (match r with
    | .ok d => (match d with | .list es => if ds.length + es.length ≤ sizeLine then .nx (δ.set i (some (.list (ds ++ es)))) else .bad | _ => .bad)
    | .err c x => .err c x δ
    | .bad => .bad)
  | none => .bad
theorem ev_ext (i : Nat) (f : FE) (δ : Ev) : extS i f δ = extK (slotL i δ) (f δ) i δ := by
  unfold extS extK exS
  cases slotL i δ with
  | none => rfl
  | some ds => cases f δ with
    | ok d => cases d <;> rfl
    | err c x => rfl
    | bad => rfl
theorem extK_ok {ds es : List PyData} {i : Nat} {δ : Ev} (h : ds.length + es.length ≤ 16000000) : extK (some ds) (.ok (.list es)) i δ = .nx (δ.set i (some (.list (ds ++ es)))) := by
  have e : sizeLine = 16777216 := sizeLine_eq
  exact if_pos (show ds.length + es.length ≤ sizeLine by omega)
def callBK (G : List PyData → R PyData) (ds : List PyData) : R PyData := (G ds).bind fun d => if flatE d = true then .ok d else .bad
theorem ev_callB (G : List PyData → R PyData) (fs : List FE) (δ : Ev) : callB G fs δ = (evs fs δ).bind fun ds => (G ds).bind fun d => if flatE d = true then .ok d else .bad := Eq.trans rfl rfl
theorem flatE_b (b : Bool) : flatE (.bool b) = true := Eq.trans rfl rfl
theorem flatE_i (b : Int) : flatE (.int b) = true := Eq.trans rfl rfl
theorem flatE_s (b : Str) : flatE (.str b) = true := Eq.trans rfl rfl
theorem flatE_n : flatE .none = true := Eq.trans rfl rfl
/-- xs.extend(f(xs.pop())) -/
def extPopK (o : Option (List PyData)) (G : List PyData → R PyData) (i : Nat) (δ : Ev) : SR := match o with
  | some ds => (match ds.getLast? with
    | some d => (match G [d] with
      | .ok (.list es) => if ds.length + es.length ≤ sizeLine then .nx (δ.set i (some (.list (ds.dropLast ++ es)))) else .bad
      | .err c x => .err c x (δ.set i (some (.list ds.dropLast)))
      | _ => .bad)
    | none => .bad)
  | none => .bad
theorem ev_extPop (i : Nat) (G : List PyData → R PyData) (δ : Ev) : extPopS i G δ = extPopK (slotL i δ) G i δ := by
  unfold extPopS extPopK
  cases slotL i δ with
  | none => rfl
  | some ds => rfl
theorem extPopK_ok {S es : List PyData} {d : PyData} {G : List PyData → R PyData} {i : Nat} {δ : Ev} (hG : G [d] = .ok (.list es)) (h : S.length + es.length ≤ 16000000) : extPopK (some (S ++ [d])) G i δ = .nx (δ.set i (some (.list (S ++ es)))) := by
  have e : sizeLine = 16777216 := sizeLine_eq
  unfold extPopK
  simp only [List.getLast?_append, List.getLast?_singleton, Option.some_or, hG, List.dropLast_concat, List.length_append, List.length_singleton]
  exact if_pos (by omega)
theorem lenD_s {x : Str} (h : x.length ≤ 16000000) : lenD [.str x] = some (.int x.length) := by
  have e : sizeLine = 16777216 := sizeLine_eq
  exact if_pos (show x.length ≤ sizeLine by omega)
theorem ifT {α : Type} (a b : α) : (if True then a else b) = a := if_pos trivial
theorem ifF {α : Type} (a b : α) : (if False then a else b) = b := if_neg id
theorem ifTT {α : Type} (a b : α) : (if true = true then a else b) = a := if_pos rfl
theorem ifFT {α : Type} (a b : α) : (if false = true then a else b) = b := if_neg Bool.false_ne_true
end Dl

namespace Dl
open PySem PySem.Spec L2
/-! ### terms -/
inductive Tm where
  | at (i : Int)
  | pair (a b : Tm)
  | left (a : Tm)
  | right (a : Tm)
  | first (a : Tm) (s : Fm)
  | second (a : Tm) (s : Fm)
  | cases (a b c : Tm)
  | fn (s : Fm) (a : Tm)
  | use (a b : Tm)
  | off (a : Tm) (s : Fm)
deriving DecidableEq
def encT : Tm → PyData
  | .at i => .tuple [.str "at", .int i]
  | .pair a b => .tuple [.str "pair", encT a, encT b]
  | .left a => .tuple [.str "left", encT a]
  | .right a => .tuple [.str "right", encT a]
  | .first a s => .tuple [.str "first", encT a, enc s]
  | .second a s => .tuple [.str "second", encT a, enc s]
  | .cases a b c => .tuple [.str "cases", encT a, encT b, encT c]
  | .fn s a => .tuple [.str "fun", enc s, encT a]
  | .use a b => .tuple [.str "use", encT a, encT b]
  | .off a s => .tuple [.str "off", encT a, enc s]
def Tm.deep : Tm → Nat
  | .at _ => 1
  | .pair a b => max a.deep b.deep + 1
  | .left a => a.deep + 1
  | .right a => a.deep + 1
  | .first a _ => a.deep + 1
  | .second a _ => a.deep + 1
  | .cases a b c => max a.deep (max b.deep c.deep) + 1
  | .fn _ a => a.deep + 1
  | .use a b => max a.deep b.deep + 1
  | .off a _ => a.deep + 1
def Tm.parts : Tm → Nat
  | .at _ => 1
  | .pair a b => a.parts + b.parts + 1
  | .left a => a.parts + 1
  | .right a => a.parts + 1
  | .first a _ => a.parts + 1
  | .second a _ => a.parts + 1
  | .cases a b c => a.parts + b.parts + c.parts + 1
  | .fn _ a => a.parts + 1
  | .use a b => a.parts + b.parts + 1
  | .off a _ => a.parts + 1
theorem Tm.deep_pos (t : Tm) : 1 ≤ t.deep := by cases t <;> simp [Tm.deep]
theorem Tm.parts_pos (t : Tm) : 1 ≤ t.parts := by cases t <;> simp [Tm.parts]
theorem Tm.deep_le (t : Tm) : t.deep ≤ t.parts := by
  induction t <;> simp only [Tm.deep, Tm.parts] <;> omega
/-- all statements in a term -/
def Tm.stm (P : Fm → Prop) : Tm → Prop
  | .at _ => True
  | .pair a b => a.stm P ∧ b.stm P
  | .left a => a.stm P
  | .right a => a.stm P
  | .first a s => a.stm P ∧ P s
  | .second a s => a.stm P ∧ P s
  | .cases a b c => a.stm P ∧ b.stm P ∧ c.stm P
  | .fn s a => P s ∧ a.stm P
  | .use a b => a.stm P ∧ b.stm P
  | .off a s => a.stm P ∧ P s
theorem Tm.stm_imp {P Q : Fm → Prop} (h : ∀ s, P s → Q s) : ∀ t : Tm, t.stm P → t.stm Q
  | .at _, _ => trivial
  | .pair a b, q => ⟨Tm.stm_imp h a q.1, Tm.stm_imp h b q.2⟩
  | .left a, q => Tm.stm_imp h a q
  | .right a, q => Tm.stm_imp h a q
  | .first a s, q => ⟨Tm.stm_imp h a q.1, h s q.2⟩
  | .second a s, q => ⟨Tm.stm_imp h a q.1, h s q.2⟩
  | .cases a b c, q => ⟨Tm.stm_imp h a q.1, Tm.stm_imp h b q.2.1, Tm.stm_imp h c q.2.2⟩
  | .fn s a, q => ⟨h s q.1, Tm.stm_imp h a q.2⟩
  | .use a b, q => ⟨Tm.stm_imp h a q.1, Tm.stm_imp h b q.2⟩
  | .off a s, q => ⟨Tm.stm_imp h a q.1, h s q.2⟩
/-- numbers from own on, greater -/
def Tm.lift (by_ : Int) : Tm → Int → Tm
  | .at i, own => if own ≤ i then .at (i + by_) else .at i
  | .pair a b, own => .pair (a.lift by_ own) (b.lift by_ own)
  | .left a, own => .left (a.lift by_ own)
  | .right a, own => .right (a.lift by_ own)
  | .first a s, own => .first (a.lift by_ own) s
  | .second a s, own => .second (a.lift by_ own) s
  | .cases a b c, own => .cases (a.lift by_ own) (b.lift by_ (own + 1)) (c.lift by_ (own + 1))
  | .fn s a, own => .fn s (a.lift by_ (own + 1))
  | .use a b, own => .use (a.lift by_ own) (b.lift by_ own)
  | .off a s, own => .off (a.lift by_ own) s
theorem Tm.lift_deep (by_ : Int) : ∀ (t : Tm) (own : Int), (t.lift by_ own).deep = t.deep := by
  intro t
  induction t with
  | «at» i => intro own; simp only [Tm.lift]; split <;> rfl
  | _ => intro own; simp only [Tm.lift, Tm.deep, *]
theorem Tm.lift_parts (by_ : Int) : ∀ (t : Tm) (own : Int), (t.lift by_ own).parts = t.parts := by
  intro t
  induction t with
  | «at» i => intro own; simp only [Tm.lift]; split <;> rfl
  | _ => intro own; simp only [Tm.lift, Tm.parts, *]
theorem Tm.lift_stm {P : Fm → Prop} (by_ : Int) : ∀ (t : Tm) (own : Int), t.stm P → (t.lift by_ own).stm P := by
  intro t
  induction t with
  | «at» i => intro own _; simp only [Tm.lift]; split <;> trivial
  | pair a b iha ihb => exact fun own q => ⟨iha own q.1, ihb own q.2⟩
  | left a iha => exact fun own q => iha own q
  | right a iha => exact fun own q => iha own q
  | first a s iha => exact fun own q => ⟨iha own q.1, q.2⟩
  | second a s iha => exact fun own q => ⟨iha own q.1, q.2⟩
  | cases a b c iha ihb ihc => exact fun own q => ⟨iha own q.1, ihb _ q.2.1, ihc _ q.2.2⟩
  | fn s a iha => exact fun own q => ⟨q.1, iha _ q.2⟩
  | use a b iha ihb => exact fun own q => ⟨iha own q.1, ihb own q.2⟩
  | off a s iha => exact fun own q => ⟨iha own q.1, q.2⟩
/-! ### kinds -/
def kindF : Tm → List Fm → Option Fm
  | .at i, G => if 0 ≤ i then G[i.toNat]? else none
  | .pair a b, G => (kindF a G).bind fun x => (kindF b G).bind fun y => some (.bin .both x y)
  | .left a, G => (kindF a G).bind fun x => match x with | .bin .both p _ => some p | _ => none
  | .right a, G => (kindF a G).bind fun x => match x with | .bin .both _ q => some q | _ => none
  | .first a s, G => (kindF a G).bind fun x => some (.bin .one x s)
  | .second a s, G => (kindF a G).bind fun x => some (.bin .one s x)
  | .cases a b c, G => (kindF a G).bind fun x => match x with
    | .bin .one p q => (kindF b (p :: G)).bind fun y => (kindF c (q :: G)).bind fun z => if z = y then some y else none
    | _ => none
  | .fn s a, G => (kindF a (s :: G)).bind fun x => some (.bin .then_ s x)
  | .use a b, G => (kindF a G).bind fun x => match x with
    | .bin .then_ p q => (kindF b G).bind fun y => if y = p then some q else none
    | _ => none
  | .off a s, G => (kindF a G).bind fun x => if x = .low then some s else none
theorem kind_lift (n : Nat) : ∀ (t : Tm) (G D E : List Fm), E.length = n → kindF (t.lift (n : Nat) (D.length : Nat)) (D ++ E ++ G) = kindF t (D ++ G) := by
  intro t
  induction t with
  | «at» i =>
    intro G D E hE
    simp only [Tm.lift]
    split
    · rename_i h
      simp only [kindF]
      rw [if_pos (by omega), if_pos (by omega)]
      rw [List.append_assoc, List.getElem?_append_right (by omega), List.getElem?_append_right (by omega), List.getElem?_append_right (by omega)]
      congr 1
      omega
    · rename_i h
      simp only [kindF]
      split
      · rw [List.append_assoc, List.getElem?_append_left (by omega), List.getElem?_append_left (by omega)]
      · rfl
  | pair a b iha ihb => intro G D E hE; simp only [Tm.lift, kindF, iha G D E hE, ihb G D E hE]
  | left a iha => intro G D E hE; simp only [Tm.lift, kindF, iha G D E hE]
  | right a iha => intro G D E hE; simp only [Tm.lift, kindF, iha G D E hE]
  | first a s iha => intro G D E hE; simp only [Tm.lift, kindF, iha G D E hE]
  | second a s iha => intro G D E hE; simp only [Tm.lift, kindF, iha G D E hE]
  | cases a b c iha ihb ihc =>
    intro G D E hE
    simp only [Tm.lift, kindF, iha G D E hE]
    have e : ((D.length : Nat) : Int) + 1 = ((D.length + 1 : Nat) : Int) := by omega
    have hb : ∀ p, kindF (b.lift (n : Nat) ((D.length : Nat) + 1)) (p :: (D ++ E ++ G)) = kindF b (p :: (D ++ G)) := fun p => by rw [e]; exact ihb G (p :: D) E hE
    have hc : ∀ p, kindF (c.lift (n : Nat) ((D.length : Nat) + 1)) (p :: (D ++ E ++ G)) = kindF c (p :: (D ++ G)) := fun p => by rw [e]; exact ihc G (p :: D) E hE
    simp only [hb, hc]
  | fn s a iha =>
    intro G D E hE
    have e : ((D.length : Nat) : Int) + 1 = ((D.length + 1 : Nat) : Int) := by omega
    have hb : ∀ p, kindF (a.lift (n : Nat) ((D.length : Nat) + 1)) (p :: (D ++ E ++ G)) = kindF a (p :: (D ++ G)) := fun p => by rw [e]; exact iha G (p :: D) E hE
    simp only [Tm.lift, kindF, hb]
  | use a b iha ihb => intro G D E hE; simp only [Tm.lift, kindF, iha G D E hE, ihb G D E hE]
  | off a s iha => intro G D E hE; simp only [Tm.lift, kindF, iha G D E hE]
theorem kind_lift1 (t : Tm) (G : List Fm) (p : Fm) : kindF (t.lift 1 0) (p :: G) = kindF t G := kind_lift 1 t G [] [p] rfl
/-! ### the layout -/
theorem nb_encT : ∀ t : Tm, nb (encT t) = true := by
  intro t
  induction t <;> simp [encT, nb, nbAll, nb_enc, *]
theorem encT_inj : ∀ {s t : Tm}, encT s = encT t → s = t := by
  intro s
  have K : ∀ {a b : String}, (PySem.Str.ofString a = PySem.Str.ofString b) → True := fun _ => trivial
  induction s with
  | «at» i => intro t h; cases t <;> simp [encT, str_inj] at h <;> simp_all
  | pair a b iha ihb => intro t h; cases t <;> simp [encT, str_inj] at h <;> first | (obtain ⟨h1, h2⟩ := h; rw [iha h1, ihb h2]) | simp_all
  | left a iha => intro t h; cases t <;> simp [encT, str_inj] at h <;> first | (rw [iha h]) | simp_all
  | right a iha => intro t h; cases t <;> simp [encT, str_inj] at h <;> first | (rw [iha h]) | simp_all
  | first a s iha => intro t h; cases t <;> simp [encT, str_inj] at h <;> first | (obtain ⟨h1, h2⟩ := h; rw [iha h1, enc_inj.mp h2]) | simp_all
  | second a s iha => intro t h; cases t <;> simp [encT, str_inj] at h <;> first | (obtain ⟨h1, h2⟩ := h; rw [iha h1, enc_inj.mp h2]) | simp_all
  | cases a b c iha ihb ihc => intro t h; cases t <;> simp [encT, str_inj] at h <;> first | (obtain ⟨h1, h2, h3⟩ := h; rw [iha h1, ihb h2, ihc h3]) | simp_all
  | fn s a iha => intro t h; cases t <;> simp [encT, str_inj] at h <;> first | (obtain ⟨h1, h2⟩ := h; rw [iha h2, enc_inj.mp h1]) | simp_all
  | use a b iha ihb => intro t h; cases t <;> simp [encT, str_inj] at h <;> first | (obtain ⟨h1, h2⟩ := h; rw [iha h1, ihb h2]) | simp_all
  | off a s iha => intro t h; cases t <;> simp [encT, str_inj] at h <;> first | (obtain ⟨h1, h2⟩ := h; rw [iha h1, enc_inj.mp h2]) | simp_all
/-! ### a term with another one put in -/
def Tm.put : Tm → Tm → Int → Tm
  | .at i, o, own => if i = own then o.lift own 0 else if own < i then .at (i - 1) else .at i
  | .pair a b, o, own => .pair (a.put o own) (b.put o own)
  | .left a, o, own => .left (a.put o own)
  | .right a, o, own => .right (a.put o own)
  | .first a s, o, own => .first (a.put o own) s
  | .second a s, o, own => .second (a.put o own) s
  | .cases a b c, o, own => .cases (a.put o own) (b.put o (own + 1)) (c.put o (own + 1))
  | .fn s a, o, own => .fn s (a.put o (own + 1))
  | .use a b, o, own => .use (a.put o own) (b.put o own)
  | .off a s, o, own => .off (a.put o own) s
theorem Tm.lift0 : ∀ (t : Tm) (own : Int), t.lift 0 own = t := by
  intro t
  induction t with
  | «at» i => intro own; simp [Tm.lift]
  | _ => intro own; simp only [Tm.lift, *]
theorem Tm.put_stm {P : Fm → Prop} {o : Tm} (ho : o.stm P) : ∀ (t : Tm) (own : Int), t.stm P → (t.put o own).stm P := by
  intro t
  induction t with
  | «at» i =>
    intro own _
    simp only [Tm.put]
    split
    · exact Tm.lift_stm _ _ _ ho
    · split <;> trivial
  | pair a b iha ihb => exact fun own q => ⟨iha own q.1, ihb own q.2⟩
  | left a iha => exact fun own q => iha own q
  | right a iha => exact fun own q => iha own q
  | first a s iha => exact fun own q => ⟨iha own q.1, q.2⟩
  | second a s iha => exact fun own q => ⟨iha own q.1, q.2⟩
  | cases a b c iha ihb ihc => exact fun own q => ⟨iha own q.1, ihb _ q.2.1, ihc _ q.2.2⟩
  | fn s a iha => exact fun own q => ⟨q.1, iha _ q.2⟩
  | use a b iha ihb => exact fun own q => ⟨iha own q.1, ihb own q.2⟩
  | off a s iha => exact fun own q => ⟨iha own q.1, q.2⟩
theorem Tm.put_deep {o : Tm} : ∀ (t : Tm) (own : Int), (t.put o own).deep ≤ t.deep + o.deep := by
  intro t
  induction t with
  | «at» i =>
    intro own
    simp only [Tm.put]
    split
    · rw [Tm.lift_deep]; omega
    · split <;> simp only [Tm.deep] <;> omega
  | pair a b iha ihb => intro own; have := iha own; have := ihb own; simp only [Tm.put, Tm.deep]; omega
  | left a iha => intro own; have := iha own; simp only [Tm.put, Tm.deep]; omega
  | right a iha => intro own; have := iha own; simp only [Tm.put, Tm.deep]; omega
  | first a s iha => intro own; have := iha own; simp only [Tm.put, Tm.deep]; omega
  | second a s iha => intro own; have := iha own; simp only [Tm.put, Tm.deep]; omega
  | cases a b c iha ihb ihc => intro own; have := iha own; have := ihb (own + 1); have := ihc (own + 1); simp only [Tm.put, Tm.deep]; omega
  | fn s a iha => intro own; have := iha (own + 1); simp only [Tm.put, Tm.deep]; omega
  | use a b iha ihb => intro own; have := iha own; have := ihb own; simp only [Tm.put, Tm.deep]; omega
  | off a s iha => intro own; have := iha own; simp only [Tm.put, Tm.deep]; omega
/-- a kind stays where a term of the first given one's kind is put in -/
theorem kind_put {o : Tm} {p : Fm} : ∀ (t : Tm) (G D : List Fm), kindF o G = some p → ∀ k, kindF t (D ++ p :: G) = some k → kindF (t.put o (D.length : Nat)) (D ++ G) = some k := by
  intro t
  induction t with
  | «at» i =>
    intro G D ho k hk
    simp only [kindF] at hk
    split at hk
    · rename_i h0
      simp only [Tm.put]
      split
      · rename_i e
        subst e
        rw [Int.toNat_natCast, List.getElem?_append_right (by omega)] at hk
        simp at hk
        subst hk
        have := kind_lift D.length o G [] D rfl
        simp only [List.nil_append, List.length_nil] at this
        have z : (((0 : Nat)) : Int) = 0 := rfl
        rw [z] at this
        rw [this]; exact ho
      · split
        · rename_i h1
          simp only [kindF]
          rw [if_pos (by omega)]
          rw [List.getElem?_append_right (by omega)] at hk
          rw [List.getElem?_append_right (by omega)]
          have e2 : i.toNat - D.length = ((i - 1).toNat - D.length) + 1 := by omega
          rw [e2] at hk
          simpa using hk
        · rename_i h1 h2
          simp only [kindF]
          rw [if_pos h0]
          rw [List.getElem?_append_left (by omega)] at hk ⊢
          exact hk
    · cases hk
  | pair a b iha ihb =>
    intro G D ho k hk
    simp only [kindF, Tm.put, Option.bind_eq_some_iff] at hk ⊢
    obtain ⟨x, h1, y, h2, h3⟩ := hk
    exact ⟨x, iha G D ho x h1, y, ihb G D ho y h2, h3⟩
  | left a iha =>
    intro G D ho k hk
    simp only [kindF, Tm.put, Option.bind_eq_some_iff] at hk ⊢
    obtain ⟨x, h1, h2⟩ := hk
    exact ⟨x, iha G D ho x h1, h2⟩
  | right a iha =>
    intro G D ho k hk
    simp only [kindF, Tm.put, Option.bind_eq_some_iff] at hk ⊢
    obtain ⟨x, h1, h2⟩ := hk
    exact ⟨x, iha G D ho x h1, h2⟩
  | first a s iha =>
    intro G D ho k hk
    simp only [kindF, Tm.put, Option.bind_eq_some_iff] at hk ⊢
    obtain ⟨x, h1, h2⟩ := hk
    exact ⟨x, iha G D ho x h1, h2⟩
  | second a s iha =>
    intro G D ho k hk
    simp only [kindF, Tm.put, Option.bind_eq_some_iff] at hk ⊢
    obtain ⟨x, h1, h2⟩ := hk
    exact ⟨x, iha G D ho x h1, h2⟩
  | off a s iha =>
    intro G D ho k hk
    simp only [kindF, Tm.put, Option.bind_eq_some_iff] at hk ⊢
    obtain ⟨x, h1, h2⟩ := hk
    exact ⟨x, iha G D ho x h1, h2⟩
  | fn s a iha =>
    intro G D ho k hk
    simp only [kindF, Tm.put, Option.bind_eq_some_iff] at hk ⊢
    obtain ⟨x, h1, h2⟩ := hk
    have := iha G (s :: D) ho x h1
    rw [List.length_cons, show ((D.length + 1 : Nat) : Int) = (D.length : Int) + 1 by omega] at this
    exact ⟨x, this, h2⟩
  | use a b iha ihb =>
    intro G D ho k hk
    simp only [kindF, Tm.put, Option.bind_eq_some_iff] at hk ⊢
    obtain ⟨x, h1, h2⟩ := hk
    refine ⟨x, iha G D ho x h1, ?_⟩
    split at h2
    · simp only [Option.bind_eq_some_iff] at h2 ⊢
      obtain ⟨y, h3, h4⟩ := h2
      exact ⟨y, ihb G D ho y h3, h4⟩
    · cases h2
  | cases a b c iha ihb ihc =>
    intro G D ho k hk
    simp only [kindF, Tm.put, Option.bind_eq_some_iff] at hk ⊢
    obtain ⟨x, h1, h2⟩ := hk
    refine ⟨x, iha G D ho x h1, ?_⟩
    split at h2
    · rename_i p q
      simp only [Option.bind_eq_some_iff] at h2 ⊢
      obtain ⟨y, h3, z, h4, h5⟩ := h2
      have hb := ihb G (p :: D) ho y h3
      have hc := ihc G (q :: D) ho z h4
      rw [List.length_cons, show ((D.length + 1 : Nat) : Int) = (D.length : Int) + 1 by omega] at hb hc
      exact ⟨y, hb, z, hc, h5⟩
    · cases h2
end Dl

namespace Dl
open PySem PySem.Spec L2
theorem intD_b (b : Bool) : intD [.bool b] = some (.int (if b then 1 else 0)) := by cases b <;> rfl
theorem intD_t : intD [.bool true] = some (.int 1) := Eq.trans rfl rfl
theorem intD_f : intD [.bool false] = some (.int 0) := Eq.trans rfl rfl
theorem cutT2 (x y : PyData) (r : List PyData) : cutL (x :: y :: r) (some 2) none = r := by
  simp only [cutL, HT.sIx, List.length_cons]
  rw [if_neg (by decide), show min (Int.toNat 2) (r.length + 1 + 1) = 2 by simp]; simp
theorem decide_comm (a b : Str) : decide (a = b) = decide (b = a) := decide_eq_decide.mpr eq_comm
theorem inT2 (x a b : Str) : inD (.str x) (.tuple [.str a, .str b]) = some (.bool (decide (x = a) || decide (x = b))) := by
  show some (PyData.bool ([PyData.str a, .str b].any fun z => PyData.eqv z (.str x))) = _
  simp only [List.any_cons, List.any_nil, eqv_s, Bool.or_false]
  rw [decide_comm a x, decide_comm b x]
theorem inT3 (x a b c : Str) : inD (.str x) (.tuple [.str a, .str b, .str c]) = some (.bool (decide (x = a) || (decide (x = b) || decide (x = c)))) := by
  show some (PyData.bool ([PyData.str a, .str b, .str c].any fun z => PyData.eqv z (.str x))) = _
  simp only [List.any_cons, List.any_nil, eqv_s, Bool.or_false]
  rw [decide_comm a x, decide_comm b x, decide_comm c x]
theorem listD_t (xs : List PyData) : listD [.tuple xs] = some (.list xs) := Eq.trans rfl rfl
theorem tupleD_t (xs : List PyData) : tupleD [.tuple xs] = some (.tuple xs) := Eq.trans rfl rfl
theorem tupleD_l (xs : List PyData) : tupleD [.list xs] = some (.tuple xs) := Eq.trans rfl rfl
theorem lcD_nil (b : FB) (t : FT) (f : FE) (δ : Ev) : lcD b t f δ [] = .ok [] := Eq.trans rfl rfl
def consR (r : R PyData) (s : R (List PyData)) : R (List PyData) := match r with
  | .ok x => (match s with
    | .ok xs => .ok (x :: xs)
    | _ => .bad)
  | _ => .bad
theorem lcD_consT (i j : Nat) (f : FE) (δ : Ev) (a b : PyData) (ds : List PyData) : lcD (bT [i, j]) yesT f δ (.tuple [a, b] :: ds) = consR (f ((δ.set i (some a)).set j (some b))) (lcD (bT [i, j]) yesT f δ ds) := by
  rw [lcD]
  have hb : bT [i, j] (.tuple [a, b]) δ = some ((δ.set i (some a)).set j (some b)) := rfl
  simp only [hb, yesT, consR]
  all_goals (cases f ((δ.set i (some a)).set j (some b)) <;> rfl)
theorem consR_ok (x : PyData) (xs : List PyData) : consR (.ok x) (.ok xs) = .ok (x :: xs) := Eq.trans rfl rfl
def lcE (b : FB) (f : FE) (δ : Ev) (ds : List PyData) : R PyData := (lcD b yesT f δ ds).bind fun xs => .ok (.list xs)
theorem lcK_E {b : FB} {f : FE} {δ : Ev} {ds : List PyData} (h : ds.length ≤ 1000000) : lcK b yesT f δ ds = lcE b f δ ds := if_pos h
theorem ev_lcE (b : FB) (f : FE) (δ : Ev) (ds : List PyData) : lcE b f δ ds = (lcD b yesT f δ ds).bind fun xs => .ok (.list xs) := Eq.trans rfl rfl
theorem forD_T2 (i j : Nat) (g : FS) (a b : PyData) (ds : List PyData) (δ : Ev) : forD (bT [i, j]) g (.tuple [a, b] :: ds) δ = lpK (g ((δ.set i (some a)).set j (some b))) (forD (bT [i, j]) g ds) := forD_T [i, j] g [a, b] ds δ rfl
theorem wipe0 (δ : Ev) : wipeE δ [] = δ := Eq.trans rfl rfl
theorem wipeS (δ : Ev) (v : Nat) (vs : List Nat) : wipeE δ (v :: vs) = (wipeE δ vs).set v none := Eq.trans rfl rfl
end Dl

namespace Kn
open PySem L2 Dl
local macro_rules | `(tactic| walk_at "ev") => `(tactic| try simp (disch := first | omega | (simp only [List.length_map, List.length_append, List.length_cons, List.length_nil, rangeL_len, mkI_len, mkW_len] <;> fail) | (simp only [List.length_map, List.length_append, List.length_cons, List.length_nil, rangeL_len, mkI_len, mkW_len]; omega)) only [ev_run, runK_rt, runK_err, ev_sq, sqK_nx, sqK_rt, sqK_bk, sqK_ct, sqK_err, ev_if, ifK_t, ifK_f, ifK_err, ev_set, setK_ok, setK_err, ev_ret, retK_ok, retK_err, ev_exp, expK_ok, expK_err, ev_skp, ev_brk, ev_cnt, ev_cst, ev_op2, ev_un1, ev_tst, asB_b, ev_andT, ev_orT, andK_t, andK_f, orK_t, orK_f, ev_notT, ev_andV, ev_orV, andW_t, andW_f, orW_t, orW_f, ev_notV, ev_isi, evs_nil, evs_cons, ev_mkT, ev_mkL, ev_cal, ev_call, ev_slc, ev_noP, ev_prt, asI_i, ev_for, forK_ok, ev_itLK, itLK_l, ev_itR, itRK_1, itRK_2, ev_itZ, itZK_l, itZK_t, ev_it1, it1K_l, ev_app, slotL_0, slotL_S, appK_ok, addD_i, addD_l, addD_s, subD_i, ltD_i, leD_i, gtD_i, geD_i, ltD_s, negD_i, isD_n, isntD_n, isNone_n, isNone_t, isNone_l, isNone_i, isNone_s, isNone_b, lenD_l, lenD_t, minD_i, maxD_i, mul_ok, mod_ok, fdiv_ok, eqD_int, eqD_str, neD_int, neD_str, ix0, ix1, ix2, ix3, vr0, vrS, R.bind_ok, R.bind_err, R.bind_bad, ofO_some, List.map_cons, List.map_nil, List.length_cons, List.length_nil, List.length_map, List.cons_append, List.nil_append, List.replicate, Nat.reduceAdd, Nat.reduceSub, List.set_cons_zero, List.set_cons_succ, lpK_nx, lpK_ct, lpK_bk, lpK_rt, lpK_err, whK_t, whK_f, sets, ev_aug, augK_ok, ev_asg, ev_mkD, evps_nil, evps_cons, pairK_s, pairK_i, listD_l, ev_lc, slD_l, slD_t, Int.cast_ofNat_Int, Int.reduceLT, Int.reduceLE, Int.reduceEq, Int.reduceAdd, Int.reduceSub, Int.reduceMul, Int.reduceNeg, Int.reduceMod, Int.reduceDiv, Int.reduceToNat, li0, li1, li2, li3, li4, str_inj, String.reduceEq, decide_false, decide_true, isiB_s, isiB_i, isiB_b, isiB_l, isiB_t, isiB_n, isiS, Bool.or_false, Bool.or_true, Bool.and_false, Bool.and_true, Bool.false_or, Bool.true_or, Bool.false_and, Bool.true_and, ev_dput, slotD_0, slotD_S, slotK_i, slotK_s, dinD_i, dinD_s, dixD_i, dixD_s, ev_keys, keysK_d, keysD_d, mkI_len, mkW_len, ev_popN, popN_ok, ev_popT, popT_ok, ev_raiseI, raiK_i, ev_raise, ev_try, tryK_nx, tryK_rt, tryK_e1, tryK_e0, fin1_nx, ev_fld, ev_tryO, tryOK_nx, tryOK_rt, tryOK_e, finO_nx, finO_rt, isD_b, ev_rev, revK_l, ev_ext, extK_ok, ev_callB, flatE_b, flatE_i, flatE_s, flatE_n, ev_extPop, ifT, ifF, ifTT, ifFT, intD_t, intD_f, cutT2, cutL_tail, inT2, inT3, tupleD_l, tupleD_t, listD_t, addD_t, lcD_nil, lcD_consT, consR_ok, forD_T2, forD_nil, wipe0, wipeS, Bool.not_true, Bool.not_false])
local macro_rules | `(tactic| walk_at "go") => `(tactic| try simp (disch := first | omega | (simp only [List.length_map, List.length_append, List.length_cons, List.length_nil, rangeL_len, mkI_len, mkW_len] <;> fail) | (simp only [List.length_map, List.length_append, List.length_cons, List.length_nil, rangeL_len, mkI_len, mkW_len]; omega)) only [ev_run, runK_rt, runK_err, ev_sq, sqK_nx, sqK_rt, sqK_bk, sqK_ct, sqK_err, ev_if, ifK_t, ifK_f, ifK_err, ev_set, setK_ok, setK_err, ev_ret, retK_ok, retK_err, ev_exp, expK_ok, expK_err, ev_skp, ev_brk, ev_cnt, ev_cst, ev_op2, ev_un1, ev_tst, asB_b, ev_andT, ev_orT, andK_t, andK_f, orK_t, orK_f, ev_notT, ev_andV, ev_orV, andW_t, andW_f, orW_t, orW_f, ev_notV, ev_isi, evs_nil, evs_cons, ev_mkT, ev_mkL, ev_cal, ev_call, ev_slc, ev_noP, ev_prt, asI_i, ev_for, forK_ok, ev_itLK, itLK_l, ev_itR, itRK_1, itRK_2, ev_itZ, itZK_l, itZK_t, ev_it1, it1K_l, ev_app, slotL_0, slotL_S, appK_ok, addD_i, addD_l, addD_s, subD_i, ltD_i, leD_i, gtD_i, geD_i, ltD_s, negD_i, isD_n, isntD_n, isNone_n, isNone_t, isNone_l, isNone_i, isNone_s, isNone_b, lenD_l, lenD_t, minD_i, maxD_i, mul_ok, mod_ok, fdiv_ok, eqD_int, eqD_str, neD_int, neD_str, ix0, ix1, ix2, ix3, vr0, vrS, R.bind_ok, R.bind_err, R.bind_bad, ofO_some, List.map_cons, List.map_nil, List.length_cons, List.length_nil, List.length_map, List.cons_append, List.nil_append, List.replicate, Nat.reduceAdd, Nat.reduceSub, List.set_cons_zero, List.set_cons_succ, lpK_nx, lpK_ct, lpK_bk, lpK_rt, lpK_err, whK_t, whK_f, sets, ev_aug, augK_ok, ev_asg, ev_mkD, evps_nil, evps_cons, pairK_s, pairK_i, listD_l, ev_lc, slD_l, slD_t, Int.cast_ofNat_Int, Int.reduceLT, Int.reduceLE, Int.reduceEq, Int.reduceAdd, Int.reduceSub, Int.reduceMul, Int.reduceNeg, Int.reduceMod, Int.reduceDiv, Int.reduceToNat, li0, li1, li2, li3, li4, str_inj, String.reduceEq, decide_false, decide_true, isiB_s, isiB_i, isiB_b, isiB_l, isiB_t, isiB_n, isiS, Bool.or_false, Bool.or_true, Bool.and_false, Bool.and_true, Bool.false_or, Bool.true_or, Bool.false_and, Bool.true_and, ev_dput, slotD_0, slotD_S, slotK_i, slotK_s, dinD_i, dinD_s, dixD_i, dixD_s, ev_keys, keysK_d, keysD_d, mkI_len, mkW_len, ev_popN, popN_ok, ev_popT, popT_ok, ev_raiseI, raiK_i, ev_raise, ev_try, tryK_nx, tryK_rt, tryK_e1, tryK_e0, fin1_nx, ev_fld, ev_tryO, tryOK_nx, tryOK_rt, tryOK_e, finO_nx, finO_rt, isD_b, ev_rev, revK_l, ev_ext, extK_ok, ev_callB, flatE_b, flatE_i, flatE_s, flatE_n, ev_extPop, ifT, ifF, ifTT, ifFT, intD_t, intD_f, cutT2, cutL_tail, inT2, inT3, tupleD_l, tupleD_t, listD_t, addD_t, lcD_nil, lcD_consT, consR_ok, forD_T2, forD_nil, wipe0, wipeS, Bool.not_true, Bool.not_false, *])
def mixZ (c k : Int) : Int := ((c + 1) * (48271 + 118 * k) % 2147483629 / 977 * 16807 + (c + 1) * (48271 + 118 * k) % 2147483629 * (k * k + 7) + k) % 2147483587
theorem mixZ_range (c k : Int) : 0 ≤ mixZ c k ∧ mixZ c k < 2147483587 := ⟨Int.emod_nonneg _ (by decide), Int.emod_lt_of_pos _ (by decide)⟩
abbrev IsMix (f : Fx) : Prop := ∀ c k : Int, -1000000 < k → k < 1000000 → f [.int c, .int k] = .ok (.int (mixZ c k))
theorem mix_ok : IsMix (runF 3 b__law_mix) := fun c k h1 h2 => by
  unfold b__law_mix
  walk_at "ev"
  rfl
def cellZ (ns : List Int) (k : Int) : Int := mixZ (if k < ns.length then (ns.getD k.toNat 0) % 2147483647 else 0) (k + 101)
theorem cell_ok {m : Fx} (hm : IsMix m) (ns : List Int) (k : Int) (h0 : 0 ≤ k) (h1 : k < 1000) : runF 3 (b__law_cell m) [.list (ns.map .int), .int k] = .ok (.int (cellZ ns k)) := by
  unfold b__law_cell b__law_cell_r1 cellZ
  by_cases h : k < ns.length
  · have e : ixD (.list (ns.map .int)) (.int k) = some (.int (ns.getD k.toNat 0)) := by
      rw [ixL (j := k.toNat) (by omega) (by simp; omega)]
      simp [List.getD, show k.toNat < ns.length by omega]
    walk_at "ev"
    simp only [h, decide_true, if_true]
    walk_at "ev"
    rw [e]
    walk_at "ev"
    rw [hm _ _ (by omega) (by omega)]
    rfl
  · walk_at "ev"
    simp only [h, decide_false, if_false]
    walk_at "ev"
    rw [hm _ _ (by omega) (by omega)]
    rfl
structure WordOk (w : Str) : Prop where
  low : Low w
  pos : 1 ≤ w.length
  le : w.length ≤ 8
theorem once_loop {k : Nat} (hk : k ≤ 60) (s0 : PyData) : ∀ (gs acc : List Fm) (x2 : Option PyData), (∀ f ∈ gs, Ok k f) → (∀ f ∈ acc, Ok k f) → acc.length + gs.length ≤ 1000000 → ∃ x2', forD (bN 2) b_once_l1 (gs.map enc) [some s0, some (.list (acc.map enc)), x2] = .nx [some s0, some (.list ((ddF acc gs).map enc)), x2']
  | [], acc, x2, _, _, _ => ⟨x2, by simp [forD, ddF]⟩
  | g :: gs, acc, x2, hg, ha, hl => by
    have hgk := hg g List.mem_cons_self
    simp only [List.length_cons] at hl
    have unf : ∀ δ, b_once_l1 δ = ifS _ (appS 1 (vr 2)) skp δ := fun δ => rfl
    rw [List.map_cons, forD_N, unf]
    walk_at "ev"
    rw [eq_nil (sh_encs ha) (by omega) (by omega)]
    rcases List.eq_nil_or_concat acc with rfl | ⟨pre, z, rfl⟩
    · obtain ⟨x2', e⟩ := once_loop hk s0 gs [g] (some (enc g)) (fun f hf => hg f (List.mem_cons_of_mem _ hf)) (fun f hf => by rw [List.mem_singleton.mp hf]; exact hgk) (by simp; omega)
      refine ⟨x2', ?_⟩
      simp only [List.map_nil, List.isEmpty_nil]
      walk_at "ev"
      have ed : ddF [] (g :: gs) = ddF [g] gs := rfl
      rw [ed, ← e]
      rfl
    · rw [List.concat_eq_append] at *
      have hz := ha z (by simp)
      have e0 : ((pre ++ [z]).map enc).isEmpty = false := by simp
      rw [e0]
      walk_at "ev"
      have e1 : (pre ++ [z]).map enc = pre.map enc ++ [enc z] := by simp
      rw [e1, ixLast, ← e1]
      walk_at "ev"
      rw [enc_neD hz.lt hgk.lt (by have := hz.dp; omega) (by have := hgk.dp; omega)]
      have el : (pre ++ [z]).getLast? = some z := by simp
      by_cases hzg : z = g
      · subst hzg
        obtain ⟨x2', e⟩ := once_loop hk s0 gs (pre ++ [z]) (some (enc z)) (fun f hf => hg f (List.mem_cons_of_mem _ hf)) ha (by omega)
        refine ⟨x2', ?_⟩
        simp only [decide_true]
        walk_at "ev"
        have ed : ddF (pre ++ [z]) (z :: gs) = ddF (pre ++ [z]) gs := by simp only [ddF, el, if_true]
        rw [ed]
        exact e
      · obtain ⟨x2', e⟩ := once_loop hk s0 gs (pre ++ [z] ++ [g]) (some (enc g)) (fun f hf => hg f (List.mem_cons_of_mem _ hf)) (fun f hf => by
          rcases List.mem_append.mp hf with q | q
          · exact ha f q
          · rw [List.mem_singleton.mp q]; exact hgk) (by simp at hl ⊢; omega)
        refine ⟨x2', ?_⟩
        simp only [hzg, decide_false]
        simp only [List.length_append, List.length_cons, List.length_nil] at hl
        walk_at "ev"
        have ed : ddF (pre ++ [z]) (g :: gs) = ddF (pre ++ [z] ++ [g]) gs := by
          have : ¬ (some z = some g) := fun q => hzg (Option.some.inj q)
          simp only [ddF, el, if_neg this]
        have e2 : (pre ++ [z]).map enc ++ [enc g] = (pre ++ [z] ++ [g]).map enc := by simp
        rw [ed, e2]
        exact e
theorem once_ok {k : Nat} (hk : k ≤ 60) (fs : List Fm) (h : ∀ f ∈ fs, Ok k f) (hl : fs.length ≤ 1000) : runF 3 b_once [.list (fs.map enc)] = .ok (.list ((onceF fs).map enc)) := by
  unfold b_once
  walk_at "ev"
  rw [sortD_enc (by omega) h]
  walk_at "ev"
  obtain ⟨x2', e⟩ := once_loop hk (.list (fs.map enc)) (sortF fs) [] none (fun f hf => h f ((sortF_perm fs).mem_iff.mp hf)) (fun f hf => by cases hf) (by rw [(sortF_perm fs).length_eq]; simp; omega)
  simp only [List.map_nil] at e
  rw [e]
  unfold b_once_r1
  walk_at "ev"
  rfl
abbrev IsCell (f : Fx) : Prop := ∀ (ns : List Int) (k : Int), 0 ≤ k → k < 1000 → f [.list (ns.map .int), .int k] = .ok (.int (cellZ ns k))
theorem cellZ_range (ns : List Int) (k : Int) : 0 ≤ cellZ ns k ∧ cellZ ns k < 2147483587 := mixZ_range _ _
theorem ixW {ws : List Str} {i : Int} (h0 : 0 ≤ i) (h1 : i < ws.length) : ∃ w, ixD (.list (ws.map .str)) (.int i) = some (.str w) ∧ w ∈ ws := by
  obtain ⟨x, _, hm, e⟩ := ixE (e := PyData.str) h0 h1
  exact ⟨x, e, hm⟩
end Kn

namespace Kn
open PySem L2 Dl
local macro_rules | `(tactic| walk_at "ev") => `(tactic| try simp (disch := first | omega | (simp only [List.length_map, List.length_append, List.length_cons, List.length_nil, rangeL_len, mkI_len, mkW_len] <;> fail) | (simp only [List.length_map, List.length_append, List.length_cons, List.length_nil, rangeL_len, mkI_len, mkW_len]; omega)) only [ev_run, runK_rt, runK_err, ev_sq, sqK_nx, sqK_rt, sqK_bk, sqK_ct, sqK_err, ev_if, ifK_t, ifK_f, ifK_err, ev_set, setK_ok, setK_err, ev_ret, retK_ok, retK_err, ev_exp, expK_ok, expK_err, ev_skp, ev_brk, ev_cnt, ev_cst, ev_op2, ev_un1, ev_tst, asB_b, ev_andT, ev_orT, andK_t, andK_f, orK_t, orK_f, ev_notT, ev_andV, ev_orV, andW_t, andW_f, orW_t, orW_f, ev_notV, ev_isi, evs_nil, evs_cons, ev_mkT, ev_mkL, ev_cal, ev_call, ev_slc, ev_noP, ev_prt, asI_i, ev_for, forK_ok, ev_itLK, itLK_l, ev_itR, itRK_1, itRK_2, ev_itZ, itZK_l, itZK_t, ev_it1, it1K_l, ev_app, slotL_0, slotL_S, appK_ok, addD_i, addD_l, addD_s, subD_i, ltD_i, leD_i, gtD_i, geD_i, ltD_s, negD_i, isD_n, isntD_n, isNone_n, isNone_t, isNone_l, isNone_i, isNone_s, isNone_b, lenD_l, lenD_t, minD_i, maxD_i, mul_ok, mod_ok, fdiv_ok, eqD_int, eqD_str, neD_int, neD_str, ix0, ix1, ix2, ix3, vr0, vrS, R.bind_ok, R.bind_err, R.bind_bad, ofO_some, List.map_cons, List.map_nil, List.length_cons, List.length_nil, List.length_map, List.cons_append, List.nil_append, List.replicate, Nat.reduceAdd, Nat.reduceSub, List.set_cons_zero, List.set_cons_succ, lpK_nx, lpK_ct, lpK_bk, lpK_rt, lpK_err, whK_t, whK_f, sets, ev_aug, augK_ok, ev_asg, ev_mkD, evps_nil, evps_cons, pairK_s, pairK_i, listD_l, ev_lc, slD_l, slD_t, Int.cast_ofNat_Int, Int.reduceLT, Int.reduceLE, Int.reduceEq, Int.reduceAdd, Int.reduceSub, Int.reduceMul, Int.reduceNeg, Int.reduceMod, Int.reduceDiv, Int.reduceToNat, li0, li1, li2, li3, li4, str_inj, String.reduceEq, decide_false, decide_true, isiB_s, isiB_i, isiB_b, isiB_l, isiB_t, isiB_n, isiS, Bool.or_false, Bool.or_true, Bool.and_false, Bool.and_true, Bool.false_or, Bool.true_or, Bool.false_and, Bool.true_and, ev_dput, slotD_0, slotD_S, slotK_i, slotK_s, dinD_i, dinD_s, dixD_i, dixD_s, ev_keys, keysK_d, keysD_d, mkI_len, mkW_len, ev_popN, popN_ok, ev_popT, popT_ok, ev_raiseI, raiK_i, ev_raise, ev_try, tryK_nx, tryK_rt, tryK_e1, tryK_e0, fin1_nx, ev_fld, ev_tryO, tryOK_nx, tryOK_rt, tryOK_e, finO_nx, finO_rt, isD_b, ev_rev, revK_l, ev_ext, extK_ok, ev_callB, flatE_b, flatE_i, flatE_s, flatE_n, ev_extPop, ifT, ifF, ifTT, ifFT, intD_t, intD_f, cutT2, cutL_tail, inT2, inT3, tupleD_l, tupleD_t, listD_t, addD_t, lcD_nil, lcD_consT, consR_ok, forD_T2, forD_nil, wipe0, wipeS, Bool.not_true, Bool.not_false])
local macro_rules | `(tactic| walk_at "go") => `(tactic| try simp (disch := first | omega | (simp only [List.length_map, List.length_append, List.length_cons, List.length_nil, rangeL_len, mkI_len, mkW_len] <;> fail) | (simp only [List.length_map, List.length_append, List.length_cons, List.length_nil, rangeL_len, mkI_len, mkW_len]; omega)) only [ev_run, runK_rt, runK_err, ev_sq, sqK_nx, sqK_rt, sqK_bk, sqK_ct, sqK_err, ev_if, ifK_t, ifK_f, ifK_err, ev_set, setK_ok, setK_err, ev_ret, retK_ok, retK_err, ev_exp, expK_ok, expK_err, ev_skp, ev_brk, ev_cnt, ev_cst, ev_op2, ev_un1, ev_tst, asB_b, ev_andT, ev_orT, andK_t, andK_f, orK_t, orK_f, ev_notT, ev_andV, ev_orV, andW_t, andW_f, orW_t, orW_f, ev_notV, ev_isi, evs_nil, evs_cons, ev_mkT, ev_mkL, ev_cal, ev_call, ev_slc, ev_noP, ev_prt, asI_i, ev_for, forK_ok, ev_itLK, itLK_l, ev_itR, itRK_1, itRK_2, ev_itZ, itZK_l, itZK_t, ev_it1, it1K_l, ev_app, slotL_0, slotL_S, appK_ok, addD_i, addD_l, addD_s, subD_i, ltD_i, leD_i, gtD_i, geD_i, ltD_s, negD_i, isD_n, isntD_n, isNone_n, isNone_t, isNone_l, isNone_i, isNone_s, isNone_b, lenD_l, lenD_t, minD_i, maxD_i, mul_ok, mod_ok, fdiv_ok, eqD_int, eqD_str, neD_int, neD_str, ix0, ix1, ix2, ix3, vr0, vrS, R.bind_ok, R.bind_err, R.bind_bad, ofO_some, List.map_cons, List.map_nil, List.length_cons, List.length_nil, List.length_map, List.cons_append, List.nil_append, List.replicate, Nat.reduceAdd, Nat.reduceSub, List.set_cons_zero, List.set_cons_succ, lpK_nx, lpK_ct, lpK_bk, lpK_rt, lpK_err, whK_t, whK_f, sets, ev_aug, augK_ok, ev_asg, ev_mkD, evps_nil, evps_cons, pairK_s, pairK_i, listD_l, ev_lc, slD_l, slD_t, Int.cast_ofNat_Int, Int.reduceLT, Int.reduceLE, Int.reduceEq, Int.reduceAdd, Int.reduceSub, Int.reduceMul, Int.reduceNeg, Int.reduceMod, Int.reduceDiv, Int.reduceToNat, li0, li1, li2, li3, li4, str_inj, String.reduceEq, decide_false, decide_true, isiB_s, isiB_i, isiB_b, isiB_l, isiB_t, isiB_n, isiS, Bool.or_false, Bool.or_true, Bool.and_false, Bool.and_true, Bool.false_or, Bool.true_or, Bool.false_and, Bool.true_and, ev_dput, slotD_0, slotD_S, slotK_i, slotK_s, dinD_i, dinD_s, dixD_i, dixD_s, ev_keys, keysK_d, keysD_d, mkI_len, mkW_len, ev_popN, popN_ok, ev_popT, popT_ok, ev_raiseI, raiK_i, ev_raise, ev_try, tryK_nx, tryK_rt, tryK_e1, tryK_e0, fin1_nx, ev_fld, ev_tryO, tryOK_nx, tryOK_rt, tryOK_e, finO_nx, finO_rt, isD_b, ev_rev, revK_l, ev_ext, extK_ok, ev_callB, flatE_b, flatE_i, flatE_s, flatE_n, ev_extPop, ifT, ifF, ifTT, ifFT, intD_t, intD_f, cutT2, cutL_tail, inT2, inT3, tupleD_l, tupleD_t, listD_t, addD_t, lcD_nil, lcD_consT, consR_ok, forD_T2, forD_nil, wipe0, wipeS, Bool.not_true, Bool.not_false, *])
/-- the end of the words: turned, and as many as asked -/
theorem words2_tail (c many : Int) (ws : List Str) (x3 x4 x5 : Option PyData) (h0 : 0 ≤ c) (h1 : 2 ≤ many) (h2 : many ≤ 6) (hl : ws.length = 6) (hw : ∀ w ∈ ws, WordOk w) : ∃ vs : List Str,
    runK (b__law_words_v2_r1 [some (.int c), some (.int many), some (.list (ws.map .str)), x3, x4, x5, none]) = .ok (.list (vs.map .str)) ∧ (vs.length : Int) = many ∧ ∀ w ∈ vs, WordOk w := by
  unfold b__law_words_v2_r1
  have hs0 := Int.emod_nonneg (c / 256) (show (6 : Int) ≠ 0 by decide)
  have hs1 := Int.emod_lt_of_pos (c / 256) (show (0 : Int) < 6 by decide)
  obtain ⟨k, hk⟩ : ∃ k : Nat, c / 256 % 6 = (k : Nat) := ⟨(c / 256 % 6).toNat, by omega⟩
  obtain ⟨m, hm⟩ : ∃ m : Nat, many = (m : Nat) := ⟨many.toNat, by omega⟩
  have e1 : cutL (ws.map PyData.str) (some (k : Int)) none = (ws.drop k).map PyData.str := by rw [cutL_suf _ _ (by simp; omega), List.map_drop]
  have e2 : cutL (ws.map PyData.str) none (some (k : Int)) = (ws.take k).map PyData.str := by rw [cutL_pre _ _ (by simp; omega), List.map_take]
  walk_at "ev"
  rw [hk, e1, e2, hm, addD_l (by simp; omega)]
  walk_at "ev"
  have e3 : (ws.drop k).map PyData.str ++ (ws.take k).map PyData.str = (ws.drop k ++ ws.take k).map PyData.str := by simp
  rw [e3, cutL_pre _ _ (by simp; omega), ← List.map_take]
  refine ⟨_, rfl, by simp; omega, fun w hw' => ?_⟩
  rcases List.mem_append.mp (List.mem_of_mem_take hw') with q | q
  · exact hw w (List.mem_of_mem_drop q)
  · exact hw w (List.mem_of_mem_take q)
theorem mul0 (x : Str) : cs (Txt.mul x 0) = [] := by
  simp [Txt.mul, cs, Str.empty]
theorem low_mul0 {x : Str} (h : Low x) {n : Int} (hn : 0 ≤ n) : Low (Txt.mul x n) ∧ (Txt.mul x n).length = n.toNat * x.length := by
  by_cases h1 : 1 ≤ n
  · exact ⟨h.mul h1, mul_length x h1⟩
  · have e : n = 0 := by omega
    subst e
    have := mul0 x
    exact ⟨fun c hc => (by rw [this] at hc; cases hc), (by rw [cs_length, this]; simp)⟩
theorem wordOk_dec {w : Str} (h : ((cs w).all (fun c => decide (97 ≤ c ∧ c ≤ 122)) && decide (1 ≤ (cs w).length ∧ (cs w).length ≤ 8)) = true) : WordOk w := by
  rw [Bool.and_eq_true, decide_eq_true_eq] at h
  exact ⟨fun c hc => of_decide_eq_true (List.all_eq_true.mp h.1 c hc), by rw [cs_length]; exact h.2.1, by rw [cs_length]; exact h.2.2⟩
theorem m_low : Low "m" := by unfold Low; rw [show cs ("m" : Str) = [109] by decide +kernel]; decide
theorem m_len : ("m" : Str).length = 1 := by decide +kernel
theorem six_cs : cs "aghmxz" = [97, 103, 104, 109, 120, 122] := by decide +kernel
theorem words2_ok (c many : Int) (h0 : 0 ≤ c) (h1 : 2 ≤ many) (h2 : many ≤ 6) : ∃ vs : List Str, runF 7 b__law_words_v2 [.int c, .int many] = .ok (.list (vs.map .str)) ∧ (vs.length : Int) = many ∧ ∀ w ∈ vs, WordOk w := by
  unfold b__law_words_v2 b__law_words_v2_r3 b__law_words_v2_r2
  have h4 : c % 4 = 0 ∨ c % 4 = 1 ∨ c % 4 = 2 ∨ c % 4 = 3 := by omega
  rcases h4 with h | h | h | h
  · walk_at "ev"
    simp only [h]
    walk_at "ev"
    simp only [h]
    walk_at "ev"
    simp only [h]
    walk_at "ev"
    refine words2_tail c many ["a", "b", "c", "d", "e", "f"] _ _ _ h0 h1 h2 rfl fun w hw => ?_
    simp only [List.mem_cons, List.not_mem_nil, or_false] at hw
    rcases hw with rfl | rfl | rfl | rfl | rfl | rfl <;> exact wordOk_dec (by decide +kernel)
  · walk_at "ev"
    simp only [h]
    walk_at "ev"
    rw [lcK_N (g := fun d => match d with | .int z => .str (Txt.mul "k" (1 + z)) | d => d) (by rw [rangeL_len]; decide) (fun d hd => by
      obtain ⟨i, hi, rfl⟩ := mem_rangeL hd
      simp only [wipeE, List.set_cons_zero, List.set_cons_succ]
      walk_at "ev"
      rw [mulS_ok (by omega) (by omega) (by rw [k_len]; decide)]
      rfl)]
    walk_at "ev"
    simp only [h]
    walk_at "ev"
    simp only [h]
    walk_at "ev"
    have e : (rangeL 0 (6 : Int).toNat).map (fun d => match d with | .int z => PyData.str (Txt.mul "k" (1 + z)) | d => d) = ((List.range 6).map fun i : Nat => Txt.mul "k" (1 + (0 + (i : Int)))).map PyData.str := by
      simp [rangeL]
    rw [show (6 : Nat) = (6 : Int).toNat from rfl, e]
    refine words2_tail c many _ _ _ _ h0 h1 h2 (by simp) fun w hw => ?_
    obtain ⟨i, hi, rfl⟩ := List.mem_map.mp hw
    have hi := List.mem_range.mp hi
    have hl := mul_length "k" (n := 1 + (0 + (i : Int))) (by omega)
    rw [k_len] at hl
    exact ⟨k_low.mul (by omega), by omega, by omega⟩
  · have hs : 0 < 1 + c / 4 % 8 := by omega
    have ha := Int.emod_nonneg (c / 32) (show 1 + c / 4 % 8 ≠ 0 by omega)
    have ha2 := Int.emod_lt_of_pos (c / 32) hs
    generalize hz : c / 32 % (1 + c / 4 % 8) = z at ha ha2
    walk_at "ev"
    simp only [h]
    walk_at "ev"
    simp only [h]
    walk_at "ev"
    rw [hz]
    have hx : ∀ i : Nat, i < 6 → ∃ ch : Str, ixD (.str "aghmxz") (.int (i : Nat)) = some (.str ch) ∧ Low ch ∧ ch.length = 1 := fun i hi => by
      have hl : i < (cs "aghmxz").length := by rw [six_cs]; exact hi
      refine ⟨_, ixS (j := i) rfl hl (by rw [cs_length, six_cs]; decide), low_one ?_ hl, by rw [cs_length]; rfl⟩
      unfold Low; rw [six_cs]; decide
    let g : Nat → Str := fun i => if hi : i < 6 then (hx i hi).choose else "a"
    have hg : ∀ i, i < 6 → ixD (.str "aghmxz") (.int (i : Nat)) = some (.str (g i)) ∧ Low (g i) ∧ (g i).length = 1 := fun i hi => by
      have e : g i = (hx i hi).choose := dif_pos hi
      rw [e]; exact (hx i hi).choose_spec
    have q1 := low_mul0 m_low ha
    have q2 := low_mul0 m_low (n := 1 + c / 4 % 8 - 1 - z) (by omega)
    rw [m_len] at q1 q2
    have lapp : ∀ x y : Str, (x ++ y).length = x.length + y.length := fun x y => by rw [cs_length, cs_app, List.length_append, ← cs_length, ← cs_length]
    rw [lcK_N (g := fun d => match d with | .int t => .str (Txt.mul "m" z ++ g t.toNat ++ Txt.mul "m" (1 + c / 4 % 8 - 1 - z)) | d => d) (by rw [rangeL_len]; decide) (fun d hd => by
      obtain ⟨i, hi, rfl⟩ := mem_rangeL hd
      obtain ⟨g1, g2, g3⟩ := hg i hi
      simp only [wipeE, List.set_cons_zero, List.set_cons_succ]
      walk_at "ev"
      rw [mulS_ok (by omega) (by omega) (by rw [m_len]; decide), mulS_ok (by omega) (by omega) (by rw [m_len]; decide)]
      simp only [Int.zero_add]
      rw [g1]
      walk_at "ev"
      rw [addD_s (by rw [lapp]; omega)]
      rfl)]
    walk_at "ev"
    simp only [h]
    walk_at "ev"
    have e : (rangeL 0 6).map (fun d => match d with | .int t => PyData.str (Txt.mul "m" z ++ g t.toNat ++ Txt.mul "m" (1 + c / 4 % 8 - 1 - z)) | d => d) = ((List.range 6).map fun i : Nat => Txt.mul "m" z ++ g i ++ Txt.mul "m" (1 + c / 4 % 8 - 1 - z)).map PyData.str := by
      simp [rangeL]
    rw [e]
    refine words2_tail c many _ _ _ _ h0 h1 h2 (by simp) fun w hw => ?_
    obtain ⟨i, hi, rfl⟩ := List.mem_map.mp hw
    obtain ⟨g1, g2, g3⟩ := hg i (List.mem_range.mp hi)
    exact ⟨(q1.1.app g2).app q2.1, by rw [lapp, lapp]; omega, by rw [lapp, lapp]; omega⟩
  · walk_at "ev"
    simp only [h]
    walk_at "ev"
    simp only [h]
    walk_at "ev"
    simp only [h]
    walk_at "ev"
    refine words2_tail c many ["low", "one", "both", "then", "letter", "lows"] _ _ _ h0 h1 h2 rfl fun w hw => ?_
    simp only [List.mem_cons, List.not_mem_nil, or_false] at hw
    rcases hw with rfl | rfl | rfl | rfl | rfl | rfl <;> exact wordOk_dec (by decide +kernel)
end Kn

namespace Kn
open PySem L2 Dl
local macro_rules | `(tactic| walk_at "ev") => `(tactic| try simp (disch := first | omega | (simp only [List.length_map, List.length_append, List.length_cons, List.length_nil, rangeL_len, mkI_len, mkW_len] <;> fail) | (simp only [List.length_map, List.length_append, List.length_cons, List.length_nil, rangeL_len, mkI_len, mkW_len]; omega)) only [ev_run, runK_rt, runK_err, ev_sq, sqK_nx, sqK_rt, sqK_bk, sqK_ct, sqK_err, ev_if, ifK_t, ifK_f, ifK_err, ev_set, setK_ok, setK_err, ev_ret, retK_ok, retK_err, ev_exp, expK_ok, expK_err, ev_skp, ev_brk, ev_cnt, ev_cst, ev_op2, ev_un1, ev_tst, asB_b, ev_andT, ev_orT, andK_t, andK_f, orK_t, orK_f, ev_notT, ev_andV, ev_orV, andW_t, andW_f, orW_t, orW_f, ev_notV, ev_isi, evs_nil, evs_cons, ev_mkT, ev_mkL, ev_cal, ev_call, ev_slc, ev_noP, ev_prt, asI_i, ev_for, forK_ok, ev_itLK, itLK_l, ev_itR, itRK_1, itRK_2, ev_itZ, itZK_l, itZK_t, ev_it1, it1K_l, ev_app, slotL_0, slotL_S, appK_ok, addD_i, addD_l, addD_s, subD_i, ltD_i, leD_i, gtD_i, geD_i, ltD_s, negD_i, isD_n, isntD_n, isNone_n, isNone_t, isNone_l, isNone_i, isNone_s, isNone_b, lenD_l, lenD_t, minD_i, maxD_i, mul_ok, mod_ok, fdiv_ok, eqD_int, eqD_str, neD_int, neD_str, ix0, ix1, ix2, ix3, vr0, vrS, R.bind_ok, R.bind_err, R.bind_bad, ofO_some, List.map_cons, List.map_nil, List.length_cons, List.length_nil, List.length_map, List.cons_append, List.nil_append, List.replicate, Nat.reduceAdd, Nat.reduceSub, List.set_cons_zero, List.set_cons_succ, lpK_nx, lpK_ct, lpK_bk, lpK_rt, lpK_err, whK_t, whK_f, sets, ev_aug, augK_ok, ev_asg, ev_mkD, evps_nil, evps_cons, pairK_s, pairK_i, listD_l, ev_lc, slD_l, slD_t, Int.cast_ofNat_Int, Int.reduceLT, Int.reduceLE, Int.reduceEq, Int.reduceAdd, Int.reduceSub, Int.reduceMul, Int.reduceNeg, Int.reduceMod, Int.reduceDiv, Int.reduceToNat, li0, li1, li2, li3, li4, str_inj, String.reduceEq, decide_false, decide_true, isiB_s, isiB_i, isiB_b, isiB_l, isiB_t, isiB_n, isiS, Bool.or_false, Bool.or_true, Bool.and_false, Bool.and_true, Bool.false_or, Bool.true_or, Bool.false_and, Bool.true_and, ev_dput, slotD_0, slotD_S, slotK_i, slotK_s, dinD_i, dinD_s, dixD_i, dixD_s, ev_keys, keysK_d, keysD_d, mkI_len, mkW_len, ev_popN, popN_ok, ev_popT, popT_ok, ev_raiseI, raiK_i, ev_raise, ev_try, tryK_nx, tryK_rt, tryK_e1, tryK_e0, fin1_nx, ev_fld, ev_tryO, tryOK_nx, tryOK_rt, tryOK_e, finO_nx, finO_rt, isD_b, ev_rev, revK_l, ev_ext, extK_ok, ev_callB, flatE_b, flatE_i, flatE_s, flatE_n, ev_extPop, ifT, ifF, ifTT, ifFT, intD_t, intD_f, cutT2, cutL_tail, inT2, inT3, tupleD_l, tupleD_t, listD_t, addD_t, lcD_nil, lcD_consT, consR_ok, forD_T2, forD_nil, wipe0, wipeS, Bool.not_true, Bool.not_false])
local macro_rules | `(tactic| walk_at "go") => `(tactic| try simp (disch := first | omega | (simp only [List.length_map, List.length_append, List.length_cons, List.length_nil, rangeL_len, mkI_len, mkW_len] <;> fail) | (simp only [List.length_map, List.length_append, List.length_cons, List.length_nil, rangeL_len, mkI_len, mkW_len]; omega)) only [ev_run, runK_rt, runK_err, ev_sq, sqK_nx, sqK_rt, sqK_bk, sqK_ct, sqK_err, ev_if, ifK_t, ifK_f, ifK_err, ev_set, setK_ok, setK_err, ev_ret, retK_ok, retK_err, ev_exp, expK_ok, expK_err, ev_skp, ev_brk, ev_cnt, ev_cst, ev_op2, ev_un1, ev_tst, asB_b, ev_andT, ev_orT, andK_t, andK_f, orK_t, orK_f, ev_notT, ev_andV, ev_orV, andW_t, andW_f, orW_t, orW_f, ev_notV, ev_isi, evs_nil, evs_cons, ev_mkT, ev_mkL, ev_cal, ev_call, ev_slc, ev_noP, ev_prt, asI_i, ev_for, forK_ok, ev_itLK, itLK_l, ev_itR, itRK_1, itRK_2, ev_itZ, itZK_l, itZK_t, ev_it1, it1K_l, ev_app, slotL_0, slotL_S, appK_ok, addD_i, addD_l, addD_s, subD_i, ltD_i, leD_i, gtD_i, geD_i, ltD_s, negD_i, isD_n, isntD_n, isNone_n, isNone_t, isNone_l, isNone_i, isNone_s, isNone_b, lenD_l, lenD_t, minD_i, maxD_i, mul_ok, mod_ok, fdiv_ok, eqD_int, eqD_str, neD_int, neD_str, ix0, ix1, ix2, ix3, vr0, vrS, R.bind_ok, R.bind_err, R.bind_bad, ofO_some, List.map_cons, List.map_nil, List.length_cons, List.length_nil, List.length_map, List.cons_append, List.nil_append, List.replicate, Nat.reduceAdd, Nat.reduceSub, List.set_cons_zero, List.set_cons_succ, lpK_nx, lpK_ct, lpK_bk, lpK_rt, lpK_err, whK_t, whK_f, sets, ev_aug, augK_ok, ev_asg, ev_mkD, evps_nil, evps_cons, pairK_s, pairK_i, listD_l, ev_lc, slD_l, slD_t, Int.cast_ofNat_Int, Int.reduceLT, Int.reduceLE, Int.reduceEq, Int.reduceAdd, Int.reduceSub, Int.reduceMul, Int.reduceNeg, Int.reduceMod, Int.reduceDiv, Int.reduceToNat, li0, li1, li2, li3, li4, str_inj, String.reduceEq, decide_false, decide_true, isiB_s, isiB_i, isiB_b, isiB_l, isiB_t, isiB_n, isiS, Bool.or_false, Bool.or_true, Bool.and_false, Bool.and_true, Bool.false_or, Bool.true_or, Bool.false_and, Bool.true_and, ev_dput, slotD_0, slotD_S, slotK_i, slotK_s, dinD_i, dinD_s, dixD_i, dixD_s, ev_keys, keysK_d, keysD_d, mkI_len, mkW_len, ev_popN, popN_ok, ev_popT, popT_ok, ev_raiseI, raiK_i, ev_raise, ev_try, tryK_nx, tryK_rt, tryK_e1, tryK_e0, fin1_nx, ev_fld, ev_tryO, tryOK_nx, tryOK_rt, tryOK_e, finO_nx, finO_rt, isD_b, ev_rev, revK_l, ev_ext, extK_ok, ev_callB, flatE_b, flatE_i, flatE_s, flatE_n, ev_extPop, ifT, ifF, ifTT, ifFT, intD_t, intD_f, cutT2, cutL_tail, inT2, inT3, tupleD_l, tupleD_t, listD_t, addD_t, lcD_nil, lcD_consT, consR_ok, forD_T2, forD_nil, wipe0, wipeS, Bool.not_true, Bool.not_false, *])
/-- some of the words, beside the old ones -/
theorem some_ok {m : Fx} (hm : IsMix m) (c : Int) (old ws : List Str) (ho : ∀ w ∈ old, WordOk w) (hw : ∀ w ∈ ws, WordOk w) (hl : old.length ≤ 10000) (hwl : ws.length ≤ 10) (hon : old.Nodup) : ∃ vs : List Str,
    runF 6 (b__law_some m) [.int c, .list (old.map .str), .list (ws.map .str)] = .ok (.list (vs.map .str)) ∧ (∀ w ∈ vs, WordOk w ∧ (w ∈ old ∨ w ∈ ws)) ∧ (∀ w ∈ old, w ∈ vs) ∧ vs.length ≤ old.length + ws.length ∧ vs.Pairwise ltS := by
  unfold b__law_some
  walk_at "ev"
  rw [enumL_F]
  have go : ∀ (us fs : List Str) (k : Nat) (x4 x5 : Option PyData), (∀ w ∈ us, WordOk w ∧ w ∈ ws) → (∀ w ∈ fs, WordOk w ∧ (w ∈ old ∨ w ∈ ws)) → (∀ w ∈ old, w ∈ fs) → fs.length + us.length ≤ 20000 → k + us.length ≤ 100 → fs.Nodup → ∃ (vs : List Str) (x4' x5' : Option PyData),
      forD (bT [4, 5]) (b__law_some_l1 m) (enumF k (us.map .str)) [some (.int c), some (.list (old.map .str)), some (.list (ws.map .str)), some (.list (fs.map .str)), x4, x5] = .nx [some (.int c), some (.list (old.map .str)), some (.list (ws.map .str)), some (.list (vs.map .str)), x4', x5'] ∧ (∀ w ∈ vs, WordOk w ∧ (w ∈ old ∨ w ∈ ws)) ∧ (∀ w ∈ old, w ∈ vs) ∧ vs.length ≤ fs.length + us.length ∧ vs.Nodup := by
    intro us
    induction us with
    | nil => intro fs k x4 x5 _ h2 h3 _ _ h6; exact ⟨fs, x4, x5, by simp [enumF, forD], h2, h3, by simp, h6⟩
    | cons u us ih =>
      intro fs k x4 x5 h1 h2 h3 h4 h5 h6
      simp only [List.length_cons] at h4 h5
      have unf : ∀ δ, b__law_some_l1 m δ = ifS _ (appS 3 (vr 5)) skp δ := fun δ => rfl
      rw [List.map_cons]
      show ∃ vs x4' x5', forD (bT [4, 5]) _ (.tuple [.int (k : Nat), .str u] :: enumF (k + 1) (us.map .str)) _ = _ ∧ _
      rw [forD_T _ _ _ _ _ rfl, unf]
      walk_at "ev"
      rw [notIn_str]
      walk_at "ev"
      have hu := h1 u List.mem_cons_self
      by_cases hin : u ∈ fs
      · simp only [hin, decide_true]
        walk_at "ev"
        obtain ⟨vs, y4, y5, e, r1, r2, r3, r4⟩ := ih fs (k + 1) (some (.int (k : Nat))) (some (.str u)) (fun w hw => h1 w (List.mem_cons_of_mem _ hw)) h2 h3 (by omega) (by omega) h6
        exact ⟨vs, y4, y5, e, r1, r2, by omega, r4⟩
      · simp only [hin, decide_false]
        walk_at "ev"
        rw [hm _ _ (by omega) (by omega)]
        walk_at "ev"
        by_cases hz : mixZ c (60 + (k : Nat)) % 4 = 0
        · simp only [hz, decide_true]
          walk_at "ev"
          have e : fs.map PyData.str ++ [.str u] = (fs ++ [u]).map .str := by simp
          rw [e]
          obtain ⟨vs, y4, y5, e, r1, r2, r3, r4⟩ := ih (fs ++ [u]) (k + 1) (some (.int (k : Nat))) (some (.str u)) (fun w hw => h1 w (List.mem_cons_of_mem _ hw)) (fun w hw => by
            rcases List.mem_append.mp hw with q | q
            · exact h2 w q
            · rw [List.mem_singleton.mp q]; exact ⟨hu.1, .inr hu.2⟩) (fun w hw => List.mem_append_left _ (h3 w hw)) (by simp; omega) (by omega) (by
            rw [List.nodup_append]
            exact ⟨h6, by simp, fun a ha b hb e => hin (by rw [← List.mem_singleton.mp hb, ← e]; exact ha)⟩)
          exact ⟨vs, y4, y5, e, r1, r2, by simp at r3 ⊢; omega, r4⟩
        · simp only [hz, decide_false]
          walk_at "ev"
          obtain ⟨vs, y4, y5, e, r1, r2, r3, r4⟩ := ih fs (k + 1) (some (.int (k : Nat))) (some (.str u)) (fun w hw => h1 w (List.mem_cons_of_mem _ hw)) h2 h3 (by omega) (by omega) h6
          exact ⟨vs, y4, y5, e, r1, r2, by omega, r4⟩
  obtain ⟨vs, x4', x5', e, h1, h2, h3, h4⟩ := go ws old 0 none none (fun w h => ⟨hw w h, h⟩) (fun w h => ⟨ho w h, .inl h⟩) (fun w h => h) (by omega) (by omega) hon
  rw [e]
  unfold b__law_some_r1
  walk_at "ev"
  rw [sortD_str fun w hw => (h1 w hw).1.low.strOk]
  walk_at "ev"
  exact ⟨_, rfl, fun w hw => h1 w ((sortS_perm vs).mem_iff.mp hw), fun w hw => (sortS_perm vs).mem_iff.mpr (h2 w hw), by rw [(sortS_perm vs).length_eq]; exact h3, sortS_lt h4⟩
/-- a world: the one before, its letters -/
structure Wd where
  bf : Option Nat
  ls : List Str
def encW (w : Wd) : PyData := .tuple [match w.bf with | none => .none | some b => .int (b : Nat), .list (w.ls.map .str)]
structure WdOk (ws : List Str) (i : Nat) (w : Wd) : Prop where
  bf : if i = 0 then w.bf = none else ∃ b, w.bf = some b ∧ b < i
  ls : ∀ v ∈ w.ls, WordOk v ∧ v ∈ ws
  so : w.ls.Pairwise ltS
abbrev IsSome (f : Fx) : Prop := ∀ (c : Int) (old ws : List Str), (∀ w ∈ old, WordOk w) → (∀ w ∈ ws, WordOk w) → old.length ≤ 10000 → ws.length ≤ 10 → old.Nodup → ∃ vs : List Str,
    f [.int c, .list (old.map .str), .list (ws.map .str)] = .ok (.list (vs.map .str)) ∧ (∀ w ∈ vs, WordOk w ∧ (w ∈ old ∨ w ∈ ws)) ∧ (∀ w ∈ old, w ∈ vs) ∧ vs.length ≤ old.length + ws.length ∧ vs.Pairwise ltS
/-- good worlds -/
structure Good (ws : List Str) (W : List Wd) : Prop where
  each : ∀ (i : Nat) (w : Wd), W[i]? = some w → WdOk ws i w ∧ w.ls.length ≤ 10 * (i + 1)
  grow : ∀ (i : Nat) (w : Wd) (b : Nat) (v : Wd), W[i]? = some w → w.bf = some b → W[b]? = some v → ∀ x ∈ v.ls, x ∈ w.ls
theorem Good.nil_start {ws vs : List Str} (h : ∀ v ∈ vs, WordOk v ∧ v ∈ ws) (hso : vs.Pairwise ltS) (hl : vs.length ≤ 10) : Good ws [⟨none, vs⟩] := by
  refine ⟨fun i w e => ?_, fun i w b v e hb => ?_⟩
  · cases i with
    | zero => cases e; exact ⟨⟨rfl, h, hso⟩, by simpa using hl⟩
    | succ i => cases e
  · cases i with
    | zero => cases e; cases hb
    | succ i => cases e
theorem Good.snoc {ws vs : List Str} {W : List Wd} {b : Nat} {u : Wd} (g : Good ws W) (hb : W[b]? = some u) (h : ∀ v ∈ vs, WordOk v ∧ v ∈ ws) (hso : vs.Pairwise ltS) (hg : ∀ x ∈ u.ls, x ∈ vs) (hl : vs.length ≤ u.ls.length + 10) : Good ws (W ++ [⟨some b, vs⟩]) := by
  have hbl : b < W.length := by
    by_cases q : b < W.length
    · exact q
    · rw [List.getElem?_eq_none (by omega)] at hb; cases hb
  have hu := (g.each b u hb).2
  refine ⟨fun i w e => ?_, fun i w c v e hc ev => ?_⟩
  · by_cases hi : i < W.length
    · rw [List.getElem?_append_left hi] at e; exact g.each i w e
    · rw [List.getElem?_append_right (by omega)] at e
      cases hj : i - W.length with
      | zero =>
        rw [hj] at e; cases e
        have : i ≠ 0 := by omega
        refine ⟨⟨by rw [if_neg this]; exact ⟨b, rfl, by omega⟩, h, hso⟩, ?_⟩
        show vs.length ≤ _
        omega
      | succ j => rw [hj] at e; cases e
  · by_cases hi : i < W.length
    · rw [List.getElem?_append_left hi] at e
      have := (g.each i w e).1.bf
      have hci : c < i := by
        split at this
        · rw [hc] at this; cases this
        · obtain ⟨b', e1, e2⟩ := this; rw [hc] at e1; cases e1; exact e2
      rw [List.getElem?_append_left (by omega)] at ev
      exact g.grow i w c v e hc ev
    · rw [List.getElem?_append_right (by omega)] at e
      cases hj : i - W.length with
      | zero =>
        rw [hj] at e; cases e
        cases hc
        rw [List.getElem?_append_left hbl, hb] at ev
        cases ev
        exact hg
      | succ j => rw [hj] at e; cases e
abbrev IsWorlds (f : Fx) : Prop := ∀ (ns : List Int) (st most : Int) (ws : List Str), ns.length ≤ 63 → 0 ≤ st → st ≤ 100 → 1 ≤ most → most ≤ 100 → ws.length ≤ 10 → (∀ w ∈ ws, WordOk w) →
  ∃ W : List Wd, f [.list (ns.map .int), .int st, .int most, .list (ws.map .str)] = .ok (.list (W.map encW)) ∧ Good ws W ∧ 1 ≤ W.length ∧ (W.length : Int) ≤ most
theorem worlds_ok {c s m : Fx} (hm : IsMix m) (hc : IsCell c) (hs : IsSome s) : IsWorlds (runF 8 (b__law_worlds c s m)) := by
  intro ns st most ws hn h0 h1 h2 h3 hwl hw
  unfold b__law_worlds
  have e0 := hc ns st h0 (by omega)
  have e1 := hc ns (st + 1) (by omega) (by omega)
  obtain ⟨v0, es, hv, _, hvl, hvs⟩ := hs (cellZ ns st) [] ws (fun _ h => nomatch h) hw (by simp) hwl (by simp)
  simp only [List.map_nil] at es
  have hcr := cellZ_range ns (st + 1)
  have hq0 := Int.emod_nonneg (cellZ ns (st + 1)) (show most ≠ 0 by omega)
  have hq1 := Int.emod_lt_of_pos (cellZ ns (st + 1)) (show 0 < most by omega)
  walk_at "go"
  have step : ∀ (i : Nat) (δ : Ev), i < (1 + cellZ ns (st + 1) % most - 1).toNat → (∃ (W : List Wd) (x5 x6 x7 : Option PyData), δ = [some (.list (ns.map .int)), some (.int st), some (.int most), some (.list (ws.map .str)), some (.list (W.map encW)), x5, x6, x7] ∧ W.length = i + 1 ∧ Good ws W) →
      ∃ δ2, b__law_worlds_l1 c s m (δ.set 5 (some (.int (1 + (i : Nat))))) = .nx δ2 ∧ ∃ (W : List Wd) (x5 x6 x7 : Option PyData), δ2 = [some (.list (ns.map .int)), some (.int st), some (.int most), some (.list (ws.map .str)), some (.list (W.map encW)), x5, x6, x7] ∧ W.length = i + 1 + 1 ∧ Good ws W := by
    rintro i δ hi ⟨W, x5, x6, x7, rfl, hl, g⟩
    unfold b__law_worlds_l1
    have k0 := Int.emod_nonneg (1 + (i : Int)) (show max (1 : Int) ((ns.length : Nat) : Int) ≠ 0 by omega)
    have k1 := Int.emod_lt_of_pos (1 + (i : Int)) (show 0 < max (1 : Int) ((ns.length : Nat) : Int) by omega)
    generalize hk : (1 + (i : Int)) % max (1 : Int) ((ns.length : Nat) : Int) = k at k0 k1
    have e2 := hc ns (st + 2 + k) (by omega) (by omega)
    have hz := mixZ_range (cellZ ns (st + 2 + k)) (1 + (i : Int) + 40)
    walk_at "go"
    generalize mixZ (cellZ ns (st + 2 + k)) (1 + (i : Int) + 40) = z at *
    have q0 := Int.emod_nonneg z (show 1 + (i : Int) ≠ 0 by omega)
    have q1 := Int.emod_lt_of_pos z (show 0 < 1 + (i : Int) by omega)
    have fin : ∀ b : Nat, b < W.length → ∃ (y : PyData) (us vs : List Str), ixD (.list (W.map encW)) (.int (b : Nat)) = some (.tuple [y, .list (us.map .str)]) ∧ s [.int (z / 256), .list (us.map .str), .list (ws.map .str)] = .ok (.list (vs.map .str)) ∧ Good ws (W ++ [⟨some b, vs⟩]) := by
      intro b hb
      obtain ⟨u, hu⟩ : ∃ u, W[b]? = some u := ⟨W[b], by simp [hb]⟩
      have gu := g.each b u hu
      obtain ⟨vs, ev, hv1, hv2, hv3, hv4⟩ := hs (z / 256) u.ls ws (fun w h => (gu.1.ls w h).1) hw (by omega) hwl (lt_nodup gu.1.so)
      refine ⟨_, u.ls, vs, ixM (e := encW) hu, ev, g.snoc hu (fun v h => ⟨(hv1 v h).1, ?_⟩) hv4 hv2 (by omega)⟩
      rcases (hv1 v h).2 with q | q
      · exact (gu.1.ls v q).2
      · exact q
    by_cases h4 : z / 64 % 4 = 0
    · obtain ⟨y, us, vs, f1, f2, f3⟩ := fin i (by omega)
      have e9 : (1 : Int) + (i : Int) - 1 = (i : Int) := by omega
      walk_at "go"
      exact ⟨_, rfl, W ++ [⟨some i, vs⟩], _, _, _, by simp [encW]; exact ⟨rfl, rfl, rfl⟩, by simp [hl], f3⟩
    · obtain ⟨y, us, vs, f1, f2, f3⟩ := fin (z % (1 + (i : Int))).toNat (by omega)
      rw [show (((z % (1 + (i : Int))).toNat : Nat) : Int) = z % (1 + (i : Int)) by omega] at f1
      walk_at "go"
      exact ⟨_, rfl, W ++ [⟨some _, vs⟩], _, _, _, by simp [encW]; exact ⟨by omega, rfl, rfl, rfl⟩, by simp [hl], f3⟩
  obtain ⟨δ', e, W, x5, x6, x7, rfl, hl, g⟩ := forD_range _ _ step _ ⟨[⟨none, v0⟩], none, none, none, rfl, rfl, Good.nil_start (fun v h => ⟨(hv v h).1, (hv v h).2.elim (fun q => nomatch q) id⟩) hvs (by simp at hvl; omega)⟩
  simp only [List.map_cons, List.map_nil, encW] at e
  rw [e]
  unfold b__law_worlds_r1
  walk_at "go"
  exact ⟨W, rfl, g, by omega, by omega⟩
end Kn

namespace Kn
open PySem L2 Dl
local macro_rules | `(tactic| walk_at "ev") => `(tactic| try simp (disch := first | omega | (simp only [List.length_map, List.length_append, List.length_cons, List.length_nil, rangeL_len, mkI_len, mkW_len] <;> fail) | (simp only [List.length_map, List.length_append, List.length_cons, List.length_nil, rangeL_len, mkI_len, mkW_len]; omega)) only [ev_run, runK_rt, runK_err, ev_sq, sqK_nx, sqK_rt, sqK_bk, sqK_ct, sqK_err, ev_if, ifK_t, ifK_f, ifK_err, ev_set, setK_ok, setK_err, ev_ret, retK_ok, retK_err, ev_exp, expK_ok, expK_err, ev_skp, ev_brk, ev_cnt, ev_cst, ev_op2, ev_un1, ev_tst, asB_b, ev_andT, ev_orT, andK_t, andK_f, orK_t, orK_f, ev_notT, ev_andV, ev_orV, andW_t, andW_f, orW_t, orW_f, ev_notV, ev_isi, evs_nil, evs_cons, ev_mkT, ev_mkL, ev_cal, ev_call, ev_slc, ev_noP, ev_prt, asI_i, ev_for, forK_ok, ev_itLK, itLK_l, ev_itR, itRK_1, itRK_2, ev_itZ, itZK_l, itZK_t, ev_it1, it1K_l, ev_app, slotL_0, slotL_S, appK_ok, addD_i, addD_l, addD_s, subD_i, ltD_i, leD_i, gtD_i, geD_i, ltD_s, negD_i, isD_n, isntD_n, isNone_n, isNone_t, isNone_l, isNone_i, isNone_s, isNone_b, lenD_l, lenD_t, minD_i, maxD_i, mul_ok, mod_ok, fdiv_ok, eqD_int, eqD_str, neD_int, neD_str, ix0, ix1, ix2, ix3, vr0, vrS, R.bind_ok, R.bind_err, R.bind_bad, ofO_some, List.map_cons, List.map_nil, List.length_cons, List.length_nil, List.length_map, List.cons_append, List.nil_append, List.replicate, Nat.reduceAdd, Nat.reduceSub, List.set_cons_zero, List.set_cons_succ, lpK_nx, lpK_ct, lpK_bk, lpK_rt, lpK_err, whK_t, whK_f, sets, ev_aug, augK_ok, ev_asg, ev_mkD, evps_nil, evps_cons, pairK_s, pairK_i, listD_l, ev_lc, slD_l, slD_t, Int.cast_ofNat_Int, Int.reduceLT, Int.reduceLE, Int.reduceEq, Int.reduceAdd, Int.reduceSub, Int.reduceMul, Int.reduceNeg, Int.reduceMod, Int.reduceDiv, Int.reduceToNat, li0, li1, li2, li3, li4, str_inj, String.reduceEq, decide_false, decide_true, isiB_s, isiB_i, isiB_b, isiB_l, isiB_t, isiB_n, isiS, Bool.or_false, Bool.or_true, Bool.and_false, Bool.and_true, Bool.false_or, Bool.true_or, Bool.false_and, Bool.true_and, ev_dput, slotD_0, slotD_S, slotK_i, slotK_s, dinD_i, dinD_s, dixD_i, dixD_s, ev_keys, keysK_d, keysD_d, mkI_len, mkW_len, ev_popN, popN_ok, ev_popT, popT_ok, ev_raiseI, raiK_i, ev_raise, ev_try, tryK_nx, tryK_rt, tryK_e1, tryK_e0, fin1_nx, ev_fld, ev_tryO, tryOK_nx, tryOK_rt, tryOK_e, finO_nx, finO_rt, isD_b, ev_rev, revK_l, ev_ext, extK_ok, ev_callB, flatE_b, flatE_i, flatE_s, flatE_n, ev_extPop, ifT, ifF, ifTT, ifFT, intD_t, intD_f, cutT2, cutL_tail, inT2, inT3, tupleD_l, tupleD_t, listD_t, addD_t, lcD_nil, lcD_consT, consR_ok, forD_T2, forD_nil, wipe0, wipeS, Bool.not_true, Bool.not_false])
local macro_rules | `(tactic| walk_at "go") => `(tactic| try simp (disch := first | omega | (simp only [List.length_map, List.length_append, List.length_cons, List.length_nil, rangeL_len, mkI_len, mkW_len] <;> fail) | (simp only [List.length_map, List.length_append, List.length_cons, List.length_nil, rangeL_len, mkI_len, mkW_len]; omega)) only [ev_run, runK_rt, runK_err, ev_sq, sqK_nx, sqK_rt, sqK_bk, sqK_ct, sqK_err, ev_if, ifK_t, ifK_f, ifK_err, ev_set, setK_ok, setK_err, ev_ret, retK_ok, retK_err, ev_exp, expK_ok, expK_err, ev_skp, ev_brk, ev_cnt, ev_cst, ev_op2, ev_un1, ev_tst, asB_b, ev_andT, ev_orT, andK_t, andK_f, orK_t, orK_f, ev_notT, ev_andV, ev_orV, andW_t, andW_f, orW_t, orW_f, ev_notV, ev_isi, evs_nil, evs_cons, ev_mkT, ev_mkL, ev_cal, ev_call, ev_slc, ev_noP, ev_prt, asI_i, ev_for, forK_ok, ev_itLK, itLK_l, ev_itR, itRK_1, itRK_2, ev_itZ, itZK_l, itZK_t, ev_it1, it1K_l, ev_app, slotL_0, slotL_S, appK_ok, addD_i, addD_l, addD_s, subD_i, ltD_i, leD_i, gtD_i, geD_i, ltD_s, negD_i, isD_n, isntD_n, isNone_n, isNone_t, isNone_l, isNone_i, isNone_s, isNone_b, lenD_l, lenD_t, minD_i, maxD_i, mul_ok, mod_ok, fdiv_ok, eqD_int, eqD_str, neD_int, neD_str, ix0, ix1, ix2, ix3, vr0, vrS, R.bind_ok, R.bind_err, R.bind_bad, ofO_some, List.map_cons, List.map_nil, List.length_cons, List.length_nil, List.length_map, List.cons_append, List.nil_append, List.replicate, Nat.reduceAdd, Nat.reduceSub, List.set_cons_zero, List.set_cons_succ, lpK_nx, lpK_ct, lpK_bk, lpK_rt, lpK_err, whK_t, whK_f, sets, ev_aug, augK_ok, ev_asg, ev_mkD, evps_nil, evps_cons, pairK_s, pairK_i, listD_l, ev_lc, slD_l, slD_t, Int.cast_ofNat_Int, Int.reduceLT, Int.reduceLE, Int.reduceEq, Int.reduceAdd, Int.reduceSub, Int.reduceMul, Int.reduceNeg, Int.reduceMod, Int.reduceDiv, Int.reduceToNat, li0, li1, li2, li3, li4, str_inj, String.reduceEq, decide_false, decide_true, isiB_s, isiB_i, isiB_b, isiB_l, isiB_t, isiB_n, isiS, Bool.or_false, Bool.or_true, Bool.and_false, Bool.and_true, Bool.false_or, Bool.true_or, Bool.false_and, Bool.true_and, ev_dput, slotD_0, slotD_S, slotK_i, slotK_s, dinD_i, dinD_s, dixD_i, dixD_s, ev_keys, keysK_d, keysD_d, mkI_len, mkW_len, ev_popN, popN_ok, ev_popT, popT_ok, ev_raiseI, raiK_i, ev_raise, ev_try, tryK_nx, tryK_rt, tryK_e1, tryK_e0, fin1_nx, ev_fld, ev_tryO, tryOK_nx, tryOK_rt, tryOK_e, finO_nx, finO_rt, isD_b, ev_rev, revK_l, ev_ext, extK_ok, ev_callB, flatE_b, flatE_i, flatE_s, flatE_n, ev_extPop, ifT, ifF, ifTT, ifFT, intD_t, intD_f, cutT2, cutL_tail, inT2, inT3, tupleD_l, tupleD_t, listD_t, addD_t, lcD_nil, lcD_consT, consR_ok, forD_T2, forD_nil, wipe0, wipeS, Bool.not_true, Bool.not_false, *])
theorem copyW_ok (W : List Wd) (h : W.length ≤ 1000000) : runF 3 b__law_copy [.list (W.map encW)] = .ok (.list (W.map encW)) := by
  unfold b__law_copy
  walk_at "go"
  rw [lcK_map (g := id) (e := fun d => match d with | .tuple [a, b] => [some (.list (W.map encW)), some a, some b] | _ => []) (by simpa using h) (fun d hd => ?_) (fun d hd => ?_)]
  · walk_at "go"
    simp
  · obtain ⟨w, _, rfl⟩ := List.mem_map.mp hd
    rfl
  · obtain ⟨w, _, rfl⟩ := List.mem_map.mp hd
    simp only [encW]
    walk_at "go"
    rfl
def laterL (w : Nat) : Nat → List Wd → List Int → List Int
  | _, [], ks => ks
  | n, u :: us, ks => laterL w (n + 1) us (if w < n ∧ ∃ b, u.bf = some b ∧ (b : Int) ∈ ks then ks ++ [(n : Int)] else ks)
structure LInv (w n : Nat) (bf : Nat → Option Nat) (ks : List Int) : Prop where
  hd : ∃ tl, ks = (w : Int) :: tl
  srt : ks.Pairwise (· < ·)
  lt : ∀ k ∈ ks, ∃ i : Nat, k = i ∧ (i = w ∨ i < n)
  iff : ∀ m : Nat, w < m → m < n → ((m : Int) ∈ ks ↔ ∃ b, bf m = some b ∧ (b : Int) ∈ ks)
theorem later_step {w n : Nat} {bf : Nat → Option Nat} {ks : List Int} (I : LInv w n bf ks) (hb : ∀ m b, w < m → bf m = some b → b < m) :
    LInv w (n + 1) bf (if w < n ∧ ∃ b, bf n = some b ∧ (b : Int) ∈ ks then ks ++ [(n : Int)] else ks) := by
  obtain ⟨tl, ht⟩ := I.hd
  have hnot : ∀ m : Nat, w < m → n ≤ m → (m : Int) ∉ ks := fun m h1 h2 hm => by
    obtain ⟨i, e, q⟩ := I.lt _ hm
    have : m = i := by omega
    omega
  split
  · rename_i h
    refine ⟨⟨tl ++ [(n : Int)], by rw [ht]; rfl⟩, ?_, ?_, ?_⟩
    · rw [List.pairwise_append]
      refine ⟨I.srt, by simp, fun a ha b hb' => ?_⟩
      rw [List.mem_singleton.mp hb']
      obtain ⟨i, e, q⟩ := I.lt a ha
      omega
    · intro k hk
      rcases List.mem_append.mp hk with q | q
      · obtain ⟨i, e, q⟩ := I.lt k q; exact ⟨i, e, by omega⟩
      · exact ⟨n, List.mem_singleton.mp q, by omega⟩
    · intro m h1 h2
      have old : ∀ b, bf m = some b → ((b : Int) ∈ ks ++ [(n : Int)] ↔ (b : Int) ∈ ks) := fun b e => by
        have := hb m b h1 e
        have : ¬ ((b : Int) = (n : Int)) := by omega
        simp [this]
      have eqv : (∃ b, bf m = some b ∧ (b : Int) ∈ ks ++ [(n : Int)]) ↔ ∃ b, bf m = some b ∧ (b : Int) ∈ ks := ⟨fun ⟨b, e, q⟩ => ⟨b, e, (old b e).mp q⟩, fun ⟨b, e, q⟩ => ⟨b, e, (old b e).mpr q⟩⟩
      rw [eqv]
      by_cases hm : m = n
      · subst hm; exact ⟨fun _ => h.2, fun _ => by simp⟩
      · rw [← I.iff m h1 (by omega)]
        have : ¬ ((m : Int) = (n : Int)) := by omega
        simp [this]
  · rename_i h
    refine ⟨⟨tl, ht⟩, I.srt, fun k hk => ?_, fun m h1 h2 => ?_⟩
    · obtain ⟨i, e, q⟩ := I.lt k hk; exact ⟨i, e, by omega⟩
    · by_cases hm : m = n
      · subst hm
        exact ⟨fun q => absurd q (hnot m h1 (Nat.le_refl _)), fun q => absurd ⟨h1, q⟩ h⟩
      · exact I.iff m h1 (by omega)
theorem later_loop {ws : List Str} {W : List Wd} (g : Good ws W) (hW : W.length ≤ 10000) (w : Nat) (s0 : PyData) : ∀ (us : List Wd) (n : Nat) (ks : List Int) (x3 x4 : Option PyData), (∀ i u, us[i]? = some u → W[n + i]? = some u) → n + us.length = W.length →
    LInv w n (fun m => (W[m]?).bind (·.bf)) ks → ks.length ≤ n + 1 → ∃ (ks' : List Int) (x3' x4' : Option PyData), forD (bT [3, 4]) b_later_l1 (enumF n (us.map encW)) [some s0, some (.int (w : Nat)), some (.dict (mkI ks)), x3, x4] = .nx [some s0, some (.int (w : Nat)), some (.dict (mkI ks')), x3', x4'] ∧
      LInv w W.length (fun m => (W[m]?).bind (·.bf)) ks' ∧ ks'.length ≤ W.length + 1
  | [], n, ks, x3, x4, _, h2, I, hl => ⟨ks, x3, x4, rfl, by simp at h2; rw [← h2]; exact I, by simp at h2; omega⟩
  | u :: us, n, ks, x3, x4, h1, h2, I, hl => by
    simp only [List.length_cons] at h2
    have hu : W[n]? = some u := by have := h1 0 u rfl; simpa using this
    have hb : ∀ m b, w < m → ((W[m]?).bind (·.bf)) = some b → b < m := fun m b hm e => by
      cases q : W[m]? with
      | none => rw [q] at e; cases e
      | some v =>
        rw [q] at e
        have := (g.each m v q).1.bf
        rw [if_neg (by omega)] at this
        obtain ⟨b', e1, e2⟩ := this
        have e' : v.bf = some b := e
        rw [e'] at e1; cases e1; exact e2
    have I2 := later_step I hb
    have hbn : ((W[n]?).bind (·.bf)) = u.bf := by rw [hu]; rfl
    simp only [hbn] at I2
    have unf : ∀ δ, b_later_l1 δ = ifS _ (dputS 2 (vr 3) (cst (.bool true))) skp δ := fun δ => rfl
    have nxt : ∀ i v, us[i]? = some v → W[n + 1 + i]? = some v := fun i v e => by rw [show n + 1 + i = n + (i + 1) by omega]; exact h1 (i + 1) v e
    rw [List.map_cons]
    show ∃ ks' x3' x4', forD (bT [3, 4]) _ (.tuple [.int (n : Nat), encW u] :: enumF (n + 1) (us.map encW)) _ = _ ∧ _
    rw [forD_T _ _ _ _ _ rfl, unf]
    by_cases hwn : w < n
    · have hbf := (g.each n u hu).1.bf
      rw [if_neg (by omega)] at hbf
      obtain ⟨b, eb, hbn'⟩ := hbf
      simp only [encW, eb]
      have hwn' : (w : Int) < (n : Int) := by omega
      walk_at "go"
      rw [getK_mkI]
      by_cases hin : (b : Int) ∈ ks
      · have hc : w < n ∧ ∃ b, u.bf = some b ∧ (b : Int) ∈ ks := ⟨hwn, b, eb, hin⟩
        have hni : (n : Int) ∉ ks := fun q => by
          obtain ⟨i, e, q⟩ := I.lt _ q
          omega
        rw [if_pos hc] at I2
        have hp := putK_mkI (n : Int) ks
        rw [if_neg hni] at hp
        simp only [hin, if_true, Option.isSome]
        walk_at "go"
        exact later_loop g hW w s0 us (n + 1) _ _ _ nxt (by omega) I2 (by simp; omega)
      · have hc : ¬ (w < n ∧ ∃ b, u.bf = some b ∧ (b : Int) ∈ ks) := fun ⟨_, b', e, q⟩ => hin (by rw [eb] at e; cases e; exact q)
        rw [if_neg hc] at I2
        simp only [hin, if_false, Option.isSome]
        walk_at "go"
        exact later_loop g hW w s0 us (n + 1) _ _ _ nxt (by omega) I2 (by omega)
    · have hc : ¬ (w < n ∧ ∃ b, u.bf = some b ∧ (b : Int) ∈ ks) := fun q => hwn q.1
      rw [if_neg hc] at I2
      have hwn' : ¬ (w : Int) < (n : Int) := by omega
      walk_at "go"
      exact later_loop g hW w s0 us (n + 1) _ _ _ nxt (by omega) I2 (by omega)
abbrev LOut (W : List Wd) (w : Nat) (ks : List Int) : Prop := LInv w W.length (fun m => (W[m]?).bind (·.bf)) ks ∧ ks.length ≤ W.length + 1
theorem later_ok {ws : List Str} {W : List Wd} (g : Good ws W) (hW : W.length ≤ 10000) (w : Nat) (hw : w < W.length) : ∃ ks : List Int, runF 5 b_later [.list (W.map encW), .int (w : Nat)] = .ok (.list (ks.map .int)) ∧ LOut W w ks := by
  unfold b_later
  walk_at "go"
  rw [enumL_F]
  have I0 : LInv w 0 (fun m => (W[m]?).bind (·.bf)) [(w : Int)] := ⟨⟨[], rfl⟩, by simp, fun k hk => ⟨w, List.mem_singleton.mp hk, .inl rfl⟩, fun m h1 h2 => by omega⟩
  obtain ⟨ks, x3, x4, e, I, hl⟩ := later_loop g hW w (.list (W.map encW)) W 0 [(w : Int)] none none (fun i u e => by simpa using e) (by simp) I0 (by simp)
  have e0 : mergeKD [] [((.inl (w : Int) : Key), PyData.bool true)] = mkI [(w : Int)] := rfl
  rw [e0, e]
  unfold b_later_r1
  walk_at "go"
  rw [keys_mkI]
  exact ⟨ks, rfl, I, hl⟩
abbrev IsWhole (f : Fx) : Prop := ∀ z : Int, f [.int z] = .ok (.bool true)
theorem whole_ok : IsWhole (runF 1 b__law_whole) := fun z => by
  unfold b__law_whole
  walk_at "go"
theorem inI (k : Int) (ks : List Int) : inD (.int k) (.list (ks.map .int)) = some (.bool (decide (k ∈ ks))) := by
  rw [inD_pl (Pl.int 0 k) (fun x hx => by obtain ⟨i, _, rfl⟩ := List.mem_map.mp hx; exact Pl.int 0 i) (by omega)]
  congr 2
  simp
theorem closed_l1 {f : Fx} {ks : List Int} (hs : ks.Pairwise (· < ·)) (a b c x5 : Option PyData) : ∃ x y, forD (bT [3, 4]) (b__law_closed_l1 f) (zipL (ks.dropLast.map .int) (ks.tail.map .int)) [a, b, c, none, none, x5] = .nx [a, b, c, x, y, x5] := by
  obtain ⟨x3, x4, e1⟩ := forD_chk2 (i := 3) (j := 4) (g := b__law_closed_l1 f) (by decide) (ds := zipL (ks.dropLast.map .int) (ks.tail.map .int)) (δ := [a, b, c, none, none, x5]) rfl rfl (fun d hd => by
    obtain ⟨p, hp, rfl⟩ := mem_zipL hd
    refine ⟨_, _, rfl, ?_⟩
    have hlt := zip_adj hs p hp
    unfold b__law_closed_l1
    walk_at "go")
  exact ⟨x3, x4, e1⟩
theorem closed_l2 {f : Fx} (hf : IsWhole f) {W : List Wd} {ks : List Int} (h : ∀ k ∈ ks, ∃ i : Nat, k = i ∧ i < W.length) (a c x3 x4 : Option PyData) : ∃ x, forD (bN 5) (b__law_closed_l2 f) (ks.map .int) [a, some (.list (W.map encW)), c, x3, x4, none] = .nx [a, some (.list (W.map encW)), c, x3, x4, x] := by
  obtain ⟨x5, e2⟩ := forD_chk (j := 5) (g := b__law_closed_l2 f) (ds := ks.map .int) (δ := [a, some (.list (W.map encW)), c, x3, x4, none]) rfl (fun d hd => by
    obtain ⟨k, hk, rfl⟩ := List.mem_map.mp hd
    obtain ⟨i, rfl, q⟩ := h k hk
    have hlt : ¬ ((W.length : Int) ≤ (i : Int)) := by omega
    have hh := hf (i : Int)
    unfold b__law_closed_l2
    walk_at "go")
  exact ⟨x5, e2⟩
theorem closed_l3 {f : Fx} {ws : List Str} {W : List Wd} (g : Good ws W) (w : Nat) (hw : w < W.length) (ks : List Int) (I : LInv w W.length (fun m => (W[m]?).bind (·.bf)) ks) (x3 x4 x5 : Option PyData) : ∃ x, forD (bN 5) (b__law_closed_l3 f) (rangeL ((w : Int) + 1) ((W.length : Int) - ((w : Int) + 1)).toNat) [some (.list (ks.map .int)), some (.list (W.map encW)), some (.int (w : Nat)), x3, x4, x5] = .nx [some (.list (ks.map .int)), some (.list (W.map encW)), some (.int (w : Nat)), x3, x4, x] := by
  obtain ⟨x5', e3⟩ := forD_chk (j := 5) (g := b__law_closed_l3 f) (ds := rangeL ((w : Int) + 1) ((W.length : Int) - ((w : Int) + 1)).toNat) (δ := [some (.list (ks.map .int)), some (.list (W.map encW)), some (.int (w : Nat)), x3, x4, x5]) rfl (fun d hd => by
    obtain ⟨i, hi, rfl⟩ := mem_rangeL hd
    have hm : w + 1 + i < W.length := by omega
    obtain ⟨u, hu⟩ : ∃ u, W[w + 1 + i]? = some u := ⟨W[w + 1 + i], by simp [hm]⟩
    have hbf := (g.each _ u hu).1.bf
    rw [if_neg (by omega)] at hbf
    obtain ⟨b, eb, hb⟩ := hbf
    have hiff := I.iff (w + 1 + i) (by omega) hm
    have hiff2 : ((w : Int) + 1 + (i : Int) ∈ ks) ↔ (b : Int) ∈ ks := by
      rw [show (w : Int) + 1 + (i : Int) = ((w + 1 + i : Nat) : Int) by omega, hiff, hu]
      refine ⟨fun ⟨b', e, q⟩ => ?_, fun q => ⟨b, eb, q⟩⟩
      have e' : u.bf = some b' := e
      rw [eb] at e'; cases e'; exact q
    have ei := ixM (e := encW) hu
    rw [show (((w + 1 + i : Nat)) : Int) = (w : Int) + 1 + (i : Int) by omega] at ei
    have eu : encW u = .tuple [.int (b : Nat), .list (u.ls.map .str)] := by simp [encW, eb]
    rw [eu] at ei
    clear hiff hu eu eb
    unfold b__law_closed_l3
    walk_at "ev"
    rw [ei]
    walk_at "ev"
    rw [inI, inI]
    walk_at "ev"
    by_cases hin : (b : Int) ∈ ks
    · simp only [hin, hiff2.mpr hin, decide_true]
      have : neD (.bool true) (.bool true) = some (.bool false) := rfl
      rw [this]
      walk_at "ev"
    · have hn : ¬ ((w : Int) + 1 + (i : Int) ∈ ks) := fun q => hin (hiff2.mp q)
      simp only [hin, hn, decide_false]
      have : neD (.bool false) (.bool false) = some (.bool false) := rfl
      rw [this]
      walk_at "ev")
  exact ⟨x5', e3⟩
theorem closed_ok {f : Fx} (hf : IsWhole f) {ws : List Str} {W : List Wd} (g : Good ws W) (hW : W.length ≤ 10000) (w : Nat) (hw : w < W.length) (ks : List Int) (L : LOut W w ks) : runF 6 (b__law_closed f) [.list (ks.map .int), .list (W.map encW), .int (w : Nat)] = .ok (.bool true) := by
  obtain ⟨I, hl⟩ := L
  have hkl : ∀ k ∈ ks, ∃ i : Nat, k = i ∧ i < W.length := fun k hk => by
    obtain ⟨i, e, q⟩ := I.lt k hk
    exact ⟨i, e, q.elim (fun z => z ▸ hw) id⟩
  have en : eqD (.list (ks.map .int)) (.list []) = some (.bool false) := by obtain ⟨tl, ht⟩ := I.hd; rw [eq_nil (Pl.ints ks).sh (by omega) (by omega), ht]; rfl
  have e0 : ixD (.list (ks.map .int)) (.int 0) = some (.int (w : Nat)) := by obtain ⟨tl, ht⟩ := I.hd; have := ixM (e := PyData.int) (xs := ks) (i := 0) (x := (w : Int)) (by rw [ht]; rfl); exact this
  unfold b__law_closed
  walk_at "go"
  unfold b__law_closed_r4
  walk_at "go"
  have ec1 : cutL (ks.map PyData.int) none (some (-1)) = ks.dropLast.map .int := by rw [cutL_init, List.map_dropLast]
  have ec2 : cutL (ks.map PyData.int) (some 1) none = ks.tail.map .int := by obtain ⟨tl, ht⟩ := I.hd; rw [ht]; exact cutL_tail _ _
  rw [ec1, ec2]
  obtain ⟨x3, x4, e1⟩ := closed_l1 (f := f) I.srt (some (.list (ks.map .int))) (some (.list (W.map encW))) (some (.int (w : Nat))) none
  rw [e1]
  walk_at "ev"
  unfold b__law_closed_r3
  walk_at "ev"
  obtain ⟨x5, e2⟩ := closed_l2 hf (W := W) (ks := ks) hkl (some (.list (ks.map .int))) (some (.int (w : Nat))) x3 x4
  rw [e2]
  walk_at "ev"
  unfold b__law_closed_r2
  walk_at "ev"
  obtain ⟨x5', e3⟩ := closed_l3 (f := f) g w hw ks I x3 x4 x5
  rw [e3]
  walk_at "ev"
  unfold b__law_closed_r1
  walk_at "ev"
theorem plW {ws : List Str} {W : List Wd} (g : Good ws W) : Pl 3 (.list (W.map encW)) := Pl.list fun x hx => by
  obtain ⟨w, hw, rfl⟩ := List.mem_map.mp hx
  obtain ⟨i, hi, e⟩ := List.mem_iff_getElem.mp hw
  have gi := (g.each i w (by rw [List.getElem?_eq_getElem hi, e])).1
  refine Pl.tuple fun x hx => ?_
  rcases List.mem_cons.mp hx with rfl | hx
  · cases w.bf with
    | none => exact Pl.none _
    | some b => exact Pl.int _ _
  · rw [List.mem_singleton.mp hx]
    exact Pl.strs fun v hv => (gi.ls v hv).1.low.strOk
end Kn

namespace Kn
open PySem L2 Dl
local macro_rules | `(tactic| walk_at "ev") => `(tactic| try simp (disch := first | omega | (simp only [List.length_map, List.length_append, List.length_cons, List.length_nil, rangeL_len, mkI_len, mkW_len] <;> fail) | (simp only [List.length_map, List.length_append, List.length_cons, List.length_nil, rangeL_len, mkI_len, mkW_len]; omega)) only [ev_run, runK_rt, runK_err, ev_sq, sqK_nx, sqK_rt, sqK_bk, sqK_ct, sqK_err, ev_if, ifK_t, ifK_f, ifK_err, ev_set, setK_ok, setK_err, ev_ret, retK_ok, retK_err, ev_exp, expK_ok, expK_err, ev_skp, ev_brk, ev_cnt, ev_cst, ev_op2, ev_un1, ev_tst, asB_b, ev_andT, ev_orT, andK_t, andK_f, orK_t, orK_f, ev_notT, ev_andV, ev_orV, andW_t, andW_f, orW_t, orW_f, ev_notV, ev_isi, evs_nil, evs_cons, ev_mkT, ev_mkL, ev_cal, ev_call, ev_slc, ev_noP, ev_prt, asI_i, ev_for, forK_ok, ev_itLK, itLK_l, ev_itR, itRK_1, itRK_2, ev_itZ, itZK_l, itZK_t, ev_it1, it1K_l, ev_app, slotL_0, slotL_S, appK_ok, addD_i, addD_l, addD_s, subD_i, ltD_i, leD_i, gtD_i, geD_i, ltD_s, negD_i, isD_n, isntD_n, isNone_n, isNone_t, isNone_l, isNone_i, isNone_s, isNone_b, lenD_l, lenD_t, minD_i, maxD_i, mul_ok, mod_ok, fdiv_ok, eqD_int, eqD_str, neD_int, neD_str, ix0, ix1, ix2, ix3, vr0, vrS, R.bind_ok, R.bind_err, R.bind_bad, ofO_some, List.map_cons, List.map_nil, List.length_cons, List.length_nil, List.length_map, List.cons_append, List.nil_append, List.replicate, Nat.reduceAdd, Nat.reduceSub, List.set_cons_zero, List.set_cons_succ, lpK_nx, lpK_ct, lpK_bk, lpK_rt, lpK_err, whK_t, whK_f, sets, ev_aug, augK_ok, ev_asg, ev_mkD, evps_nil, evps_cons, pairK_s, pairK_i, listD_l, ev_lc, slD_l, slD_t, Int.cast_ofNat_Int, Int.reduceLT, Int.reduceLE, Int.reduceEq, Int.reduceAdd, Int.reduceSub, Int.reduceMul, Int.reduceNeg, Int.reduceMod, Int.reduceDiv, Int.reduceToNat, li0, li1, li2, li3, li4, str_inj, String.reduceEq, decide_false, decide_true, isiB_s, isiB_i, isiB_b, isiB_l, isiB_t, isiB_n, isiS, Bool.or_false, Bool.or_true, Bool.and_false, Bool.and_true, Bool.false_or, Bool.true_or, Bool.false_and, Bool.true_and, ev_dput, slotD_0, slotD_S, slotK_i, slotK_s, dinD_i, dinD_s, dixD_i, dixD_s, ev_keys, keysK_d, keysD_d, mkI_len, mkW_len, ev_popN, popN_ok, ev_popT, popT_ok, ev_raiseI, raiK_i, ev_raise, ev_try, tryK_nx, tryK_rt, tryK_e1, tryK_e0, fin1_nx, ev_fld, ev_tryO, tryOK_nx, tryOK_rt, tryOK_e, finO_nx, finO_rt, isD_b, ev_rev, revK_l, ev_ext, extK_ok, ev_callB, flatE_b, flatE_i, flatE_s, flatE_n, ev_extPop, ifT, ifF, ifTT, ifFT, intD_t, intD_f, cutT2, cutL_tail, inT2, inT3, tupleD_l, tupleD_t, listD_t, addD_t, lcD_nil, lcD_consT, consR_ok, forD_T2, forD_nil, wipe0, wipeS, Bool.not_true, Bool.not_false])
local macro_rules | `(tactic| walk_at "go") => `(tactic| try simp (disch := first | omega | (simp only [List.length_map, List.length_append, List.length_cons, List.length_nil, rangeL_len, mkI_len, mkW_len] <;> fail) | (simp only [List.length_map, List.length_append, List.length_cons, List.length_nil, rangeL_len, mkI_len, mkW_len]; omega)) only [ev_run, runK_rt, runK_err, ev_sq, sqK_nx, sqK_rt, sqK_bk, sqK_ct, sqK_err, ev_if, ifK_t, ifK_f, ifK_err, ev_set, setK_ok, setK_err, ev_ret, retK_ok, retK_err, ev_exp, expK_ok, expK_err, ev_skp, ev_brk, ev_cnt, ev_cst, ev_op2, ev_un1, ev_tst, asB_b, ev_andT, ev_orT, andK_t, andK_f, orK_t, orK_f, ev_notT, ev_andV, ev_orV, andW_t, andW_f, orW_t, orW_f, ev_notV, ev_isi, evs_nil, evs_cons, ev_mkT, ev_mkL, ev_cal, ev_call, ev_slc, ev_noP, ev_prt, asI_i, ev_for, forK_ok, ev_itLK, itLK_l, ev_itR, itRK_1, itRK_2, ev_itZ, itZK_l, itZK_t, ev_it1, it1K_l, ev_app, slotL_0, slotL_S, appK_ok, addD_i, addD_l, addD_s, subD_i, ltD_i, leD_i, gtD_i, geD_i, ltD_s, negD_i, isD_n, isntD_n, isNone_n, isNone_t, isNone_l, isNone_i, isNone_s, isNone_b, lenD_l, lenD_t, minD_i, maxD_i, mul_ok, mod_ok, fdiv_ok, eqD_int, eqD_str, neD_int, neD_str, ix0, ix1, ix2, ix3, vr0, vrS, R.bind_ok, R.bind_err, R.bind_bad, ofO_some, List.map_cons, List.map_nil, List.length_cons, List.length_nil, List.length_map, List.cons_append, List.nil_append, List.replicate, Nat.reduceAdd, Nat.reduceSub, List.set_cons_zero, List.set_cons_succ, lpK_nx, lpK_ct, lpK_bk, lpK_rt, lpK_err, whK_t, whK_f, sets, ev_aug, augK_ok, ev_asg, ev_mkD, evps_nil, evps_cons, pairK_s, pairK_i, listD_l, ev_lc, slD_l, slD_t, Int.cast_ofNat_Int, Int.reduceLT, Int.reduceLE, Int.reduceEq, Int.reduceAdd, Int.reduceSub, Int.reduceMul, Int.reduceNeg, Int.reduceMod, Int.reduceDiv, Int.reduceToNat, li0, li1, li2, li3, li4, str_inj, String.reduceEq, decide_false, decide_true, isiB_s, isiB_i, isiB_b, isiB_l, isiB_t, isiB_n, isiS, Bool.or_false, Bool.or_true, Bool.and_false, Bool.and_true, Bool.false_or, Bool.true_or, Bool.false_and, Bool.true_and, ev_dput, slotD_0, slotD_S, slotK_i, slotK_s, dinD_i, dinD_s, dixD_i, dixD_s, ev_keys, keysK_d, keysD_d, mkI_len, mkW_len, ev_popN, popN_ok, ev_popT, popT_ok, ev_raiseI, raiK_i, ev_raise, ev_try, tryK_nx, tryK_rt, tryK_e1, tryK_e0, fin1_nx, ev_fld, ev_tryO, tryOK_nx, tryOK_rt, tryOK_e, finO_nx, finO_rt, isD_b, ev_rev, revK_l, ev_ext, extK_ok, ev_callB, flatE_b, flatE_i, flatE_s, flatE_n, ev_extPop, ifT, ifF, ifTT, ifFT, intD_t, intD_f, cutT2, cutL_tail, inT2, inT3, tupleD_l, tupleD_t, listD_t, addD_t, lcD_nil, lcD_consT, consR_ok, forD_T2, forD_nil, wipe0, wipeS, Bool.not_true, Bool.not_false, *])
/-! ### what is known at the worlds -/
def bfW (W : List Wd) (j : Nat) : Option Nat := (W[j]?).bind (·.bf)
/-- from j back to i, by steps from k or below -/
inductive Ch (bf : Nat → Option Nat) (k i : Nat) : Nat → Prop
  | refl : Ch bf k i i
  | step {j b : Nat} : j ≤ k → bf j = some b → Ch bf k i b → Ch bf k i j
abbrev Dec (bf : Nat → Option Nat) : Prop := ∀ j b, bf j = some b → b < j
section
variable {bf : Nat → Option Nat} {k i j l : Nat}
theorem Ch.le (hd : Dec bf) (h : Ch bf k i j) : i ≤ j := by
  induction h with
  | refl => exact Nat.le_refl _
  | step _ e _ ih => have := hd _ _ e; omega
theorem Ch.trans (h : Ch bf k i j) (g : Ch bf k j l) : Ch bf k i l := by
  induction g with
  | refl => exact h
  | step q e _ ih => exact .step q e ih
theorem Ch.up {m : Nat} (h : Ch bf k i j) (q : k ≤ m) : Ch bf m i j := by
  induction h with
  | refl => exact .refl
  | step q' e _ ih => exact .step (by omega) e ih
theorem Ch.down (hd : Dec bf) {m : Nat} (h : Ch bf m i j) (q : j ≤ k) : Ch bf k i j := by
  induction h with
  | refl => exact .refl
  | step q' e _ ih => exact .step q e (ih (by have := hd _ _ e; omega))
theorem ch_succ (hd : Dec bf) : Ch bf (k + 1) i j ↔ Ch bf k i j ∨ (j = k + 1 ∧ ∃ b, bf (k + 1) = some b ∧ Ch bf k i b) := by
  constructor
  · intro h
    cases h with
    | refl => exact .inl .refl
    | @step _ b q e g =>
      have := hd _ _ e
      have g' := g.down hd (show b ≤ k by omega)
      by_cases hj : j ≤ k
      · exact .inl (.step hj e g')
      · have : j = k + 1 := by omega
        subst this
        exact .inr ⟨rfl, b, e, g'⟩
  · rintro (h | ⟨rfl, b, e, h⟩)
    · exact h.up (by omega)
    · exact .step (Nat.le_refl _) e (h.up (by omega))
end
/-- a lack goes back to the worlds before -/
def lkS (bf : Nat → Option Nat) (k : Nat) (L : List Bool) : List Bool := if L[k]? = some true then (match bf k with | some b => L.set b true | none => L) else L
def lackG (bf : Nat → Option Nat) : Nat → List Bool → List Bool
  | 0, L => L
  | k + 1, L => lackG bf k (lkS bf (k + 1) L)
theorem lkS_len (bf : Nat → Option Nat) (k : Nat) (L : List Bool) : (lkS bf k L).length = L.length := by
  unfold lkS
  split
  · split <;> simp
  · rfl
theorem lackG_len (bf : Nat → Option Nat) : ∀ (k : Nat) (L : List Bool), (lackG bf k L).length = L.length
  | 0, L => rfl
  | k + 1, L => by rw [lackG, lackG_len bf k, lkS_len]
theorem lkS_iff {bf : Nat → Option Nat} {k : Nat} {L : List Bool} (hd : Dec bf) (hk : k < L.length) (j : Nat) : (lkS bf k L)[j]? = some true ↔ L[j]? = some true ∨ (L[k]? = some true ∧ bf k = some j) := by
  unfold lkS
  split
  · rename_i h
    split
    · rename_i b e
      have hb := hd _ _ e
      by_cases hj : b = j
      · subst hj
        rw [List.getElem?_set_self (by omega)]
        exact ⟨fun _ => .inr ⟨h, e⟩, fun _ => rfl⟩
      · rw [List.getElem?_set_ne hj]
        refine ⟨.inl, fun q => q.elim id fun ⟨_, q⟩ => ?_⟩
        rw [e] at q
        exact absurd (Option.some.inj q) hj
    · rename_i e
      exact ⟨.inl, fun q => q.elim id fun ⟨_, q⟩ => by rw [e] at q; cases q⟩
  · rename_i h
    exact ⟨.inl, fun q => q.elim id fun ⟨q, _⟩ => absurd q h⟩
theorem lackG_iff {bf : Nat → Option Nat} (hd : Dec bf) : ∀ (k : Nat) (L : List Bool) (i : Nat), k < L.length ∨ k = 0 → ((lackG bf k L)[i]? = some true ↔ ∃ j, L[j]? = some true ∧ Ch bf k i j)
  | 0, L, i, _ => by
    refine ⟨fun h => ⟨i, h, .refl⟩, fun ⟨j, h, c⟩ => ?_⟩
    cases c with
    | refl => exact h
    | step q e g => have := hd _ _ e; omega
  | k + 1, L, i, hk => by
    have hk' : k + 1 < L.length := by omega
    rw [lackG, lackG_iff hd k _ i (by rw [lkS_len]; omega)]
    constructor
    · rintro ⟨j, h, c⟩
      rcases (lkS_iff hd hk' j).mp h with h | ⟨h1, h2⟩
      · exact ⟨j, h, c.up (by omega)⟩
      · exact ⟨k + 1, h1, .step (Nat.le_refl _) h2 (c.up (by omega))⟩
    · rintro ⟨j, h, c⟩
      rcases (ch_succ hd).mp c with c | ⟨rfl, b, e, c⟩
      · exact ⟨j, (lkS_iff hd hk' j).mpr (.inl h), c⟩
      · exact ⟨b, (lkS_iff hd hk' b).mpr (.inr ⟨h, e⟩), c⟩
def knL (W : List Wd) : Fm → List Bool
  | .low => W.map fun _ => false
  | .lt w => W.map fun u => decide (w ∈ u.ls)
  | .bin .both p q => List.zipWith (fun a b => a && b) (knL W p) (knL W q)
  | .bin .one p q => List.zipWith (fun a b => a || b) (knL W p) (knL W q)
  | .bin .then_ p q => (lackG (bfW W) (W.length - 1) (List.zipWith (fun a b => a && !b) (knL W p) (knL W q))).map fun b => !b
theorem knL_len (W : List Wd) : ∀ F : Fm, (knL W F).length = W.length := by
  intro F
  induction F with
  | low => simp [knL]
  | lt w => simp [knL]
  | bin k p q ihp ihq => cases k <;> simp [knL, lackG_len, ihp, ihq]
abbrev knP (W : List Wd) (F : Fm) (i : Nat) : Prop := (knL W F)[i]? = some true
/-- i, and those later -/
abbrev LtW (W : List Wd) (i j : Nat) : Prop := Ch (bfW W) (W.length - 1) i j
theorem get_or {L : List Bool} {i : Nat} (h : i < L.length) : L[i]? = some true ∨ L[i]? = some false := by
  rw [List.getElem?_eq_getElem h]
  cases L[i] <;> simp
theorem knP_lt {W : List Wd} {F : Fm} {i : Nat} (h : knP W F i) : i < W.length := by
  rcases Nat.lt_or_ge i W.length with q | q
  · exact q
  · unfold knP at h; rw [List.getElem?_eq_none (by rw [knL_len]; exact q)] at h; cases h
theorem kn_low (W : List Wd) (i : Nat) : ¬ knP W .low i := by
  intro h
  unfold knP at h
  rw [knL, List.getElem?_map] at h
  cases e : W[i]? with
  | none => rw [e] at h; cases h
  | some u => rw [e] at h; simp at h
theorem kn_lt {W : List Wd} {w : Str} {i : Nat} : knP W (.lt w) i ↔ ∃ u, W[i]? = some u ∧ w ∈ u.ls := by
  unfold knP
  rw [knL, List.getElem?_map]
  cases e : W[i]? with
  | none => simp
  | some u => simp
theorem zw_iff {f : Bool → Bool → Bool} {a b : List Bool} {i : Nat} : (List.zipWith f a b)[i]? = some true ↔ ∃ x y, a[i]? = some x ∧ b[i]? = some y ∧ f x y = true := by
  rw [List.getElem?_zipWith]
  cases a[i]? with
  | none => simp
  | some x =>
    cases b[i]? with
    | none => simp
    | some y => simp
theorem kn_both {W : List Wd} {p q : Fm} {i : Nat} : knP W (.bin .both p q) i ↔ knP W p i ∧ knP W q i := by
  unfold knP
  rw [knL, zw_iff]
  constructor
  · rintro ⟨x, y, h1, h2, h3⟩
    rw [Bool.and_eq_true] at h3
    rw [h1, h2, h3.1, h3.2]; exact ⟨rfl, rfl⟩
  · rintro ⟨h1, h2⟩; exact ⟨_, _, h1, h2, rfl⟩
theorem kn_one {W : List Wd} {p q : Fm} {i : Nat} : knP W (.bin .one p q) i ↔ knP W p i ∨ knP W q i := by
  have e : knP W (.bin .one p q) i ↔ ∃ x y, (knL W p)[i]? = some x ∧ (knL W q)[i]? = some y ∧ (x || y) = true := by
    unfold knP; rw [knL, zw_iff]
  rw [e]
  constructor
  · rintro ⟨x, y, h1, h2, h3⟩
    rw [Bool.or_eq_true] at h3
    rcases h3 with h3 | h3
    · left; unfold knP; rw [h1, h3]
    · right; unfold knP; rw [h2, h3]
  · rintro (h | h)
    · rcases get_or (L := knL W q) (i := i) (by rw [knL_len]; exact knP_lt h) with g | g
      · exact ⟨_, _, h, g, rfl⟩
      · exact ⟨_, _, h, g, rfl⟩
    · rcases get_or (L := knL W p) (i := i) (by rw [knL_len]; exact knP_lt h) with g | g
      · exact ⟨_, _, g, h, rfl⟩
      · exact ⟨_, _, g, h, rfl⟩
theorem kn_then {W : List Wd} (hd : Dec (bfW W)) {p q : Fm} {i : Nat} (hi : i < W.length) : knP W (.bin .then_ p q) i ↔ ∀ j, LtW W i j → knP W p j → knP W q j := by
  have hl : (List.zipWith (fun a b => a && !b) (knL W p) (knL W q)).length = W.length := by simp [knL_len]
  have e : knP W (.bin .then_ p q) i ↔ ¬ (lackG (bfW W) (W.length - 1) (List.zipWith (fun a b => a && !b) (knL W p) (knL W q)))[i]? = some true := by
    unfold knP
    rw [knL, List.getElem?_map]
    rcases get_or (L := lackG (bfW W) (W.length - 1) (List.zipWith (fun a b => a && !b) (knL W p) (knL W q))) (i := i) (by rw [lackG_len, hl]; exact hi) with g | g <;> rw [g] <;> simp
  rw [e, lackG_iff hd _ _ _ (by rw [hl]; omega)]
  constructor
  · intro h j c hp
    rcases get_or (L := knL W q) (i := j) (by rw [knL_len]; exact knP_lt hp) with g | g
    · exact g
    · exact absurd ⟨j, zw_iff.mpr ⟨true, false, hp, g, rfl⟩, c⟩ h
  · rintro h ⟨j, h1, c⟩
    obtain ⟨x, y, h2, h3, h4⟩ := zw_iff.mp h1
    simp only [Bool.and_eq_true, Bool.not_eq_true'] at h4
    obtain ⟨rfl, rfl⟩ := h4
    have := h j c h2
    unfold knP at this
    rw [h3] at this
    cases this
/-- worlds in order, whose letters grow -/
structure Gw (W : List Wd) : Prop where
  bf : ∀ (i : Nat) (u : Wd), W[i]? = some u → if i = 0 then u.bf = none else ∃ b, u.bf = some b ∧ b < i
  grow : ∀ (i : Nat) (w : Wd) (b : Nat) (v : Wd), W[i]? = some w → w.bf = some b → W[b]? = some v → ∀ x ∈ v.ls, x ∈ w.ls
theorem Good.gw {ws : List Str} {W : List Wd} (g : Good ws W) : Gw W := ⟨fun i u e => (g.each i u e).1.bf, g.grow⟩
theorem Gw.dec {W : List Wd} (g : Gw W) : Dec (bfW W) := fun j b h => by
  unfold bfW at h
  cases e : W[j]? with
  | none => rw [e] at h; cases h
  | some u =>
    rw [e] at h
    have h' : u.bf = some b := h
    have q := g.bf j u e
    split at q
    · rw [q] at h'; cases h'
    · obtain ⟨c, e1, e2⟩ := q
      rw [e1] at h'
      cases h'
      exact e2
/-- what is known stays known -/
theorem kn_stays {W : List Wd} (g : Gw W) : ∀ (F : Fm) {i j : Nat}, knP W F i → LtW W i j → j < W.length → knP W F j := by
  intro F
  induction F with
  | low => intro i j h; exact absurd h (kn_low W i)
  | lt w =>
    intro i j h c hj
    induction c with
    | refl => exact h
    | @step j b q e c ih =>
      have hb := g.dec _ _ e
      obtain ⟨v, h1, h2⟩ := kn_lt.mp (ih (by omega))
      unfold bfW at e
      obtain ⟨u, hu⟩ : ∃ u, W[j]? = some u := ⟨_, List.getElem?_eq_getElem hj⟩
      rw [hu] at e
      exact kn_lt.mpr ⟨u, hu, g.grow j u b v hu e h1 w h2⟩
  | bin k p q ihp ihq =>
    intro i j h c hj
    cases k with
    | both => have := kn_both.mp h; exact kn_both.mpr ⟨ihp this.1 c hj, ihq this.2 c hj⟩
    | one =>
      rcases kn_one.mp h with h | h
      · exact kn_one.mpr (.inl (ihp h c hj))
      · exact kn_one.mpr (.inr (ihq h c hj))
    | then_ => exact (kn_then g.dec hj).mpr fun l c2 hp => (kn_then g.dec (knP_lt h)).mp h l (c.trans c2) hp
/-! ### the program's -/
def bls (L : List Bool) : PyData := .list (L.map .bool)
def encZ (p : Bool × Bool) : PyData := .tuple [.bool p.1, .bool p.2]
theorem zip_bls : ∀ a b : List Bool, zipL (a.map .bool) (b.map .bool) = (a.zip b).map encZ
  | [], _ => by simp [zipL]
  | _ :: _, [] => by simp [zipL]
  | x :: a, y :: b => by
    show PyData.tuple [_, _] :: zipL (a.map .bool) (b.map .bool) = _
    rw [zip_bls a b]; rfl
theorem zip_map (h : Bool → Bool → Bool) : ∀ a b : List Bool, (a.zip b).map (fun p => PyData.bool (h p.1 p.2)) = (List.zipWith h a b).map .bool
  | [], _ => by simp
  | _ :: _, [] => by simp
  | x :: a, y :: b => by rw [List.zip_cons_cons, List.map_cons, zip_map h a b]; rfl
theorem lc_zip {i j : Nat} {f : FE} {δ : Ev} {h : Bool → Bool → Bool} {a b : List Bool} (hl : (a.zip b).length ≤ 1000000) (hf : ∀ x y, f ((δ.set i (some (.bool x))).set j (some (.bool y))) = .ok (.bool (h x y))) : lcK (bT [i, j]) yesT f δ ((a.zip b).map encZ) = .ok (bls (List.zipWith h a b)) := by
  rw [lcK_map (g := fun d => match d with | .tuple [.bool x, .bool y] => .bool (h x y) | _ => .none) (e := fun d => match d with | .tuple [x, y] => (δ.set i (some x)).set j (some y) | _ => []) (by simpa using hl) (fun d hd => ?_) (fun d hd => ?_)]
  · rw [List.map_map]
    exact congrArg (fun l => R.ok (PyData.list l)) (zip_map h a b)
  · obtain ⟨p, _, rfl⟩ := List.mem_map.mp hd
    rfl
  · obtain ⟨p, _, rfl⟩ := List.mem_map.mp hd
    exact hf p.1 p.2
end Kn

namespace Kn
open PySem L2 Dl
local macro_rules | `(tactic| walk_at "ev") => `(tactic| try simp (disch := first | omega | (simp only [List.length_map, List.length_append, List.length_cons, List.length_nil, rangeL_len, mkI_len, mkW_len] <;> fail) | (simp only [List.length_map, List.length_append, List.length_cons, List.length_nil, rangeL_len, mkI_len, mkW_len]; omega)) only [ev_run, runK_rt, runK_err, ev_sq, sqK_nx, sqK_rt, sqK_bk, sqK_ct, sqK_err, ev_if, ifK_t, ifK_f, ifK_err, ev_set, setK_ok, setK_err, ev_ret, retK_ok, retK_err, ev_exp, expK_ok, expK_err, ev_skp, ev_brk, ev_cnt, ev_cst, ev_op2, ev_un1, ev_tst, asB_b, ev_andT, ev_orT, andK_t, andK_f, orK_t, orK_f, ev_notT, ev_andV, ev_orV, andW_t, andW_f, orW_t, orW_f, ev_notV, ev_isi, evs_nil, evs_cons, ev_mkT, ev_mkL, ev_cal, ev_call, ev_slc, ev_noP, ev_prt, asI_i, ev_for, forK_ok, ev_itLK, itLK_l, ev_itR, itRK_1, itRK_2, ev_itZ, itZK_l, itZK_t, ev_it1, it1K_l, ev_app, slotL_0, slotL_S, appK_ok, addD_i, addD_l, addD_s, subD_i, ltD_i, leD_i, gtD_i, geD_i, ltD_s, negD_i, isD_n, isntD_n, isNone_n, isNone_t, isNone_l, isNone_i, isNone_s, isNone_b, lenD_l, lenD_t, minD_i, maxD_i, mul_ok, mod_ok, fdiv_ok, eqD_int, eqD_str, neD_int, neD_str, ix0, ix1, ix2, ix3, vr0, vrS, R.bind_ok, R.bind_err, R.bind_bad, ofO_some, List.map_cons, List.map_nil, List.length_cons, List.length_nil, List.length_map, List.cons_append, List.nil_append, List.replicate, Nat.reduceAdd, Nat.reduceSub, List.set_cons_zero, List.set_cons_succ, lpK_nx, lpK_ct, lpK_bk, lpK_rt, lpK_err, whK_t, whK_f, sets, ev_aug, augK_ok, ev_asg, ev_mkD, evps_nil, evps_cons, pairK_s, pairK_i, listD_l, ev_lc, slD_l, slD_t, Int.cast_ofNat_Int, Int.reduceLT, Int.reduceLE, Int.reduceEq, Int.reduceAdd, Int.reduceSub, Int.reduceMul, Int.reduceNeg, Int.reduceMod, Int.reduceDiv, Int.reduceToNat, li0, li1, li2, li3, li4, str_inj, String.reduceEq, decide_false, decide_true, isiB_s, isiB_i, isiB_b, isiB_l, isiB_t, isiB_n, isiS, Bool.or_false, Bool.or_true, Bool.and_false, Bool.and_true, Bool.false_or, Bool.true_or, Bool.false_and, Bool.true_and, ev_dput, slotD_0, slotD_S, slotK_i, slotK_s, dinD_i, dinD_s, dixD_i, dixD_s, ev_keys, keysK_d, keysD_d, mkI_len, mkW_len, ev_popN, popN_ok, ev_popT, popT_ok, ev_raiseI, raiK_i, ev_raise, ev_try, tryK_nx, tryK_rt, tryK_e1, tryK_e0, fin1_nx, ev_fld, ev_tryO, tryOK_nx, tryOK_rt, tryOK_e, finO_nx, finO_rt, isD_b, ev_rev, revK_l, ev_ext, extK_ok, ev_callB, flatE_b, flatE_i, flatE_s, flatE_n, ev_extPop, ifT, ifF, ifTT, ifFT, intD_t, intD_f, cutT2, cutL_tail, inT2, inT3, tupleD_l, tupleD_t, listD_t, addD_t, lcD_nil, lcD_consT, consR_ok, forD_T2, forD_nil, wipe0, wipeS, Bool.not_true, Bool.not_false])
local macro_rules | `(tactic| walk_at "go") => `(tactic| try simp (disch := first | omega | (simp only [List.length_map, List.length_append, List.length_cons, List.length_nil, rangeL_len, mkI_len, mkW_len] <;> fail) | (simp only [List.length_map, List.length_append, List.length_cons, List.length_nil, rangeL_len, mkI_len, mkW_len]; omega)) only [ev_run, runK_rt, runK_err, ev_sq, sqK_nx, sqK_rt, sqK_bk, sqK_ct, sqK_err, ev_if, ifK_t, ifK_f, ifK_err, ev_set, setK_ok, setK_err, ev_ret, retK_ok, retK_err, ev_exp, expK_ok, expK_err, ev_skp, ev_brk, ev_cnt, ev_cst, ev_op2, ev_un1, ev_tst, asB_b, ev_andT, ev_orT, andK_t, andK_f, orK_t, orK_f, ev_notT, ev_andV, ev_orV, andW_t, andW_f, orW_t, orW_f, ev_notV, ev_isi, evs_nil, evs_cons, ev_mkT, ev_mkL, ev_cal, ev_call, ev_slc, ev_noP, ev_prt, asI_i, ev_for, forK_ok, ev_itLK, itLK_l, ev_itR, itRK_1, itRK_2, ev_itZ, itZK_l, itZK_t, ev_it1, it1K_l, ev_app, slotL_0, slotL_S, appK_ok, addD_i, addD_l, addD_s, subD_i, ltD_i, leD_i, gtD_i, geD_i, ltD_s, negD_i, isD_n, isntD_n, isNone_n, isNone_t, isNone_l, isNone_i, isNone_s, isNone_b, lenD_l, lenD_t, minD_i, maxD_i, mul_ok, mod_ok, fdiv_ok, eqD_int, eqD_str, neD_int, neD_str, ix0, ix1, ix2, ix3, vr0, vrS, R.bind_ok, R.bind_err, R.bind_bad, ofO_some, List.map_cons, List.map_nil, List.length_cons, List.length_nil, List.length_map, List.cons_append, List.nil_append, List.replicate, Nat.reduceAdd, Nat.reduceSub, List.set_cons_zero, List.set_cons_succ, lpK_nx, lpK_ct, lpK_bk, lpK_rt, lpK_err, whK_t, whK_f, sets, ev_aug, augK_ok, ev_asg, ev_mkD, evps_nil, evps_cons, pairK_s, pairK_i, listD_l, ev_lc, slD_l, slD_t, Int.cast_ofNat_Int, Int.reduceLT, Int.reduceLE, Int.reduceEq, Int.reduceAdd, Int.reduceSub, Int.reduceMul, Int.reduceNeg, Int.reduceMod, Int.reduceDiv, Int.reduceToNat, li0, li1, li2, li3, li4, str_inj, String.reduceEq, decide_false, decide_true, isiB_s, isiB_i, isiB_b, isiB_l, isiB_t, isiB_n, isiS, Bool.or_false, Bool.or_true, Bool.and_false, Bool.and_true, Bool.false_or, Bool.true_or, Bool.false_and, Bool.true_and, ev_dput, slotD_0, slotD_S, slotK_i, slotK_s, dinD_i, dinD_s, dixD_i, dixD_s, ev_keys, keysK_d, keysD_d, mkI_len, mkW_len, ev_popN, popN_ok, ev_popT, popT_ok, ev_raiseI, raiK_i, ev_raise, ev_try, tryK_nx, tryK_rt, tryK_e1, tryK_e0, fin1_nx, ev_fld, ev_tryO, tryOK_nx, tryOK_rt, tryOK_e, finO_nx, finO_rt, isD_b, ev_rev, revK_l, ev_ext, extK_ok, ev_callB, flatE_b, flatE_i, flatE_s, flatE_n, ev_extPop, ifT, ifF, ifTT, ifFT, intD_t, intD_f, cutT2, cutL_tail, inT2, inT3, tupleD_l, tupleD_t, listD_t, addD_t, lcD_nil, lcD_consT, consR_ok, forD_T2, forD_nil, wipe0, wipeS, Bool.not_true, Bool.not_false, *])
abbrev IsLeaf (f : Fx) : Prop := ∀ (c : Int) (ws : List Str), 0 ≤ c → 1 ≤ ws.length → ∃ F : Fm, f [.int c, .list (ws.map .str)] = .ok (enc F) ∧ F.parts = 1 ∧ ∀ w ∈ F.letters, w ∈ ws
theorem leaf_ok : IsLeaf (runF 2 b__law_leaf) := by
  intro c ws h0 hw
  unfold b__law_leaf b__law_leaf_r1
  by_cases h : c % 6 = 0
  · walk_at "go"
    exact ⟨.low, rfl, rfl, by simp [Fm.letters]⟩
  · obtain ⟨w, e, hm⟩ := ixW (ws := ws) (i := c / 6 % (ws.length : Nat)) (Int.emod_nonneg _ (by omega)) (Int.emod_lt_of_pos _ (by omega))
    walk_at "go"
    exact ⟨.lt w, rfl, rfl, by simp [Fm.letters, hm]⟩
/-- levels that a statement of a size takes -/
def lvS (s : Int) : Nat := if s < 40 then (s / 2).toNat + 2 else if s ≤ 53 then 22 else if s ≤ 71 then 23 else if s ≤ 95 then 24 else if s ≤ 127 then 25 else if s ≤ 170 then 26 else if s ≤ 227 then 27 else 28
theorem lvS_le (s : Int) (h : s ≤ 303) : lvS s ≤ 28 := by unfold lvS; repeat (first | split | omega)
theorem lvS_small {s t : Int} (h : s < 40) (ht : t ≤ s - 2) (h1 : 1 ≤ t) : lvS t + 1 ≤ lvS s := by
  unfold lvS
  rw [if_pos h, if_pos (by omega)]
  omega
theorem lvS_great {s t : Int} (h : 40 ≤ s) (hs : s ≤ 303) (ht : t ≤ (s - 1) - (s - 1) / 4) (h1 : 1 ≤ t) : lvS t + 1 ≤ lvS s := by
  unfold lvS
  rw [if_neg (show ¬ s < 40 by omega)]
  repeat (first | split | omega)
structure StOk (ws : List Str) (s : Int) (F : Fm) : Prop where
  parts : (F.parts : Int) ≤ s
  lt : ∀ w ∈ F.letters, w ∈ ws
  deep : F.deep ≤ lvS s
abbrev IsSt (n : Nat) (f : Fx) : Prop := ∀ (c s : Int) (ws : List Str), 0 ≤ c → 1 ≤ s → s ≤ 303 → lvS s ≤ n → 1 ≤ ws.length → ∃ F : Fm, f [.int c, .int s, .list (ws.map .str)] = .ok (enc F) ∧ StOk ws s F
theorem st_step {l m s : Fx} {n : Nat} (hl : 1 ≤ n → IsLeaf l) (hm : 1 ≤ n → IsMix m) (hs : IsSt n s) : IsSt (n + 1) (runF 7 (b__law_statement_v2 l m s)) := by
  intro c sz ws h0 h1 h2 hn hw
  have hn1 : 2 ≤ lvS sz := by unfold lvS; repeat (first | split | omega)
  have hl := hl (by omega)
  have hm := hm (by omega)
  have hf : ∀ k, 0 ≤ mixZ c k := fun k => (mixZ_range c k).1
  unfold b__law_statement_v2 b__law_statement_v2_r3
  by_cases h3 : sz < 3
  · obtain ⟨F, e, p, q⟩ := hl (c / 5) ws (by omega) hw
    walk_at "ev"
    simp only [h3, decide_true]
    walk_at "ev"
    rw [e]
    walk_at "ev"
    exact ⟨F, rfl, by omega, q, by have := F.deep_parts; omega⟩
  · have two : ∀ (few : Int), 1 ≤ few → few ≤ sz - 2 → lvS few + 1 ≤ lvS sz → lvS (sz - 1 - few) + 1 ≤ lvS sz → ∃ F : Fm, runK (b__law_statement_v2_r1 l m s [some (.int c), some (.int sz), some (.list (ws.map .str)), some (.int (sz - 1)), some (.int few), none, none]) = .ok (enc F) ∧ StOk ws sz F := by
      intro few f1 f2 f3 f4
      unfold b__law_statement_v2_r1
      obtain ⟨A, eA, pA⟩ := hs (mixZ c 3) few ws (hf 3) f1 (by omega) (by omega) hw
      obtain ⟨B, eB, pB⟩ := hs (mixZ c 4) (sz - 1 - few) ws (hf 4) (by omega) (by omega) (by omega) hw
      have m3 := hm c 3 (by omega) (by omega)
      have m4 := hm c 4 (by omega) (by omega)
      have fin : ∀ k : Kd, StOk ws sz (.bin k A B) := fun k => by
        refine ⟨by have a := pA.parts; have b := pB.parts; simp only [Fm.parts]; omega, fun w hw => ?_, by have a := pA.deep; have b := pB.deep; simp only [Fm.deep]; omega⟩
        rcases List.mem_append.mp hw with h | h
        · exact pA.lt w h
        · exact pB.lt w h
      have h4 : c % 4 = 0 ∨ c % 4 = 1 ∨ c % 4 = 2 ∨ c % 4 = 3 := by omega
      walk_at "ev"
      rw [m3]
      walk_at "ev"
      rw [eA]
      walk_at "ev"
      rw [m4]
      walk_at "ev"
      rw [eB]
      walk_at "ev"
      rcases h4 with h | h | h | h <;> (rw [h]; walk_at "ev")
      · exact ⟨.bin .both A B, rfl, fin _⟩
      · exact ⟨.bin .one A B, rfl, fin _⟩
      · exact ⟨.bin .then_ A B, rfl, fin _⟩
      · exact ⟨.bin .then_ A B, rfl, fin _⟩
    have m2 := hm c 2 (by omega) (by omega)
    have rest : ∃ F : Fm, runK (b__law_statement_v2_r2 l m s [some (.int c), some (.int sz), some (.list (ws.map .str)), none, none, none, none]) = .ok (enc F) ∧ StOk ws sz F := by
      unfold b__law_statement_v2_r2
      have a0 := Int.emod_nonneg (mixZ c 2) (show sz - 1 - 1 ≠ 0 by omega)
      have a1 := Int.emod_lt_of_pos (mixZ c 2) (show 0 < sz - 1 - 1 by omega)
      walk_at "ev"
      rw [m2]
      walk_at "ev"
      by_cases h40 : 40 ≤ sz
      · have b0 := Int.emod_nonneg (mixZ c 2) (show (sz - 1) / 2 ≠ 0 by omega)
        have b1 := Int.emod_lt_of_pos (mixZ c 2) (show 0 < (sz - 1) / 2 by omega)
        simp only [h40, decide_true]
        walk_at "ev"
        rw [m2]
        walk_at "ev"
        generalize mixZ c 2 % ((sz - 1) / 2) = y at b0 b1
        exact two ((sz - 1) / 4 + y) (by omega) (by omega) (lvS_great h40 h2 (by omega) (by omega)) (lvS_great h40 h2 (by omega) (by omega))
      · simp only [h40, decide_false]
        walk_at "ev"
        exact two (1 + mixZ c 2 % (sz - 1 - 1)) (by omega) (by omega) (lvS_small (by omega) (by omega) (by omega)) (lvS_small (by omega) (by omega) (by omega))
    walk_at "ev"
    simp only [h3, decide_false]
    walk_at "ev"
    by_cases h40 : sz < 40
    · simp only [h40, decide_true]
      walk_at "ev"
      by_cases h4 : c / 4 % 4 = 0
      · simp only [h4, decide_true]
        walk_at "ev"
        rw [hm c 1 (by omega) (by omega)]
        walk_at "ev"
        obtain ⟨A, eA, pA⟩ := hs (mixZ c 1) (sz - 2) ws (hf 1) (by omega) (by omega) (by have := lvS_small (s := sz) (t := sz - 2) h40 (by omega) (by omega); omega) hw
        rw [eA]
        walk_at "ev"
        refine ⟨.bin .then_ A .low, rfl, by have a := pA.parts; simp only [Fm.parts]; omega, fun w hw => ?_, by have a := pA.deep; have := lvS_small (s := sz) (t := sz - 2) h40 (by omega) (by omega); simp only [Fm.deep]; omega⟩
        rcases List.mem_append.mp hw with h | h
        · exact pA.lt w h
        · cases h
      · simp only [h4, decide_false]
        walk_at "ev"
        exact rest
    · simp only [h40, decide_false]
      walk_at "ev"
      exact rest
/-! ### how many parts, by a stack -/
theorem enc_len (F : Fm) : lenD [enc F] = some (.int (match F with | .low => 1 | .lt _ => 2 | .bin _ _ _ => 3)) := by cases F <;> rfl
theorem size_loop {k : Nat} (hk : k ≤ 60) (s0 : PyData) : ∀ (fuel : Nat) (Fs : List Fm) (many : Int) (x3 : Option PyData), (Fs.map Fm.parts).sum < fuel → (∀ F ∈ Fs, Ok k F) → (Fs.map Fm.parts).sum ≤ 100000 →
    ∃ y, whD (tst (op2 neD (vr 2) (mkL []))) b__law_size_l1 fuel [some s0, some (.int many), some (.list (Fs.map enc)), x3] = .nx [some s0, some (.int (many + ((Fs.map Fm.parts).sum : Nat))), some (.list []), y]
  | 0, Fs, many, x3, h, _, _ => by omega
  | fuel + 1, Fs, many, x3, h, hF, hb => by
    have en := ne_nil (sh_encs hF) (by omega) (by omega)
    rw [ev_wh]
    rcases List.eq_nil_or_concat Fs with rfl | ⟨pre, F, rfl⟩
    · simp only [List.map_nil, List.isEmpty_nil] at en ⊢
      refine ⟨x3, ?_⟩
      walk_at "ev"
      rw [en]
      walk_at "ev"
      simp
    · rw [List.concat_eq_append] at *
      have e0 : ((pre ++ [F]).map enc).isEmpty = false := by simp
      rw [e0] at en
      have hFk := hF F (by simp)
      have hpre : ∀ G ∈ pre, Ok k G := fun G hG => hF G (by simp [hG])
      simp only [List.map_append, List.map_cons, List.map_nil, List.sum_append, List.sum_cons, List.sum_nil] at h hb ⊢
      have pl : pre.length ≤ 100000 := by
        have : pre.length ≤ (pre.map Fm.parts).sum := by
          clear en e0 h hb hF hpre hFk
          induction pre with
          | nil => simp
          | cons g gs ih => have : 1 ≤ g.parts := by cases g <;> simp only [Fm.parts] <;> omega
                            simp; omega
        omega
      simp only [List.map_append, List.map_cons, List.map_nil] at en
      walk_at "ev"
      rw [en]
      walk_at "ev"
      have unf : ∀ δ, b__law_size_l1 δ = sq (popS 2 (bN 3)) (sq (augS 1 (fun a b => a + b) (cst (.int 1))) (ifS (tst (op2 eqD (cal lenD [(vr 3)]) (cst (.int 3)))) (extS 2 (mkL [(op2 ixD (vr 3) (cst (.int 1))), (op2 ixD (vr 3) (cst (.int 2)))])) skp)) δ := fun δ => rfl
      rw [unf]
      cases F with
      | low =>
        simp only [Fm.parts] at h hb ⊢
        obtain ⟨y, e⟩ := size_loop hk s0 fuel pre (many + 1) (some (enc .low)) (by omega) hpre (by omega)
        refine ⟨y, ?_⟩
        simp only [enc] at e ⊢
        walk_at "ev"
        rw [e]
        congr 4
        simp
        omega
      | lt w =>
        simp only [Fm.parts] at h hb ⊢
        obtain ⟨y, e⟩ := size_loop hk s0 fuel pre (many + 1) (some (enc (.lt w))) (by omega) hpre (by omega)
        refine ⟨y, ?_⟩
        simp only [enc] at e ⊢
        walk_at "ev"
        rw [e]
        congr 4
        simp
        omega
      | bin kd A B =>
        simp only [Fm.parts] at h hb ⊢
        have hA : Ok k A := ⟨fun w hw => hFk.lt w (List.mem_append_left _ hw), by have := hFk.dp; simp only [Fm.deep] at this; omega⟩
        have hB : Ok k B := ⟨fun w hw => hFk.lt w (List.mem_append_right _ hw), by have := hFk.dp; simp only [Fm.deep] at this; omega⟩
        obtain ⟨y, e⟩ := size_loop hk s0 fuel (pre ++ [A, B]) (many + 1) (some (enc (.bin kd A B))) (by simp; omega) (fun G hG => by
          rcases List.mem_append.mp hG with q | q
          · exact hpre G q
          · simp at q; rcases q with rfl | rfl <;> assumption) (by simp; omega)
        refine ⟨y, ?_⟩
        have ee : enc (.bin kd A B) = .tuple [.str kd.str, enc A, enc B] := rfl
        simp only [List.map_append, List.map_cons, List.map_nil, ee] at e ⊢
        walk_at "ev"
        rw [e]
        congr 4
        simp
        omega
abbrev IsSize (f : Fx) : Prop := ∀ F : Fm, Ok 60 F → F.parts ≤ 100000 → f [enc F] = .ok (.int (F.parts : Nat))
theorem size_ok : IsSize (runF 4 b__law_size) := by
  intro F hF hp
  unfold b__law_size
  walk_at "ev"
  obtain ⟨y, e⟩ := size_loop (k := 60) (by omega) (enc F) 1000000000 [F] 0 none (by simp; omega) (fun G hG => by rw [List.mem_singleton.mp hG]; exact hF) (by simp; omega)
  simp only [List.map_cons, List.map_nil] at e
  rw [e]
  unfold b__law_size_r1
  walk_at "ev"
  simp
end Kn

namespace Kn
open PySem L2 Dl
local macro_rules | `(tactic| walk_at "ev") => `(tactic| try simp (disch := first | omega | (simp only [List.length_map, List.length_append, List.length_cons, List.length_nil, rangeL_len, mkI_len, mkW_len] <;> fail) | (simp only [List.length_map, List.length_append, List.length_cons, List.length_nil, rangeL_len, mkI_len, mkW_len]; omega)) only [ev_run, runK_rt, runK_err, ev_sq, sqK_nx, sqK_rt, sqK_bk, sqK_ct, sqK_err, ev_if, ifK_t, ifK_f, ifK_err, ev_set, setK_ok, setK_err, ev_ret, retK_ok, retK_err, ev_exp, expK_ok, expK_err, ev_skp, ev_brk, ev_cnt, ev_cst, ev_op2, ev_un1, ev_tst, asB_b, ev_andT, ev_orT, andK_t, andK_f, orK_t, orK_f, ev_notT, ev_andV, ev_orV, andW_t, andW_f, orW_t, orW_f, ev_notV, ev_isi, evs_nil, evs_cons, ev_mkT, ev_mkL, ev_cal, ev_call, ev_slc, ev_noP, ev_prt, asI_i, ev_for, forK_ok, ev_itLK, itLK_l, ev_itR, itRK_1, itRK_2, ev_itZ, itZK_l, itZK_t, ev_it1, it1K_l, ev_app, slotL_0, slotL_S, appK_ok, addD_i, addD_l, addD_s, subD_i, ltD_i, leD_i, gtD_i, geD_i, ltD_s, negD_i, isD_n, isntD_n, isNone_n, isNone_t, isNone_l, isNone_i, isNone_s, isNone_b, lenD_l, lenD_t, minD_i, maxD_i, mul_ok, mod_ok, fdiv_ok, eqD_int, eqD_str, neD_int, neD_str, ix0, ix1, ix2, ix3, vr0, vrS, R.bind_ok, R.bind_err, R.bind_bad, ofO_some, List.map_cons, List.map_nil, List.length_cons, List.length_nil, List.length_map, List.cons_append, List.nil_append, List.replicate, Nat.reduceAdd, Nat.reduceSub, List.set_cons_zero, List.set_cons_succ, lpK_nx, lpK_ct, lpK_bk, lpK_rt, lpK_err, whK_t, whK_f, sets, ev_aug, augK_ok, ev_asg, ev_mkD, evps_nil, evps_cons, pairK_s, pairK_i, listD_l, ev_lc, slD_l, slD_t, Int.cast_ofNat_Int, Int.reduceLT, Int.reduceLE, Int.reduceEq, Int.reduceAdd, Int.reduceSub, Int.reduceMul, Int.reduceNeg, Int.reduceMod, Int.reduceDiv, Int.reduceToNat, li0, li1, li2, li3, li4, str_inj, String.reduceEq, decide_false, decide_true, isiB_s, isiB_i, isiB_b, isiB_l, isiB_t, isiB_n, isiS, Bool.or_false, Bool.or_true, Bool.and_false, Bool.and_true, Bool.false_or, Bool.true_or, Bool.false_and, Bool.true_and, ev_dput, slotD_0, slotD_S, slotK_i, slotK_s, dinD_i, dinD_s, dixD_i, dixD_s, ev_keys, keysK_d, keysD_d, mkI_len, mkW_len, ev_popN, popN_ok, ev_popT, popT_ok, ev_raiseI, raiK_i, ev_raise, ev_try, tryK_nx, tryK_rt, tryK_e1, tryK_e0, fin1_nx, ev_fld, ev_tryO, tryOK_nx, tryOK_rt, tryOK_e, finO_nx, finO_rt, isD_b, ev_rev, revK_l, ev_ext, extK_ok, ev_callB, flatE_b, flatE_i, flatE_s, flatE_n, ev_extPop, ifT, ifF, ifTT, ifFT, intD_t, intD_f, cutT2, cutL_tail, inT2, inT3, tupleD_l, tupleD_t, listD_t, addD_t, lcD_nil, lcD_consT, consR_ok, forD_T2, forD_nil, wipe0, wipeS, Bool.not_true, Bool.not_false])
local macro_rules | `(tactic| walk_at "go") => `(tactic| try simp (disch := first | omega | (simp only [List.length_map, List.length_append, List.length_cons, List.length_nil, rangeL_len, mkI_len, mkW_len] <;> fail) | (simp only [List.length_map, List.length_append, List.length_cons, List.length_nil, rangeL_len, mkI_len, mkW_len]; omega)) only [ev_run, runK_rt, runK_err, ev_sq, sqK_nx, sqK_rt, sqK_bk, sqK_ct, sqK_err, ev_if, ifK_t, ifK_f, ifK_err, ev_set, setK_ok, setK_err, ev_ret, retK_ok, retK_err, ev_exp, expK_ok, expK_err, ev_skp, ev_brk, ev_cnt, ev_cst, ev_op2, ev_un1, ev_tst, asB_b, ev_andT, ev_orT, andK_t, andK_f, orK_t, orK_f, ev_notT, ev_andV, ev_orV, andW_t, andW_f, orW_t, orW_f, ev_notV, ev_isi, evs_nil, evs_cons, ev_mkT, ev_mkL, ev_cal, ev_call, ev_slc, ev_noP, ev_prt, asI_i, ev_for, forK_ok, ev_itLK, itLK_l, ev_itR, itRK_1, itRK_2, ev_itZ, itZK_l, itZK_t, ev_it1, it1K_l, ev_app, slotL_0, slotL_S, appK_ok, addD_i, addD_l, addD_s, subD_i, ltD_i, leD_i, gtD_i, geD_i, ltD_s, negD_i, isD_n, isntD_n, isNone_n, isNone_t, isNone_l, isNone_i, isNone_s, isNone_b, lenD_l, lenD_t, minD_i, maxD_i, mul_ok, mod_ok, fdiv_ok, eqD_int, eqD_str, neD_int, neD_str, ix0, ix1, ix2, ix3, vr0, vrS, R.bind_ok, R.bind_err, R.bind_bad, ofO_some, List.map_cons, List.map_nil, List.length_cons, List.length_nil, List.length_map, List.cons_append, List.nil_append, List.replicate, Nat.reduceAdd, Nat.reduceSub, List.set_cons_zero, List.set_cons_succ, lpK_nx, lpK_ct, lpK_bk, lpK_rt, lpK_err, whK_t, whK_f, sets, ev_aug, augK_ok, ev_asg, ev_mkD, evps_nil, evps_cons, pairK_s, pairK_i, listD_l, ev_lc, slD_l, slD_t, Int.cast_ofNat_Int, Int.reduceLT, Int.reduceLE, Int.reduceEq, Int.reduceAdd, Int.reduceSub, Int.reduceMul, Int.reduceNeg, Int.reduceMod, Int.reduceDiv, Int.reduceToNat, li0, li1, li2, li3, li4, str_inj, String.reduceEq, decide_false, decide_true, isiB_s, isiB_i, isiB_b, isiB_l, isiB_t, isiB_n, isiS, Bool.or_false, Bool.or_true, Bool.and_false, Bool.and_true, Bool.false_or, Bool.true_or, Bool.false_and, Bool.true_and, ev_dput, slotD_0, slotD_S, slotK_i, slotK_s, dinD_i, dinD_s, dixD_i, dixD_s, ev_keys, keysK_d, keysD_d, mkI_len, mkW_len, ev_popN, popN_ok, ev_popT, popT_ok, ev_raiseI, raiK_i, ev_raise, ev_try, tryK_nx, tryK_rt, tryK_e1, tryK_e0, fin1_nx, ev_fld, ev_tryO, tryOK_nx, tryOK_rt, tryOK_e, finO_nx, finO_rt, isD_b, ev_rev, revK_l, ev_ext, extK_ok, ev_callB, flatE_b, flatE_i, flatE_s, flatE_n, ev_extPop, ifT, ifF, ifTT, ifFT, intD_t, intD_f, cutT2, cutL_tail, inT2, inT3, tupleD_l, tupleD_t, listD_t, addD_t, lcD_nil, lcD_consT, consR_ok, forD_T2, forD_nil, wipe0, wipeS, Bool.not_true, Bool.not_false, *])
def putK (i : Nat) (r rk : R PyData) (o : Option (List PyData)) (δ : Ev) : SR := match r with
  | .ok d => (match o with
    | some ds => (match rk with
      | .ok (.int z) => (match ixN ds.length z with
        | some j => .nx (δ.set i (some (.list (ds.set j d))))
        | none => .bad)
      | .ok _ => .bad
      | .err c x => .err c x δ
      | .bad => .bad)
    | none => .bad)
  | .err c x => .err c x δ
  | .bad => .bad
theorem ev_put (i : Nat) (fk f : FE) (δ : Ev) : putS i fk f δ = putK i (f δ) (fk δ) (slotL i δ) δ := by
  unfold putS exS putK
  cases f δ with
  | ok d =>
    cases slotL i δ with
    | none => rfl
    | some ds =>
      cases fk δ with
      | ok kd => cases kd <;> rfl
      | err c x => rfl
      | bad => rfl
  | err c x => rfl
  | bad => rfl
theorem ixN_nat {n b : Nat} (h : b < n) : ixN n (b : Nat) = some b := by
  unfold ixN
  rw [if_pos (by omega), if_pos (by omega)]
  simp
theorem putK_ok {i b : Nat} {d : PyData} {ds : List PyData} {δ : Ev} (h : b < ds.length) : putK i (.ok d) (.ok (.int (b : Nat))) (some ds) δ = .nx (δ.set i (some (.list (ds.set b d)))) := by
  unfold putK
  simp only
  rw [ixN_nat h]
def itDK : List PyData → R (List PyData)
  | [.int a, .int b, .int c] => if c = -1 ∧ (-(2 ^ 62) ≤ a ∧ a < 2 ^ 62) ∧ (-(2 ^ 62) ≤ b ∧ b < 2 ^ 62) then .ok (downL a (a - b).toNat) else .bad
  | _ => .bad
theorem ev_itD (fs : List FE) (δ : Ev) : itD fs δ = (evs fs δ).bind itDK := by
  unfold itD
  congr 1
theorem itDK_ok {a b : Int} (h1 : -(2 ^ 62) ≤ a ∧ a < 2 ^ 62) (h2 : -(2 ^ 62) ≤ b ∧ b < 2 ^ 62) : itDK [.int a, .int b, .int (-1)] = .ok (downL a (a - b).toNat) := if_pos ⟨rfl, h1, h2⟩
theorem downL_succ (k : Nat) : downL ((k + 1 : Nat) : Int) (k + 1) = .int ((k + 1 : Nat) : Int) :: downL (k : Nat) k := by
  unfold downL
  rw [List.range_succ_eq_map, List.map_cons, List.map_map]
  have e : ∀ (a b : PyData) (l m : List PyData), a = b → l = m → a :: l = b :: m := by rintro _ _ _ _ rfl rfl; rfl
  refine e _ _ _ _ (by simp) (List.map_congr_left fun i _ => ?_)
  simp only [Function.comp_apply]
  congr 1
  omega
theorem ix_bls {L : List Bool} {k : Nat} {b : Bool} (h : L[k]? = some b) : ixD (.list (L.map .bool)) (.int (k : Nat)) = some (.bool b) := by
  have hk : k < L.length := by
    rcases Nat.lt_or_ge k L.length with q | q
    · exact q
    · rw [List.getElem?_eq_none q] at h; cases h
  rw [ixL (j := k) rfl (by simpa using hk), List.getElem_map]
  rw [List.getElem?_eq_getElem hk] at h
  rw [Option.some.inj h]
theorem ix_wd {W : List Wd} {k : Nat} {u : Wd} (h : W[k]? = some u) : ixD (.list (W.map encW)) (.int (k : Nat)) = some (encW u) := by
  have hk : k < W.length := by
    rcases Nat.lt_or_ge k W.length with q | q
    · exact q
    · rw [List.getElem?_eq_none q] at h; cases h
  rw [ixL (j := k) rfl (by simpa using hk), List.getElem_map]
  rw [List.getElem?_eq_getElem hk] at h
  rw [Option.some.inj h]
theorem lack_loop {W : List Wd} (g : Gw W) (o1 o2 : PyData) (x4 x5 : Option PyData) : ∀ (k : Nat) (L : List Bool) (x6 : Option PyData), k < W.length ∨ k = 0 → L.length = W.length →
    ∃ x6', forD (bN 6) b_lacking_l1 (downL (k : Nat) k) [some (.list (W.map encW)), some o1, some o2, some (bls L), x4, x5, x6] = .nx [some (.list (W.map encW)), some o1, some o2, some (bls (lackG (bfW W) k L)), x4, x5, x6']
  | 0, L, x6, _, _ => ⟨x6, by simp [downL, forD_nil, lackG]⟩
  | k + 1, L, x6, hk, hl => by
    have hk' : k + 1 < W.length := by omega
    obtain ⟨u, hu⟩ : ∃ u, W[k + 1]? = some u := ⟨_, List.getElem?_eq_getElem hk'⟩
    have q := g.bf (k + 1) u hu
    rw [if_neg (by omega)] at q
    obtain ⟨b, e1, e2⟩ := q
    have ew := ix_wd hu
    have eb : bfW W (k + 1) = some b := by unfold bfW; rw [hu]; exact e1
    have e0 : ixD (encW u) (.int 0) = some (.int (b : Nat)) := by unfold encW; rw [e1]; exact ix0 _ _
    rw [downL_succ, forD_N]
    have unf : ∀ δ, b_lacking_l1 δ = ifS (tst (op2 ixD (vr 3) (vr 6))) (putS 3 (op2 ixD (op2 ixD (vr 0) (vr 6)) (cst (.int 0))) (cst (.bool true))) skp δ := fun δ => rfl
    rw [unf, lackG]
    rcases get_or (L := L) (i := k + 1) (by omega) with h | h
    · have es : lkS (bfW W) (k + 1) L = L.set b true := by unfold lkS; rw [if_pos h, eb]
      obtain ⟨x6', ih⟩ := lack_loop g o1 o2 x4 x5 k (L.set b true) (some (.int ((k + 1 : Nat) : Int))) (by omega) (by simpa using hl)
      refine ⟨x6', ?_⟩
      have ei := ix_bls h
      have em : (L.map PyData.bool).set b (.bool true) = (L.set b true).map .bool := by rw [List.map_set]
      rw [es]
      unfold bls at ih ⊢
      walk_at "ev"
      rw [ei]
      walk_at "ev"
      rw [ev_put]
      walk_at "ev"
      rw [ew]
      walk_at "ev"
      rw [e0]
      walk_at "ev"
      rw [putK_ok (by simp; omega), em]
      walk_at "ev"
      exact ih
    · have es : lkS (bfW W) (k + 1) L = L := by unfold lkS; rw [if_neg (by rw [h]; simp)]
      obtain ⟨x6', ih⟩ := lack_loop g o1 o2 x4 x5 k L (some (.int ((k + 1 : Nat) : Int))) (by omega) hl
      refine ⟨x6', ?_⟩
      have ei := ix_bls h
      rw [es]
      unfold bls at ih ⊢
      walk_at "ev"
      rw [ei]
      walk_at "ev"
      exact ih
abbrev IsLack (f : Fx) : Prop := ∀ (W : List Wd) (a b : List Bool), Gw W → 1 ≤ W.length → W.length ≤ 10000 → a.length = W.length → b.length = W.length →
  f [.list (W.map encW), bls a, bls b] = .ok (bls (lackG (bfW W) (W.length - 1) (List.zipWith (fun x y => x && !y) a b)))
theorem lacking_ok : IsLack (runF 7 b_lacking) := by
  intro W a b g h1 hW ha hb
  unfold b_lacking
  obtain ⟨x6', el⟩ := lack_loop g (bls a) (bls b) none none (W.length - 1) (List.zipWith (fun x y => x && !y) a b) none (by omega) (by simp [ha, hb])
  have et : ((W.length : Nat) : Int) - 1 - 0 = ((W.length - 1 : Nat) : Int) := by omega
  have et2 : ((W.length : Nat) : Int) - 1 = ((W.length - 1 : Nat) : Int) := by omega
  have ez : bls a = .list (a.map .bool) := rfl
  have ez2 : bls b = .list (b.map .bool) := rfl
  rw [ez, ez2] at el ⊢
  walk_at "ev"
  rw [zip_bls]
  rw [lc_zip (h := fun x y => x && !y) (by simp [ha, hb]; omega) (fun x y => by cases x <;> walk_at "go")]
  walk_at "ev"
  rw [ev_itD]
  walk_at "ev"
  rw [itDK_ok (by omega) (by omega), et, et2, Int.toNat_natCast]
  walk_at "ev"
  rw [el]
  unfold b_lacking_r1
  walk_at "ev"
abbrev IsKn (n : Nat) (f : Fx) : Prop := ∀ (W : List Wd) (F : Fm), F.deep ≤ n → Gw W → 1 ≤ W.length → W.length ≤ 10000 → (∀ u ∈ W, u.ls.length ≤ 1000000) → f [.list (W.map encW), enc F] = .ok (bls (knL W F))
theorem known_step {k l : Fx} {n : Nat} (hk : IsKn n k) (hl : IsLack l) : IsKn (n + 1) (runF 10 (b_known k l)) := by
  intro W F hd g h1 hW hu
  unfold b_known
  cases F with
  | low =>
    simp only [enc]
    walk_at "ev"
    rw [lcK_N (g := fun _ => .bool false) (by simp; omega) (fun d _ => by walk_at "ev")]
    walk_at "ev"
    simp [bls, knL, Function.comp_def]
  | lt w =>
    unfold b_known_r4
    simp only [enc]
    walk_at "ev"
    rw [lcK_map (g := fun d => match d with | .tuple [_, .list ds] => .bool (decide (PyData.str w ∈ ds)) | _ => .none) (e := fun d => match d with | .tuple [a, b] => [some (.list (W.map encW)), some (.tuple [.str "letter", .str w]), none, some a, some b, none, none, none, none, none] | _ => []) (by simp; omega) (fun d hd => ?_) (fun d hd => ?_)]
    · walk_at "ev"
      unfold bls
      rw [knL, List.map_map, List.map_map]
      congr 2
      refine List.map_congr_left fun u _ => ?_
      simp [encW]
    · obtain ⟨u, _, rfl⟩ := List.mem_map.mp hd
      rfl
    · obtain ⟨u, _, rfl⟩ := List.mem_map.mp hd
      simp only [encW]
      walk_at "ev"
      rw [in_str]
      walk_at "ev"
      simp
  | bin kd p q =>
    simp only [Fm.deep] at hd
    have ep := hk W p (by omega) g h1 hW hu
    have eq := hk W q (by omega) g h1 hW hu
    have lp := knL_len W p
    have lq := knL_len W q
    have bz : ∀ L : List Bool, bls L = .list (L.map .bool) := fun _ => rfl
    clear hk
    unfold b_known_r4 b_known_r3 b_known_r2 b_known_r1
    cases kd with
    | both =>
      have ee : enc (.bin .both p q) = .tuple [.str "both", enc p, enc q] := rfl
      rw [ee]
      rw [bz] at ep eq
      walk_at "ev"
      rw [ep]
      walk_at "ev"
      rw [eq]
      walk_at "ev"
      rw [zip_bls, lc_zip (h := fun x y => x && y) (by simp [lp, lq]; omega) (fun x y => by cases x <;> walk_at "go")]
      walk_at "ev"
      rfl
    | one =>
      have ee : enc (.bin .one p q) = .tuple [.str "one", enc p, enc q] := rfl
      rw [ee]
      rw [bz] at ep eq
      walk_at "ev"
      rw [ep]
      walk_at "ev"
      rw [eq]
      walk_at "ev"
      rw [zip_bls, lc_zip (h := fun x y => x || y) (by simp [lp, lq]; omega) (fun x y => by cases x <;> walk_at "go")]
      walk_at "ev"
      rfl
    | then_ =>
      have ee : enc (.bin .then_ p q) = .tuple [.str "then", enc p, enc q] := rfl
      have el := hl W (knL W p) (knL W q) g h1 hW lp lq
      have ll := lackG_len (bfW W) (W.length - 1) (List.zipWith (fun a b => a && !b) (knL W p) (knL W q))
      rw [ee]
      rw [bz (lackG _ _ _)] at el
      clear hl
      walk_at "ev"
      rw [ep]
      walk_at "ev"
      rw [eq]
      walk_at "ev"
      rw [el]
      walk_at "ev"
      rw [lcK_N (g := fun d => match d with | .bool b => .bool (!b) | _ => .none) (by rw [List.length_map, ll]; simp [lp, lq]; omega) (fun d hd => by
        obtain ⟨b, _, rfl⟩ := List.mem_map.mp hd
        walk_at "ev")]
      walk_at "ev"
      unfold bls
      rw [knL, List.map_map, List.map_map]
      rfl
end Kn

namespace Kn
open PySem L2 Dl
local macro_rules | `(tactic| walk_at "ev") => `(tactic| try simp (disch := first | omega | (simp only [List.length_map, List.length_append, List.length_cons, List.length_nil, rangeL_len, mkI_len, mkW_len] <;> fail) | (simp only [List.length_map, List.length_append, List.length_cons, List.length_nil, rangeL_len, mkI_len, mkW_len]; omega)) only [ev_run, runK_rt, runK_err, ev_sq, sqK_nx, sqK_rt, sqK_bk, sqK_ct, sqK_err, ev_if, ifK_t, ifK_f, ifK_err, ev_set, setK_ok, setK_err, ev_ret, retK_ok, retK_err, ev_exp, expK_ok, expK_err, ev_skp, ev_brk, ev_cnt, ev_cst, ev_op2, ev_un1, ev_tst, asB_b, ev_andT, ev_orT, andK_t, andK_f, orK_t, orK_f, ev_notT, ev_andV, ev_orV, andW_t, andW_f, orW_t, orW_f, ev_notV, ev_isi, evs_nil, evs_cons, ev_mkT, ev_mkL, ev_cal, ev_call, ev_slc, ev_noP, ev_prt, asI_i, ev_for, forK_ok, ev_itLK, itLK_l, ev_itR, itRK_1, itRK_2, ev_itZ, itZK_l, itZK_t, ev_it1, it1K_l, ev_app, slotL_0, slotL_S, appK_ok, addD_i, addD_l, addD_s, subD_i, ltD_i, leD_i, gtD_i, geD_i, ltD_s, negD_i, isD_n, isntD_n, isNone_n, isNone_t, isNone_l, isNone_i, isNone_s, isNone_b, lenD_l, lenD_t, minD_i, maxD_i, mul_ok, mod_ok, fdiv_ok, eqD_int, eqD_str, neD_int, neD_str, ix0, ix1, ix2, ix3, vr0, vrS, R.bind_ok, R.bind_err, R.bind_bad, ofO_some, List.map_cons, List.map_nil, List.length_cons, List.length_nil, List.length_map, List.cons_append, List.nil_append, List.replicate, Nat.reduceAdd, Nat.reduceSub, List.set_cons_zero, List.set_cons_succ, lpK_nx, lpK_ct, lpK_bk, lpK_rt, lpK_err, whK_t, whK_f, sets, ev_aug, augK_ok, ev_asg, ev_mkD, evps_nil, evps_cons, pairK_s, pairK_i, listD_l, ev_lc, slD_l, slD_t, Int.cast_ofNat_Int, Int.reduceLT, Int.reduceLE, Int.reduceEq, Int.reduceAdd, Int.reduceSub, Int.reduceMul, Int.reduceNeg, Int.reduceMod, Int.reduceDiv, Int.reduceToNat, li0, li1, li2, li3, li4, str_inj, String.reduceEq, decide_false, decide_true, isiB_s, isiB_i, isiB_b, isiB_l, isiB_t, isiB_n, isiS, Bool.or_false, Bool.or_true, Bool.and_false, Bool.and_true, Bool.false_or, Bool.true_or, Bool.false_and, Bool.true_and, ev_dput, slotD_0, slotD_S, slotK_i, slotK_s, dinD_i, dinD_s, dixD_i, dixD_s, ev_keys, keysK_d, keysD_d, mkI_len, mkW_len, ev_popN, popN_ok, ev_popT, popT_ok, ev_raiseI, raiK_i, ev_raise, ev_try, tryK_nx, tryK_rt, tryK_e1, tryK_e0, fin1_nx, ev_fld, ev_tryO, tryOK_nx, tryOK_rt, tryOK_e, finO_nx, finO_rt, isD_b, ev_rev, revK_l, ev_ext, extK_ok, ev_callB, flatE_b, flatE_i, flatE_s, flatE_n, ev_extPop, ifT, ifF, ifTT, ifFT, intD_t, intD_f, cutT2, cutL_tail, inT2, inT3, tupleD_l, tupleD_t, listD_t, addD_t, lcD_nil, lcD_consT, consR_ok, forD_T2, forD_nil, wipe0, wipeS, Bool.not_true, Bool.not_false])
local macro_rules | `(tactic| walk_at "go") => `(tactic| try simp (disch := first | omega | (simp only [List.length_map, List.length_append, List.length_cons, List.length_nil, rangeL_len, mkI_len, mkW_len] <;> fail) | (simp only [List.length_map, List.length_append, List.length_cons, List.length_nil, rangeL_len, mkI_len, mkW_len]; omega)) only [ev_run, runK_rt, runK_err, ev_sq, sqK_nx, sqK_rt, sqK_bk, sqK_ct, sqK_err, ev_if, ifK_t, ifK_f, ifK_err, ev_set, setK_ok, setK_err, ev_ret, retK_ok, retK_err, ev_exp, expK_ok, expK_err, ev_skp, ev_brk, ev_cnt, ev_cst, ev_op2, ev_un1, ev_tst, asB_b, ev_andT, ev_orT, andK_t, andK_f, orK_t, orK_f, ev_notT, ev_andV, ev_orV, andW_t, andW_f, orW_t, orW_f, ev_notV, ev_isi, evs_nil, evs_cons, ev_mkT, ev_mkL, ev_cal, ev_call, ev_slc, ev_noP, ev_prt, asI_i, ev_for, forK_ok, ev_itLK, itLK_l, ev_itR, itRK_1, itRK_2, ev_itZ, itZK_l, itZK_t, ev_it1, it1K_l, ev_app, slotL_0, slotL_S, appK_ok, addD_i, addD_l, addD_s, subD_i, ltD_i, leD_i, gtD_i, geD_i, ltD_s, negD_i, isD_n, isntD_n, isNone_n, isNone_t, isNone_l, isNone_i, isNone_s, isNone_b, lenD_l, lenD_t, minD_i, maxD_i, mul_ok, mod_ok, fdiv_ok, eqD_int, eqD_str, neD_int, neD_str, ix0, ix1, ix2, ix3, vr0, vrS, R.bind_ok, R.bind_err, R.bind_bad, ofO_some, List.map_cons, List.map_nil, List.length_cons, List.length_nil, List.length_map, List.cons_append, List.nil_append, List.replicate, Nat.reduceAdd, Nat.reduceSub, List.set_cons_zero, List.set_cons_succ, lpK_nx, lpK_ct, lpK_bk, lpK_rt, lpK_err, whK_t, whK_f, sets, ev_aug, augK_ok, ev_asg, ev_mkD, evps_nil, evps_cons, pairK_s, pairK_i, listD_l, ev_lc, slD_l, slD_t, Int.cast_ofNat_Int, Int.reduceLT, Int.reduceLE, Int.reduceEq, Int.reduceAdd, Int.reduceSub, Int.reduceMul, Int.reduceNeg, Int.reduceMod, Int.reduceDiv, Int.reduceToNat, li0, li1, li2, li3, li4, str_inj, String.reduceEq, decide_false, decide_true, isiB_s, isiB_i, isiB_b, isiB_l, isiB_t, isiB_n, isiS, Bool.or_false, Bool.or_true, Bool.and_false, Bool.and_true, Bool.false_or, Bool.true_or, Bool.false_and, Bool.true_and, ev_dput, slotD_0, slotD_S, slotK_i, slotK_s, dinD_i, dinD_s, dixD_i, dixD_s, ev_keys, keysK_d, keysD_d, mkI_len, mkW_len, ev_popN, popN_ok, ev_popT, popT_ok, ev_raiseI, raiK_i, ev_raise, ev_try, tryK_nx, tryK_rt, tryK_e1, tryK_e0, fin1_nx, ev_fld, ev_tryO, tryOK_nx, tryOK_rt, tryOK_e, finO_nx, finO_rt, isD_b, ev_rev, revK_l, ev_ext, extK_ok, ev_callB, flatE_b, flatE_i, flatE_s, flatE_n, ev_extPop, ifT, ifF, ifTT, ifFT, intD_t, intD_f, cutT2, cutL_tail, inT2, inT3, tupleD_l, tupleD_t, listD_t, addD_t, lcD_nil, lcD_consT, consR_ok, forD_T2, forD_nil, wipe0, wipeS, Bool.not_true, Bool.not_false, *])
/-! ### a world and its later ones alone -/
/-- rising numbers, closed: the first one, and those later whose before is in it -/
structure Clo (W : List Wd) (w : Nat) (S : List Nat) : Prop where
  hd : S[0]? = some w
  srt : S.Pairwise (· < ·)
  lt : ∀ m ∈ S, m < W.length
  cl : ∀ m ∈ S, m = w ∨ ∃ b, bfW W m = some b ∧ b ∈ S
  up : ∀ n b, w < n → n < W.length → bfW W n = some b → b ∈ S → n ∈ S
theorem srt_get {S : List Nat} (h : S.Pairwise (· < ·)) {i j a b : Nat} (hi : S[i]? = some a) (hj : S[j]? = some b) : (i < j ↔ a < b) ∧ (i = j ↔ a = b) := by
  have key : ∀ {i j a b : Nat}, S[i]? = some a → S[j]? = some b → i < j → a < b := by
    intro i j a b hi hj hij
    obtain ⟨h1, e1⟩ := List.getElem?_eq_some_iff.mp hi
    obtain ⟨h2, e2⟩ := List.getElem?_eq_some_iff.mp hj
    have := List.pairwise_iff_getElem.mp h i j h1 h2 hij
    omega
  rcases Nat.lt_trichotomy i j with q | q | q
  · have := key hi hj q; omega
  · subst q; rw [hi] at hj; cases hj; omega
  · have := key hj hi q; omega
/-- the place of a number -/
def ixS (S : List Nat) (b : Nat) : Option Nat := S.findIdx? (fun z => decide (z = b))
theorem ixS_get {S : List Nat} (h : S.Pairwise (· < ·)) {b l : Nat} (hl : S[l]? = some b) : ixS S b = some l := by
  unfold ixS
  rw [List.findIdx?_eq_some_iff_getElem]
  obtain ⟨h1, e1⟩ := List.getElem?_eq_some_iff.mp hl
  refine ⟨h1, by simp [e1], fun j hj => ?_⟩
  have := (srt_get h (List.getElem?_eq_getElem (by omega : j < S.length)) hl).1.mp hj
  simp; omega
/-- the worlds alone -/
def alW (W : List Wd) (w : Nat) (S : List Nat) : List Wd := S.map fun m => ⟨if m = w then none else (bfW W m).bind (ixS S), (W[m]?.map (·.ls)).getD []⟩
theorem alW_get {W : List Wd} {w : Nat} {S : List Nat} {k m : Nat} (h : S[k]? = some m) : (alW W w S)[k]? = some ⟨if m = w then none else (bfW W m).bind (ixS S), (W[m]?.map (·.ls)).getD []⟩ := by
  unfold alW
  rw [List.getElem?_map, h]; rfl
theorem alW_len (W : List Wd) (w : Nat) (S : List Nat) : (alW W w S).length = S.length := by simp [alW]
section
variable {W : List Wd} {w : Nat} {S : List Nat}
theorem Clo.get0 (c : Clo W w S) {k m : Nat} (h : S[k]? = some m) : (k = 0 ↔ m = w) ∧ w ≤ m := by
  have := srt_get c.srt c.hd h
  omega
theorem Clo.bfv (c : Clo W w S) (g : Gw W) {k m : Nat} (h : S[k]? = some m) : (k = 0 ∧ bfW (alW W w S) k = none) ∨ ∃ b l, bfW W m = some b ∧ S[l]? = some b ∧ l < k ∧ bfW (alW W w S) k = some l := by
  have hm := List.mem_of_getElem? h
  have e : bfW (alW W w S) k = if m = w then none else (bfW W m).bind (ixS S) := by
    unfold bfW
    rw [alW_get h]; rfl
  by_cases hk : k = 0
  · left
    have := (c.get0 h).1.mp hk
    rw [e, if_pos this]
    exact ⟨hk, rfl⟩
  · right
    have hmw : ¬ m = w := fun q => hk ((c.get0 h).1.mpr q)
    rcases c.cl m hm with q | ⟨b, hb, hbS⟩
    · exact absurd q hmw
    · obtain ⟨l, hl, e1⟩ := List.mem_iff_getElem.mp hbS
      have hl' : S[l]? = some b := by rw [List.getElem?_eq_getElem hl, e1]
      have hlt := g.dec _ _ hb
      refine ⟨b, l, hb, hl', (srt_get c.srt hl' h).1.mpr hlt, ?_⟩
      rw [e, if_neg hmw, hb]
      exact ixS_get c.srt hl'
theorem Clo.ch (c : Clo W w S) (g : Gw W) {k l m n : Nat} (hk : S[k]? = some m) (hl : S[l]? = some n) : LtW (alW W w S) k l ↔ LtW W m n := by
  constructor
  · intro h
    induction h generalizing n with
    | refl => rw [hk] at hl; cases hl; exact .refl
    | @step j b q e _ ih =>
      rcases c.bfv g hl with ⟨_, e2⟩ | ⟨b2, l2, e2, e3, e4, e5⟩
      · rw [e2] at e; cases e
      · rw [e5] at e; cases e
        exact .step (by have := c.lt n (List.mem_of_getElem? hl); omega) e2 (ih e3)
  · intro h
    induction h generalizing l with
    | refl =>
      have := (srt_get c.srt hk hl).2.mpr rfl
      subst this; exact .refl
    | @step j b q e ch ih =>
      rcases c.bfv g hl with ⟨e1, _⟩ | ⟨b2, l2, e2, e3, e4, e5⟩
      · have h1 := (c.get0 hl).1.mp e1
        have h2 := (c.get0 hk).2
        have h3 := ch.le g.dec
        have h4 := g.dec _ _ e
        omega
      · rw [e2] at e; cases e
        exact .step (by
          have : l < S.length := by obtain ⟨h1, _⟩ := List.getElem?_eq_some_iff.mp hl; exact h1
          rw [alW_len]; omega) e5 (ih e3)
theorem Clo.gw (c : Clo W w S) (g : Gw W) : Gw (alW W w S) := by
  have key : ∀ (k : Nat) (u : Wd), (alW W w S)[k]? = some u → ∃ m, S[k]? = some m ∧ u = ⟨if m = w then none else (bfW W m).bind (ixS S), (W[m]?.map (·.ls)).getD []⟩ := by
    intro k u e
    cases h : S[k]? with
    | none => unfold alW at e; rw [List.getElem?_map, h] at e; cases e
    | some m => rw [alW_get h] at e; exact ⟨m, rfl, (Option.some.inj e).symm⟩
  refine ⟨fun k u e => ?_, fun k u b v e hb ev x hx => ?_⟩
  · obtain ⟨m, hm, rfl⟩ := key k u e
    have eb : bfW (alW W w S) k = if m = w then none else (bfW W m).bind (ixS S) := by unfold bfW; rw [alW_get hm]; rfl
    rcases c.bfv g hm with ⟨e1, e2⟩ | ⟨b, l, _, _, e4, e5⟩
    · rw [if_pos e1]; exact eb ▸ e2
    · rw [if_neg (by omega)]
      exact ⟨l, eb ▸ e5, e4⟩
  · obtain ⟨m, hm, rfl⟩ := key k u e
    obtain ⟨n, hn, rfl⟩ := key b v ev
    have eb : bfW (alW W w S) k = if m = w then none else (bfW W m).bind (ixS S) := by unfold bfW; rw [alW_get hm]; rfl
    rcases c.bfv g hm with ⟨_, e2⟩ | ⟨b2, l, e1, e3, e4, e5⟩
    · rw [eb] at e2
      have hb' : (if m = w then none else (bfW W m).bind (ixS S)) = some b := hb
      rw [e2] at hb'; cases hb'
    · rw [eb] at e5
      have hb' : (if m = w then none else (bfW W m).bind (ixS S)) = some b := hb
      rw [e5] at hb'; cases hb'
      rw [hn] at e3; cases e3
      have hml := c.lt m (List.mem_of_getElem? hm)
      have hnl := c.lt n (List.mem_of_getElem? hn)
      obtain ⟨um, hum⟩ : ∃ u, W[m]? = some u := ⟨_, List.getElem?_eq_getElem hml⟩
      obtain ⟨un, hun⟩ : ∃ u, W[n]? = some u := ⟨_, List.getElem?_eq_getElem hnl⟩
      simp only [hun, Option.map_some, Option.getD_some] at hx
      simp only [hum, Option.map_some, Option.getD_some]
      unfold bfW at e1
      rw [hum] at e1
      exact g.grow m um n un hum e1 hun x hx
/-- what is known alone is what is known among all -/
theorem Clo.kn (c : Clo W w S) (g : Gw W) : ∀ (F : Fm) {k m : Nat}, S[k]? = some m → (knP (alW W w S) F k ↔ knP W F m) := by
  intro F
  induction F with
  | low => intro k m _; exact ⟨fun h => absurd h (kn_low _ _), fun h => absurd h (kn_low _ _)⟩
  | lt x =>
    intro k m h
    have hml := c.lt m (List.mem_of_getElem? h)
    obtain ⟨um, hum⟩ : ∃ u, W[m]? = some u := ⟨_, List.getElem?_eq_getElem hml⟩
    rw [kn_lt, kn_lt, alW_get h, hum]
    simp
  | bin kd p q ihp ihq =>
    intro k m h
    have hml := c.lt m (List.mem_of_getElem? h)
    have hkl : k < (alW W w S).length := by rw [alW_len]; obtain ⟨h1, _⟩ := List.getElem?_eq_some_iff.mp h; exact h1
    cases kd with
    | both => rw [kn_both, kn_both, ihp h, ihq h]
    | one => rw [kn_one, kn_one, ihp h, ihq h]
    | then_ =>
      rw [kn_then (c.gw g).dec hkl, kn_then g.dec hml]
      constructor
      · intro H n ch hp
        -- n is in S
        have hn : n ∈ S := by
          have hnl := knP_lt hp
          have hmS := List.mem_of_getElem? h
          have hwm := (c.get0 h).2
          clear hp
          induction ch with
          | refl => exact hmS
          | step q e ch ih =>
            have h1 := g.dec _ _ e
            have h2 := ch.le g.dec
            exact c.up _ _ (by omega) hnl e (ih (by omega))
        obtain ⟨l, hl, e1⟩ := List.mem_iff_getElem.mp hn
        have hl' : S[l]? = some n := by rw [List.getElem?_eq_getElem hl, e1]
        exact (ihq hl').mp (H l ((c.ch g h hl').mpr ch) ((ihp hl').mpr hp))
      · intro H l ch hp
        have hll := knP_lt hp
        rw [alW_len] at hll
        have hl' : S[l]? = some S[l] := List.getElem?_eq_getElem hll
        exact (ihq hl').mpr (H _ ((c.ch g h hl').mp ch) ((ihp hl').mp hp))
end
end Kn

namespace Kn
open PySem L2 Dl
local macro_rules | `(tactic| walk_at "ev") => `(tactic| try simp (disch := first | omega | (simp only [List.length_map, List.length_append, List.length_cons, List.length_nil, rangeL_len, mkI_len, mkW_len] <;> fail) | (simp only [List.length_map, List.length_append, List.length_cons, List.length_nil, rangeL_len, mkI_len, mkW_len]; omega)) only [ev_run, runK_rt, runK_err, ev_sq, sqK_nx, sqK_rt, sqK_bk, sqK_ct, sqK_err, ev_if, ifK_t, ifK_f, ifK_err, ev_set, setK_ok, setK_err, ev_ret, retK_ok, retK_err, ev_exp, expK_ok, expK_err, ev_skp, ev_brk, ev_cnt, ev_cst, ev_op2, ev_un1, ev_tst, asB_b, ev_andT, ev_orT, andK_t, andK_f, orK_t, orK_f, ev_notT, ev_andV, ev_orV, andW_t, andW_f, orW_t, orW_f, ev_notV, ev_isi, evs_nil, evs_cons, ev_mkT, ev_mkL, ev_cal, ev_call, ev_slc, ev_noP, ev_prt, asI_i, ev_for, forK_ok, ev_itLK, itLK_l, ev_itR, itRK_1, itRK_2, ev_itZ, itZK_l, itZK_t, ev_it1, it1K_l, ev_app, slotL_0, slotL_S, appK_ok, addD_i, addD_l, addD_s, subD_i, ltD_i, leD_i, gtD_i, geD_i, ltD_s, negD_i, isD_n, isntD_n, isNone_n, isNone_t, isNone_l, isNone_i, isNone_s, isNone_b, lenD_l, lenD_t, minD_i, maxD_i, mul_ok, mod_ok, fdiv_ok, eqD_int, eqD_str, neD_int, neD_str, ix0, ix1, ix2, ix3, vr0, vrS, R.bind_ok, R.bind_err, R.bind_bad, ofO_some, List.map_cons, List.map_nil, List.length_cons, List.length_nil, List.length_map, List.cons_append, List.nil_append, List.replicate, Nat.reduceAdd, Nat.reduceSub, List.set_cons_zero, List.set_cons_succ, lpK_nx, lpK_ct, lpK_bk, lpK_rt, lpK_err, whK_t, whK_f, sets, ev_aug, augK_ok, ev_asg, ev_mkD, evps_nil, evps_cons, pairK_s, pairK_i, listD_l, ev_lc, slD_l, slD_t, Int.cast_ofNat_Int, Int.reduceLT, Int.reduceLE, Int.reduceEq, Int.reduceAdd, Int.reduceSub, Int.reduceMul, Int.reduceNeg, Int.reduceMod, Int.reduceDiv, Int.reduceToNat, li0, li1, li2, li3, li4, str_inj, String.reduceEq, decide_false, decide_true, isiB_s, isiB_i, isiB_b, isiB_l, isiB_t, isiB_n, isiS, Bool.or_false, Bool.or_true, Bool.and_false, Bool.and_true, Bool.false_or, Bool.true_or, Bool.false_and, Bool.true_and, ev_dput, slotD_0, slotD_S, slotK_i, slotK_s, dinD_i, dinD_s, dixD_i, dixD_s, ev_keys, keysK_d, keysD_d, mkI_len, mkW_len, ev_popN, popN_ok, ev_popT, popT_ok, ev_raiseI, raiK_i, ev_raise, ev_try, tryK_nx, tryK_rt, tryK_e1, tryK_e0, fin1_nx, ev_fld, ev_tryO, tryOK_nx, tryOK_rt, tryOK_e, finO_nx, finO_rt, isD_b, ev_rev, revK_l, ev_ext, extK_ok, ev_callB, flatE_b, flatE_i, flatE_s, flatE_n, ev_extPop, ifT, ifF, ifTT, ifFT, intD_t, intD_f, cutT2, cutL_tail, inT2, inT3, tupleD_l, tupleD_t, listD_t, addD_t, lcD_nil, lcD_consT, consR_ok, forD_T2, forD_nil, wipe0, wipeS, Bool.not_true, Bool.not_false])
local macro_rules | `(tactic| walk_at "go") => `(tactic| try simp (disch := first | omega | (simp only [List.length_map, List.length_append, List.length_cons, List.length_nil, rangeL_len, mkI_len, mkW_len] <;> fail) | (simp only [List.length_map, List.length_append, List.length_cons, List.length_nil, rangeL_len, mkI_len, mkW_len]; omega)) only [ev_run, runK_rt, runK_err, ev_sq, sqK_nx, sqK_rt, sqK_bk, sqK_ct, sqK_err, ev_if, ifK_t, ifK_f, ifK_err, ev_set, setK_ok, setK_err, ev_ret, retK_ok, retK_err, ev_exp, expK_ok, expK_err, ev_skp, ev_brk, ev_cnt, ev_cst, ev_op2, ev_un1, ev_tst, asB_b, ev_andT, ev_orT, andK_t, andK_f, orK_t, orK_f, ev_notT, ev_andV, ev_orV, andW_t, andW_f, orW_t, orW_f, ev_notV, ev_isi, evs_nil, evs_cons, ev_mkT, ev_mkL, ev_cal, ev_call, ev_slc, ev_noP, ev_prt, asI_i, ev_for, forK_ok, ev_itLK, itLK_l, ev_itR, itRK_1, itRK_2, ev_itZ, itZK_l, itZK_t, ev_it1, it1K_l, ev_app, slotL_0, slotL_S, appK_ok, addD_i, addD_l, addD_s, subD_i, ltD_i, leD_i, gtD_i, geD_i, ltD_s, negD_i, isD_n, isntD_n, isNone_n, isNone_t, isNone_l, isNone_i, isNone_s, isNone_b, lenD_l, lenD_t, minD_i, maxD_i, mul_ok, mod_ok, fdiv_ok, eqD_int, eqD_str, neD_int, neD_str, ix0, ix1, ix2, ix3, vr0, vrS, R.bind_ok, R.bind_err, R.bind_bad, ofO_some, List.map_cons, List.map_nil, List.length_cons, List.length_nil, List.length_map, List.cons_append, List.nil_append, List.replicate, Nat.reduceAdd, Nat.reduceSub, List.set_cons_zero, List.set_cons_succ, lpK_nx, lpK_ct, lpK_bk, lpK_rt, lpK_err, whK_t, whK_f, sets, ev_aug, augK_ok, ev_asg, ev_mkD, evps_nil, evps_cons, pairK_s, pairK_i, listD_l, ev_lc, slD_l, slD_t, Int.cast_ofNat_Int, Int.reduceLT, Int.reduceLE, Int.reduceEq, Int.reduceAdd, Int.reduceSub, Int.reduceMul, Int.reduceNeg, Int.reduceMod, Int.reduceDiv, Int.reduceToNat, li0, li1, li2, li3, li4, str_inj, String.reduceEq, decide_false, decide_true, isiB_s, isiB_i, isiB_b, isiB_l, isiB_t, isiB_n, isiS, Bool.or_false, Bool.or_true, Bool.and_false, Bool.and_true, Bool.false_or, Bool.true_or, Bool.false_and, Bool.true_and, ev_dput, slotD_0, slotD_S, slotK_i, slotK_s, dinD_i, dinD_s, dixD_i, dixD_s, ev_keys, keysK_d, keysD_d, mkI_len, mkW_len, ev_popN, popN_ok, ev_popT, popT_ok, ev_raiseI, raiK_i, ev_raise, ev_try, tryK_nx, tryK_rt, tryK_e1, tryK_e0, fin1_nx, ev_fld, ev_tryO, tryOK_nx, tryOK_rt, tryOK_e, finO_nx, finO_rt, isD_b, ev_rev, revK_l, ev_ext, extK_ok, ev_callB, flatE_b, flatE_i, flatE_s, flatE_n, ev_extPop, ifT, ifF, ifTT, ifFT, intD_t, intD_f, cutT2, cutL_tail, inT2, inT3, tupleD_l, tupleD_t, listD_t, addD_t, lcD_nil, lcD_consT, consR_ok, forD_T2, forD_nil, wipe0, wipeS, Bool.not_true, Bool.not_false, *])
/-! ### law k14's own -/
def ins_ (S : List Nat) : PyData := .list (S.map fun n => .int (n : Nat))
theorem inS (b : Nat) (S : List Nat) : inD (.int (b : Nat)) (ins_ S) = some (.bool (decide (b ∈ S))) := by
  have e : ins_ S = .list ((S.map fun n => ((n : Nat) : Int)).map .int) := by unfold ins_; rw [List.map_map]; rfl
  rw [e, inI]
  congr 2
  refine decide_eq_decide.mpr ?_
  rw [List.mem_map]
  refine ⟨fun ⟨a, h, q⟩ => ?_, fun h => ⟨b, h, rfl⟩⟩
  have : a = b := by omega
  exact this ▸ h
structure PC (W : List Wd) (w n : Nat) (S : List Nat) : Prop where
  hd : S[0]? = some w
  srt : S.Pairwise (· < ·)
  lt : ∀ m ∈ S, m < n
  cl : ∀ m ∈ S, m = w ∨ ∃ b, bfW W m = some b ∧ b ∈ S
  up : ∀ m b, w < m → m < n → bfW W m = some b → b ∈ S → m ∈ S
  ln : S.length ≤ n
theorem lawlater_ok {W : List Wd} (g : Gw W) (hW : W.length ≤ 10000) (w : Nat) (hw : w < W.length) : ∃ S : List Nat, runF 4 b__law_later [.list (W.map encW), .int (w : Nat)] = .ok (ins_ S) ∧ PC W w W.length S := by
  obtain ⟨δ', el, S, x, rfl, c⟩ := forD_range (j := 3) (g := b__law_later_l1) (lo := ((w : Nat) : Int) + 1) (fun i δ => ∃ S x, δ = [some (.list (W.map encW)), some (.int (w : Nat)), some (ins_ S), x] ∧ PC W w (w + 1 + i) S) (W.length - (w + 1)) (by
    rintro i δ hi ⟨S, x, rfl, c⟩
    have en : ((w : Nat) : Int) + 1 + (i : Nat) = ((w + 1 + i : Nat) : Int) := by omega
    rw [en]
    obtain ⟨u, hu⟩ : ∃ u, W[w + 1 + i]? = some u := ⟨_, List.getElem?_eq_getElem (by omega)⟩
    have q := g.bf _ u hu
    rw [if_neg (by omega)] at q
    obtain ⟨b, e1, e2⟩ := q
    have ew := ix_wd hu
    have eb : bfW W (w + 1 + i) = some b := by unfold bfW; rw [hu]; exact e1
    have e0 : ixD (encW u) (.int 0) = some (.int (b : Nat)) := by unfold encW; rw [e1]; exact ix0 _ _
    have ei := inS b S
    have ln := c.ln
    unfold ins_ at ei ⊢
    unfold b__law_later_l1
    by_cases hb : b ∈ S
    · refine ⟨_, ?_, S ++ [w + 1 + i], some (.int ((w + 1 + i : Nat) : Int)), rfl, ?_⟩
      · rw [decide_eq_true hb] at ei
        rw [List.map_append]
        simp only [List.map_cons, List.map_nil]
        walk_at "ev"
        rw [ew]
        walk_at "ev"
        rw [e0]
        walk_at "ev"
        rw [ei]
        walk_at "ev"
      · refine ⟨by
          rw [List.getElem?_append_left (by
            rcases Nat.lt_or_ge 0 S.length with q | q
            · exact q
            · have h0 := c.hd; rw [List.getElem?_eq_none q] at h0; cases h0)]
          exact c.hd, ?_, ?_, ?_, ?_, by simp; omega⟩
        · rw [List.pairwise_append]
          exact ⟨c.srt, by simp, fun a ha b' hb' => by rw [List.mem_singleton.mp hb']; exact c.lt a ha⟩
        · intro m hm
          rcases List.mem_append.mp hm with h | h
          · have := c.lt m h; omega
          · rw [List.mem_singleton.mp h]; omega
        · intro m hm
          rcases List.mem_append.mp hm with h | h
          · rcases c.cl m h with q | ⟨b', q1, q2⟩
            · exact .inl q
            · exact .inr ⟨b', q1, List.mem_append_left _ q2⟩
          · rw [List.mem_singleton.mp h]; exact .inr ⟨b, eb, List.mem_append_left _ hb⟩
        · intro m b' h1 h2 h3 h4
          by_cases hm : m = w + 1 + i
          · rw [hm]; simp
          · refine List.mem_append_left _ (c.up m b' h1 (by omega) h3 ?_)
            rcases List.mem_append.mp h4 with h | h
            · exact h
            · have := List.mem_singleton.mp h; have := g.dec _ _ h3; omega
    · refine ⟨_, ?_, S, some (.int ((w + 1 + i : Nat) : Int)), rfl, ⟨c.hd, c.srt, fun m hm => by have := c.lt m hm; omega, c.cl, fun m b' h1 h2 h3 h4 => ?_, by omega⟩⟩
      · rw [decide_eq_false hb] at ei
        walk_at "ev"
        rw [ew]
        walk_at "ev"
        rw [e0]
        walk_at "ev"
        rw [ei]
        walk_at "ev"
      · by_cases hm : m = w + 1 + i
        · subst hm; rw [eb] at h3; cases h3; exact absurd h4 hb
        · exact c.up m b' h1 (by omega) h3 h4) [some (.list (W.map encW)), some (.int (w : Nat)), some (.list [.int (w : Nat)]), none] ⟨[w], none, rfl, ⟨rfl, by simp, fun m hm => by rw [List.mem_singleton.mp hm]; omega, fun m hm => .inl (List.mem_singleton.mp hm), fun m b h1 h2 => by omega, by simp⟩⟩
  refine ⟨S, ?_, by rwa [show w + 1 + (W.length - (w + 1)) = W.length by omega] at c⟩
  have et : (((W.length : Nat) : Int) - (((w : Nat) : Int) + 1)).toNat = W.length - (w + 1) := by omega
  unfold b__law_later b__law_later_r1
  walk_at "ev"
  rw [et, el]
  walk_at "ev"
theorem PC.clo {W : List Wd} {w : Nat} {S : List Nat} (c : PC W w W.length S) : Clo W w S := ⟨c.hd, c.srt, c.lt, c.cl, c.up⟩
theorem nil_eq : eqD (.list []) (.list []) = some (.bool true) := rfl
theorem truths_ok (L : List Bool) (n : Int) (hl : L.length ≤ 1000000) : runF 3 b__law_truths [bls L, .int n] = .ok (.bool (decide ((L.length : Int) = n))) := by
  have ez : bls L = .list (L.map .bool) := rfl
  rw [ez]
  unfold b__law_truths b__law_truths_r1
  by_cases h : ((L.length : Nat) : Int) = n
  · rw [decide_eq_true h]
    walk_at "ev"
    rw [decide_eq_true h]
    walk_at "ev"
    rw [lcK_filter (p := fun _ => false) (g := id) (e := fun d => [some (.list (L.map .bool)), some (.int n), some d]) (by simpa using hl) (fun d hd => rfl) (fun d hd => by
      obtain ⟨b, _, rfl⟩ := List.mem_map.mp hd
      walk_at "ev") (fun d hd h => by cases h)]
    have ef : ((L.map PyData.bool).filter fun _ => false) = [] := by simp
    rw [ef]
    walk_at "ev"
    rw [nil_eq]
    walk_at "ev"
  · rw [decide_eq_false h]
    walk_at "ev"
    rw [decide_eq_false h]
    walk_at "ev"
/-! ### alone -/
theorem idx_ints {S : List Nat} {b l : Nat} (h : ixS S b = some l) {fa f : FE} {δ : Ev} (h1 : fa δ = .ok (ins_ S)) (h2 : f δ = .ok (.int (b : Nat))) : idxF fa f δ = .ok (.int (l : Nat)) := by
  have e : ins_ S = .list ((S.map fun n => ((n : Nat) : Int)).map .int) := by unfold ins_; rw [List.map_map]; rfl
  have sG : SeqAt.shaped (ins_ S) = true := by rw [e]; exact (Pl.ints _).sh.shaped (by omega)
  have sF : SeqAt.shaped (.int (b : Nat)) = true := (Sh.int 1 _).shaped (by omega)
  have key : ((S.map fun n => PyData.int (n : Nat)).findIdx? fun z => PyData.eqv z (.int (b : Nat))) = some l := by
    rw [List.findIdx?_map]
    unfold ixS at h
    rw [← h]
    congr 1
    funext z
    simp only [Function.comp_apply]
    rw [eqv_i]
    exact decide_eq_decide.mpr (by omega)
  unfold idxF
  unfold ins_ at h1 sG
  simp only [h1, h2, R.bind_ok, sG, sF, key]
  rfl
def elW (W : List Wd) (w : Nat) (S : List Nat) (m : Nat) : Wd := ⟨if m = w then none else (bfW W m).bind (ixS S), (W[m]?.map (·.ls)).getD []⟩
structure Wrd (W : List Wd) : Prop where
  ok : ∀ u ∈ W, ∀ x ∈ u.ls, PyData.strOk x = true
  ln : ∀ u ∈ W, u.ls.length ≤ 1000000
theorem plL {V : List Wd} (h : ∀ u ∈ V, ∀ x ∈ u.ls, PyData.strOk x = true) : Pl 3 (.list (V.map encW)) := Pl.list fun x hx => by
  obtain ⟨w, hw, rfl⟩ := List.mem_map.mp hx
  refine Pl.tuple fun x hx => ?_
  rcases List.mem_cons.mp hx with rfl | hx
  · cases w.bf with
    | none => exact Pl.none _
    | some b => exact Pl.int _ _
  · rw [List.mem_singleton.mp hx]
    exact Pl.strs fun v hv => h w hw v hv
theorem wd_nil {V : List Wd} (h : ∀ u ∈ V, ∀ x ∈ u.ls, PyData.strOk x = true) : eqD (.list (V.map encW)) (.list []) = some (.bool V.isEmpty) := by
  rw [eqD_min (plL h).sh sh_nil (by omega), eqv_l]
  cases V with
  | nil => simp only [List.map_nil]; rw [eqvAll_n]; rfl
  | cons x xs => simp only [List.map_cons]; rw [eqvAll_cn]; rfl
theorem alone_loop {W : List Wd} (g : Gw W) (hw : Wrd W) {w : Nat} {S : List Nat} (c : Clo W w S) (hS : S.length ≤ 10000) : ∀ (r pre : List Nat) (x3 x4 x5 : Option PyData), S = pre ++ r →
    ∃ y3 y4 y5, forD (bN 3) b__law_alone_l1 (r.map fun n => .int (n : Nat)) [some (.list (W.map encW)), some (ins_ S), some (.list ((pre.map (elW W w S)).map encW)), x3, x4, x5] = .nx [some (.list (W.map encW)), some (ins_ S), some (.list ((S.map (elW W w S)).map encW)), y3, y4, y5]
  | [], pre, x3, x4, x5, e => ⟨x3, x4, x5, by rw [List.append_nil] at e; rw [← e]; simp [forD_nil]⟩
  | m :: r, pre, x3, x4, x5, e => by
    have hk : S[pre.length]? = some m := by rw [e]; simp
    have hmS := List.mem_of_getElem? hk
    obtain ⟨u, hu⟩ : ∃ u, W[m]? = some u := ⟨_, List.getElem?_eq_getElem (c.lt m hmS)⟩
    have hum := List.mem_of_getElem? hu
    have ew := ix_wd hu
    have lu := hw.ln u hum
    have hl : pre.length + (m :: r).length = S.length := by rw [e]; simp
    simp only [List.length_cons] at hl
    obtain ⟨y3, y4, y5, ih⟩ := alone_loop g hw c hS r (pre ++ [m]) (some (.int (m : Nat))) (some (match u.bf with | none => .none | some b => .int (b : Nat))) (some (.list (u.ls.map .str))) (by rw [e]; simp)
    refine ⟨y3, y4, y5, ?_⟩
    have en := wd_nil (V := pre.map (elW W w S)) (fun v hv x hx => by
      obtain ⟨n, _, rfl⟩ := List.mem_map.mp hv
      simp only [elW] at hx
      cases hn : W[n]? with
      | none => rw [hn] at hx; simp at hx
      | some v => rw [hn] at hx; exact hw.ok v (List.mem_of_getElem? hn) x hx)
    have unf : ∀ δ, b__law_alone_l1 δ = sq (asgS (bT [4, 5]) (op2 ixD (vr 0) (vr 3))) (ifS (tst (op2 eqD (vr 2) (mkL []))) (appS 2 (mkT [(cst .none), (cal listD [(vr 5)])])) (appS 2 (mkT [(idxF (vr 1) (vr 4)), (cal listD [(vr 5)])]))) δ := fun δ => rfl
    have asg : ∀ (a b : PyData) (δ : Ev), asgK (.ok (.tuple [a, b])) (bT [4, 5]) δ = .nx (sets [4, 5] [a, b] δ) := fun a b δ => asgK_T rfl
    have ls : (elW W w S m).ls = u.ls := by simp [elW, hu]
    have emp : ((pre ++ [m]).map (elW W w S)).map encW = (pre.map (elW W w S)).map encW ++ [encW (elW W w S m)] := by simp
    rw [emp] at ih
    rw [List.map_cons, forD_N, unf]
    rcases c.bfv g hk with ⟨e1, e2⟩ | ⟨b, l, e1, e3, e4, e5⟩
    · have hp : pre = [] := List.length_eq_zero_iff.mp e1
      subst hp
      have hmw := (c.get0 hk).1.mp rfl
      have eE : encW (elW W w S m) = .tuple [.none, .list (u.ls.map .str)] := by unfold encW; rw [ls]; simp [elW, hmw]
      simp only [List.map_nil, List.isEmpty_nil] at en
      rw [eE] at ih
      simp only [List.map_nil, List.nil_append] at ih ⊢
      walk_at "ev"
      rw [ew]
      walk_at "ev"
      unfold encW
      rw [asg]
      walk_at "ev"
      rw [en]
      walk_at "ev"
      exact ih
    · have hp : (pre.map (elW W w S)).isEmpty = false := by
        cases pre with
        | nil => simp at e4
        | cons a b => rfl
      rw [hp] at en
      have ub : u.bf = some b := by unfold bfW at e1; rw [hu] at e1; exact e1
      have hmw : ¬ m = w := fun q => by have := (c.get0 hk).1.mpr q; omega
      have el' : ixS S b = some l := ixS_get c.srt e3
      have eE : encW (elW W w S m) = .tuple [.int (l : Nat), .list (u.ls.map .str)] := by unfold encW; rw [ls]; simp [elW, hmw, e1, el']
      rw [eE, ub] at ih
      simp only at ih
      have eu : encW u = .tuple [.int (b : Nat), .list (u.ls.map .str)] := by unfold encW; rw [ub]
      walk_at "ev"
      rw [ew, eu]
      walk_at "ev"
      rw [asg]
      walk_at "ev"
      rw [en]
      walk_at "ev"
      rw [idx_ints el' (by walk_at "ev") (by walk_at "ev")]
      walk_at "ev"
      exact ih
theorem alone_ok {W : List Wd} (g : Gw W) (hw : Wrd W) {w : Nat} {S : List Nat} (c : Clo W w S) (hS : S.length ≤ 10000) : runF 6 b__law_alone [.list (W.map encW), ins_ S] = .ok (.list ((alW W w S).map encW)) := by
  obtain ⟨y3, y4, y5, e⟩ := alone_loop g hw c hS S [] none none none rfl
  have ei : ins_ S = .list (S.map fun n => .int (n : Nat)) := rfl
  simp only [List.map_nil] at e
  unfold b__law_alone b__law_alone_r1
  rw [ei] at e ⊢
  walk_at "ev"
  rw [e]
  walk_at "ev"
  rfl
end Kn

namespace Kn
open PySem L2 Dl
local macro_rules | `(tactic| walk_at "ev") => `(tactic| try simp (disch := first | omega | (simp only [List.length_map, List.length_append, List.length_cons, List.length_nil, rangeL_len, mkI_len, mkW_len] <;> fail) | (simp only [List.length_map, List.length_append, List.length_cons, List.length_nil, rangeL_len, mkI_len, mkW_len]; omega)) only [ev_run, runK_rt, runK_err, ev_sq, sqK_nx, sqK_rt, sqK_bk, sqK_ct, sqK_err, ev_if, ifK_t, ifK_f, ifK_err, ev_set, setK_ok, setK_err, ev_ret, retK_ok, retK_err, ev_exp, expK_ok, expK_err, ev_skp, ev_brk, ev_cnt, ev_cst, ev_op2, ev_un1, ev_tst, asB_b, ev_andT, ev_orT, andK_t, andK_f, orK_t, orK_f, ev_notT, ev_andV, ev_orV, andW_t, andW_f, orW_t, orW_f, ev_notV, ev_isi, evs_nil, evs_cons, ev_mkT, ev_mkL, ev_cal, ev_call, ev_slc, ev_noP, ev_prt, asI_i, ev_for, forK_ok, ev_itLK, itLK_l, ev_itR, itRK_1, itRK_2, ev_itZ, itZK_l, itZK_t, ev_it1, it1K_l, ev_app, slotL_0, slotL_S, appK_ok, addD_i, addD_l, addD_s, subD_i, ltD_i, leD_i, gtD_i, geD_i, ltD_s, negD_i, isD_n, isntD_n, isNone_n, isNone_t, isNone_l, isNone_i, isNone_s, isNone_b, lenD_l, lenD_t, minD_i, maxD_i, mul_ok, mod_ok, fdiv_ok, eqD_int, eqD_str, neD_int, neD_str, ix0, ix1, ix2, ix3, vr0, vrS, R.bind_ok, R.bind_err, R.bind_bad, ofO_some, List.map_cons, List.map_nil, List.length_cons, List.length_nil, List.length_map, List.cons_append, List.nil_append, List.replicate, Nat.reduceAdd, Nat.reduceSub, List.set_cons_zero, List.set_cons_succ, lpK_nx, lpK_ct, lpK_bk, lpK_rt, lpK_err, whK_t, whK_f, sets, ev_aug, augK_ok, ev_asg, ev_mkD, evps_nil, evps_cons, pairK_s, pairK_i, listD_l, ev_lc, slD_l, slD_t, Int.cast_ofNat_Int, Int.reduceLT, Int.reduceLE, Int.reduceEq, Int.reduceAdd, Int.reduceSub, Int.reduceMul, Int.reduceNeg, Int.reduceMod, Int.reduceDiv, Int.reduceToNat, li0, li1, li2, li3, li4, str_inj, String.reduceEq, decide_false, decide_true, isiB_s, isiB_i, isiB_b, isiB_l, isiB_t, isiB_n, isiS, Bool.or_false, Bool.or_true, Bool.and_false, Bool.and_true, Bool.false_or, Bool.true_or, Bool.false_and, Bool.true_and, ev_dput, slotD_0, slotD_S, slotK_i, slotK_s, dinD_i, dinD_s, dixD_i, dixD_s, ev_keys, keysK_d, keysD_d, mkI_len, mkW_len, ev_popN, popN_ok, ev_popT, popT_ok, ev_raiseI, raiK_i, ev_raise, ev_try, tryK_nx, tryK_rt, tryK_e1, tryK_e0, fin1_nx, ev_fld, ev_tryO, tryOK_nx, tryOK_rt, tryOK_e, finO_nx, finO_rt, isD_b, ev_rev, revK_l, ev_ext, extK_ok, ev_callB, flatE_b, flatE_i, flatE_s, flatE_n, ev_extPop, ifT, ifF, ifTT, ifFT, intD_t, intD_f, cutT2, cutL_tail, inT2, inT3, tupleD_l, tupleD_t, listD_t, addD_t, lcD_nil, lcD_consT, consR_ok, forD_T2, forD_nil, wipe0, wipeS, Bool.not_true, Bool.not_false])
local macro_rules | `(tactic| walk_at "go") => `(tactic| try simp (disch := first | omega | (simp only [List.length_map, List.length_append, List.length_cons, List.length_nil, rangeL_len, mkI_len, mkW_len] <;> fail) | (simp only [List.length_map, List.length_append, List.length_cons, List.length_nil, rangeL_len, mkI_len, mkW_len]; omega)) only [ev_run, runK_rt, runK_err, ev_sq, sqK_nx, sqK_rt, sqK_bk, sqK_ct, sqK_err, ev_if, ifK_t, ifK_f, ifK_err, ev_set, setK_ok, setK_err, ev_ret, retK_ok, retK_err, ev_exp, expK_ok, expK_err, ev_skp, ev_brk, ev_cnt, ev_cst, ev_op2, ev_un1, ev_tst, asB_b, ev_andT, ev_orT, andK_t, andK_f, orK_t, orK_f, ev_notT, ev_andV, ev_orV, andW_t, andW_f, orW_t, orW_f, ev_notV, ev_isi, evs_nil, evs_cons, ev_mkT, ev_mkL, ev_cal, ev_call, ev_slc, ev_noP, ev_prt, asI_i, ev_for, forK_ok, ev_itLK, itLK_l, ev_itR, itRK_1, itRK_2, ev_itZ, itZK_l, itZK_t, ev_it1, it1K_l, ev_app, slotL_0, slotL_S, appK_ok, addD_i, addD_l, addD_s, subD_i, ltD_i, leD_i, gtD_i, geD_i, ltD_s, negD_i, isD_n, isntD_n, isNone_n, isNone_t, isNone_l, isNone_i, isNone_s, isNone_b, lenD_l, lenD_t, minD_i, maxD_i, mul_ok, mod_ok, fdiv_ok, eqD_int, eqD_str, neD_int, neD_str, ix0, ix1, ix2, ix3, vr0, vrS, R.bind_ok, R.bind_err, R.bind_bad, ofO_some, List.map_cons, List.map_nil, List.length_cons, List.length_nil, List.length_map, List.cons_append, List.nil_append, List.replicate, Nat.reduceAdd, Nat.reduceSub, List.set_cons_zero, List.set_cons_succ, lpK_nx, lpK_ct, lpK_bk, lpK_rt, lpK_err, whK_t, whK_f, sets, ev_aug, augK_ok, ev_asg, ev_mkD, evps_nil, evps_cons, pairK_s, pairK_i, listD_l, ev_lc, slD_l, slD_t, Int.cast_ofNat_Int, Int.reduceLT, Int.reduceLE, Int.reduceEq, Int.reduceAdd, Int.reduceSub, Int.reduceMul, Int.reduceNeg, Int.reduceMod, Int.reduceDiv, Int.reduceToNat, li0, li1, li2, li3, li4, str_inj, String.reduceEq, decide_false, decide_true, isiB_s, isiB_i, isiB_b, isiB_l, isiB_t, isiB_n, isiS, Bool.or_false, Bool.or_true, Bool.and_false, Bool.and_true, Bool.false_or, Bool.true_or, Bool.false_and, Bool.true_and, ev_dput, slotD_0, slotD_S, slotK_i, slotK_s, dinD_i, dinD_s, dixD_i, dixD_s, ev_keys, keysK_d, keysD_d, mkI_len, mkW_len, ev_popN, popN_ok, ev_popT, popT_ok, ev_raiseI, raiK_i, ev_raise, ev_try, tryK_nx, tryK_rt, tryK_e1, tryK_e0, fin1_nx, ev_fld, ev_tryO, tryOK_nx, tryOK_rt, tryOK_e, finO_nx, finO_rt, isD_b, ev_rev, revK_l, ev_ext, extK_ok, ev_callB, flatE_b, flatE_i, flatE_s, flatE_n, ev_extPop, ifT, ifF, ifTT, ifFT, intD_t, intD_f, cutT2, cutL_tail, inT2, inT3, tupleD_l, tupleD_t, listD_t, addD_t, lcD_nil, lcD_consT, consR_ok, forD_T2, forD_nil, wipe0, wipeS, Bool.not_true, Bool.not_false, *])
/-! ### a long row of worlds -/
def lgL (f s k : Nat) : List Str := (if f ≤ k then [("a" : Str)] else []) ++ (if s ≤ k then [("b" : Str)] else [])
def lgW (f s k : Nat) : Wd := ⟨if k = 0 then none else some (k - 1), lgL f s k⟩
def lgR (f s n : Nat) : List Wd := (List.range n).map (lgW f s)
theorem lgR_get {f s n k : Nat} (h : k < n) : (lgR f s n)[k]? = some (lgW f s k) := by
  unfold lgR
  rw [List.getElem?_map, List.getElem?_range h]; rfl
theorem lgR_some {f s n k : Nat} {u : Wd} (h : (lgR f s n)[k]? = some u) : k < n ∧ u = lgW f s k := by
  rcases Nat.lt_or_ge k n with q | q
  · rw [lgR_get q] at h; exact ⟨q, (Option.some.inj h).symm⟩
  · unfold lgR at h; rw [List.getElem?_eq_none (by simpa using q)] at h; cases h
theorem lgR_len (f s n : Nat) : (lgR f s n).length = n := by simp [lgR]
theorem lgL_mem {f s k : Nat} {x : Str} (h : x ∈ lgL f s k) : (x = "a" ∧ f ≤ k) ∨ (x = "b" ∧ s ≤ k) := by
  unfold lgL at h
  rcases List.mem_append.mp h with h | h
  · split at h
    · exact .inl ⟨List.mem_singleton.mp h, by assumption⟩
    · cases h
  · split at h
    · exact .inr ⟨List.mem_singleton.mp h, by assumption⟩
    · cases h
theorem lgL_a {f s k : Nat} : ("a" : Str) ∈ lgL f s k ↔ f ≤ k := by
  refine ⟨fun h => ?_, fun h => ?_⟩
  · rcases lgL_mem h with ⟨_, h⟩ | ⟨q, _⟩
    · exact h
    · exact absurd q (by decide)
  · unfold lgL; rw [if_pos h]; simp
theorem lgL_b {f s k : Nat} : ("b" : Str) ∈ lgL f s k ↔ s ≤ k := by
  refine ⟨fun h => ?_, fun h => ?_⟩
  · rcases lgL_mem h with ⟨q, _⟩ | ⟨_, h⟩
    · exact absurd q (by decide)
    · exact h
  · unfold lgL; rw [if_pos h]; simp
theorem lgL_len (f s k : Nat) : (lgL f s k).length ≤ 2 := by
  unfold lgL
  split <;> split <;> simp
theorem ltab : ltS "a" "b" := by decide +kernel
theorem good_lg (f s n : Nat) (ha : WordOk "a") (hb : WordOk "b") : Good ["a", "b"] (lgR f s n) := by
  refine ⟨fun i w e => ?_, fun i w b v e hbf ev x hx => ?_⟩
  · obtain ⟨hi, rfl⟩ := lgR_some e
    refine ⟨⟨?_, fun v hv => ?_, ?_⟩, ?_⟩
    · unfold lgW
      split
      · rfl
      · exact ⟨i - 1, rfl, by omega⟩
    · rcases lgL_mem hv with ⟨rfl, _⟩ | ⟨rfl, _⟩
      · exact ⟨ha, by simp⟩
      · exact ⟨hb, by simp⟩
    · show (lgL f s i).Pairwise ltS
      have hab := ltab
      unfold lgL
      split <;> split
      · exact List.pairwise_cons.mpr ⟨fun y hy => by rw [List.mem_singleton.mp hy]; exact hab, List.pairwise_singleton _ _⟩
      · exact List.pairwise_singleton _ _
      · exact List.pairwise_singleton _ _
      · exact List.Pairwise.nil
    · have := lgL_len f s i
      show (lgL f s i).length ≤ _
      omega
  · obtain ⟨hi, rfl⟩ := lgR_some e
    obtain ⟨hb', rfl⟩ := lgR_some ev
    have hbf' : (if i = 0 then none else some (i - 1)) = some b := hbf
    split at hbf'
    · cases hbf'
    · cases hbf'
      have hx' : x ∈ lgL f s (i - 1) := hx
      show x ∈ lgL f s i
      rcases lgL_mem hx' with ⟨rfl, h⟩ | ⟨rfl, h⟩
      · exact lgL_a.mpr (by omega)
      · exact lgL_b.mpr (by omega)
theorem lg_bf {f s n k : Nat} (h : k < n) (h0 : 0 < k) : bfW (lgR f s n) k = some (k - 1) := by
  unfold bfW
  rw [lgR_get h]
  show (lgW f s k).bf = _
  unfold lgW
  simp only
  rw [if_neg (by omega)]
theorem lg_ch {f s n : Nat} {i : Nat} : ∀ j, i ≤ j → j < n → LtW (lgR f s n) i j
  | 0, h, _ => by have : i = 0 := by omega
                  subst this; exact .refl
  | j + 1, h, hj => by
    by_cases q : i = j + 1
    · subst q; exact .refl
    · exact .step (by rw [lgR_len]; omega) (lg_bf hj (by omega)) (lg_ch j (by omega) (by omega))
theorem sorted_ext : ∀ {a b : List Int}, a.Pairwise (· < ·) → b.Pairwise (· < ·) → (∀ x, x ∈ a ↔ x ∈ b) → a = b
  | [], [], _, _, _ => rfl
  | [], y :: b, _, _, h => by have := (h y).mpr List.mem_cons_self; cases this
  | x :: a, [], _, _, h => by have := (h x).mp List.mem_cons_self; cases this
  | x :: a, y :: b, ha, hb, h => by
    obtain ⟨ha1, ha2⟩ := List.pairwise_cons.mp ha
    obtain ⟨hb1, hb2⟩ := List.pairwise_cons.mp hb
    have e : x = y := by
      rcases List.mem_cons.mp ((h x).mp List.mem_cons_self) with q | q
      · exact q
      · rcases List.mem_cons.mp ((h y).mpr List.mem_cons_self) with p | p
        · exact p.symm
        · have := hb1 x q; have := ha1 y p; omega
    subst e
    rw [sorted_ext ha2 hb2 fun z => ?_]
    constructor
    · intro hz
      rcases List.mem_cons.mp ((h z).mp (List.mem_cons_of_mem _ hz)) with q | q
      · subst q; have := ha1 z hz; omega
      · exact q
    · intro hz
      rcases List.mem_cons.mp ((h z).mpr (List.mem_cons_of_mem _ hz)) with q | q
      · subst q; have := hb1 z hz; omega
      · exact q
theorem lg_later {f s n w : Nat} (hw : w < n) {ks : List Int} (L : LOut (lgR f s n) w ks) : ks.map PyData.int = rangeL (w : Nat) (n - w) := by
  obtain ⟨I, _⟩ := L
  rw [lgR_len] at I
  obtain ⟨tl, ht⟩ := I.hd
  have key : ks = (List.range (n - w)).map fun i => ((w : Nat) : Int) + (i : Nat) := by
    refine sorted_ext I.srt ?_ fun x => ?_
    · rw [List.pairwise_map]
      exact List.pairwise_lt_range.imp fun h => by omega
    · rw [List.mem_map]
      constructor
      · intro hx
        obtain ⟨i, rfl, hi⟩ := I.lt x hx
        have : w ≤ i := by
          have := I.srt
          rw [ht] at this hx
          obtain ⟨h1, _⟩ := List.pairwise_cons.mp this
          rcases List.mem_cons.mp hx with q | q
          · omega
          · have := h1 _ q; omega
        exact ⟨i - w, List.mem_range.mpr (by omega), by omega⟩
      · rintro ⟨i, hi, rfl⟩
        have hi' := List.mem_range.mp hi
        have step : ∀ i : Nat, w + i < n → ((w + i : Nat) : Int) ∈ ks := by
          intro i
          induction i with
          | zero => intro _; rw [ht]; exact List.mem_cons_self
          | succ i ih =>
            intro h
            refine (I.iff (w + (i + 1)) (by omega) h).mpr ⟨w + i, ?_, ih (by omega)⟩
            have := lg_bf (f := f) (s := s) h (by omega)
            unfold bfW at this
            exact this
        have := step i (by omega)
        rwa [show ((w : Nat) : Int) + (i : Nat) = ((w + i : Nat) : Int) by omega]
  rw [key, List.map_map]
  rfl
theorem lg_a {f s n : Nat} : knL (lgR f s n) (.lt "a") = (List.range n).map fun k => decide (f ≤ k) := by
  rw [knL, lgR, List.map_map]
  refine List.map_congr_left fun k _ => ?_
  exact decide_eq_decide.mpr (lgL_a (s := s))
theorem lg_then {f s n : Nat} (hf : f < n) (ha : WordOk "a") (hb : WordOk "b") : knL (lgR f s n) (.bin .then_ (.lt "a") (.lt "b")) = (List.range n).map fun k => decide (s ≤ max k f) := by
  refine List.ext_getElem? fun k => ?_
  rcases Nat.lt_or_ge k n with hk | hk
  · rw [List.getElem?_map, List.getElem?_range hk]
    have g := (good_lg f s n ha hb).gw
    have iff := kn_then (p := .lt "a") (q := .lt "b") g.dec (i := k) (by rw [lgR_len]; exact hk)
    have get := get_or (L := knL (lgR f s n) (.bin .then_ (.lt "a") (.lt "b"))) (i := k) (by rw [knL_len, lgR_len]; exact hk)
    have kl : ∀ (x : Str) (j : Nat), knP (lgR f s n) (.lt x) j ↔ j < n ∧ x ∈ lgL f s j := fun x j => by
      rw [kn_lt]
      constructor
      · rintro ⟨u, h1, h2⟩; obtain ⟨q, rfl⟩ := lgR_some h1; exact ⟨q, h2⟩
      · rintro ⟨h1, h2⟩; exact ⟨_, lgR_get h1, h2⟩
    have main : knP (lgR f s n) (.bin .then_ (.lt "a") (.lt "b")) k ↔ s ≤ max k f := by
      rw [iff]
      constructor
      · intro h
        have := h (max k f) (lg_ch _ (by omega) (by omega)) ((kl _ _).mpr ⟨by omega, lgL_a.mpr (by omega)⟩)
        exact lgL_b.mp ((kl _ _).mp this).2
      · intro h j c hp
        obtain ⟨h1, h2⟩ := (kl _ _).mp hp
        have h3 := lgL_a.mp h2
        have h4 := c.le g.dec
        exact (kl _ _).mpr ⟨h1, lgL_b.mpr (by omega)⟩
    rcases get with q | q
    · rw [q]
      have := main.mp q
      simp [this]
    · rw [q]
      have : ¬ s ≤ max k f := fun h => by have := main.mpr h; unfold knP at this; rw [q] at this; cases this
      simp [this]
  · rw [List.getElem?_eq_none (by rw [knL_len, lgR_len]; exact hk), List.getElem?_eq_none (by simpa using hk)]
/-! ### the law's -/
abbrev IsLater (f : Fx) : Prop := ∀ (ws : List Str) (W : List Wd) (w : Nat), Good ws W → W.length ≤ 10000 → w < W.length → ∃ ks : List Int, f [.list (W.map encW), .int (w : Nat)] = .ok (.list (ks.map .int)) ∧ LOut W w ks
theorem sh_bls (L : List Bool) : Sh 1 (bls L) := Sh.list fun x hx => by
  obtain ⟨b, _, rfl⟩ := List.mem_map.mp hx
  exact Sh.bool 0 b
theorem ev_lrgF (f : FE) (δ : Ev) {n : Nat} (h : f δ = .ok (.int (n : Nat))) (hn : n ≤ 1000000) : lrgF f δ = .ok (.list (rangeL 0 n)) := by
  unfold lrgF
  simp only [h, R.bind_ok]
  rw [if_pos (by omega)]
  simp
theorem ev_lrgG (f g : FE) (δ : Ev) {m n : Nat} (h : f δ = .ok (.int (m : Nat))) (h2 : g δ = .ok (.int (n : Nat))) (hm : m ≤ 1000000) (hn : n ≤ 1000000) : lrgG f g δ = .ok (.list (rangeL (m : Nat) (n - m))) := by
  unfold lrgG
  simp only [h, h2, R.bind_ok]
  rw [if_pos (by omega)]
  congr 3
  omega
theorem sh_rng (lo : Int) (n : Nat) : Sh 1 (.list (rangeL lo n)) := Sh.list fun x hx => by
  obtain ⟨i, _, rfl⟩ := List.mem_map.mp hx
  exact Sh.int 0 _
theorem long_ok2 {mx lt kn : Fx} (hm : IsMix mx) (hl : IsLater lt) (hk : IsKn 10 kn) (ha : WordOk "a") (hb : WordOk "b") (c : Int) (hc : 0 ≤ c) : runF 10 (b__law_long_v2 mx lt kn) [.int c] = .ok (.bool true) := by
  have em := hm c 1 (by omega) (by omega)
  have m0 := (mixZ_range c 1).1
  obtain ⟨n, hn, n0, n1⟩ : ∃ n : Nat, 1100 + c % 401 = (n : Nat) ∧ 1100 ≤ n ∧ n ≤ 1501 := ⟨(1100 + c % 401).toNat, by omega, by omega, by omega⟩
  have q0 := Int.emod_nonneg (c / 401) (show ((n : Nat) : Int) ≠ 0 by omega)
  have q1 := Int.emod_lt_of_pos (c / 401) (show 0 < ((n : Nat) : Int) by omega)
  have q2 := Int.emod_nonneg (mixZ c 1) (show ((n : Nat) : Int) ≠ 0 by omega)
  have q3 := Int.emod_lt_of_pos (mixZ c 1) (show 0 < ((n : Nat) : Int) by omega)
  obtain ⟨f, hf, f1⟩ : ∃ f : Nat, c / 401 % ((n : Nat) : Int) = (f : Nat) ∧ f < n := ⟨(c / 401 % ((n : Nat) : Int)).toNat, by omega, by omega⟩
  obtain ⟨s, hs, s1⟩ : ∃ s : Nat, mixZ c 1 % ((n : Nat) : Int) = (s : Nat) ∧ s < n := ⟨(mixZ c 1 % ((n : Nat) : Int)).toNat, by omega, by omega⟩
  have gd := good_lg f s n ha hb
  have gl := lgR_len f s n
  obtain ⟨δ', el, x5, x6, rfl⟩ := forD_range (j := 5) (g := b__law_long_v2_l1 mx lt kn) (lo := 0) (fun i δ => ∃ x5 x6, δ = [some (.int c), some (.int (n : Nat)), some (.int (f : Nat)), some (.int (s : Nat)), some (.list ((lgR f s i).map encW)), x5, x6, none, none, none]) n (by
    rintro i δ hi ⟨x5, x6, rfl⟩
    have en : (0 : Int) + (i : Nat) = ((i : Nat) : Int) := by omega
    rw [en]
    refine ⟨_, ?_, some (.int (i : Nat)), some (.list ((lgL f s i).map .str)), rfl⟩
    have esn : (lgR f s (i + 1)).map encW = (lgR f s i).map encW ++ [.tuple [match (lgW f s i).bf with | none => .none | some b => .int (b : Nat), .list ((lgL f s i).map .str)]] := by
      unfold lgR
      rw [List.range_succ, List.map_append, List.map_append]
      rfl
    have hli := lgR_len f s i
    rw [esn]
    unfold b__law_long_v2_l1
    walk_at "ev"
    rw [lcK_filter (p := fun d => match d with | .tuple [_, .int st] => decide (st ≤ ((i : Nat) : Int)) | _ => false) (g := fun d => match d with | .tuple [a, _] => a | _ => .none) (e := fun d => match d with | .tuple [a, b] => [some (.int c), some (.int (n : Nat)), some (.int (f : Nat)), some (.int (s : Nat)), some (.list ((lgR f s i).map encW)), some (.int (i : Nat)), x6, some a, some b, none] | _ => []) (by simp) (fun d hd => by
        simp only [List.mem_cons, List.not_mem_nil, or_false] at hd
        rcases hd with rfl | rfl <;> rfl) (fun d hd => by
        simp only [List.mem_cons, List.not_mem_nil, or_false] at hd
        rcases hd with rfl | rfl <;> walk_at "ev") (fun d hd _ => by
        simp only [List.mem_cons, List.not_mem_nil, or_false] at hd
        rcases hd with rfl | rfl <;> walk_at "ev")]
    have efl : (([PyData.tuple [.str "a", .int (f : Nat)], .tuple [.str "b", .int (s : Nat)]].filter fun d => match d with | .tuple [_, .int st] => decide (st ≤ ((i : Nat) : Int)) | _ => false).map fun d => match d with | .tuple [a, _] => a | _ => .none) = (lgL f s i).map .str := by
      by_cases h1 : f ≤ i <;> by_cases h2 : s ≤ i <;> simp [lgL, h1, h2]
    rw [efl]
    walk_at "ev"
    by_cases h0 : i = 0
    · subst h0
      have eb : (lgW f s 0).bf = none := rfl
      rw [eb]
      walk_at "ev"
    · have eb : (lgW f s i).bf = some (i - 1) := by unfold lgW; simp only; rw [if_neg h0]
      rw [eb, decide_eq_false (by omega)]
      walk_at "ev"
      have e9 : ((i : Nat) : Int) - 1 = ((i - 1 : Nat) : Int) := by omega
      rw [e9]) [some (.int c), some (.int (n : Nat)), some (.int (f : Nat)), some (.int (s : Nat)), some (.list []), none, none, none, none, none] ⟨none, none, rfl⟩
  obtain ⟨k0, e1, L0⟩ := hl ["a", "b"] (lgR f s n) 0 gd (by omega) (by omega)
  obtain ⟨k1, e2, L1⟩ := hl ["a", "b"] (lgR f s n) f gd (by omega) (by omega)
  rw [lg_later (by omega) L0] at e1
  rw [lg_later f1 L1] at e2
  have lnl : ∀ u ∈ lgR f s n, u.ls.length ≤ 1000000 := fun u hu => by
    unfold lgR at hu
    obtain ⟨k, _, rfl⟩ := List.mem_map.mp hu
    have := lgL_len f s k
    show (lgL f s k).length ≤ _
    omega
  have e3 := hk (lgR f s n) (.lt "a") (by simp [Fm.deep]) gd.gw (by omega) (by omega) lnl
  have e4 := hk (lgR f s n) (.bin .then_ (.lt "a") (.lt "b")) (by simp [Fm.deep]) gd.gw (by omega) (by omega) lnl
  rw [lg_a] at e3
  rw [lg_then f1 ha hb] at e4
  have z0 : (((0 : Nat)) : Int) = 0 := rfl
  rw [z0, Nat.sub_zero] at e1
  have ea : enc (.lt "a") = .tuple [.str "letter", .str "a"] := rfl
  have eb : enc (.bin .then_ (.lt "a") (.lt "b")) = .tuple [.str "then", .tuple [.str "letter", .str "a"], .tuple [.str "letter", .str "b"]] := rfl
  rw [ea] at e3
  rw [eb] at e4
  have n1' := neD_self (sh_rng 0 n) (by omega)
  have n2' := neD_self (sh_rng (f : Nat) (n - f)) (by omega)
  have n3' := neD_self (sh_bls ((List.range n).map fun k => decide (f ≤ k))) (by omega)
  have n4' := eqD_self (sh_bls ((List.range n).map fun k => decide (s ≤ max k f))) (by omega)
  have d1 : ∀ (y : Option PyData) (δ : Ev), lcK (bN 5) yesT (op2 geD (vr 5) (vr 2)) [some (.int c), some (.int (n : Nat)), some (.int (f : Nat)), some (.int (s : Nat)), some (.list ((lgR f s n).map encW)), none, y, none, none, none] (rangeL 0 n) = .ok (bls ((List.range n).map fun k => decide (f ≤ k))) := fun y δ => by
    rw [lcK_N (g := fun d => match d with | .int z => .bool (decide (((f : Nat) : Int) ≤ z)) | _ => .none) (by rw [rangeL_len]; omega) (fun d hd => by
      obtain ⟨k, _, rfl⟩ := List.mem_map.mp hd
      walk_at "ev")]
    unfold bls rangeL
    rw [List.map_map, List.map_map]
    congr 2
    refine List.map_congr_left fun k _ => ?_
    simp only [Function.comp_apply]
    congr 1
    exact decide_eq_decide.mpr (by omega)
  have d2 : ∀ (y : Option PyData) (δ : Ev), lcK (bN 5) yesT (op2 geD (cal maxD [(vr 5), (vr 2)]) (vr 3)) [some (.int c), some (.int (n : Nat)), some (.int (f : Nat)), some (.int (s : Nat)), some (.list ((lgR f s n).map encW)), none, y, none, none, none] (rangeL 0 n) = .ok (bls ((List.range n).map fun k => decide (s ≤ max k f))) := fun y δ => by
    rw [lcK_N (g := fun d => match d with | .int z => .bool (decide (((s : Nat) : Int) ≤ max z ((f : Nat) : Int))) | _ => .none) (by rw [rangeL_len]; omega) (fun d hd => by
      obtain ⟨k, _, rfl⟩ := List.mem_map.mp hd
      walk_at "ev")]
    unfold bls rangeL
    rw [List.map_map, List.map_map]
    congr 2
    refine List.map_congr_left fun k _ => ?_
    simp only [Function.comp_apply]
    congr 1
    exact decide_eq_decide.mpr (by omega)
  unfold b__law_long_v2
  clear hl hk
  walk_at "ev"
  rw [hn]
  walk_at "ev"
  rw [hf]
  walk_at "ev"
  rw [em]
  walk_at "ev"
  rw [hs]
  walk_at "ev"
  rw [Int.toNat_natCast, el]
  unfold b__law_long_v2_r3
  walk_at "ev"
  rw [e1]
  walk_at "ev"
  rw [ev_lrgF _ _ (n := n) (by walk_at "ev") (by omega)]
  walk_at "ev"
  rw [n1']
  walk_at "ev"
  rw [e2]
  walk_at "ev"
  rw [ev_lrgG _ _ _ (m := f) (n := n) (by walk_at "ev") (by walk_at "ev") (by omega) (by omega)]
  walk_at "ev"
  rw [n2']
  walk_at "ev"
  unfold b__law_long_v2_r2
  walk_at "ev"
  rw [e3]
  walk_at "ev"
  rw [Int.toNat_natCast, d1 x6 []]
  walk_at "ev"
  rw [n3']
  walk_at "ev"
  unfold b__law_long_v2_r1
  walk_at "ev"
  rw [Int.toNat_natCast, d2 x6 []]
  walk_at "ev"
  rw [e4]
  walk_at "ev"
  rw [n4']
  walk_at "ev"
end Kn

namespace Dl
open PySem PySem.Spec PyProof.Rows PySem.W PySem.SeqAt L2
/-! ### one < other, of nested tuples -/
def ltT : PyData → PyData → Option PyData
  | .tuple xs, .tuple ys => if (PyData.tuple xs).canLay0 = true ∧ (PyData.tuple ys).canLay0 = true ∧ cmpD (.tuple xs) (.tuple ys) = true ∧ min (PyData.tuple xs).depth (PyData.tuple ys).depth ≤ 190 then some (.bool (dataLt (.tuple xs) (.tuple ys))) else none
  | _, _ => none
theorem od_ltT {X : Cx} (hu : X.A.units + 200 < cLine) : OpD X (compareOp .Lt) ltT := by
  intro pins s σ H x y v u Q av d e z I rx ry hav hd he hz q
  unfold ltT at hz
  split at hz
  · rename_i xs ys
    split at hz
    · rename_i h
      obtain ⟨c1, c2, c3, c4⟩ := h
      cases hz
      obtain ⟨as, r1⟩ := Dp.reads I _ _ _ (hd.dp c1) rx
      obtain ⟨bs, r2⟩ := Dp.reads I _ _ _ (he.dp c2) ry
      exact rcLt_c _ _ X.A s v u as bs r1 r2 c1 c2 c3 (by omega) _ _ _ _ ⟨.bl _, H, I, rfl, q _ H (Same.refl H) (.bl _)⟩
    · cases hz
  · cases hz
end Dl

namespace Dl
open PySem PySem.Spec PyProof.Rows L2
/-! ### a def that looks at a caught error -/
theorem get_lt {h : Heap} {a : Addr} {o : Obj} (e : h.get? a = some o) : a < h.objs.size := by
  unfold Heap.get? at e
  rcases Nat.lt_or_ge a h.objs.size with q | q
  · exact q
  · rw [Array.getElem?_eq_none q] at e
    cases e
section
variable {P : Program} {w : World} {K : PySem.W.Frag} {mg : Str → Option Value} {base : Heap}
/-- the start of a def's body within an except suite -/
theorem inv_hot {N ps : List Str} {qual : Str} {scope : Scope} {f : Addr} {cd : Value} {A : Around} {outer : List Env} {s s1 : Shared} {H : Hp} {E : XK} {us : List Value} {vs : List V} {a : Addr} {oe : Obj} (S : FnScope N ps scope) (hA : A.handled = none) (e0 : Env0 P w K mg base A outer s H) (hl : vs.length = ps.length) (r : Vals vs us)
    (x : InCallC s s.heap.objs.size (bindL (PyProof.Rows.envOfC qual scope s.heap.objs.size f cd).kindOf (ps.zip us) fun x => none) (cellsFrom (s.heap.objs.size + 1) scope.names []) (bindC (PyProof.Rows.envOfC qual scope s.heap.objs.size f cd).kindOf (ps.zip us) fun x => none) s1)
    (ha : s.heap.get? a = some oe) (hH : H a = none) (hf : ¬ a ∈ frs outer) (hc : ∀ v : Option Value, oe.data ≠ Data.cell v) :
    L2.Inv ((cxD P w K mg base N qual scope f cd A outer s H E).suite a [(a, oe)]) [] (L2.start N vs) H s1 := by
  have I := inv_start (CX := L2.CX P w) (E := E) (P := P) (w := w) S hA e0 hl r x
  have k := x.toInCall.keep a oe ha
  exact { ok := { I.ok with hd := fun h => by cases h }, os := I.os, bare := I.bare, base := I.base, loc := I.loc, cell := I.cell, free := I.free, freeC := I.freeC, hok := I.hok, len := I.len,
          pin := fun p hp => by
            simp only [List.append_nil, List.mem_singleton] at hp
            subst hp
            exact ⟨k, hH, Nat.ne_of_lt (get_lt ha), hf, hc⟩ }
/-- what the body of such a def asks: the error is in slot 0, b comes back -/
def tLook (G : G3) (b : Bool) : TS := fun D σ H => G σ H ∧ ∀ H', Same H H' → D.rt (.bl b) H'
theorem pe_look {X : Cx} {x qual : Str} {params : Arguments} {body : List Stmt} {scope : Scope} {dvs : List V} {kws : List (Str × V)} {f : Addr} {fd : FuncData} {N ps : List Str} {y : Str} {a : Addr} {oe : Obj} {pn : List (Addr × Obj)} {c : Str} {xx : Option (Str × Int)} {cls : Value} {d : Option Addr} {i n : Nat} {b : Bool} {C : Cc} {O : List Nat} {p p2 pos : Pos}
    (F : FunD X.K x qual params body scope dvs kws f fd) (S : FnScope N ps scope) (hps : ps.length = 1) (hN : 0 < N.length) (hr : Rm n X.A) (hg : Gl X x) (hm : X.mg x = some (.ref f)) (hk : PySem.W.keepIn X.K (.ref f) = true) (hb : Binds X.K fd ps [])
    (hbody : ∀ (cdv : Value) (A : Around) (outer : List Env) (s : Shared) (H : Hp) (E : XK), PSs ((cxD X.prog X.w X.K X.mg X.base N qual scope f cdv A outer s H E).suite a [(a, oe)]) body (tLook (Gd X.K 0 a c xx cls d) b))
    (hv : PE (X.suite a ((a, oe) :: pn)) (.Name y p2) (tVar i)) (hdb : (x == ("__debug__" : Str)) = false := by decide)
    (he : starEach [Expr.Name y p2] X.env = (false, eval (.Name y p2) X.env) :: starEach [] X.env := by rfl) (hpl : (backTo pos (starEach [] X.env)).any (·.1) = false := by rfl) :
    PE (X.suite a ((a, oe) :: pn)) (.Call (.Name x p) [.Name y p2] [] pos) (tXg (Gd X.K i a c xx cls d) X.K C O (cst (.bool b))) := by
  refine ⟨fun pins s σ H Q I h => wpAny_Call_Name_kw (ld_glob I hg hm ?_ hdb)⟩
  obtain ⟨g, B, δ, ad, r, kq⟩ := h
  have hq : ∀ H', Same H H' → Q (.bl b) H' := fun H' s => kq _ H' s (.bl b)
  have ha : PA (X.suite a ((a, oe) :: pn)) [Expr.Name y p2] (tCons (tVar i) tNil) := pa_cons hv pa_nil he
  refine PySem.W.callWith_K (h₀ := X.base) I.ok.mod.kin hk (thn (ha.run pos pins s σ H (fun vs H1 => vs = [.ref a] ∧ H1 = H) I ⟨_, g.1, rfl, rfl⟩) fun us s1 hh => ?_) he hpl
  obtain ⟨vs, H1, I1, rv, rfl, rfl⟩ := hh
  have hl : us.length = ps.length := by rw [← rv.length, hps]; rfl
  have b1 := hb s1 us I1.kIn (by rw [List.append_nil]; exact hl)
  rw [List.append_nil] at b1
  refine ⟨I1.kIn, wpAny_call (codeAny_mono (R := CR (L2.CX X.prog X.w) X.stack X.prog X.w H1 s1 Q (fun _ _ _ => False)) ?_ fun rr s' hq => ?_)⟩
  · obtain ⟨oc, od, dV, kV, doc, pm, an, cdv, ct, osl, rfl, lk, hcd, _, _⟩ := F.ex
    have e1 := I1.env0
    have e0 : Env0 X.prog X.w X.K X.mg X.base X.A X.stack s1 H1 := { e1 with frames := e1.frames }
    have KX : X.K.In s1.heap := e0.mod.kin.keeps fun b o e => (e0.bs b o e).1
    have lim : s1.heap.NoLimit := e0.mod.nolimit.keeps fun b o e => (e0.bs b o e).1
    have dep : X.A.depth < recursionLimit := by have h := hr.dp; omega
    refine codeAny_call_function dep (KX _ _ lk) rfl S.co S.gen rfl (PySem.W.codeRec_of KX hcd) (b1 _ _ _ _ ?_)
    refine wpAny_newFunctionEnv_cells S.kind (fun y hy => ?_) fun env he s2 x => ?_
    · rcases S.par y.1 (List.of_mem_zip (b := y.2) hy).1 with q | q
      · exact .inl q
      · exact .inr ⟨q, PySem.W.cellsFrom_some _ _ _ (.inl q)⟩
    · subst he
      refine ⟨lim.keeps x.toInCall.keep, codeAny_func ?_⟩
      obtain ⟨p1, p2, p3, p4, p5⟩ := I1.pin (a, oe) (List.mem_append_left _ List.mem_cons_self)
      have hfr : ¬ a ∈ frs X.stack := by
        rcases I1.ok.stk with e | ⟨e, e2⟩
        · have : X.stack = X.outer := e
          rw [this]; exact p4
        · have e' : X.stack = X.env :: X.outer := e
          have e2' : X.env.frame = some X.env.locals := e2
          rw [e']
          unfold frs
          rw [List.filterMap_cons, e2']
          simp only [List.mem_cons, not_or]
          exact ⟨p3, p4⟩
      have J := inv_hot (E := fun _ _ _ => False) (P := X.prog) (w := X.w) (K := X.K) (mg := X.mg) (base := X.base) S hr.hd e0 (by rw [hps]; rfl) rv x p1 p2 hfr p5
      have hst : (L2.start N [V.ref a])[0]? = some (some (.ref a)) := by unfold L2.start; rfl
      refine wpAny_mono ((hbody cdv X.A X.stack s1 H1 (fun _ _ _ => False)).run [] s2 (L2.start N [.ref a]) H1 { nx := fun _ H' => Q .non H', rt := Q } J ⟨⟨hst, g.2⟩, hq⟩) (fun fl s' hs => ?_) fun e s' hs => hs.elim
      match fl, hs with
      | .ret u, ⟨v, σ', H', J, rv, q⟩ => exact ⟨v, H', J.os, J.bare, J.base, J.hok, rv, q⟩
      | .next, ⟨σ', H', J, q⟩ => exact ⟨V.non, H', J.os, J.bare, J.base, J.hok, rfl, q⟩
      | .brk, ⟨_, _, _, q⟩ => exact q.elim
      | .cont, ⟨_, _, _, q⟩ => exact q.elim
  · match rr, hq with
    | .error e, hq =>
      obtain ⟨_, _, _, _, _, _, _, _, _, _, _, _, z⟩ := hq
      exact z.elim
    | .ok (.ret u), hq => exact I1.after hq
end
def badS : FS := fun _ => .bad
theorem fnBad {P : Program} {w : World} {K : PySem.W.Frag} {mg : Str → Option Value} {base : Heap} {f : Addr} {fd : FuncData} {ps : List Str} {ow : Bool} {ar k n : Nat} : FnR P w K mg base k f fd ps (spD K ow ar (runF n badS)) := by
  have no : ∀ vs H Q E, ¬ spD K ow ar (runF n badS) vs H Q E := fun vs H Q E h => by
    obtain ⟨_, _, _, _, _, z⟩ := h
    exact z
  exact ⟨fun vs H Q E h => absurd h (no vs H Q E), fun A outer s H args us vs Q E _ _ _ _ h => absurd h (no vs H Q E)⟩
/-! the body: tests whose outcome is known -/
def tLv (G : G3) (b : Bool) : TE := fun σ H Q => G σ H ∧ ∀ H', Same H H' → Q (.bl b) H'
def tLt (G : G3) (b : Bool) : TT := fun σ H Q => G σ H ∧ ∀ H', Same H H' → Q b H'
section
variable {X : Cx} {G : G3} {ex e e2 : Expr} {i : Nat} {a : Addr} {c : Str} {x : Option (Str × Int)} {cls : Value} {d : Option Addr} {b b2 : Bool} {pos : Pos}
theorem lk_one {t : V} {cv : Value} (h : PE X ex (tCB (rIsX X.K c x cls d a) (tCons (tVar i) (tCons (tC t) tNil)))) (hk : ClsV t cv) (hb : PySem.W.kitOne X.K (.ref (He.ga X.K c)) cv = some b) : PE X ex (tLv (Gd X.K i a c x cls d) b) := pe_imp h fun σ H Q ⟨g, k⟩ =>
  ⟨_, g.1, g.2, .inl ⟨t, cv, b, rfl, hk, hb, k H (Same.refl H)⟩⟩
theorem lk_tup {vs : List V} {us : List Value} (h : PE X ex (tCB (rIsX X.K c x cls d a) (tCons (tVar i) (tCons (tTup (tCs vs)) tNil)))) (hk : Paired ClsV vs us) (hb : PySem.W.kitAny X.K (.ref (He.ga X.K c)) us = some b) (hl : decide (vs.length ≤ 1000) = true := by rfl) : PE X ex (tLv (Gd X.K i a c x cls d) b) := pe_imp h fun σ H Q ⟨g, k⟩ =>
  ⟨_, g.1, tCs_ok ⟨Nat.le_of_lt (small1000 (of_decide_eq_true hl)), fun p hp => ⟨g.2.same (same_new hp _), .inr ⟨p, vs, us, b, rfl, upd_same, hk, hb, k _ (same_new hp _)⟩⟩⟩⟩
theorem lt_val (h : PE X e (tLv G b)) (he : ∀ whole, isTrue e X.env whole = (do let v ← whole; standAt e.pos; holding [v] (truthy v)) := by intro _; rfl) : PT X e (tLt G b) := pt_imp (pt_val h he) fun σ H Q ⟨g, k⟩ => ⟨g, fun H' s => ⟨b, rfl, k H' s⟩⟩
theorem lk_not (h : PT X e (tLt G b)) (hb : (!b) = b2 := by rfl) : PT X (.UnaryOp .Not e pos) (tLt G b2) := pt_imp (pt_not h) fun σ H Q ⟨g, k⟩ => ⟨g, fun H' s => by subst hb; exact k H' s⟩
theorem lw_or1 (h : PT X e (tLt G b)) : PW X (.BoolOp .Or [e] pos) (tLt G b) := pw_or1 h
theorem lw_or {rest : List Expr} {b3 : Bool} (hG : Gs G) (h : PT X e (tLt G b)) (h2 : PW X (.BoolOp .Or (e2 :: rest) pos) (tLt G b2)) (hb : (b || b2) = b3 := by rfl) : PW X (.BoolOp .Or (e :: e2 :: rest) pos) (tLt G b3) := pw_imp (pw_or h h2) fun σ H Q ⟨g, k⟩ => ⟨g, fun H' s => by
  subst hb
  cases b with
  | true => rw [if_pos rfl]; exact k H' s
  | false => rw [if_neg Bool.false_ne_true]; exact ⟨hG.same g s, fun H2 s2 => k H2 (s.trans s2)⟩⟩
theorem lw_t (h : PW X e (tLt G b)) : PT X e (tLt G b) := h.pt
/-- if c: ..  (c is false) -/
theorem lk_if {ta sts : List Stmt} {t : TS} (hG : Gs G) (hc : PT X e (tLt G false)) (ha : PSs X ta t) (hr : PSs X sts (tLook G b)) : PSs X (.If e ta [] pos :: sts) (tLook G b) := pss_imp (pss_cons (ps_if hc ha pss_nil) hr) fun D σ H ⟨g, k⟩ => by
  refine ⟨g, fun H' s => ?_⟩
  show (if false = true then _ else _)
  rw [if_neg Bool.false_ne_true]
  exact ⟨hG.same g s, fun H2 s2 => k H2 (s.trans s2)⟩
theorem lk_ret (h : PE X e (tLv G b)) : PSs X [.Return (some e) pos] (tLook G b) := pss_imp (pss_one (ps_ret h)) fun D σ H ⟨g, k⟩ => ⟨g, k⟩
theorem lk_retN {p2 : Pos} (h : PE X e (tLv G b)) (hb : (!b) = b2 := by rfl) : PSs X [.Return (some (.UnaryOp .Not e pos)) p2] (tLook G b2) := pss_imp (pss_one (ps_ret (pe_not h))) fun D σ H ⟨g, k⟩ => ⟨g, fun H' s => ⟨b, rfl, by subst hb; exact k H' s⟩⟩
end
end Dl

set_option maxHeartbeats 1000000
namespace Dl
open PySem PySem.Spec PyProof.Rows L2
/-! ### for k, v in D.items(), D a table of the top with texts -/
structure KTab (K : PySem.W.Frag) (p : Addr) (kvs : List (Str × Str)) : Prop where
  ex : ∃ es ep, K.lookup p = some { cls := .type "dict", data := .dict es ep } ∧ es.size = kvs.length ∧ ∀ i (h : i < es.size) (k v : Str), kvs[i]? = some (k, v) → (∃ t, es[i].key = .str k t) ∧ ∃ t, es[i].val = .str v t
def entB (e : DictEntry) (q : Str × Str) : Bool := (match e.key with | .str x _ => decide (x = q.1) | _ => false) && (match e.val with | .str x _ => decide (x = q.2) | _ => false)
def entsB : List DictEntry → List (Str × Str) → Bool
  | [], [] => true
  | e :: es, q :: qs => entB e q && entsB es qs
  | _, _ => false
def ktabB (K : PySem.W.Frag) (p : Addr) (kvs : List (Str × Str)) : Bool := match K.lookup p with
  | some ⟨.type "dict", none, .dict es _, sl⟩ => decide (sl.toList = []) && entsB es.toList kvs
  | _ => false
theorem entB_ok {e : DictEntry} {q : Str × Str} (h : entB e q = true) : (∃ t, e.key = .str q.1 t) ∧ ∃ t, e.val = .str q.2 t := by
  unfold entB at h
  rw [Bool.and_eq_true] at h
  obtain ⟨h1, h2⟩ := h
  constructor
  · split at h1
    · rename_i x t e1; exact ⟨t, by rw [e1, of_decide_eq_true h1]⟩
    · cases h1
  · split at h2
    · rename_i x t e1; exact ⟨t, by rw [e1, of_decide_eq_true h2]⟩
    · cases h2
theorem entsB_ok : ∀ {es : List DictEntry} {qs : List (Str × Str)}, entsB es qs = true → es.length = qs.length ∧ ∀ (i : Nat) (e : DictEntry) (q : Str × Str), es[i]? = some e → qs[i]? = some q → entB e q = true
  | [], [], _ => ⟨rfl, fun i e q h => by simp at h⟩
  | e :: es, q :: qs, h => by
    rw [entsB, Bool.and_eq_true] at h
    obtain ⟨h1, h2⟩ := entsB_ok h.2
    refine ⟨by simp [h1], fun i a b ha hb => ?_⟩
    cases i with
    | zero => simp at ha hb; subst ha hb; exact h.1
    | succ i => exact h2 i a b (by simpa using ha) (by simpa using hb)
  | [], _ :: _, h => by cases h
  | _ :: _, [], h => by cases h
theorem ktabB_ok {K : PySem.W.Frag} {p : Addr} {kvs : List (Str × Str)} (h : ktabB K p kvs = true) : KTab K p kvs := by
  unfold ktabB at h
  split at h
  · rename_i es ep sl ho
    rw [Bool.and_eq_true] at h
    obtain ⟨h1, h2⟩ := h
    have hsl : sl = #[] := by rw [← Array.toArray_toList (xs := sl), of_decide_eq_true h1]
    subst hsl
    obtain ⟨l1, l2⟩ := entsB_ok h2
    refine ⟨es, ep, ho, by simpa using l1, fun i hi k v e => ?_⟩
    exact entB_ok (l2 i es[i] (k, v) (by rw [Array.getElem?_toList]; simp [hi]) e)
  · cases h
def ItK (kvs : List (Str × Str)) : It where
  go := fun i _ => i < kvs.length
  yld := fun i H x H' => ∃ T k v, kvs[i]? = some (k, v) ∧ x = .ref T ∧ H T = none ∧ H' = upd H T (.tup [.str k, .str v])
  stop := fun i _ => i = kvs.length
theorem turn_kit {P : Program} {w : World} {K : PySem.W.Frag} {d : Addr} {es : Array DictEntry} {ep : Nat} {kvs : List (Str × Str)} {elts : List Expr} {kk : Nat} {tpos : Pos} (it : Addr) (lk : K.lookup d = some { cls := .type "dict", data := .dict es ep }) (hl : es.size = kvs.length)
    (hk : ∀ i (h : i < es.size) (k v : Str), kvs[i]? = some (k, v) → (∃ t, es[i].key = .str k t) ∧ ∃ t, es[i].val = .str v t) (hne : d ≠ it) :
    Turn P w K (.Tuple elts kk tpos) (ItK kvs) [it] it fun i h => ∃ ok ov, IsItemIter h it d i es.size ep ok ov := by
  have base := turn_items (P := P) (w := w) (K := K) (d := d) (o := { cls := .type "dict", data := .dict es ep }) (es := es) (ep := ep) (kvs := (List.range es.size).map fun _ => ((.inl 0 : Key), V.non)) (elts := elts) (kk := kk) (tpos := tpos) it rfl
  have e0 : ((List.range es.size).map fun _ => ((.inl 0 : Key), V.non)).length = es.size := by simp
  rw [e0] at base
  refine ⟨base.mem, base.obj, base.keep, ?_, ?_, base.self⟩
  · rintro X rfl rfl rfl hc i pins s σ H E I fp tn go
    have W := WalksT.rawItems (prog := X.prog) (w := X.w) (I.ok.hd hc) it d hne es ep
    have raw : s.heap.DictRaw d es ep := ⟨_, I.kIn d _ lk, ⟨rfl, rfl, rfl⟩, rfl⟩
    have hi : i < es.size := by rw [hl]; exact go
    obtain ⟨⟨k, v⟩, ekv⟩ : ∃ q, kvs[i]? = some q := ⟨_, List.getElem?_eq_getElem go⟩
    obtain ⟨⟨tk1, ek⟩, ⟨tk2, ev⟩⟩ := hk i hi k v ekv
    refine W.item i s _ E hi ⟨tn, raw⟩ fun T vals h' tk pt hT tup mid keep => ⟨_, rfl, ?_⟩
    refine W.go elts kk tpos i T _ _ E mid fun h2 st keep2 => ?_
    obtain ⟨hi', rfl⟩ := pt
    have nT : ¬ T ∈ [it] := W.apart i T h' mid
    have I2 : L2.Inv X pins σ (upd H T (.tup [.str k, .str v])) { s with heap := h2, toks := tk } := I.turnedNew (ch := [it]) (fun b o nb e => keep2 b o nb (keep b o nb e)) fp hT (by
      obtain ⟨oT, g1, g2, n, g3⟩ := tup
      exact ⟨by show 2 ≤ sizeLine; rw [sizeLine_eq]; decide, [es[i].key, es[i].val], .cons (by rw [ek]; exact ⟨_, rfl⟩) (.cons (by rw [ev]; exact ⟨_, rfl⟩) .nil), oT, keep2 T oT nT g1, g2, n, g3⟩)
    refine ⟨.ref T, upd H T (.tup [.str k, .str v]), I2, rfl, ⟨T, k, v, ekv, rfl, I.hok.fresh hT, rfl⟩, st.1, fun b hb => ?_⟩
    rw [List.mem_singleton.mp hb]
    rw [upd_ne (fun z => nT (by rw [List.mem_singleton]; exact z.symm))]
    exact (fp it (List.mem_singleton.mpr rfl)).1
  · rintro X rfl rfl rfl hc i pins s σ H E I fp tn stop
    have W := WalksT.rawItems (prog := X.prog) (w := X.w) (I.ok.hd hc) it d hne es ep
    have raw : s.heap.DictRaw d es ep := ⟨_, I.kIn d _ lk, ⟨rfl, rfl, rfl⟩, rfl⟩
    have hi : i = es.size := by rw [hl]; exact stop
    subst hi
    exact W.done s _ E ⟨tn, raw⟩ fun h' tk keep => ⟨rfl, I.turnedL (ch := [it]) keep fp⟩
section
variable {X : Cx} {C : Cc} {O : List Nat} {e : Expr}
theorem pi_kitems {p : Addr} {kvs : List (Str × Str)} {elts : List Expr} {kk : Nat} {tpos apos cpos : Pos} (ht : KTab X.K p kvs) (hsm : (p == sysModules) = false) (he : PE X e (tC (.ref p))) (hbase : attributeBase e "items" X.env (eval e X.env) = eval e X.env := by rfl) (hline : (apos.endLine == cpos.line) = true := by rfl) :
    PI X (.Tuple elts kk tpos) (.Call (.Attribute e "items" apos) [] [] cpos) (fun σ H R => R (ItK kvs) H) := by
  obtain ⟨es, ep, lk, hl, hk⟩ := ht.ex
  refine ⟨fun pins s σ H R I hq => ?_⟩
  refine wpAny_Call_method (T := "dict") (id := "dict.items") hbase rfl hline F.plainAttrs_dict F.slot_dict_items F.type_dict_items (thn (he.run pins s σ H (fun v H1 => v = .ref p ∧ H1 = H) I ⟨rfl, rfl⟩) fun u s1 ⟨x, H1, I1, rx, ex, eh⟩ => ?_)
  subst ex eh
  obtain rfl : u = Value.ref p := rx
  have raw : s1.heap.DictRaw p es ep := ⟨_, I1.kIn p _ lk, ⟨rfl, rfl, rfl⟩, rfl⟩
  have ty : s1.TypeIs (.ref p) "dict" := ⟨_, I1.kIn p _ lk, rfl⟩
  have I2 : Inv X pins σ H1 { s1 with heap := s1.heap.push { cls := .type "dict_items", data := .fields #[.ref p] } } := I1.kept (t' := s1.toks) fun b ob q => Heap.get?_push_of_some _ q
  refine ⟨ty, fun a ea => by cases ea; exact ⟨_, I1.kIn p _ lk, rfl⟩, ?_⟩
  show wpAny _ _ (callWith cpos (.builtin "dict.items") [.ref p] [] []) _ X.xe s1
  refine method_meetsIn F.slot_dict_items F.entry_dict_items rfl (PySem.evalArgs_none ⟨rfl, ty, F.args_dict_items_1 _, _, meets_dict_items_raw p hsm, ⟨es, ep, raw⟩, ?_⟩)
  refine wpAny_pyIter_items_raw ⟨_, Heap.get?_push_size _ rfl, rfl, rfl⟩ (⟨_, Heap.get?_push_of_some _ (I1.kIn p _ lk), ⟨rfl, rfl, rfl⟩, rfl⟩ : Heap.DictRaw _ p es ep) ?_
  have hne : p ≠ (s1.heap.push { cls := .type "dict_items", data := .fields #[.ref p] }).objs.size := fun z => by
    have := get_lt (I2.kIn p _ lk)
    exact absurd z (Nat.ne_of_lt this)
  exact pi_one I2 _ (turn_kit (P := X.prog) (w := X.w) (K := X.K) (elts := elts) (kk := kk) (tpos := tpos) _ lk hl hk hne) ⟨_, _, Heap.get?_push_size _ rfl⟩ hq
def itC (kvs : List (Str × Str)) : FI := fun _ => .ok (kvs.map fun q => .tuple [.str q.1, .str q.2])
theorem ItD.kit {K : PySem.W.Frag} {ok : OkH} {kvs : List (Str × Str)} : ItD K ok (ItK kvs) (kvs.map fun q => .tuple [.str q.1, .str q.2]) := fun H' av' o => by
  refine ⟨fun i hi => by simpa [ItK] using hi, by simp [ItK], fun i x H'' hi y => ?_⟩
  obtain ⟨T, k, v, e, rfl, hT, rfl⟩ := y
  exact ⟨same_new hT _, _, by rw [List.getElem?_map, e]; rfl, .tup (SqT.of upd_same) (.cons (.str k) (.cons (.str v) .nil))⟩
theorem di_kitems {p : Addr} {kvs : List (Str × Str)} {elts : List Expr} {kk : Nat} {tpos apos cpos : Pos} (ht : KTab X.K p kvs) (hsm : (p == sysModules) = false) (he : PE X e (tC (.ref p))) (hbase : attributeBase e "items" X.env (eval e X.env) = eval e X.env := by rfl) (hline : (apos.endLine == cpos.line) = true := by rfl) :
    DI X C O (.Tuple elts kk tpos) (.Call (.Attribute e "items" apos) [] [] cpos) (itC kvs) := pi_imp (pi_kitems ht hsm he hbase hline) fun σ H Q ⟨B, δ, ad, r, k⟩ => k _ H (Same.refl H) ItD.kit
end
end Dl


namespace Dl
open PySem PySem.Spec PyProof.Rows L2

/-! ## The second layer: things that change stand in a store of their own, by labels; all else is data
A value is data that stays (frz), the label of a thing that changes (lab), or a tuple of such (tup). -/
mutual
def flt : PyData → Bool
  | .list _ => false
  | .dict _ => false
  | .tuple xs => flts xs
  | _ => true
def flts : List PyData → Bool
  | [] => true
  | x :: xs => flt x && flts xs
end
section
variable {K : PySem.W.Frag} {H : Hp} {av av' : Addr → Prop}
mutual
theorem Rp.flt : ∀ {v : V} {d : PyData}, Rp K H av v d → Dl.flt d = true → Rp K H av' v d
  | _, _, .non, _ => .non
  | _, _, .bl b, _ => .bl b
  | _, _, .int i, _ => .int i
  | _, _, .str x, _ => .str x
  | _, _, .lst _ _ _, f => by simp [Dl.flt] at f
  | _, _, .tup h r, f => .tup h (RpAll.flt r (by simpa [Dl.flt] using f))
  | _, _, .dct _ _ _, f => by simp [Dl.flt] at f
theorem RpAll.flt : ∀ {vs : List V} {ds : List PyData}, RpAll K H av vs ds → Dl.flts ds = true → RpAll K H av' vs ds
  | _, _, .nil, _ => .nil
  | _, _, .cons h r, f => by
    rw [Dl.flts, Bool.and_eq_true] at f
    exact .cons (Rp.flt h f.1) (RpAll.flt r f.2)
end
end

inductive VL where
  | frz (d : PyData)
  | lab (l : Nat)
  | tup (xs : List VL)
/-- what stands at a label -/
inductive Cell where
  | dead
  | lst (xs : List VL)
  | dct (kvs : List (Key × VL))
  | obj (c : Str) (fs : List (Str × VL))
abbrev Sto := List Cell
/-- a slot: a value, or data that is seen through what may change (good until then) -/
inductive Sl where
  | v (x : VL)
  | als (d : PyData)
abbrev Ev2 := List (Option Sl)

/-! ### the data that is seen -/
def seqO {α : Type} : List (Option α) → Option (List α)
  | [] => some []
  | some a :: r => (seqO r).map (a :: ·)
  | none :: _ => none
theorem seqO_cons {α : Type} {o : Option α} {r : List (Option α)} {x : List α} (h : seqO (o :: r) = some x) : ∃ a as, o = some a ∧ seqO r = some as ∧ x = a :: as := by
  cases o with
  | none => cases h
  | some a =>
    unfold seqO at h
    cases e : seqO r with
    | none => rw [e] at h; cases h
    | some as => rw [e] at h; cases h; exact ⟨a, as, rfl, rfl, rfl⟩
def er (S : Sto) : Nat → VL → Option PyData
  | 0, x => match x with
    | .frz d => some d
    | _ => none
  | n + 1, x => match x with
    | .frz d => some d
    | .lab l => match S[l]? with
      | some (.lst xs) => (seqO (xs.map (er S n))).map .list
      | some (.dct kvs) => (seqO (kvs.map fun p => er S n p.2)).map fun ds => .dict ((kvs.map fun p => kD p.1).zip ds)
      | _ => none
    | .tup xs => (seqO (xs.map (er S n))).map .tuple
abbrev eF : Nat := 30
def erS (S : Sto) : Option Sl → Option PyData
  | some (.v x) => er S eF x
  | some (.als d) => some d
  | none => none
def eraE (S : Sto) (δ : Ev2) : Ev := δ.map (erS S)
def lowS : Option Sl → Option PyData
  | some (.v (.frz d)) => some d
  | _ => none
def lowE (δ : Ev2) : Ev := δ.map lowS

/-! ### values and the heap -/
section
variable (K : PySem.W.Frag) (H : Hp) (av : Addr → Prop) (ρ : List Addr)
mutual
inductive RV : V → VL → Prop
  | frz {v : V} {d : PyData} : Rp K H av v d → RV v (.frz d)
  | lab {a : Addr} {l : Nat} : ρ[l]? = some a → RV (.ref a) (.lab l)
  | tup {a : Addr} {vs : List V} {xs : List VL} : SqT K H a vs → RVs vs xs → RV (.ref a) (.tup xs)
inductive RVs : List V → List VL → Prop
  | nil : RVs [] []
  | cons {v : V} {vs : List V} {x : VL} {xs : List VL} : RV v x → RVs vs xs → RVs (v :: vs) (x :: xs)
end
end
section
variable {K : PySem.W.Frag} {H H' : Hp} {av av' : Addr → Prop} {ρ ρ' : List Addr}
mutual
theorem RV.mono (k : Kp av H H') (ha : ∀ a, H a ≠ none → ¬ av a → ¬ av' a) (hx : ∀ (i : Nat) (a : Addr), ρ[i]? = some a → ρ'[i]? = some a) : ∀ {v : V} {x : VL}, RV K H av ρ v x → RV K H' av' ρ' v x
  | _, _, .frz h => .frz (h.mono k ha)
  | _, _, .lab h => .lab (hx _ _ h)
  | _, _, .tup h r => .tup (sqT_kp k h) (RVs.mono k ha hx r)
theorem RVs.mono (k : Kp av H H') (ha : ∀ a, H a ≠ none → ¬ av a → ¬ av' a) (hx : ∀ (i : Nat) (a : Addr), ρ[i]? = some a → ρ'[i]? = some a) : ∀ {vs : List V} {xs : List VL}, RVs K H av ρ vs xs → RVs K H' av' ρ' vs xs
  | _, _, .nil => .nil
  | _, _, .cons h r => .cons (RV.mono k ha hx h) (RVs.mono k ha hx r)
end
theorem RVs.length {vs : List V} {xs : List VL} (h : RVs K H av ρ vs xs) : vs.length = xs.length := by
  induction vs generalizing xs with
  | nil => cases h; rfl
  | cons v vs ih => cases h with | cons h r => simp [ih r]
theorem RVs.get {vs : List V} {xs : List VL} {i : Nat} {v : V} (h : RVs K H av ρ vs xs) (e : vs[i]? = some v) : ∃ x, xs[i]? = some x ∧ RV K H av ρ v x := by
  induction vs generalizing xs i with
  | nil => simp at e
  | cons w vs ih =>
    cases h with
    | cons h r =>
      cases i with
      | zero => simp at e; subst e; exact ⟨_, rfl, h⟩
      | succ i =>
        obtain ⟨d, h1, h2⟩ := ih r (by simpa using e)
        exact ⟨d, by simpa using h1, h2⟩
theorem RVs.get' {vs : List V} {xs : List VL} {i : Nat} {x : VL} (h : RVs K H av ρ vs xs) (e : xs[i]? = some x) : ∃ v, vs[i]? = some v ∧ RV K H av ρ v x := by
  induction vs generalizing xs i with
  | nil => cases h; simp at e
  | cons w vs ih =>
    cases h with
    | cons h r =>
      cases i with
      | zero => simp at e; subst e; exact ⟨_, rfl, h⟩
      | succ i =>
        obtain ⟨d, h1, h2⟩ := ih r (by simpa using e)
        exact ⟨d, by simpa using h1, h2⟩
theorem RVs.append {vs ws : List V} {xs ys : List VL} (h : RVs K H av ρ vs xs) (g : RVs K H av ρ ws ys) : RVs K H av ρ (vs ++ ws) (xs ++ ys) := by
  induction vs generalizing xs with
  | nil => cases h; exact g
  | cons v vs ih => cases h with | cons h r => exact .cons h (ih r)
theorem RVs.take {vs : List V} {xs : List VL} (h : RVs K H av ρ vs xs) (n : Nat) : RVs K H av ρ (vs.take n) (xs.take n) := by
  induction vs generalizing xs n with
  | nil => cases h; simp; exact .nil
  | cons v vs ih => cases h with | cons h r => cases n with
    | zero => exact .nil
    | succ n => exact .cons h (ih r n)
theorem RVs.dropLast {vs : List V} {xs : List VL} (h : RVs K H av ρ vs xs) : RVs K H av ρ vs.dropLast xs.dropLast := by
  rw [List.dropLast_eq_take, List.dropLast_eq_take, h.length]; exact h.take _
theorem RVs.set {vs : List V} {xs : List VL} {v : V} {x : VL} (h : RVs K H av ρ vs xs) (g : RV K H av ρ v x) (i : Nat) : RVs K H av ρ (vs.set i v) (xs.set i x) := by
  induction vs generalizing xs i with
  | nil => cases h; exact .nil
  | cons w vs ih => cases h with | cons h r => cases i with
    | zero => exact .cons g r
    | succ i => exact .cons h (ih r i)
theorem RpAll.rvs {vs : List V} {ds : List PyData} (h : RpAll K H av vs ds) : RVs K H av ρ vs (ds.map .frz) := by
  induction vs generalizing ds with
  | nil => cases h; exact .nil
  | cons v vs ih => cases h with | cons h r => exact .cons (.frz h) (ih r)
end

/-! ### the store -/
def lv (S : Sto) (l : Nat) : Prop := ∃ c, S[l]? = some c ∧ c ≠ .dead
def avS (B : Bs) (ρ : List Addr) (S : Sto) : Addr → Prop := fun a => B.av0 a ∨ ∃ l : Nat, ρ[l]? = some a ∧ lv S l
def insF (K : PySem.W.Frag) (H : Hp) (a : Addr) (c : Str) (fvs : List (Str × V)) : Prop := ∃ dx, H a = some (.ins (He.ga K c) dx fvs) ∧ H dx = some (.own a)
def CellOk (K : PySem.W.Frag) (H : Hp) (av : Addr → Prop) (ρ : List Addr) (a : Addr) : Cell → Prop
  | .dead => H a ≠ none
  | .lst xs => ∃ vs, H a = some (.lst vs) ∧ RVs K H av ρ vs xs
  | .dct kvs => ∃ vs, H a = some (.dK ((kvs.map (·.1)).zip vs)) ∧ RVs K H av ρ vs (kvs.map (·.2))
  | .obj c fs => ∃ vs, insF K H a c ((fs.map (·.1)).zip vs) ∧ RVs K H av ρ vs (fs.map (·.2))
structure RS (K : PySem.W.Frag) (B : Bs) (ρ : List Addr) (S : Sto) (H : Hp) : Prop where
  len : ρ.length = S.length
  inj : ∀ (i j : Nat) (a : Addr), ρ[i]? = some a → ρ[j]? = some a → i = j
  new : ∀ (i : Nat) (a : Addr), ρ[i]? = some a → B.H0 a = none
  keep : Same B.H0 H
  dom : ∀ a, B.av0 a → H a ≠ none ∧ ∀ i : Nat, ρ[i]? ≠ some a
  cell : ∀ (l : Nat) (c : Cell) (a : Addr), S[l]? = some c → ρ[l]? = some a → CellOk K H (avS B ρ S) ρ a c
/-- a slot's value -/
def RSl (K : PySem.W.Frag) (H : Hp) (B : Bs) (ρ : List Addr) (S : Sto) (v : V) : Sl → Prop
  | .v x => RV K H (avS B ρ S) ρ v x
  | .als d => Rp K H B.av0 v d
structure R2 (K : PySem.W.Frag) (n : Nat) (B : Bs) (ρ : List Addr) (δ : Ev2) (S : Sto) (σ : L2.St) (H : Hp) : Prop where
  rs : RS K B ρ S H
  sl : σ.length = δ.length
  sn : δ.length = n
  val : ∀ (i : Nat) (x : Sl), δ[i]? = some (some x) → ∃ v, σ[i]? = some (some v) ∧ RSl K H B ρ S v x
/-- a step -/
structure Stq (B : Bs) (ρ : List Addr) (S : Sto) (H : Hp) (ρ' : List Addr) (S' : Sto) (H' : Hp) : Prop where
  kp : Kp (avS B ρ S) H H'
  sub : ∀ a, avS B ρ' S' a → avS B ρ S a ∨ H a = none
  ext : ∀ (i : Nat) (a : Addr), ρ[i]? = some a → ρ'[i]? = some a
section
variable {K : PySem.W.Frag} {n : Nat} {B : Bs} {ρ ρ' ρ'' : List Addr} {δ δ' : Ev2} {S S' S'' : Sto} {σ : L2.St} {H H' H'' : Hp} {v : V} {x : VL}
theorem Stq.same (s : Same H H') : Stq B ρ S H ρ S H' := ⟨Kp.of_same s, fun a h => .inl h, fun _ _ h => h⟩
theorem Stq.refl : Stq B ρ S H ρ S H := Stq.same (Same.refl H)
theorem Stq.trans (a : Stq B ρ S H ρ' S' H') (b : Stq B ρ' S' H' ρ'' S'' H'') : Stq B ρ S H ρ'' S'' H'' where
  kp := fun c o e n => by
    have e1 := a.kp c o e n
    refine b.kp c o e1 ?_
    rcases n with n | ⟨xs, n⟩
    · refine .inl fun z => ?_
      rcases a.sub c z with z | z
      · exact n z
      · rw [e] at z; cases z
    · exact .inr ⟨xs, rd_kp a.kp n (.inr ⟨xs, n⟩)⟩
  sub := fun c h => by
    rcases b.sub c h with z | z
    · exact a.sub c z
    · by_cases hc : avS B ρ S c
      · exact .inl hc
      · refine .inr ?_
        cases e : H c with
        | none => rfl
        | some o => rw [a.kp c o e (.inl hc)] at z; cases z
  ext := fun i c h => b.ext i c (a.ext i c h)
theorem Stq.ha (s : Stq B ρ S H ρ' S' H') : ∀ a, H a ≠ none → ¬ avS B ρ S a → ¬ avS B ρ' S' a := fun a e n z => (s.sub a z).elim n e
theorem RV.step (s : Stq B ρ S H ρ' S' H') (h : RV K H (avS B ρ S) ρ v x) : RV K H' (avS B ρ' S') ρ' v x := h.mono s.kp s.ha s.ext
theorem RVs.step {vs : List V} {xs : List VL} (s : Stq B ρ S H ρ' S' H') (h : RVs K H (avS B ρ S) ρ vs xs) : RVs K H' (avS B ρ' S') ρ' vs xs := h.mono s.kp s.ha s.ext
theorem CellOk.here {av : Addr → Prop} {a : Addr} {c : Cell} (h : CellOk K H av ρ a c) : H a ≠ none := by
  cases c with
  | dead => exact h
  | lst xs => obtain ⟨vs, e, _⟩ := h; rw [e]; simp
  | dct kvs => obtain ⟨vs, e, _⟩ := h; rw [e]; simp
  | obj c fs => obtain ⟨vs, ⟨dx, e, _⟩, _⟩ := h; rw [e]; simp
theorem RS.avdom (r : RS K B ρ S H) : ∀ a, avS B ρ S a → H a ≠ none := by
  rintro a (h | ⟨l, h, c, e, _⟩)
  · exact (r.dom a h).1
  · exact (r.cell l c a e h).here
theorem RS.labdom (r : RS K B ρ S H) {l : Nat} {a : Addr} (h : ρ[l]? = some a) : H a ≠ none := by
  have hl : l < S.length := by
    rw [← r.len]
    by_cases q : l < ρ.length
    · exact q
    · rw [List.getElem?_eq_none (by simpa using q)] at h; cases h
  exact (r.cell l _ a (List.getElem?_eq_getElem hl) h).here
theorem RS.ltS (r : RS K B ρ S H) {l : Nat} {a : Addr} (h : ρ[l]? = some a) : l < S.length := by
  rw [← r.len]
  by_cases q : l < ρ.length
  · exact q
  · rw [List.getElem?_eq_none (by simpa using q)] at h; cases h
theorem RS.adr (r : RS K B ρ S H) {l : Nat} {c : Cell} (h : S[l]? = some c) : ∃ a, ρ[l]? = some a := by
  have hl : l < ρ.length := by
    rw [r.len]
    by_cases q : l < S.length
    · exact q
    · rw [List.getElem?_eq_none (by simpa using q)] at h; cases h
  exact ⟨_, List.getElem?_eq_getElem hl⟩
theorem CellOk.same {av : Addr → Prop} {a : Addr} {c : Cell} (h : CellOk K H av ρ a c) (s : Same H H') : CellOk K H' av ρ a c := by
  have m : ∀ {vs : List V} {xs : List VL}, RVs K H av ρ vs xs → RVs K H' av ρ vs xs := fun h => h.mono (Kp.of_same s) (fun _ _ n => n) (fun _ _ h => h)
  cases c with
  | dead => exact fun z => h (s.free z)
  | lst xs => obtain ⟨vs, e, q⟩ := h; exact ⟨vs, s _ _ e, m q⟩
  | dct kvs => obtain ⟨vs, e, q⟩ := h; exact ⟨vs, s _ _ e, m q⟩
  | obj c fs => obtain ⟨vs, ⟨dx, e, e2⟩, q⟩ := h; exact ⟨vs, ⟨dx, s _ _ e, s _ _ e2⟩, m q⟩
theorem RS.same (r : RS K B ρ S H) (s : Same H H') : RS K B ρ S H' where
  len := r.len
  inj := r.inj
  new := r.new
  keep := r.keep.trans s
  dom := fun a h => ⟨fun z => (r.dom a h).1 (s.free z), (r.dom a h).2⟩
  cell := fun l c a h1 h2 => (r.cell l c a h1 h2).same s
theorem RSl.same {x : Sl} (s : Same H H') (h : RSl K H B ρ S v x) : RSl K H' B ρ S v x := by
  cases x with
  | v x => exact RV.step (Stq.same s) h
  | als d => exact Rp.same s h
theorem R2.same (r : R2 K n B ρ δ S σ H) (s : Same H H') : R2 K n B ρ δ S σ H' := ⟨r.rs.same s, r.sl, r.sn, fun i x h => let ⟨v, h1, h2⟩ := r.val i x h; ⟨v, h1, h2.same s⟩⟩
/-- the low view: what stays, as data -/
theorem R2.low (r : R2 K n B ρ δ S σ H) : Rl K n ⟨H, avS B ρ S⟩ [] (fun _ => 0) (lowE δ) σ H where
  len := by rw [lowE, List.length_map]; exact r.sl
  lenN := by rw [lowE, List.length_map]; exact r.sn
  inj := fun i hi => by cases hi
  new := fun i hi => by cases hi
  fro := fun i d _ e => by
    rw [lowE, List.getElem?_map] at e
    cases q : δ[i]? with
    | none => rw [q] at e; cases e
    | some o =>
      rw [q] at e
      have e' : lowS o = some d := by simpa using e
      match o, e', q with
      | some (.v (.frz d')), e', q =>
        cases e'
        obtain ⟨v, h1, h2⟩ := r.val i _ q
        cases h2 with
        | frz h => exact ⟨v, h1, h.weak fun a z => z.elim id fun ⟨j, hj, _⟩ => by cases hj⟩
      | none, e', _ => cases e'
      | some (.v (.lab _)), e', _ => cases e'
      | some (.v (.tup _)), e', _ => cases e'
      | some (.als _), e', _ => cases e'
  own := fun i hi => by cases hi
  keep := Same.refl H
  dom := fun a h => ⟨r.rs.avdom a h, fun i hi => by cases hi⟩
/-- what is seen through the store -/
theorem RV.er (r : RS K B ρ S H) : ∀ (m : Nat) {v : V} {x : VL} {d : PyData}, RV K H (avS B ρ S) ρ v x → Dl.er S m x = some d → Rp K H B.av0 v d := by
  intro m
  induction m with
  | zero =>
    intro v x d h e
    cases h with
    | frz h => unfold Dl.er at e; cases e; exact h.weak fun a z => .inl z
    | lab h => cases e
    | tup h q => cases e
  | succ m ih =>
    have all : ∀ {vs : List V} {xs : List VL} {ds : List PyData}, RVs K H (avS B ρ S) ρ vs xs → seqO (xs.map (Dl.er S m)) = some ds → RpAll K H B.av0 vs ds := by
      intro vs
      induction vs with
      | nil => intro xs ds h e; cases h; cases e; exact .nil
      | cons v vs ihl =>
        intro xs ds h e
        cases h with
        | cons h q =>
          obtain ⟨a, as, e1, e2, rfl⟩ := seqO_cons e
          exact .cons (ih h e1) (ihl q e2)
    intro v x d h e
    cases h with
    | frz h => unfold Dl.er at e; cases e; exact h.weak fun a z => .inl z
    | @lab a l h =>
      unfold Dl.er at e
      simp only at e
      cases q : S[l]? with
      | none => rw [q] at e; cases e
      | some c =>
        rw [q] at e
        have ok := r.cell l c a q h
        have na : ¬ B.av0 a := fun z => (r.dom a z).2 l h
        cases c with
        | dead => cases e
        | obj c fs => cases e
        | lst xs =>
          simp only at e
          obtain ⟨vs, e1, e2⟩ := ok
          cases q2 : seqO (xs.map (Dl.er S m)) with
          | none => rw [q2] at e; cases e
          | some ds => rw [q2] at e; cases e; exact .lst (.inl e1) na (all e2 q2)
        | dct kvs =>
          simp only at e
          obtain ⟨vs, e1, e2⟩ := ok
          cases q2 : seqO (kvs.map fun p => Dl.er S m p.2) with
          | none => rw [q2] at e; cases e
          | some ds =>
            rw [q2] at e
            cases e
            have q3 : seqO ((kvs.map (·.2)).map (Dl.er S m)) = some ds := by rw [List.map_map]; exact q2
            have hl : (kvs.map (·.1)).length = vs.length := by have := e2.length; simp only [List.length_map] at this ⊢; omega
            have m1 : ((kvs.map (·.1)).zip vs).map (fun p => kD p.1) = kvs.map fun p => kD p.1 := by
              have : ((kvs.map (·.1)).zip vs).map Prod.fst = kvs.map (·.1) := List.map_fst_zip (by omega)
              calc ((kvs.map (·.1)).zip vs).map (fun p => kD p.1) = (((kvs.map (·.1)).zip vs).map Prod.fst).map kD := by rw [List.map_map]; rfl
                _ = (kvs.map (·.1)).map kD := by rw [this]
                _ = _ := by rw [List.map_map]; rfl
            have m2 : ((kvs.map (·.1)).zip vs).map (·.2) = vs := List.map_snd_zip (by omega)
            have z := Rp.dct (K := K) (av := B.av0) e1 na (ds := ds) (by rw [m2]; exact all e2 q3)
            rw [m1] at z
            exact z
    | tup h q =>
      unfold Dl.er at e
      simp only at e
      cases q2 : seqO (_ : List (Option PyData)) with
      | none => rw [q2] at e; cases e
      | some ds => rw [q2] at e; cases e; exact .tup h (all q q2)
/-- the view of all as data -/
theorem R2.era (r : R2 K n B ρ δ S σ H) : Rl K n ⟨H, B.av0⟩ [] (fun _ => 0) (eraE S δ) σ H where
  len := by rw [eraE, List.length_map]; exact r.sl
  lenN := by rw [eraE, List.length_map]; exact r.sn
  inj := fun i hi => by cases hi
  new := fun i hi => by cases hi
  fro := fun i d _ e => by
    rw [eraE, List.getElem?_map] at e
    cases q : δ[i]? with
    | none => rw [q] at e; cases e
    | some o =>
      rw [q] at e
      have e' : erS S o = some d := by simpa using e
      have w : ∀ a, avO ⟨H, B.av0⟩ [] (fun _ => 0) a → B.av0 a := fun a z => z.elim id fun ⟨j, hj, _⟩ => by cases hj
      match o, e', q with
      | some (.v x), e', q =>
        obtain ⟨v, h1, h2⟩ := r.val i _ q
        exact ⟨v, h1, (RV.er r.rs eF h2 e').weak w⟩
      | some (.als d'), e', q =>
        cases e'
        obtain ⟨v, h1, h2⟩ := r.val i _ q
        exact ⟨v, h1, Rp.weak w h2⟩
      | none, e', _ => cases e'
  own := fun i hi => by cases hi
  keep := Same.refl H
  dom := fun a h => ⟨(r.rs.dom a h).1, fun i hi => by cases hi⟩
/-- a new thing -/
theorem RS.alloc {a : Addr} {c : Cell} (r : RS K B ρ S H) (s : Same H H') (hn : H a = none) (hc : CellOk K H' (avS B (ρ ++ [a]) (S ++ [c])) (ρ ++ [a]) a c) :
    RS K B (ρ ++ [a]) (S ++ [c]) H' ∧ Stq B ρ S H (ρ ++ [a]) (S ++ [c]) H' := by
  have hlab : ∀ (i : Nat) (b : Addr), (ρ ++ [a])[i]? = some b → ρ[i]? = some b ∨ (i = ρ.length ∧ b = a) := fun i b h => by
    by_cases hi : i < ρ.length
    · rw [List.getElem?_append_left hi] at h; exact .inl h
    · rw [List.getElem?_append_right (by omega)] at h
      have : i - ρ.length = 0 := by
        by_cases q : i - ρ.length = 0
        · exact q
        · rw [List.getElem?_eq_none (by simp; omega)] at h; cases h
      rw [this] at h
      have : a = b := by simpa using h
      exact .inr ⟨by omega, this.symm⟩
  have ext : ∀ (i : Nat) (b : Addr), ρ[i]? = some b → (ρ ++ [a])[i]? = some b := fun i b h => by
    have hi : i < ρ.length := by
      by_cases q : i < ρ.length
      · exact q
      · rw [List.getElem?_eq_none (by simpa using q)] at h; cases h
    rw [List.getElem?_append_left hi]; exact h
  have st : Stq B ρ S H (ρ ++ [a]) (S ++ [c]) H' := by
    refine ⟨Kp.of_same s, fun b h => ?_, ext⟩
    rcases h with h | ⟨l, h1, c', h2, h3⟩
    · exact .inl (.inl h)
    · rcases hlab l b h1 with h1 | ⟨_, rfl⟩
      · refine .inl (.inr ⟨l, h1, c', ?_, h3⟩)
        have hl := r.ltS h1
        rw [List.getElem?_append_left hl] at h2; exact h2
      · exact .inr hn
  have hnl : ∀ i : Nat, ρ[i]? ≠ some a := fun i h => r.labdom h hn
  refine ⟨⟨by simp [r.len], fun i j b h1 h2 => ?_, fun i b h => ?_, r.keep.trans s, fun b h => ⟨fun z => (r.dom b h).1 (s.free z), fun i z => ?_⟩, fun l c' b h1 h2 => ?_⟩, st⟩
  · rcases hlab i b h1 with z1 | ⟨e1, e2⟩ <;> rcases hlab j b h2 with z2 | ⟨e3, e4⟩
    · exact r.inj i j _ z1 z2
    · exact absurd (e4 ▸ z1) (hnl i)
    · exact absurd (e2 ▸ z2) (hnl j)
    · omega
  · rcases hlab i b h with h | ⟨_, rfl⟩
    · exact r.new i b h
    · exact r.keep.free hn
  · rcases hlab i b z with z | ⟨_, rfl⟩
    · exact (r.dom b h).2 i z
    · exact (r.dom b h).1 hn
  · rcases hlab l b h2 with h2 | ⟨rfl, rfl⟩
    · have hl := r.ltS h2
      rw [List.getElem?_append_left hl] at h1
      have ok := (r.cell l c' b h1 h2).same s
      have m : ∀ {vs : List V} {xs : List VL}, RVs K H (avS B ρ S) ρ vs xs → RVs K H' (avS B (ρ ++ [a]) (S ++ [c])) (ρ ++ [a]) vs xs := fun h => h.step st
      cases c' with
      | dead => exact ok
      | lst xs => obtain ⟨vs, e, q⟩ := r.cell l _ b h1 h2; exact ⟨vs, s _ _ e, m q⟩
      | dct kvs => obtain ⟨vs, e, q⟩ := r.cell l _ b h1 h2; exact ⟨vs, s _ _ e, m q⟩
      | obj c fs => obtain ⟨vs, ⟨dx, e, e2⟩, q⟩ := r.cell l _ b h1 h2; exact ⟨vs, ⟨dx, s _ _ e, s _ _ e2⟩, m q⟩
    · rw [r.len, List.getElem?_append_right (Nat.le_refl _), Nat.sub_self] at h1
      cases h1
      exact hc
end
end Dl

namespace Dl
open PySem PySem.Spec PyProof.Rows L2

/-! ### expressions of the second layer -/
inductive RX where
  | ok (x : Sl) (δ : Ev2) (S : Sto)
  | err (c : Str) (e : Option (Str × Int)) (δ : Ev2) (S : Sto)
  | bad
abbrev FX := Ev2 → Sto → RX
def KX (K : PySem.W.Frag) (C : Cc) (B : Bs) (ρ : List Addr) (S : Sto) (σ : L2.St) (H : Hp) (Q : VK) : RX → Prop
  | .ok x δ' S' => ∀ v H' ρ', Stq B ρ S H ρ' S' H' → R2 K C.n B ρ' δ' S' σ H' → RSl K H' B ρ' S' v x → Q v H'
  | .err c e δ' S' => ∀ cls dd H' ρ', Stq B ρ S H ρ' S' H' → R2 K C.n B ρ' δ' S' σ H' → Er K c e cls dd H' → C.W cls dd σ H'
  | .bad => False
def tY (K : PySem.W.Frag) (C : Cc) (f : FX) : TE := fun σ H Q => ∃ B ρ δ S, R2 K C.n B ρ δ S σ H ∧ KX K C B ρ S σ H Q (f δ S)
abbrev DY (X : Cx) (C : Cc) (e : Expr) (f : FX) : Prop := PE X e (tY X.K C f)
/-- the wish, as a later start sees it -/
theorem KX.from {K : PySem.W.Frag} {C : Cc} {B : Bs} {ρ ρ1 : List Addr} {S S1 : Sto} {σ : L2.St} {H H1 : Hp} {Q : VK} {r : RX} (s : Stq B ρ S H ρ1 S1 H1) (h : KX K C B ρ S σ H Q r) : KX K C B ρ1 S1 σ H1 Q r := by
  cases r with
  | ok x δ' S' => exact fun v H' ρ' s2 => h v H' ρ' (s.trans s2)
  | err c e δ' S' => exact fun cls dd H' ρ' s2 => h cls dd H' ρ' (s.trans s2)
  | bad => exact h

/-- data that stays, of data that stays -/
def lo (f : FE) : FX := fun δ S => match f (lowE δ) with
  | .ok d => .ok (.v (.frz d)) δ S
  | .err c e => .err c e δ S
  | .bad => .bad
/-- data without lists, of all that is seen -/
def fl (f : FE) : FX := fun δ S => match f (eraE S δ) with
  | .ok d => if flt d = true then .ok (.v (.frz d)) δ S else .bad
  | .err c e => .err c e δ S
  | .bad => .bad
/-- data that is seen through what may change -/
def al (f : FE) : FX := fun δ S => match f (eraE S δ) with
  | .ok d => .ok (.als d) δ S
  | .err c e => .err c e δ S
  | .bad => .bad
/-- a new list, or an empty new dict -/
def newC : PyData → Option Cell
  | .list ds => some (.lst (ds.map .frz))
  | .dict [] => some (.dct [])
  | _ => none
def nw (f : FE) : FX := fun δ S => match f (lowE δ) with
  | .ok d => (match newC d with
    | some c => .ok (.v (.lab S.length)) δ (S ++ [c])
    | none => .bad)
  | .err c e => .err c e δ S
  | .bad => .bad
/-- a new list of data without lists, of all that is seen -/
def nf (f : FE) : FX := fun δ S => match f (eraE S δ) with
  | .ok (.list ds) => if flts ds = true then .ok (.v (.lab S.length)) δ (S ++ [.lst (ds.map .frz)]) else .bad
  | .ok _ => .bad
  | .err c e => .err c e δ S
  | .bad => .bad
def yv (i : Nat) : FX := fun δ S => match δ[i]? with
  | some (some x) => .ok x δ S
  | _ => .bad
section
variable {X : Cx} {C : Cc} {e : Expr} {f : FE} {K : PySem.W.Frag} {n : Nat} {B : Bs} {ρ : List Addr} {δ : Ev2} {S : Sto} {σ : L2.St} {H H' : Hp}
theorem avO_nil {H0 : Hp} {av : Addr → Prop} {ad : Nat → Addr} : ∀ a, avO ⟨H0, av⟩ [] ad a ↔ av a := fun a => ⟨fun z => z.elim id fun ⟨_, h, _⟩ => (nomatch h), .inl⟩
theorem lo_imp {σ : L2.St} {H : Hp} {Q : VK} (h : tY K C (lo f) σ H Q) : tX K C [] (relE K) f σ H Q := by
  obtain ⟨B, ρ, δ, S, r, k⟩ := h
  refine ⟨_, _, _, r.low, ?_⟩
  unfold lo at k
  cases e : f (lowE δ) with
  | ok d => rw [e] at k; exact fun v H' s z => k v H' ρ (Stq.same s) (r.same s) (.frz (Rp.weak (fun a q => (avO_nil a).mpr q) z))
  | err c x => rw [e] at k; exact fun cls dd H' s z => k cls dd H' ρ (Stq.same s) (r.same s) z
  | bad => rw [e] at k; exact k
theorem fl_imp {σ : L2.St} {H : Hp} {Q : VK} (h : tY K C (fl f) σ H Q) : tX K C [] (relE K) f σ H Q := by
  obtain ⟨B, ρ, δ, S, r, k⟩ := h
  refine ⟨_, _, _, r.era, ?_⟩
  unfold fl at k
  cases e : f (eraE S δ) with
  | ok d =>
    rw [e] at k
    simp only at k
    split at k
    · rename_i hf
      exact fun v H' s z => k v H' ρ (Stq.same s) (r.same s) (.frz (Rp.flt (show Rp K H' _ v d from z) hf))
    · exact k.elim
  | err c x => rw [e] at k; exact fun cls dd H' s z => k cls dd H' ρ (Stq.same s) (r.same s) z
  | bad => rw [e] at k; exact k
theorem al_imp {σ : L2.St} {H : Hp} {Q : VK} (h : tY K C (al f) σ H Q) : tX K C [] (relE K) f σ H Q := by
  obtain ⟨B, ρ, δ, S, r, k⟩ := h
  refine ⟨_, _, _, r.era, ?_⟩
  unfold al at k
  cases e : f (eraE S δ) with
  | ok d => rw [e] at k; exact fun v H' s z => k v H' ρ (Stq.same s) (r.same s) (Rp.weak (fun a q => (avO_nil a).mpr q) z)
  | err c x => rw [e] at k; exact fun cls dd H' s z => k cls dd H' ρ (Stq.same s) (r.same s) z
  | bad => rw [e] at k; exact k
theorem R2.alloc {a : Addr} {c : Cell} (r : R2 K n B ρ δ S σ H) (s : Same H H') (hn : H a = none) (hc : CellOk K H' (avS B (ρ ++ [a]) (S ++ [c])) (ρ ++ [a]) a c) :
    R2 K n B (ρ ++ [a]) δ (S ++ [c]) σ H' ∧ Stq B ρ S H (ρ ++ [a]) (S ++ [c]) H' := by
  obtain ⟨h1, h2⟩ := r.rs.alloc s hn hc
  refine ⟨⟨h1, r.sl, r.sn, fun i x h => ?_⟩, h2⟩
  obtain ⟨v, q1, q2⟩ := r.val i x h
  refine ⟨v, q1, ?_⟩
  cases x with
  | v x => exact RV.step h2 q2
  | als d => exact Rp.same s q2
theorem avS_snoc {a : Addr} {c : Cell} (hl : ρ.length = S.length) : ∀ b, avS B (ρ ++ [a]) (S ++ [c]) b → avS B ρ S b ∨ b = a := by
  rintro b (h | ⟨l, h1, c', h2, h3⟩)
  · exact .inl (.inl h)
  · by_cases hi : l < ρ.length
    · rw [List.getElem?_append_left hi] at h1
      rw [List.getElem?_append_left (by omega)] at h2
      exact .inl (.inr ⟨l, h1, c', h2, h3⟩)
    · rw [List.getElem?_append_right (by omega)] at h1
      refine .inr ?_
      cases q : l - ρ.length with
      | zero => rw [q] at h1; simpa using h1.symm
      | succ m => rw [q] at h1; simp at h1
theorem lab_snoc {a : Addr} (hl : ρ.length = S.length) : (ρ ++ [a])[S.length]? = some a := by rw [← hl, List.getElem?_append_right (Nat.le_refl _), Nat.sub_self]; rfl
theorem nw_imp {σ : L2.St} {H : Hp} {Q : VK} (h : tY K C (nw f) σ H Q) : tX K C [] (relF K) f σ H Q := by
  obtain ⟨B, ρ, δ, S, r, k⟩ := h
  refine ⟨_, _, _, r.low, ?_⟩
  unfold nw at k
  cases e : f (lowE δ) with
  | ok d =>
    rw [e] at k
    simp only at k
    intro v H' s z
    obtain ⟨a, rfl, hn, o⟩ := z
    cases q : newC d with
    | none => rw [q] at k; exact k.elim
    | some c =>
      rw [q] at k
      have hl := r.rs.len
      have hc : CellOk K H' (avS B (ρ ++ [a]) (S ++ [c])) (ρ ++ [a]) a c := by
        unfold newC at q
        split at q
        · cases q
          obtain ⟨vs, e1, e2⟩ := o
          exact ⟨vs, e1, (e2.weak fun b z => (avS_snoc hl b z).imp (fun z => (avO_nil b).mpr z) id).rvs⟩
        · cases q
          obtain ⟨kvs, ds, e1, e2, e3⟩ := o
          have hz : kvs = [] := by
            have l1 := e2.length
            have l2 := congrArg List.length e3
            simp only [List.length_nil, List.length_zip, List.length_map] at l1 l2
            exact List.eq_nil_of_length_eq_zero (by omega)
          subst hz
          exact ⟨[], e1, .nil⟩
        · cases q
      obtain ⟨g1, g2⟩ := r.alloc s hn hc
      exact k _ H' _ g2 g1 (.lab (lab_snoc hl))
  | err c x => rw [e] at k; exact fun cls dd H' s z => k cls dd H' ρ (Stq.same s) (r.same s) z
  | bad => rw [e] at k; exact k
theorem nf_imp {σ : L2.St} {H : Hp} {Q : VK} (h : tY K C (nf f) σ H Q) : tX K C [] (relF K) f σ H Q := by
  obtain ⟨B, ρ, δ, S, r, k⟩ := h
  refine ⟨_, _, _, r.era, ?_⟩
  unfold nf at k
  cases e : f (eraE S δ) with
  | ok d =>
    rw [e] at k
    intro v H' s z
    obtain ⟨a, rfl, hn, o⟩ := z
    cases d with
    | list ds =>
      simp only at k
      split at k
      · rename_i hf
        have hl := r.rs.len
        obtain ⟨vs, e1, e2⟩ := o
        obtain ⟨g1, g2⟩ := r.alloc (c := .lst (ds.map .frz)) s hn ⟨vs, e1, (RpAll.flt e2 hf).rvs⟩
        exact k _ H' _ g2 g1 (.lab (lab_snoc hl))
      · exact k.elim
    | _ => exact k.elim
  | err c x => rw [e] at k; exact fun cls dd H' s z => k cls dd H' ρ (Stq.same s) (r.same s) z
  | bad => rw [e] at k; exact k
theorem dy_lo (h : DE X C [] e f) : DY X C e (lo f) := pe_imp h fun _ _ _ => lo_imp
theorem dy_fl (h : DE X C [] e f) : DY X C e (fl f) := pe_imp h fun _ _ _ => fl_imp
theorem dy_al (h : DE X C [] e f) : DY X C e (al f) := pe_imp h fun _ _ _ => al_imp
theorem dy_nw (h : DF X C [] e f) : DY X C e (nw f) := pe_imp h fun _ _ _ => nw_imp
theorem dy_nf (h : DF X C [] e f) : DY X C e (nf f) := pe_imp h fun _ _ _ => nf_imp
/-- .. where a name takes it -/
theorem ay_lo {st : Stmt} {g : TG} (h : PS X st (tAsg (tX X.K C [] (relE X.K) f) g)) : PS X st (tAsg (tY X.K C (lo f)) g) := ps_imp h fun _ _ _ => lo_imp
theorem ay_fl {st : Stmt} {g : TG} (h : PS X st (tAsg (tX X.K C [] (relE X.K) f) g)) : PS X st (tAsg (tY X.K C (fl f)) g) := ps_imp h fun _ _ _ => fl_imp
theorem ay_al {st : Stmt} {g : TG} (h : PS X st (tAsg (tX X.K C [] (relE X.K) f) g)) : PS X st (tAsg (tY X.K C (al f)) g) := ps_imp h fun _ _ _ => al_imp
theorem ay_nw {st : Stmt} {g : TG} (h : PS X st (tAsg (tX X.K C [] (relF X.K) f) g)) : PS X st (tAsg (tY X.K C (nw f)) g) := ps_imp h fun _ _ _ => nw_imp
theorem ay_nf {st : Stmt} {g : TG} (h : PS X st (tAsg (tX X.K C [] (relF X.K) f) g)) : PS X st (tAsg (tY X.K C (nf f)) g) := ps_imp h fun _ _ _ => nf_imp
theorem dy_var {i : Nat} (h : PE X e (tVar i)) : DY X C e (yv i) := pe_imp h fun σ H Q ⟨B, ρ, δ, S, r, k⟩ => by
  unfold yv at k
  split at k
  · rename_i x e
    obtain ⟨v, h1, h2⟩ := r.val i x e
    exact ⟨v, h1, k v H ρ Stq.refl r h2⟩
  · exact k.elim
end

/-! ### tests -/
def tZ (K : PySem.W.Frag) (C : Cc) (f : FT) : TT := fun σ H Q => ∃ B ρ δ S, R2 K C.n B ρ δ S σ H ∧
  Rk (f (eraE S δ)) (fun b => ∀ H', Same H H' → Q b H') (fun c x => ∀ cls dd H', Same H H' → Er K c x cls dd H' → C.W cls dd σ H')
abbrev DZ (X : Cx) (C : Cc) (e : Expr) (f : FT) : Prop := PT X e (tZ X.K C f)
theorem dz_of {X : Cx} {C : Cc} {e : Expr} {f : FT} (h : DT X C [] e f) : DZ X C e f := pt_imp h fun σ H Q ⟨B, ρ, δ, S, r, k⟩ => ⟨_, _, _, r.era, k⟩

/-! ### arguments in a row -/
inductive RXs where
  | ok (xs : List VL) (δ : Ev2) (S : Sto)
  | err (c : Str) (e : Option (Str × Int)) (δ : Ev2) (S : Sto)
  | bad
def yvs : List FX → Ev2 → Sto → RXs
  | [], δ, S => .ok [] δ S
  | f :: fs, δ, S => match f δ S with
    | .ok (.v x) δ1 S1 => (match yvs fs δ1 S1 with
      | .ok xs δ2 S2 => .ok (x :: xs) δ2 S2
      | r => r)
    | .ok (.als _) _ _ => .bad
    | .err c e δ1 S1 => .err c e δ1 S1
    | .bad => .bad
def KXs (K : PySem.W.Frag) (C : Cc) (B : Bs) (ρ : List Addr) (S : Sto) (σ : L2.St) (H : Hp) (Q : List V → Hp → Prop) : RXs → Prop
  | .ok xs δ' S' => ∀ vs H' ρ', Stq B ρ S H ρ' S' H' → R2 K C.n B ρ' δ' S' σ H' → RVs K H' (avS B ρ' S') ρ' vs xs → Q vs H'
  | .err c e δ' S' => ∀ cls dd H' ρ', Stq B ρ S H ρ' S' H' → R2 K C.n B ρ' δ' S' σ H' → Er K c e cls dd H' → C.W cls dd σ H'
  | .bad => False
def tYs (K : PySem.W.Frag) (C : Cc) (fs : List FX) : TA := fun σ H Q => ∃ B ρ δ S, R2 K C.n B ρ δ S σ H ∧ KXs K C B ρ S σ H Q (yvs fs δ S)
abbrev DYs (X : Cx) (C : Cc) (es : List Expr) (fs : List FX) : Prop := PA X es (tYs X.K C fs)
theorem yvs_length {fs : List FX} {δ δ' : Ev2} {S S' : Sto} {xs : List VL} (h : yvs fs δ S = .ok xs δ' S') : xs.length = fs.length := by
  induction fs generalizing δ S xs with
  | nil => cases h; rfl
  | cons f fs ih =>
    unfold yvs at h
    split at h
    · rename_i x δ1 S1 e
      split at h
      · rename_i e2; cases h; simp [ih e2]
      · rename_i r hr; exact absurd h (hr _ _ _)
    · cases h
    · cases h
    · cases h
section
variable {X : Cx} {C : Cc} {e : Expr} {es : List Expr} {f : FX} {fs : List FX} {pos : Pos}
theorem dys_nil : DYs X C [] [] := pa_imp pa_nil fun σ H Q ⟨B, ρ, δ, S, r, k⟩ => k [] H ρ Stq.refl r .nil
theorem dys_cons (he : DY X C e f) (hr : DYs X C es fs) (hs : starEach (e :: es) X.env = (false, eval e X.env) :: starEach es X.env := by rfl) : DYs X C (e :: es) (f :: fs) := pa_imp (pa_cons he hr hs) fun σ H Q ⟨B, ρ, δ, S, r, k⟩ => by
  refine ⟨B, ρ, δ, S, r, ?_⟩
  unfold yvs at k
  cases e1 : f δ S with
  | bad => rw [e1] at k; exact k
  | err c x δ1 S1 => rw [e1] at k; exact k
  | ok x δ1 S1 =>
    rw [e1] at k
    intro v H1 ρ1 s1 r1 z
    cases x with
    | als d => exact k.elim
    | v x =>
      refine ⟨B, ρ1, δ1, S1, r1, ?_⟩
      simp only at k
      cases e2 : yvs fs δ1 S1 with
      | bad => rw [e2] at k; exact k
      | err c x δ2 S2 => rw [e2] at k; exact fun cls dd H' ρ' s2 => k cls dd H' ρ' (s1.trans s2)
      | ok xs δ2 S2 =>
        rw [e2] at k
        intro vs H2 ρ2 s2 r2 zs
        exact k (v :: vs) H2 ρ2 (s1.trans s2) r2 (.cons (RV.step s2 z) zs)
def allFrz : List VL → Option (List PyData)
  | [] => some []
  | .frz d :: xs => (allFrz xs).map (d :: ·)
  | _ :: _ => none
/-- a tuple; of data alone it is data -/
def mkTup (xs : List VL) : VL := match allFrz xs with
  | some ds => .frz (.tuple ds)
  | none => .tup xs
theorem allFrz_ok {K : PySem.W.Frag} {H : Hp} {av : Addr → Prop} {ρ : List Addr} : ∀ {vs : List V} {xs : List VL} {ds : List PyData}, RVs K H av ρ vs xs → allFrz xs = some ds → RpAll K H av vs ds
  | _, _, _, .nil, e => by cases e; exact .nil
  | _, _, _, .cons (x := x) h r, e => by
    cases x with
    | frz d =>
      unfold allFrz at e
      cases q : allFrz _ with
      | none => rw [q] at e; cases e
      | some as =>
        rw [q] at e
        cases e
        cases h with
        | frz h => exact .cons h (allFrz_ok r q)
    | lab l => cases e
    | tup ys => cases e
theorem mkTup_ok {K : PySem.W.Frag} {H : Hp} {av : Addr → Prop} {ρ : List Addr} {a : Addr} {vs : List V} {xs : List VL} (ht : SqT K H a vs) (h : RVs K H av ρ vs xs) : RV K H av ρ (.ref a) (mkTup xs) := by
  unfold mkTup
  split
  · rename_i ds e; exact .frz (.tup ht (allFrz_ok h e))
  · exact .tup ht h
def yT (fs : List FX) : FX := fun δ S => match yvs fs δ S with
  | .ok xs δ' S' => .ok (.v (mkTup xs)) δ' S'
  | .err c e δ' S' => .err c e δ' S'
  | .bad => .bad
def yL (fs : List FX) : FX := fun δ S => match yvs fs δ S with
  | .ok xs δ' S' => .ok (.v (.lab S'.length)) δ' (S' ++ [.lst xs])
  | .err c e δ' S' => .err c e δ' S'
  | .bad => .bad
theorem dy_tup {x1 : Nat} (h : DYs X C es fs) (hl : decide (fs.length ≤ 1000) = true := by rfl) : DY X C (.Tuple es x1 pos) (yT fs) := pe_imp (pe_tup h) fun σ H Q ⟨B, ρ, δ, S, r, k⟩ => by
  refine ⟨B, ρ, δ, S, r, ?_⟩
  unfold yT at k
  cases e : yvs fs δ S with
  | bad => rw [e] at k; exact k
  | err c x δ1 S1 => rw [e] at k; exact k
  | ok xs δ1 S1 =>
    rw [e] at k
    intro vs H1 ρ1 s1 r1 zs
    refine ⟨?_, fun p hp => ?_⟩
    · rw [zs.length, yvs_length e]
      exact Nat.le_of_lt (small1000 (of_decide_eq_true hl))
    · have s := same_new hp (.tup vs)
      exact k _ _ ρ1 (s1.trans (Stq.same s)) (r1.same s) (mkTup_ok (SqT.of upd_same) (RVs.step (Stq.same s) zs))
theorem dy_lst (h : DYs X C es fs) (hl : decide (fs.length ≤ 1000) = true := by rfl) : DY X C (.List es pos) (yL fs) := pe_imp (pe_lst h) fun σ H Q ⟨B, ρ, δ, S, r, k⟩ => by
  refine ⟨B, ρ, δ, S, r, ?_⟩
  unfold yL at k
  cases e : yvs fs δ S with
  | bad => rw [e] at k; exact k
  | err c x δ1 S1 => rw [e] at k; exact k
  | ok xs δ1 S1 =>
    rw [e] at k
    intro vs H1 ρ1 s1 r1 zs
    refine ⟨?_, fun p hp => ?_⟩
    · rw [zs.length, yvs_length e]
      exact Nat.le_of_lt (small1000 (of_decide_eq_true hl))
    · have s := same_new hp (.lst vs)
      have ext : ∀ (i : Nat) (b : Addr), ρ1[i]? = some b → (ρ1 ++ [p])[i]? = some b := fun i b h => by
        have hi : i < ρ1.length := by
          by_cases q : i < ρ1.length
          · exact q
          · rw [List.getElem?_eq_none (by simpa using q)] at h; cases h
        rw [List.getElem?_append_left hi]; exact h
      obtain ⟨g1, g2⟩ := r1.alloc (c := .lst xs) s hp ⟨vs, upd_same, zs.mono (Kp.of_same s) (fun a e n z => (avS_snoc r1.rs.len a z).elim n fun q => e (q ▸ hp)) ext⟩
      exact k _ _ _ (s1.trans g2) g1 (.lab (lab_snoc r1.rs.len))
end
end Dl

namespace Dl
open PySem PySem.Spec PyProof.Rows L2

/-! ### statements of the second layer -/
inductive SQ where
  | nx (δ : Ev2) (S : Sto)
  | rt (x : VL) (S : Sto)
  | bk (δ : Ev2) (S : Sto)
  | ct (δ : Ev2) (S : Sto)
  | err (c : Str) (e : Option (Str × Int)) (δ : Ev2) (S : Sto)
  | bad
abbrev FQ := Ev2 → Sto → SQ
def Kq (K : PySem.W.Frag) (C : Cc) (B : Bs) (ρ : List Addr) (S : Sto) (H : Hp) (D : Ends) : SQ → Prop
  | .nx δ' S' => ∀ ρ' σ' H', Stq B ρ S H ρ' S' H' → R2 K C.n B ρ' δ' S' σ' H' → D.nx σ' H'
  | .rt x S' => ∀ v ρ' H', Stq B ρ S H ρ' S' H' → RS K B ρ' S' H' → RV K H' (avS B ρ' S') ρ' v x → D.rt v H'
  | .bk δ' S' => ∀ ρ' σ' H', Stq B ρ S H ρ' S' H' → R2 K C.n B ρ' δ' S' σ' H' → D.bk σ' H'
  | .ct δ' S' => ∀ ρ' σ' H', Stq B ρ S H ρ' S' H' → R2 K C.n B ρ' δ' S' σ' H' → D.ct σ' H'
  | .err c e δ' S' => ∀ cls dd ρ' σ' H', Stq B ρ S H ρ' S' H' → R2 K C.n B ρ' δ' S' σ' H' → Er K c e cls dd H' → C.W cls dd σ' H'
  | .bad => False
def tQ (K : PySem.W.Frag) (C : Cc) (g : FQ) : TS := fun D σ H => ∃ B ρ δ S, R2 K C.n B ρ δ S σ H ∧ Kq K C B ρ S H D (g δ S)
abbrev DQ (X : Cx) (C : Cc) (s : Stmt) (g : FQ) : Prop := PS X s (tQ X.K C g)
abbrev DQs (X : Cx) (C : Cc) (s : List Stmt) (g : FQ) : Prop := PSs X s (tQ X.K C g)
theorem Kq.from {K : PySem.W.Frag} {C : Cc} {B : Bs} {ρ ρ1 : List Addr} {S S1 : Sto} {H H1 : Hp} {D : Ends} {r : SQ} (s : Stq B ρ S H ρ1 S1 H1) (h : Kq K C B ρ S H D r) : Kq K C B ρ1 S1 H1 D r := by
  cases r with
  | nx δ' S' => exact fun ρ' σ' H' s2 => h ρ' σ' H' (s.trans s2)
  | rt x S' => exact fun v ρ' H' s2 => h v ρ' H' (s.trans s2)
  | bk δ' S' => exact fun ρ' σ' H' s2 => h ρ' σ' H' (s.trans s2)
  | ct δ' S' => exact fun ρ' σ' H' s2 => h ρ' σ' H' (s.trans s2)
  | err c e δ' S' => exact fun cls dd ρ' σ' H' s2 => h cls dd ρ' σ' H' (s.trans s2)
  | bad => exact h
/-- data that is seen through what changes is gone -/
def noAl : Option Sl → Option Sl
  | some (.als _) => none
  | x => x
def wA (δ : Ev2) : Ev2 := δ.map noAl
theorem wA_get {δ : Ev2} {i : Nat} {x : Sl} (h : (wA δ)[i]? = some (some x)) : δ[i]? = some (some x) ∧ ∃ y, x = .v y := by
  rw [wA, List.getElem?_map] at h
  cases q : δ[i]? with
  | none => rw [q] at h; cases h
  | some o =>
    rw [q] at h
    match o, h with
    | some (.v y), h => cases h; exact ⟨rfl, y, rfl⟩
    | some (.als d), h => cases h
    | none, h => cases h
section
variable {K : PySem.W.Frag} {n : Nat} {B : Bs} {ρ ρ' : List Addr} {δ : Ev2} {S S' : Sto} {σ : L2.St} {H H' : Hp}
/-- a slot takes a value -/
theorem R2.set {i : Nat} {v : V} {x : Sl} (r : R2 K n B ρ δ S σ H) (h : RSl K H B ρ S v x) : R2 K n B ρ (δ.set i (some x)) S (σ.set i (some v)) H where
  rs := r.rs
  sl := by rw [List.length_set, List.length_set]; exact r.sl
  sn := by rw [List.length_set]; exact r.sn
  val := fun j y q => by
    by_cases hij : i = j
    · subst hij
      by_cases hl : i < δ.length
      · rw [List.getElem?_set_self hl] at q
        cases q
        exact ⟨v, List.getElem?_set_self (by rw [r.sl]; exact hl), h⟩
      · rw [List.getElem?_eq_none (by simpa using hl)] at q; cases q
    · rw [List.getElem?_set_ne hij] at q ⊢
      exact r.val j y q
/-- a step keeps what is no view -/
theorem R2.step (r : R2 K n B ρ δ S σ H) (s : Stq B ρ S H ρ' S' H') (rs : RS K B ρ' S' H') : R2 K n B ρ' (wA δ) S' σ H' where
  rs := rs
  sl := by rw [wA, List.length_map]; exact r.sl
  sn := by rw [wA, List.length_map]; exact r.sn
  val := fun i x q => by
    obtain ⟨h, y, rfl⟩ := wA_get q
    obtain ⟨v, h1, h2⟩ := r.val i _ h
    exact ⟨v, h1, RV.step s h2⟩
theorem CellOk.notTup {av : Addr → Prop} {a : Addr} {c : Cell} (h : CellOk K H av ρ a c) (hd : c ≠ .dead) : (∀ xs, ¬ Rd H a (.tup xs)) ∧ ∀ b, H a ≠ some (.own b) := by
  have go : ∀ o, H a = some o → (∀ xs, o ≠ .tup xs) → (∀ ob xs, o ≠ .frz ob (.tup xs)) → (∀ b, o ≠ .own b) → (∀ xs, ¬ Rd H a (.tup xs)) ∧ ∀ b, H a ≠ some (.own b) := fun o e h1 h2 h3 => by
    refine ⟨fun xs z => ?_, fun b z => ?_⟩
    · rcases z with z | ⟨ob, z⟩
      · rw [e] at z; exact h1 _ (Option.some.inj z)
      · rw [e] at z; exact h2 _ _ (Option.some.inj z)
    · rw [e] at z; exact h3 _ (Option.some.inj z)
  cases c with
  | dead => exact absurd rfl hd
  | lst xs => obtain ⟨vs, e, _⟩ := h; exact go _ e (fun _ z => by cases z) (fun _ _ z => by cases z) (fun _ z => by cases z)
  | dct kvs => obtain ⟨vs, e, _⟩ := h; exact go _ e (fun _ z => by cases z) (fun _ _ z => by cases z) (fun _ z => by cases z)
  | obj c fs => obtain ⟨vs, ⟨dx, e, _⟩, _⟩ := h; exact go _ e (fun _ z => by cases z) (fun _ _ z => by cases z) (fun _ z => by cases z)
theorem avS_set {l : Nat} {c c' : Cell} (h : S[l]? = some c) (hd : c ≠ .dead) (hd' : c' ≠ .dead) : ∀ a, avS B ρ (S.set l c') a ↔ avS B ρ S a := by
  have hl : l < S.length := by
    by_cases q : l < S.length
    · exact q
    · rw [List.getElem?_eq_none (by simpa using q)] at h; cases h
  have lvq : ∀ m, lv (S.set l c') m ↔ lv S m := fun m => by
    by_cases e : l = m
    · subst e
      exact ⟨fun _ => ⟨c, h, hd⟩, fun _ => ⟨c', List.getElem?_set_self hl, hd'⟩⟩
    · unfold lv; rw [List.getElem?_set_ne e]
  intro a
  exact ⟨fun z => z.imp id fun ⟨m, h1, h2⟩ => ⟨m, h1, (lvq m).mp h2⟩, fun z => z.imp id fun ⟨m, h1, h2⟩ => ⟨m, h1, (lvq m).mpr h2⟩⟩
/-- what stands at a label changes -/
theorem RS.mut {l : Nat} {a : Addr} {c c' : Cell} {o : HO} (r : RS K B ρ S H) (hS : S[l]? = some c) (ha : ρ[l]? = some a) (hd : c ≠ .dead) (hd' : c' ≠ .dead)
    (hc : Stq B ρ S H ρ (S.set l c') (upd H a o) → CellOk K (upd H a o) (avS B ρ (S.set l c')) ρ a c') :
    RS K B ρ (S.set l c') (upd H a o) ∧ Stq B ρ S H ρ (S.set l c') (upd H a o) := by
  obtain ⟨nt, nown⟩ := (r.cell l c a hS ha).notTup hd
  have ava : avS B ρ S a := .inr ⟨l, ha, c, hS, hd⟩
  have st : Stq B ρ S H ρ (S.set l c') (upd H a o) := by
    refine ⟨fun b u e n => (upd_ne fun z => ?_).trans e, fun b h => .inl ((avS_set hS hd hd' b).mp h), fun _ _ h => h⟩
    subst z
    rcases n with n | ⟨xs, n⟩
    · exact n ava
    · exact nt xs n
  refine ⟨⟨by rw [List.length_set]; exact r.len, r.inj, r.new, fun b u e => ?_, fun b h => ⟨?_, (r.dom b h).2⟩, fun m cm b h1 h2 => ?_⟩, st⟩
  · refine (upd_ne fun z => ?_).trans (r.keep b u e)
    subst z
    rw [r.new l _ ha] at e; cases e
  · rw [upd_ne fun (z : b = a) => (r.dom b h).2 l (by rw [z]; exact ha)]; exact (r.dom b h).1
  · by_cases e : l = m
    · subst e
      rw [ha] at h2
      cases h2
      have hl : l < S.length := r.ltS ha
      rw [List.getElem?_set_self hl] at h1
      cases h1
      exact hc st
    · rw [List.getElem?_set_ne e] at h1
      have hab : b ≠ a := fun z => e (r.inj l m a ha (z ▸ h2))
      have ok := r.cell m cm b h1 h2
      cases cm with
      | dead => show upd H a o b ≠ none; rw [upd_ne hab]; exact ok
      | lst xs => obtain ⟨vs, e1, e2⟩ := ok; exact ⟨vs, (upd_ne hab).trans e1, e2.step st⟩
      | dct kvs => obtain ⟨vs, e1, e2⟩ := ok; exact ⟨vs, (upd_ne hab).trans e1, e2.step st⟩
      | obj c fs => obtain ⟨vs, ⟨dx, e1, e3⟩, e2⟩ := ok; exact ⟨vs, ⟨dx, (upd_ne hab).trans e1, (upd_ne fun (z : dx = a) => nown b (by rw [← z]; exact e3)).trans e3⟩, e2.step st⟩
/-- a list changes -/
theorem R2.relist {l : Nat} {a : Addr} {xs ys : List VL} {ws : List V} (r : R2 K n B ρ δ S σ H) (hS : S[l]? = some (.lst xs)) (ha : ρ[l]? = some a) (h : RVs K H (avS B ρ S) ρ ws ys) :
    R2 K n B ρ (wA δ) (S.set l (.lst ys)) σ (upd H a (.lst ws)) ∧ Stq B ρ S H ρ (S.set l (.lst ys)) (upd H a (.lst ws)) := by
  obtain ⟨g1, g2⟩ := r.rs.mut (c' := .lst ys) (o := .lst ws) hS ha (fun z => by cases z) (fun z => by cases z) fun st => ⟨ws, upd_same, h.step st⟩
  exact ⟨r.step g2 g1, g2⟩
end

def sqq (g h : FQ) : FQ := fun δ S => match g δ S with
  | .nx δ' S' => h δ' S'
  | r => r
def skq : FQ := fun δ S => .nx δ S
def bkq : FQ := fun δ S => .bk δ S
def ctq : FQ := fun δ S => .ct δ S
/-- an expression's answer goes on -/
def exq (f : FX) (k : Sl → FQ) : FQ := fun δ S => match f δ S with
  | .ok x δ' S' => k x δ' S'
  | .err c e δ' S' => .err c e δ' S'
  | .bad => .bad
section
variable {X : Cx} {C : Cc} {st : Stmt} {sts : List Stmt} {g h : FQ} {e : Expr} {f : FX} {pos : Pos}
theorem dqs_cons (h1 : DQ X C st g) (h2 : DQs X C sts h) : DQs X C (st :: sts) (sqq g h) := pss_imp (pss_cons h1 h2) fun D σ H ⟨B, ρ, δ, S, r, k⟩ => by
  refine ⟨B, ρ, δ, S, r, ?_⟩
  unfold sqq at k
  cases e : g δ S with
  | nx δ1 S1 => rw [e] at k; exact fun ρ' σ' H' s r' => ⟨B, ρ', δ1, S1, r', k.from s⟩
  | rt x S1 => rw [e] at k; exact k
  | bk δ1 S1 => rw [e] at k; exact k
  | ct δ1 S1 => rw [e] at k; exact k
  | err c x δ1 S1 => rw [e] at k; exact k
  | bad => rw [e] at k; exact k
theorem dqs_one (h1 : DQ X C st g) : DQs X C [st] g := pss_one h1
theorem dqs_nil : DQs X C [] skq := pss_imp pss_nil fun D σ H ⟨B, ρ, δ, S, r, k⟩ => k ρ σ H Stq.refl r
theorem dq_pass : DQ X C (.Pass pos) skq := ps_imp ps_pass fun D σ H ⟨B, ρ, δ, S, r, k⟩ => k ρ σ H Stq.refl r
theorem dq_break : DQ X C (.Break pos) bkq := ps_imp ps_break fun D σ H ⟨B, ρ, δ, S, r, k⟩ => k ρ σ H Stq.refl r
theorem dq_continue : DQ X C (.Continue pos) ctq := ps_imp ps_continue fun D σ H ⟨B, ρ, δ, S, r, k⟩ => k ρ σ H Stq.refl r
theorem exq_at {kk : Sl → FQ} {σ : L2.St} {H : Hp} {D : Ends} {Q : VK} {K : PySem.W.Frag} {B : Bs} {ρ : List Addr} {δ : Ev2} {S : Sto} (r : R2 K C.n B ρ δ S σ H) (k : Kq K C B ρ S H D (exq f kk δ S))
    (hq : ∀ ρ' δ' S' x v H', Stq B ρ S H ρ' S' H' → R2 K C.n B ρ' δ' S' σ H' → RSl K H' B ρ' S' v x → Kq K C B ρ' S' H' D (kk x δ' S') → Q v H') : tY K C f σ H Q := by
  refine ⟨B, ρ, δ, S, r, ?_⟩
  unfold exq at k
  cases e : f δ S with
  | ok x δ1 S1 => rw [e] at k; exact fun v H' ρ' s r' z => hq ρ' δ1 S1 x v H' s r' z (k.from s)
  | err c x δ1 S1 => rw [e] at k; exact fun cls dd H' ρ' s r' z => k cls dd ρ' σ H' s r' z
  | bad => rw [e] at k; exact k
theorem exq_ok {kk : Sl → FQ} {σ : L2.St} {H : Hp} {D : Ends} {Q : VK} {K : PySem.W.Frag} (r : ∃ B ρ δ S, R2 K C.n B ρ δ S σ H ∧ Kq K C B ρ S H D (exq f kk δ S))
    (hq : ∀ B ρ δ S x v H', R2 K C.n B ρ δ S σ H' → RSl K H' B ρ S v x → Kq K C B ρ S H' D (kk x δ S) → Q v H') : tY K C f σ H Q := by
  obtain ⟨B, ρ, δ, S, r, k⟩ := r
  refine ⟨B, ρ, δ, S, r, ?_⟩
  unfold exq at k
  cases e : f δ S with
  | ok x δ1 S1 => rw [e] at k; exact fun v H' ρ' s r' z => hq B ρ' δ1 S1 x v H' r' z (k.from s)
  | err c x δ1 S1 => rw [e] at k; exact fun cls dd H' ρ' s r' z => k cls dd ρ' σ H' s r' z
  | bad => rw [e] at k; exact k
def rtq (f : FX) : FQ := exq f fun x δ S => match x with
  | .v y => .rt y S
  | .als _ => .bad
theorem dq_ret (he : DY X C e f) : DQ X C (.Return (some e) pos) (rtq f) := ps_imp (ps_ret he) fun D σ H r => exq_ok r fun B ρ δ S x v H' r z k => by
  cases x with
  | v y => exact k v ρ H' Stq.refl r.rs z
  | als d => exact k.elim
def stq (i : Nat) (f : FX) : FQ := exq f fun x δ S => .nx (δ.set i (some x)) S
theorem dq_set {i : Nat} (hp : PS X st (tAsg (tY X.K C f) (gName i))) : DQ X C st (stq i f) := ps_imp hp fun D σ H r => exq_ok r fun B ρ δ S x v H' r z k => k ρ _ H' Stq.refl (r.set z)
def epq (f : FX) : FQ := exq f fun _ δ S => .nx δ S
theorem dq_expr (he : DY X C e f) (hs : swapsWith e none pos.line X.env = pure false := by rfl) : DQ X C (.Expr e pos) (epq f) := ps_imp (ps_expr he hs) fun D σ H r => exq_ok r fun B ρ δ S x v H' r z k => k ρ _ H' Stq.refl r
def ifq (c : FT) (a b : FQ) : FQ := fun δ S => match c (eraE S δ) with
  | .ok true => a δ S
  | .ok false => b δ S
  | .err c e => .err c e δ S
  | .bad => .bad
theorem dq_if {c : FT} {a b : FQ} {ta tb : List Stmt} (hc : DZ X C e c) (ha : DQs X C ta a) (hb : DQs X C tb b) : DQ X C (.If e ta tb pos) (ifq c a b) := ps_imp (ps_if hc ha hb) fun D σ H ⟨B, ρ, δ, S, r, k⟩ => by
  refine ⟨B, ρ, δ, S, r, ?_⟩
  unfold ifq at k
  cases e : c (eraE S δ) with
  | ok t =>
    rw [e] at k
    intro H' s
    cases t with
    | true => rw [if_pos rfl]; exact ⟨B, ρ, δ, S, r.same s, k.from (Stq.same s)⟩
    | false => rw [if_neg Bool.false_ne_true]; exact ⟨B, ρ, δ, S, r.same s, k.from (Stq.same s)⟩
  | err c x => rw [e] at k; exact fun cls dd H' s z => k cls dd ρ σ H' (Stq.same s) (r.same s) z
  | bad => rw [e] at k; exact k

/-! ### lists change -/
def appq (fr fa : FX) : FQ := exq fr fun x δ S => match x with
  | .v (.lab l) => (match S[l]? with
    | some (.lst _) => exq fa (fun y δ S => match y with
      | .v y => (match S[l]? with
        | some (.lst xs) => if xs.length < sizeLine then .nx (wA δ) (S.set l (.lst (xs ++ [y]))) else .bad
        | _ => .bad)
      | .als _ => .bad) δ S
    | _ => .bad)
  | _ => .bad
/-- e.append(x) -/
theorem dq_app {fr fa : FX} (h : PS X st (tDrop (tBM X.K "list" rAppend (tY X.K C fr) (tCons (tY X.K C fa) tNil)))) : DQ X C st (appq fr fa) := ps_imp h fun D σ H r => exq_ok r fun B ρ δ S x v H1 r1 z k => by
  match x, z, k with
  | .als _, _, k => exact k.elim
  | .v (.frz _), _, k => exact k.elim
  | .v (.tup _), _, k => exact k.elim
  | .v (.lab l), z, k =>
    simp only at k
    cases q : S[l]? with
    | none => rw [q] at k; exact k.elim
    | some c =>
      rw [q] at k
      cases c with
      | lst xs0 =>
        simp only at k
        cases z with
        | @lab a _ ha =>
          obtain ⟨vs0, e0, _⟩ := r1.rs.cell l _ a q ha
          refine ⟨.inl ⟨rfl, vs0, .inl (.inl e0)⟩, exq_at r1 k fun ρ2 δ2 S2 y u H2 s2 r2 z2 k => ?_⟩
          cases y with
          | als d => exact k.elim
          | v y =>
            simp only at k
            cases q2 : S2[l]? with
            | none => rw [q2] at k; exact k.elim
            | some c =>
              rw [q2] at k
              cases c with
              | lst xs =>
                simp only at k
                split at k
                · rename_i hl
                  have ha2 := s2.ext l a ha
                  obtain ⟨vs, e1, e2⟩ := r2.rs.cell l _ a q2 ha2
                  obtain ⟨g1, g2⟩ := r2.relist (ws := vs ++ [u]) (ys := xs ++ [y]) q2 ha2 (e2.append (.cons z2 .nil))
                  exact ⟨a, vs, u, rfl, rfl, e1, by rw [e2.length]; exact hl, k ρ2 σ _ g2 g1⟩
                · exact k.elim
              | _ => exact k.elim
      | _ => exact k.elim
def ppq (fr : FX) (kk : VL → FQ) : FQ := exq fr fun x δ S => match x with
  | .v (.lab l) => (match S[l]? with
    | some (.lst xs) => (match xs[xs.length - 1]? with
      | some y => kk y (wA δ) (S.set l (.lst xs.dropLast))
      | none => .bad)
    | _ => .bad)
  | _ => .bad
theorem ppq_ok {fr : FX} {kk : VL → FQ} {σ : L2.St} {H : Hp} {D : Ends} {Q : VK} {K : PySem.W.Frag} (r : ∃ B ρ δ S, R2 K C.n B ρ δ S σ H ∧ Kq K C B ρ S H D (ppq fr kk δ S))
    (hq : ∀ B ρ δ S y v H', R2 K C.n B ρ δ S σ H' → RV K H' (avS B ρ S) ρ v y → Kq K C B ρ S H' D (kk y δ S) → Q v H') : tBM0 K "list" rPop (tY K C fr) σ H Q := exq_ok r fun B ρ δ S x v H1 r1 z k => by
  match x, z, k with
  | .als _, _, k => exact k.elim
  | .v (.frz _), _, k => exact k.elim
  | .v (.tup _), _, k => exact k.elim
  | .v (.lab l), z, k =>
    simp only at k
    cases q : S[l]? with
    | none => rw [q] at k; exact k.elim
    | some c =>
      rw [q] at k
      cases c with
      | lst xs =>
        simp only at k
        cases z with
        | @lab a _ ha =>
          obtain ⟨vs, e1, e2⟩ := r1.rs.cell l _ a q ha
          cases q2 : xs[xs.length - 1]? with
          | none => rw [q2] at k; exact k.elim
          | some y =>
            rw [q2] at k
            obtain ⟨u, h1, h2⟩ := e2.get' q2
            obtain ⟨g1, g2⟩ := r1.relist (ws := vs.dropLast) (ys := xs.dropLast) q ha e2.dropLast
            exact ⟨.inl ⟨rfl, vs, .inl (.inl e1)⟩, a, vs, u, rfl, rfl, e1, by rw [e2.length]; exact h1, hq B ρ _ _ y u _ g1 (RV.step g2 h2) (k.from g2)⟩
      | _ => exact k.elim
/-- e.pop() -/
theorem dq_pop {fr : FX} (h : PS X st (tDrop (tBM0 X.K "list" rPop (tY X.K C fr)))) : DQ X C st (ppq fr fun _ δ S => .nx δ S) := ps_imp h fun D σ H r => ppq_ok r fun B ρ δ S y v H' r z k => k ρ σ H' Stq.refl r
/-- x = e.pop() -/
theorem dq_popSet {fr : FX} {i : Nat} (h : PS X st (tAsg (tBM0 X.K "list" rPop (tY X.K C fr)) (gName i))) : DQ X C st (ppq fr fun y δ S => .nx (δ.set i (some (.v y))) S) := ps_imp h fun D σ H r => ppq_ok r fun B ρ δ S y v H' r z k => k ρ _ H' Stq.refl (r.set (x := .v y) z)
/-- e[i] = x -/
def ptq (fr fk f : FX) : FQ := exq f fun y δ S => match y with
  | .v y => exq fr (fun x δ S => match x with
    | .v (.lab l) => exq fk (fun kd δ S => match kd with
      | .v (.frz (.int z)) => (match S[l]? with
        | some (.lst xs) => (match ixN xs.length z with
          | some j => .nx (wA δ) (S.set l (.lst (xs.set j y)))
          | none => .bad)
        | _ => .bad)
      | _ => .bad) δ S
    | _ => .bad) δ S
  | .als _ => .bad
theorem dq_put {fr fk f : FX} (h : PS X st (tAsg (tY X.K C f) (gSub (tY X.K C fr) (tY X.K C fk) rSetL))) : DQ X C st (ptq fr fk f) := ps_imp h fun D σ H r => exq_ok r fun B ρ δ S y u H1 r1 zy k => by
  cases y with
  | als d => exact k.elim
  | v y =>
    simp only at k
    refine exq_at r1 k fun ρ2 δ2 S2 x v H2 s2 r2 zx k => ?_
    match x, zx, k with
    | .als _, _, k => exact k.elim
    | .v (.frz _), _, k => exact k.elim
    | .v (.tup _), _, k => exact k.elim
    | .v (.lab l), zx, k =>
      simp only at k
      refine exq_at r2 k fun ρ3 δ3 S3 kd w H3 s3 r3 zk k => ?_
      match kd, zk, k with
      | .als _, _, k => exact k.elim
      | .v (.lab _), _, k => exact k.elim
      | .v (.tup _), _, k => exact k.elim
      | .v (.frz kd), zk, k =>
        cases kd with
        | int z =>
          simp only at k
          cases q : S3[l]? with
          | none => rw [q] at k; exact k.elim
          | some c =>
            rw [q] at k
            cases c with
            | lst xs =>
              simp only at k
              cases ei : ixN xs.length z with
              | none => rw [ei] at k; exact k.elim
              | some j =>
                rw [ei] at k
                cases zx with
                | @lab a _ ha =>
                  have ha3 := s3.ext l a ha
                  obtain ⟨vs, e1, e2⟩ := r3.rs.cell l _ a q ha3
                  obtain ⟨g1, g2⟩ := r3.relist (ws := vs.set j u) (ys := xs.set j y) q ha3 (e2.set (RV.step (s2.trans s3) zy) j)
                  cases zk with
                  | frz zk =>
                    exact ⟨a, vs, z, j, rfl, zk.bw.int, e1, by rw [e2.length]; exact ei, k ρ3 σ _ g2 g1⟩
            | _ => exact k.elim
        | _ => exact k.elim
end
end Dl

namespace Dl
open PySem PySem.Spec PyProof.Rows L2

/-! ### a subscript -/
def ixq (S : Sto) : Sl → Int → Option Sl
  | .v (.lab l), i => (match S[l]? with
    | some (.lst xs) => (atI xs i).map .v
    | _ => none)
  | .v (.tup xs), i => (atI xs i).map .v
  | .v (.frz d), i => (ixD d (.int i)).map fun z => .v (.frz z)
  | .als d, i => (ixD d (.int i)).map .als
def yix (fa : FX) (fk : FE) : FX := fun δ S => match fa δ S with
  | .ok x δ1 S1 => (match fk (eraE S1 δ1) with
    | .ok (.int i) => (match ixq S1 x i with
      | some y => .ok y δ1 S1
      | none => .bad)
    | .ok _ => .bad
    | .err c e => .err c e δ1 S1
    | .bad => .bad)
  | r => r
theorem atI_rvs {K : PySem.W.Frag} {H : Hp} {av : Addr → Prop} {ρ : List Addr} {vs : List V} {xs : List VL} {i : Int} {z : VL} (r : RVs K H av ρ vs xs) (h : atI xs i = some z) : ∃ v, atI vs i = some v ∧ RV K H av ρ v z := by
  unfold atI at h ⊢
  rw [r.length]
  cases e : ixN xs.length i with
  | none => rw [e] at h; cases h
  | some j => rw [e] at h; exact r.get' h
theorem ixD_rp {K : PySem.W.Frag} {H : Hp} {av : Addr → Prop} {v : V} {d z : PyData} {i : Int} {Q : VK} (h : Rp K H av v d) (e : ixD d (.int i) = some z) (q : ∀ u, Rp K H av u z → Q u H) : rIx K v (.int i) H Q := by
  unfold ixD at e
  split at e
  · rename_i he; cases he
    obtain ⟨p, vs, rfl, hp, rp⟩ := h.bw.list
    obtain ⟨u, h1, h2⟩ := atI_of rp e
    exact .inl ⟨p, vs, _, u, rfl, rfl, .inl hp, h1, q u h2⟩
  · rename_i he; cases he
    obtain ⟨p, vs, rfl, hp, rp⟩ := h.bw.tuple
    obtain ⟨u, h1, h2⟩ := atI_of rp e
    exact .inr (.inl ⟨p, vs, _, u, rfl, rfl, hp, h1, q u h2⟩)
  · rename_i t j he
    cases he
    split at e
    · rename_i hl
      cases e3 : atI t.cps.toList i with
      | none => rw [e3] at e; cases e
      | some c =>
        rw [e3] at e
        cases e
        exact .inr (.inr ⟨_, _, c, h.bw.str, rfl, hl, e3, q _ (.str _)⟩)
    · cases e
  · cases e
section
variable {X : Cx} {C : Cc} {a b e : Expr} {fa : FX} {fk : FE} {pos : Pos}
theorem dy_ix (ha : DY X C a fa) (hb : DB X C [] b fk) (hs : PlainIx b := by exact fun _ _ => rfl) : DY X C (.Subscript a b pos) (yix fa fk) := pe_imp (pe_ix ix_seq ha hb hs) fun σ H Q ⟨B, ρ, δ, S, r, k⟩ => by
  refine ⟨B, ρ, δ, S, r, ?_⟩
  unfold yix at k
  cases e : fa δ S with
  | bad => rw [e] at k; exact k
  | err c x δ1 S1 => rw [e] at k; exact k
  | ok x δ1 S1 =>
    rw [e] at k
    intro v H1 ρ1 s1 r1 z
    refine ⟨_, _, _, r1.era, ?_⟩
    simp only at k
    cases ek : fk (eraE S1 δ1) with
    | bad => rw [ek] at k; exact k
    | err c y => rw [ek] at k; exact fun cls dd H' s z => k cls dd H' ρ1 (s1.trans (Stq.same s)) (r1.same s) z
    | ok kd =>
      rw [ek] at k
      cases kd with
      | int i =>
        simp only at k
        intro u H2 s2 zu
        have eu := Bw.int zu
        subst eu
        have r2 := r1.same s2
        cases ex : ixq S1 x i with
        | none => rw [ex] at k; exact k.elim
        | some y =>
          rw [ex] at k
          have kk : ∀ u, RSl X.K H2 B ρ1 S1 u y → Q u H2 := fun u zu => k u H2 ρ1 (s1.trans (Stq.same s2)) r2 zu
          have z2 := RSl.same s2 z
          show rIx X.K v (.int i) H2 Q
          match x, z2, ex with
          | .als d, z2, ex =>
            unfold ixq at ex
            simp only at ex
            cases e3 : ixD d (.int i) with
            | none => rw [e3] at ex; cases ex
            | some w => rw [e3] at ex; cases ex; exact ixD_rp z2 e3 kk
          | .v (.frz d), z2, ex =>
            unfold ixq at ex
            simp only at ex
            cases e3 : ixD d (.int i) with
            | none => rw [e3] at ex; cases ex
            | some w =>
              rw [e3] at ex; cases ex
              cases z2 with
              | frz z2 => exact ixD_rp z2 e3 fun u q => kk u (.frz q)
          | .v (.tup xs), z2, ex =>
            unfold ixq at ex
            simp only at ex
            cases e3 : atI xs i with
            | none => rw [e3] at ex; cases ex
            | some w =>
              rw [e3] at ex; cases ex
              cases z2 with
              | @tup p vs _ ht hr =>
                obtain ⟨u, h1, h2⟩ := atI_rvs hr e3
                exact .inr (.inl ⟨p, vs, _, u, rfl, rfl, ht, h1, kk u h2⟩)
          | .v (.lab l), z2, ex =>
            unfold ixq at ex
            simp only at ex
            cases q : S1[l]? with
            | none => rw [q] at ex; cases ex
            | some c =>
              rw [q] at ex
              cases c with
              | lst xs =>
                simp only at ex
                cases e3 : atI xs i with
                | none => rw [e3] at ex; cases ex
                | some w =>
                  rw [e3] at ex; cases ex
                  cases z2 with
                  | @lab p _ ha =>
                    obtain ⟨vs, e1, e2⟩ := r2.rs.cell l _ p q ha
                    obtain ⟨u, h1, h2⟩ := atI_rvs e2 e3
                    exact .inl ⟨p, vs, _, u, rfl, rfl, .inl (.inl e1), h1, kk u h2⟩
              | _ => cases ex
      | _ => exact k.elim
end

/-! ### targets -/
abbrev FBq := Sl → Ev2 → Option Ev2
def bNq (i : Nat) : FBq := fun x δ => some (δ.set i (some x))
def setsq : List Nat → List Sl → Ev2 → Ev2
  | i :: is, x :: xs, δ => setsq is xs (δ.set i (some x))
  | _, _, δ => δ
def itemsq : Sl → Option (List Sl)
  | .v (.tup xs) => some (xs.map .v)
  | .v (.frz (.tuple ds)) => some (ds.map fun d => .v (.frz d))
  | .v (.frz (.list ds)) => some (ds.map fun d => .v (.frz d))
  | .als (.tuple ds) => some (ds.map .als)
  | .als (.list ds) => some (ds.map .als)
  | _ => none
def bTq (is : List Nat) : FBq := fun x δ => match itemsq x with
  | some ys => if ys.length = is.length then some (setsq is ys δ) else none
  | none => none
def tGq (K : PySem.W.Frag) (C : Cc) (b : FBq) : TG := fun v σ H Q => ∃ B ρ δ S x δ', R2 K C.n B ρ δ S σ H ∧ RSl K H B ρ S v x ∧ b x δ = some δ' ∧ ∀ σ', R2 K C.n B ρ δ' S σ' H → Q σ' H
abbrev DGq (X : Cx) (C : Cc) (tg : Expr) (b : FBq) : Prop := PG X tg (tGq X.K C b)
inductive RSls (K : PySem.W.Frag) (H : Hp) (B : Bs) (ρ : List Addr) (S : Sto) : List V → List Sl → Prop
  | nil : RSls K H B ρ S [] []
  | cons {v : V} {vs : List V} {x : Sl} {xs : List Sl} : RSl K H B ρ S v x → RSls K H B ρ S vs xs → RSls K H B ρ S (v :: vs) (x :: xs)
theorem RSls.length {K : PySem.W.Frag} {H : Hp} {B : Bs} {ρ : List Addr} {S : Sto} {vs : List V} {xs : List Sl} (h : RSls K H B ρ S vs xs) : vs.length = xs.length := by
  induction h with
  | nil => rfl
  | cons _ _ ih => simp [ih]
section
variable {X : Cx} {C : Cc} {tg : Expr} {K : PySem.W.Frag} {H : Hp} {B : Bs} {ρ : List Addr} {S : Sto}
theorem dgq_name {i : Nat} (h : PG X tg (gName i)) : DGq X C tg (bNq i) := pg_imp h fun v σ H Q ⟨B, ρ, δ, S, x, δ', r, z, e, q⟩ => by
  cases e
  exact q _ (r.set z)
theorem gNamesq_ok {Q : L2.St → Hp → Prop} : ∀ {is : List Nat} {vs : List V} {xs : List Sl} {δ : Ev2} {σ : L2.St}, R2 K C.n B ρ δ S σ H → RSls K H B ρ S vs xs → xs.length = is.length →
    (∀ σ', R2 K C.n B ρ (setsq is xs δ) S σ' H → Q σ' H) → gNames is vs σ H Q
  | [], _, _, _, _, r, .nil, _, q => ⟨rfl, q _ r⟩
  | i :: is, _, _, _, _, r, .cons h t, hl, q => ⟨_, _, rfl, gNamesq_ok (r.set h) t (by simpa using hl) fun σ' r' => q σ' r'⟩
  | [], _, _, _, _, _, .cons _ _, hl, _ => by simp at hl
  | _ :: _, _, _, _, _, _, .nil, hl, _ => by simp at hl
theorem rsls_v {vs : List V} {xs : List VL} (h : RVs K H (avS B ρ S) ρ vs xs) : RSls K H B ρ S vs (xs.map .v) := by
  induction vs generalizing xs with
  | nil => cases h; exact .nil
  | cons v vs ih => cases h with | cons h r => exact .cons h (ih r)
theorem rsls_f {vs : List V} {ds : List PyData} (h : RpAll K H (avS B ρ S) vs ds) : RSls K H B ρ S vs (ds.map fun d => .v (.frz d)) := by
  induction vs generalizing ds with
  | nil => cases h; exact .nil
  | cons v vs ih => cases h with | cons h r => exact .cons (.frz h) (ih r)
theorem rsls_a {vs : List V} {ds : List PyData} (h : RpAll K H B.av0 vs ds) : RSls K H B ρ S vs (ds.map .als) := by
  induction vs generalizing ds with
  | nil => cases h; exact .nil
  | cons v vs ih => cases h with | cons h r => exact .cons h (ih r)
theorem itemsq_ok {v : V} {x : Sl} {ys : List Sl} (z : RSl K H B ρ S v x) (e : itemsq x = some ys) : ∃ a vs, v = .ref a ∧ (SqT K H a vs ∨ SqL K H a vs) ∧ RSls K H B ρ S vs ys := by
  match x, z, e with
  | .v (.tup xs), z, e =>
    cases e
    cases z with
    | tup h r => exact ⟨_, _, rfl, .inl h, rsls_v r⟩
  | .v (.frz (.tuple ds)), z, e =>
    cases e
    cases z with
    | frz z => obtain ⟨a, vs, rfl, h, r⟩ := z.bw.tuple; exact ⟨a, vs, rfl, .inl h, rsls_f r⟩
  | .v (.frz (.list ds)), z, e =>
    cases e
    cases z with
    | frz z => obtain ⟨a, vs, rfl, h, r⟩ := z.bw.list; exact ⟨a, vs, rfl, .inr (.inl h), rsls_f r⟩
  | .als (.tuple ds), z, e =>
    cases e
    obtain ⟨a, vs, rfl, h, r⟩ := (show Rp K H B.av0 v (.tuple ds) from z).bw.tuple; exact ⟨a, vs, rfl, .inl h, rsls_a r⟩
  | .als (.list ds), z, e =>
    cases e
    obtain ⟨a, vs, rfl, h, r⟩ := (show Rp K H B.av0 v (.list ds) from z).bw.list; exact ⟨a, vs, rfl, .inr (.inl h), rsls_a r⟩
theorem dgq_tup {is : List Nat} (h : PG X tg (gTwo X.K is.length (gNames is))) : DGq X C tg (bTq is) := pg_imp h fun v σ H Q ⟨B, ρ, δ, S, x, δ', r, z, e, q⟩ => by
  unfold bTq at e
  cases ei : itemsq x with
  | none => rw [ei] at e; cases e
  | some ys =>
    rw [ei] at e
    simp only at e
    split at e
    · rename_i hl
      cases e
      obtain ⟨a, vs, rfl, h1, h2⟩ := itemsq_ok z ei
      have hv : vs.length = is.length := h2.length.trans hl
      rcases h1 with h1 | h1
      · exact .inl ⟨a, vs, rfl, h1, hv, gNamesq_ok r h2 hl q⟩
      · exact .inr ⟨a, vs, rfl, h1, hv, gNamesq_ok r h2 hl q⟩
    · cases e
def asq (b : FBq) (f : FX) : FQ := exq f fun x δ S => match b x δ with
  | some δ' => .nx δ' S
  | none => .bad
/-- a, b = e -/
theorem dq_asg {e : Expr} {st : Stmt} {f : FX} {b : FBq} (hp : ∀ te g, PE X e te → PG X tg g → PS X st (tAsg te g)) (hg : DGq X C tg b) (he : DY X C e f) : DQ X C st (asq b f) := ps_imp (hp _ _ he hg) fun D σ H r => exq_ok r fun B ρ δ S x v H' r z k => by
  cases e2 : b x δ with
  | none => simp only [e2] at k; exact k.elim
  | some δ' => simp only [e2] at k; exact ⟨B, ρ, δ, S, x, δ', r, z, e2, fun σ' r' => k ρ σ' H' Stq.refl r'⟩
end

/-! ### what is walked -/
inductive RI where
  | ok (its : List Sl) (chk : Sto → Prop) (δ : Ev2) (S : Sto)
  | err (c : Str) (e : Option (Str × Int)) (δ : Ev2) (S : Sto)
  | bad
abbrev FIq := Ev2 → Sto → RI
def ItQ (K : PySem.W.Frag) (B : Bs) (ρ : List Addr) (S : Sto) (H1 : Hp) (J : It) (its : List Sl) (chk : Sto → Prop) : Prop := ∀ ρ' S' H', Stq B ρ S H1 ρ' S' H' → RS K B ρ' S' H' → chk S' →
  (∀ i, i < its.length → J.go i H') ∧ J.stop its.length H' ∧ ∀ i x H'', i < its.length → J.yld i H' x H'' → Same H' H'' ∧ ∃ y, its[i]? = some y ∧ RSl K H'' B ρ' S' x y
def KI (K : PySem.W.Frag) (C : Cc) (B : Bs) (ρ : List Addr) (S : Sto) (σ : L2.St) (H : Hp) (Q : It → Hp → Prop) : RI → Prop
  | .ok its chk δ' S' => ∀ J H' ρ', Stq B ρ S H ρ' S' H' → R2 K C.n B ρ' δ' S' σ H' → ItQ K B ρ' S' H' J its chk → Q J H'
  | .err c e δ' S' => ∀ cls dd H' ρ', Stq B ρ S H ρ' S' H' → R2 K C.n B ρ' δ' S' σ H' → Er K c e cls dd H' → C.W cls dd σ H'
  | .bad => False
def tIq (K : PySem.W.Frag) (C : Cc) (f : FIq) : TI := fun σ H Q => ∃ B ρ δ S, R2 K C.n B ρ δ S σ H ∧ KI K C B ρ S σ H Q (f δ S)
abbrev DIq (X : Cx) (C : Cc) (tg e : Expr) (f : FIq) : Prop := PI X tg e (tIq X.K C f)
def iLo (f : FI) : FIq := fun δ S => match f (lowE δ) with
  | .ok ds => .ok (ds.map fun d => .v (.frz d)) (fun _ => True) δ S
  | .err c e => .err c e δ S
  | .bad => .bad
/-- numbers, of all that is seen -/
def iRg (f : FI) : FIq := fun δ S => match f (eraE S δ) with
  | .ok ds => .ok (ds.map fun d => .v (.frz d)) (fun _ => True) δ S
  | .err c e => .err c e δ S
  | .bad => .bad
def iLab (f : FX) : FIq := fun δ S => match f δ S with
  | .ok (.v (.lab l)) δ1 S1 => (match S1[l]? with
    | some (.lst xs) => .ok (xs.map .v) (fun S' => S'[l]? = some (.lst xs)) δ1 S1
    | _ => .bad)
  | .ok _ _ _ => .bad
  | .err c e δ1 S1 => .err c e δ1 S1
  | .bad => .bad
def enumq (xs : List VL) : List Sl := (List.range xs.length).zipWith (fun i x => Sl.v (mkTup [.frz (.int (i : Nat)), x])) xs
def iEnu (f : FX) : FIq := fun δ S => match yvs [f] δ S with
  | .ok [.lab l] δ1 S1 => (match S1[l]? with
    | some (.lst xs) => .ok (enumq xs) (fun S' => S'[l]? = some (.lst xs)) δ1 S1
    | _ => .bad)
  | .ok _ _ _ => .bad
  | .err c e δ1 S1 => .err c e δ1 S1
  | .bad => .bad
def zipq (xs ys : List VL) : List Sl := xs.zipWith (fun x y => Sl.v (mkTup [x, y])) ys
/-- a list's items, and what must stay -/
def seqq (S : Sto) : VL → Option (List VL × (Sto → Prop))
  | .lab l => (match S[l]? with
    | some (.lst xs) => some (xs, fun S' => S'[l]? = some (.lst xs))
    | _ => none)
  | .frz (.list ds) => some (ds.map .frz, fun _ => True)
  | _ => none
def iZp (f g : FX) : FIq := fun δ S => match yvs [f, g] δ S with
  | .ok [x, y] δ1 S1 => (match seqq S1 x, seqq S1 y with
    | some (xs, p), some (ys, q) => .ok (zipq xs ys) (fun S' => p S' ∧ q S') δ1 S1
    | _, _ => .bad)
  | .ok _ _ _ => .bad
  | .err c e δ1 S1 => .err c e δ1 S1
  | .bad => .bad
abbrev okT : (Addr → Prop) → Hp → OkH := fun _ _ _ _ => True
section
variable {X : Cx} {C : Cc} {tg e iter : Expr} {fi : FI} {f g : FX} {K : PySem.W.Frag} {B : Bs} {ρ : List Addr} {S : Sto} {H : Hp} {v : V}
theorem di_lo (h : DI X C [] tg e fi) : DIq X C tg e (iLo fi) := pi_imp h fun σ H Q ⟨B, ρ, δ, S, r, k⟩ => by
  refine ⟨_, _, _, r.low, ?_⟩
  unfold iLo at k
  cases ei : fi (lowE δ) with
  | err c x => rw [ei] at k; exact fun cls dd H' s z => k cls dd H' ρ (Stq.same s) (r.same s) z
  | bad => rw [ei] at k; exact k
  | ok ds =>
    rw [ei] at k
    intro J H1 s1 it
    refine k J H1 ρ (Stq.same s1) (r.same s1) fun ρ' S' H' st rs _ => ?_
    obtain ⟨h1, h2, h3⟩ := it H' (avS B ρ' S') ⟨fun b o e n => st.kp b o e (n.imp (fun n z => n ((avO_nil b).mpr z)) id), fun a z => (st.sub a z).imp (fun z => (avO_nil a).mpr z) id⟩
    rw [List.length_map]
    refine ⟨h1, h2, fun i x H'' hi y => ?_⟩
    obtain ⟨s, d, e1, e2⟩ := h3 i x H'' hi y
    exact ⟨s, .v (.frz d), by rw [List.getElem?_map, e1]; rfl, .frz e2⟩
theorem di_rg (h : PI X tg e (tI okT X.K C [] fi)) : DIq X C tg e (iRg fi) := pi_imp h fun σ H Q ⟨B, ρ, δ, S, r, k⟩ => by
  refine ⟨_, _, _, r.era, ?_⟩
  unfold iRg at k
  cases ei : fi (eraE S δ) with
  | err c x => rw [ei] at k; exact fun cls dd H' s z => k cls dd H' ρ (Stq.same s) (r.same s) z
  | bad => rw [ei] at k; exact k
  | ok ds =>
    rw [ei] at k
    intro J H1 s1 it
    refine k J H1 ρ (Stq.same s1) (r.same s1) fun ρ' S' H' st rs _ => ?_
    obtain ⟨h1, h2, h3⟩ := it H' (avS B ρ' S') trivial
    rw [List.length_map]
    refine ⟨h1, h2, fun i x H'' hi y => ?_⟩
    obtain ⟨s, d, e1, e2⟩ := h3 i x H'' hi y
    exact ⟨s, .v (.frz d), by rw [List.getElem?_map, e1]; rfl, .frz e2⟩
theorem ItQ.list {l : Nat} {a : Addr} {xs : List VL} (ha : ρ[l]? = some a) : ItQ K B ρ S H (Itl K a) (xs.map .v) (fun S' => S'[l]? = some (.lst xs)) := fun ρ' S' H' st rs hc => by
  obtain ⟨vs, e1, e2⟩ := rs.cell l _ a hc (st.ext l a ha)
  have hq : SqL K H' a vs := .inl (.inl e1)
  rw [List.length_map, ← e2.length]
  refine ⟨fun i hi => ⟨vs, vs[i], hq, by simp [hi]⟩, ⟨vs, hq, Nat.le_refl _⟩, fun i x H'' hi y => ?_⟩
  obtain ⟨e, y⟩ := y
  subst e
  obtain ⟨d, q1, q2⟩ := e2.get (y vs hq)
  exact ⟨Same.refl _, .v d, by rw [List.getElem?_map, q1]; rfl, q2⟩
theorem di_lab (h : DY X C e f) : DIq X C tg e (iLab f) := pi_imp (pi_list h) fun σ H Q ⟨B, ρ, δ, S, r, k⟩ => by
  refine ⟨B, ρ, δ, S, r, ?_⟩
  unfold iLab at k
  cases ef : f δ S with
  | bad => rw [ef] at k; exact k
  | err c x δ1 S1 => rw [ef] at k; exact k
  | ok x δ1 S1 =>
    rw [ef] at k
    intro v H1 ρ1 s1 r1 z
    match x, z, k with
    | .als _, _, k => exact k.elim
    | .v (.frz _), _, k => exact k.elim
    | .v (.tup _), _, k => exact k.elim
    | .v (.lab l), z, k =>
      simp only at k
      cases q : S1[l]? with
      | none => rw [q] at k; exact k.elim
      | some c =>
        rw [q] at k
        cases c with
        | lst xs =>
          simp only at k
          cases z with
          | @lab a _ ha =>
            obtain ⟨vs, e1, e2⟩ := r1.rs.cell l _ a q ha
            exact ⟨a, rfl, ⟨vs, .inl (.inl e1)⟩, k _ H1 ρ1 s1 r1 (ItQ.list ha)⟩
        | _ => exact k.elim
theorem enumq_len {xs : List VL} : (enumq xs).length = xs.length := by simp [enumq]
theorem enumq_get {xs : List VL} {i : Nat} {x : VL} (h : xs[i]? = some x) : (enumq xs)[i]? = some (.v (mkTup [.frz (.int (i : Nat)), x])) := by
  have hi : i < xs.length := by
    by_cases q : i < xs.length
    · exact q
    · rw [List.getElem?_eq_none (by simpa using q)] at h; cases h
  unfold enumq
  rw [List.getElem?_zipWith, h]
  simp [hi]
theorem di_enu (h : DYs X C [e] [f]) (hh : ∀ ta, PA X [e] ta → PI X tg iter (iEnum X.K ta)) : DIq X C tg iter (iEnu f) := pi_imp (hh _ h) fun σ H Q ⟨B, ρ, δ, S, r, k⟩ => by
  refine ⟨B, ρ, δ, S, r, ?_⟩
  unfold iEnu at k
  cases ef : yvs [f] δ S with
  | bad => rw [ef] at k; exact k
  | err c x δ1 S1 => rw [ef] at k; exact k
  | ok xs0 δ1 S1 =>
    rw [ef] at k
    intro us H1 ρ1 s1 r1 zs
    have hl := yvs_length ef
    match xs0, hl, zs, k with
    | [.frz _], _, _, k => exact k.elim
    | [.tup _], _, _, k => exact k.elim
    | [.lab l], _, .cons z .nil, k =>
      simp only at k
      cases q : S1[l]? with
      | none => rw [q] at k; exact k.elim
      | some c =>
        rw [q] at k
        cases c with
        | lst xs =>
          simp only at k
          cases z with
          | @lab a _ ha =>
            obtain ⟨vs, e1, e2⟩ := r1.rs.cell l _ a q ha
            refine ⟨a, vs, rfl, .inl (.inl e1), k _ H1 ρ1 s1 r1 fun ρ' S' H' st rs hc => ?_⟩
            obtain ⟨vs', e1', e2'⟩ := rs.cell l _ a hc (st.ext l a ha)
            have hq : SqL X.K H' a vs' := .inl (.inl e1')
            rw [enumq_len, ← e2'.length]
            refine ⟨fun i hi => ⟨vs', vs'[i], hq, by simp [hi]⟩, ⟨vs', hq, Nat.le_refl _⟩, fun i x H'' hi y => ?_⟩
            obtain ⟨T, u, rfl, hT, rfl, y1⟩ := y
            obtain ⟨d, q1, q2⟩ := e2'.get (y1 vs' hq)
            have s := same_new hT (.tup [.int (i : Nat), u])
            exact ⟨s, _, enumq_get q1, mkTup_ok (SqT.of upd_same) (.cons (.frz (.int _)) (.cons (RV.step (Stq.same s) q2) .nil))⟩
        | _ => exact k.elim
theorem zipq_len {xs ys : List VL} : (zipq xs ys).length = min xs.length ys.length := by simp [zipq]
theorem zipq_get {xs ys : List VL} {i : Nat} {x y : VL} (h : xs[i]? = some x) (h2 : ys[i]? = some y) : (zipq xs ys)[i]? = some (.v (mkTup [x, y])) := by
  unfold zipq
  rw [List.getElem?_zipWith, h, h2]
theorem seqq_ok {x : VL} {xs : List VL} {p : Sto → Prop} {u : V} (rs0 : RS K B ρ S H) (e : seqq S x = some (xs, p)) (z : RV K H (avS B ρ S) ρ u x) : ∃ a, u = .ref a ∧ (∃ vs, SqL K H a vs) ∧ ∀ ρ' S' H', Stq B ρ S H ρ' S' H' → RS K B ρ' S' H' → p S' → ∃ vs, SqL K H' a vs ∧ RVs K H' (avS B ρ' S') ρ' vs xs := by
  match x, z, e with
  | .tup _, _, e => cases e
  | .frz d, z, e =>
    cases d with
    | list ds =>
      cases e
      cases z with
      | frz z =>
        obtain ⟨a, vs, rfl, h1, _, h2⟩ := okL_list z
        refine ⟨a, rfl, ⟨vs, h1⟩, fun ρ' S' H' st rs _ => ?_⟩
        obtain ⟨g1, g2⟩ := h2 H' (avS B ρ' S') ⟨st.kp, st.sub⟩
        exact ⟨vs, g1, g2.rvs⟩
    | _ => cases e
  | .lab l, z, e =>
    unfold seqq at e
    simp only at e
    cases q : S[l]? with
    | none => rw [q] at e; cases e
    | some c =>
      rw [q] at e
      cases c with
      | lst ys =>
        cases e
        cases z with
        | @lab a _ ha =>
          obtain ⟨vs0, e0, _⟩ := rs0.cell l _ a q ha
          refine ⟨a, rfl, ⟨vs0, .inl (.inl e0)⟩, fun ρ' S' H' st rs hc => ?_⟩
          obtain ⟨vs, e1, e2⟩ := rs.cell l _ a hc (st.ext l a ha)
          exact ⟨vs, .inl (.inl e1), e2⟩
      | _ => cases e
theorem di_zp {e2 : Expr} (h : DYs X C [e, e2] [f, g]) (hh : ∀ ta, PA X [e, e2] ta → PI X tg iter (iZip X.K ta)) : DIq X C tg iter (iZp f g) := pi_imp (hh _ h) fun σ H Q ⟨B, ρ, δ, S, r, k⟩ => by
  refine ⟨B, ρ, δ, S, r, ?_⟩
  unfold iZp at k
  cases ef : yvs [f, g] δ S with
  | bad => rw [ef] at k; exact k
  | err c x δ1 S1 => rw [ef] at k; exact k
  | ok xs0 δ1 S1 =>
    rw [ef] at k
    intro us H1 ρ1 s1 r1 zs
    have hl := yvs_length ef
    match xs0, hl, zs, k with
    | [x, y], _, .cons zx (.cons zy .nil), k =>
      simp only at k
      cases qx : seqq S1 x with
      | none => rw [qx] at k; exact k.elim
      | some px =>
        cases qy : seqq S1 y with
        | none => rw [qx, qy] at k; exact k.elim
        | some py =>
          obtain ⟨xs, p⟩ := px
          obtain ⟨ys, q⟩ := py
          rw [qx, qy] at k
          obtain ⟨a, rfl, ⟨va, ha⟩, ka⟩ := seqq_ok r1.rs qx zx
          obtain ⟨b, rfl, ⟨vb, hb⟩, kb⟩ := seqq_ok r1.rs qy zy
          refine ⟨a, b, va, vb, rfl, ha, hb, k _ H1 ρ1 s1 r1 fun ρ' S' H' st rs hc => ?_⟩
          obtain ⟨vs, h1, h2⟩ := ka ρ' S' H' st rs hc.1
          obtain ⟨ws, h3, h4⟩ := kb ρ' S' H' st rs hc.2
          have e1 := h2.length
          have e2 := h4.length
          refine ⟨fun i hi => ?_, ⟨vs, ws, h1, h3, ?_⟩, fun i x H'' hi y => ?_⟩
          · rw [zipq_len] at hi
            exact ⟨vs, ws, vs[i]'(by omega), ws[i]'(by omega), h1, h3, by simp, by simp⟩
          · rw [zipq_len]; omega
          · obtain ⟨T, u, v, rfl, hT, rfl, y1, y2⟩ := y
            obtain ⟨d, q1, q2⟩ := h2.get (y1 vs h1)
            obtain ⟨d', q3, q4⟩ := h4.get (y2 ws h3)
            have s := same_new hT (.tup [u, v])
            exact ⟨s, _, zipq_get q1 q3, mkTup_ok (SqT.of upd_same) (.cons (RV.step (Stq.same s) q2) (.cons (RV.step (Stq.same s) q4) .nil))⟩
end

/-! ### for, while -/
open Classical in
noncomputable def forDq (b : FBq) (body : FQ) (chk : Sto → Prop) : List Sl → FQ
  | [], δ, S => if chk S then .nx δ S else .bad
  | x :: xs, δ, S => if chk S then (match b x δ with
    | none => .bad
    | some δ1 => match body δ1 S with
      | .nx δ2 S2 => forDq b body chk xs δ2 S2
      | .ct δ2 S2 => forDq b body chk xs δ2 S2
      | .bk δ2 S2 => .nx δ2 S2
      | r => r) else .bad
noncomputable def forq (fi : FIq) (b : FBq) (body : FQ) : FQ := fun δ S => match fi δ S with
  | .ok its chk δ1 S1 => forDq b body chk its δ1 S1
  | .err c e δ1 S1 => .err c e δ1 S1
  | .bad => .bad
section
variable {X : Cx} {C : Cc} {tg iter : Expr} {fi : FIq} {b : FBq} {g : FQ} {body : List Stmt}
theorem dq_for {pos : Pos} (hp : PassesOwn (model X.prog X.w) X.A X.env X.xe) (hc : X.calm = true) (hi : DIq X C tg iter fi) (hg : DGq X C tg b) (hb : DQs X C body g)
    (hs : ∀ x, foldedSetIterable iter X.env x = pure x := by intro _; rfl) : DQ X C (.For tg iter body [] pos) (forq fi b g) := ps_imp (ps_for hp hc hi hg hb hs) fun D σ H ⟨B, ρ, δ, S, r, k⟩ => by
  refine ⟨B, ρ, δ, S, r, ?_⟩
  unfold forq at k
  cases e : fi δ S with
  | err c x δ1 S1 => rw [e] at k; exact fun cls dd H' ρ' s r' z => k cls dd ρ' σ H' s r' z
  | bad => rw [e] at k; exact k
  | ok its chk δ1 S1 =>
    rw [e] at k
    intro J H1 ρ1 s1 r1 it
    refine ⟨fun i m σ' H' => m = its.length - i ∧ i ≤ its.length ∧ ∃ δ' ρ' S', R2 X.K C.n B ρ' δ' S' σ' H' ∧ Stq B ρ1 S1 H1 ρ' S' H' ∧ Kq X.K C B ρ' S' H' D (forDq b g chk (its.drop i) δ' S'), ⟨_, rfl, Nat.zero_le _, δ1, ρ1, S1, r1, Stq.refl, k.from s1⟩, ?_⟩
    rintro i m σ' H' ⟨rfl, hi, δ', ρ', S', r', st, k'⟩
    by_cases hck : chk S'
    · obtain ⟨go, stop, yl⟩ := it ρ' S' H' st r'.rs hck
      by_cases hlt : i < its.length
      · refine .inr ⟨go i hlt, fun σ2 H2 => ∃ δ2 ρ2 S2, R2 X.K C.n B ρ2 δ2 S2 σ2 H2 ∧ Stq B ρ1 S1 H1 ρ2 S2 H2 ∧ Kq X.K C B ρ2 S2 H2 D (forDq b g chk (its.drop (i + 1)) δ2 S2), fun σ2 H2 ⟨δ2, ρ2, S2, h1, h2, h3⟩ => ⟨_, by omega, rfl, hlt, δ2, ρ2, S2, h1, h2, h3⟩, fun x H'' y => ?_⟩
        obtain ⟨s2, d, ed, rd⟩ := yl i x H'' hlt y
        have ed' : its[i] = d := by rw [List.getElem?_eq_getElem hlt] at ed; exact Option.some.inj ed
        rw [List.drop_eq_getElem_cons hlt, ed'] at k'
        unfold forDq at k'
        rw [if_pos hck] at k'
        cases eb : b d δ' with
        | none => simp only [eb] at k'; exact k'.elim
        | some δ1 =>
          simp only [eb] at k'
          refine ⟨B, ρ', δ', S', d, δ1, r'.same s2, rd, eb, fun σ1 r1 => ⟨B, ρ', δ1, S', r1, ?_⟩⟩
          have st2 : Stq B ρ1 S1 H1 ρ' S' H'' := st.trans (Stq.same s2)
          cases eg : g δ1 S' with
          | nx δ2 S2 => simp only [eg] at k'; exact fun ρ2 σ2 H2 s3 r2 => ⟨δ2, ρ2, S2, r2, st2.trans s3, k'.from ((Stq.same s2).trans s3)⟩
          | ct δ2 S2 => simp only [eg] at k'; exact fun ρ2 σ2 H2 s3 r2 => ⟨δ2, ρ2, S2, r2, st2.trans s3, k'.from ((Stq.same s2).trans s3)⟩
          | bk δ2 S2 => simp only [eg] at k'; exact fun ρ2 σ2 H2 s3 r2 => k' ρ2 σ2 H2 ((Stq.same s2).trans s3) r2
          | rt d S2 => simp only [eg] at k'; exact fun v ρ2 H2 s3 r2 z => k' v ρ2 H2 ((Stq.same s2).trans s3) r2 z
          | err c x δ2 S2 => simp only [eg] at k'; exact fun cls dd ρ2 σ2 H2 s3 r2 z => k' cls dd ρ2 σ2 H2 ((Stq.same s2).trans s3) r2 z
          | bad => simp only [eg] at k'; exact k'
      · have e2 : i = its.length := by omega
        subst e2
        refine .inl ⟨stop, ?_⟩
        rw [List.drop_length] at k'
        unfold forDq at k'
        rw [if_pos hck] at k'
        exact k' ρ' σ' H' Stq.refl r'
    · exfalso
      cases hd : its.drop i with
      | nil => rw [hd] at k'; unfold forDq at k'; rw [if_neg hck] at k'; exact k'
      | cons x xs => rw [hd] at k'; unfold forDq at k'; rw [if_neg hck] at k'; exact k'
def whq (c : FT) (body : FQ) : Nat → FQ
  | 0, _, _ => .bad
  | n + 1, δ, S => match c (eraE S δ) with
    | .ok true => (match body δ S with
      | .nx δ2 S2 => whq c body n δ2 S2
      | .ct δ2 S2 => whq c body n δ2 S2
      | .bk δ2 S2 => .nx δ2 S2
      | r => r)
    | .ok false => .nx δ S
    | .err c x => .err c x δ S
    | .bad => .bad
theorem dq_while {pos : Pos} {c : Expr} {fc : FT} (n : Nat) (hp : PassesOwn (model X.prog X.w) X.A X.env X.xe) (hc : DZ X C c fc) (hb : DQs X C body g) : DQ X C (.While c body [] pos) (whq fc g n) := ps_imp (ps_while hp hc hb) fun D σ H ⟨B, ρ, δ, S, r, k⟩ => by
  refine ⟨fun m σ' H' => ∃ δ' ρ' S', R2 X.K C.n B ρ' δ' S' σ' H' ∧ Kq X.K C B ρ' S' H' D (whq fc g m δ' S'), ⟨n, δ, ρ, S, r, k⟩, ?_⟩
  rintro m σ' H' ⟨δ', ρ', S', r', k'⟩
  cases m with
  | zero => exact k'.elim
  | succ m =>
    unfold whq at k'
    refine ⟨B, ρ', δ', S', r', ?_⟩
    cases e : fc (eraE S' δ') with
    | err c x => rw [e] at k'; exact fun cls dd H2 s z => k' cls dd ρ' σ' H2 (Stq.same s) (r'.same s) z
    | bad => rw [e] at k'; exact k'
    | ok t =>
      rw [e] at k'
      intro H1 s1
      cases t with
      | false => rw [if_neg Bool.false_ne_true]; exact k' ρ' σ' H1 (Stq.same s1) (r'.same s1)
      | true =>
        rw [if_pos rfl]
        refine ⟨fun σ2 H2 => ∃ δ2 ρ2 S2, R2 X.K C.n B ρ2 δ2 S2 σ2 H2 ∧ Kq X.K C B ρ2 S2 H2 D (whq fc g m δ2 S2), fun σ2 H2 h => ⟨m, Nat.lt_succ_self m, h⟩, B, ρ', δ', S', r'.same s1, ?_⟩
        simp only at k'
        cases eg : g δ' S' with
        | nx δ2 S2 => simp only [eg] at k'; exact fun ρ2 σ2 H2 s3 r2 => ⟨δ2, ρ2, S2, r2, k'.from ((Stq.same s1).trans s3)⟩
        | ct δ2 S2 => simp only [eg] at k'; exact fun ρ2 σ2 H2 s3 r2 => ⟨δ2, ρ2, S2, r2, k'.from ((Stq.same s1).trans s3)⟩
        | bk δ2 S2 => simp only [eg] at k'; exact fun ρ2 σ2 H2 s3 r2 => k' ρ2 σ2 H2 ((Stq.same s1).trans s3) r2
        | rt d S2 => simp only [eg] at k'; exact fun v ρ2 H2 s3 r2 z => k' v ρ2 H2 ((Stq.same s1).trans s3) r2 z
        | err c x δ2 S2 => simp only [eg] at k'; exact fun cls dd ρ2 σ2 H2 s3 r2 z => k' cls dd ρ2 σ2 H2 ((Stq.same s1).trans s3) r2 z
        | bad => simp only [eg] at k'; exact k'
end
end Dl

namespace Dl
open PySem PySem.Spec PyProof.Rows L2

/-! ### defs of the second layer -/
inductive RF where
  | ok (x : VL) (S : Sto)
  | err (c : Str) (e : Option (Str × Int)) (S : Sto)
  | bad
abbrev Fx2 := List VL → Sto → RF
def Kf (K : PySem.W.Frag) (B : Bs) (ρ : List Addr) (S : Sto) (H : Hp) (Q : VK) (E : XK) : RF → Prop
  | .ok x S' => ∀ v H' ρ', Stq B ρ S H ρ' S' H' → RS K B ρ' S' H' → RV K H' (avS B ρ' S') ρ' v x → Q v H'
  | .err c e S' => ∀ cls dd H' ρ', Stq B ρ S H ρ' S' H' → RS K B ρ' S' H' → Er K c e cls dd H' → E cls dd H'
  | .bad => False
def spq (K : PySem.W.Frag) (ar : Nat) (F : Fx2) : Sp := fun vs H Q E => ∃ B ρ S xs, RS K B ρ S H ∧ RVs K H (avS B ρ S) ρ vs xs ∧ xs.length = ar ∧ Kf K B ρ S H Q E (F xs S)
def startq (n : Nat) (xs : List VL) : Ev2 := xs.map (fun x => some (Sl.v x)) ++ List.replicate (n - xs.length) none
def rnq (n : Nat) (g : FQ) : Fx2 := fun xs S => match g (startq n xs) S with
  | .rt x S' => .ok x S'
  | .nx _ S' => .ok (.frz .none) S'
  | .err c e _ S' => .err c e S'
  | _ => .bad
theorem r2_start {K : PySem.W.Frag} {N : List Str} {B : Bs} {ρ : List Addr} {S : Sto} {H : Hp} {vs : List V} {xs : List VL} (rs : RS K B ρ S H) (r : RVs K H (avS B ρ S) ρ vs xs) (hl : xs.length ≤ N.length) :
    R2 K N.length B ρ (startq N.length xs) S (L2.start N vs) H where
  rs := rs
  sl := by unfold L2.start startq; rw [List.length_append, List.length_map, List.length_replicate, List.length_append, List.length_map, List.length_replicate, r.length]
  sn := by unfold startq; rw [List.length_append, List.length_map, List.length_replicate]; omega
  val := fun i x e => by
    unfold startq at e
    have hi : i < xs.length := by
      by_cases hi : i < xs.length
      · exact hi
      · rw [List.getElem?_append_right (by simpa using hi), List.getElem?_replicate] at e
        split at e <;> cases e
    rw [List.getElem?_append_left (by simpa using hi), List.getElem?_map] at e
    cases q : xs[i]? with
    | none => rw [q] at e; cases e
    | some d' =>
      rw [q] at e
      cases e
      obtain ⟨v, h1, h2⟩ := r.get' q
      refine ⟨v, ?_, h2⟩
      unfold L2.start
      rw [List.getElem?_append_left (by simpa using r.length.symm ▸ hi), List.getElem?_map, h1]; rfl
theorem fnq {P : Program} {w : World} {K : PySem.W.Frag} {mg : Str → Option Value} {base : Heap} {x qual : Str} {params : Arguments} {body : List Stmt} {scope : Scope} {dvs : List V} {kws : List (Str × V)} {f : Addr} {fd : FuncData}
    {N ps : List Str} {k n ar : Nat} {g : FQ} (F : FunD K x qual params body scope dvs kws f fd) (S : FnScope N ps scope) (har : ps.length = ar) (hn : N.length = n)
    (hbody : ∀ (cdv : Value) (A : Around) (outer : List Env) (s : Shared) (H : Hp) (E : XK), Rm k (cxD P w K mg base N qual scope f cdv A outer s H E).A → Takes (cxD P w K mg base N qual scope f cdv A outer s H E) (cxC n false E).W →
      PassesOwn (model P w) (cxD P w K mg base N qual scope f cdv A outer s H E).A (cxD P w K mg base N qual scope f cdv A outer s H E).env (cxD P w K mg base N qual scope f cdv A outer s H E).xe →
      DQs (cxD P w K mg base N qual scope f cdv A outer s H E) (cxC n false E) body g) :
    FnR P w K mg base (k + 1) f fd ps (spq K ar (rnq n g)) := by
  subst har hn
  refine fnR F S (fun vs H Q E h => ?_) (fun cdv A outer s H vs Q E hr h => ?_)
  · obtain ⟨B, ρ, St, xs, _, r, hl, _⟩ := h
    rw [r.length]; exact hl
  · have hb := hbody cdv A outer s H E hr (takes_of rfl rfl rfl rfl) (passes_of rfl)
    refine ⟨_, hb, ?_⟩
    obtain ⟨B, ρ, St, xs, rs, r, hl, q⟩ := h
    have hpl : ps.length ≤ N.length := by have := congrArg List.length S.pre; rw [List.length_take] at this; omega
    refine ⟨B, ρ, _, St, r2_start rs r (by omega), ?_⟩
    unfold rnq at q
    cases e : g (startq N.length xs) St with
    | rt x S' => rw [e] at q; exact fun v ρ' H' s r' z => q v H' ρ' s r' z
    | nx δ' S' => rw [e] at q; exact fun ρ' σ' H' s r' => q _ H' ρ' s r'.rs (.frz .non)
    | err c x δ' S' => rw [e] at q; exact fun cls dd ρ' σ' H' s r' z => q cls dd H' ρ' s r'.rs z
    | bk δ' S' => rw [e] at q; exact q.elim
    | ct δ' S' => rw [e] at q; exact q.elim
    | bad => rw [e] at q; exact q
def ycl (G : Fx2) (fs : List FX) : FX := fun δ S => match yvs fs δ S with
  | .ok xs δ1 S1 => (match G xs S1 with
    | .ok x S2 => .ok (.v x) (wA δ1) S2
    | .err c e S2 => .err c e (wA δ1) S2
    | .bad => .bad)
  | .err c e δ1 S1 => .err c e δ1 S1
  | .bad => .bad
section
variable {X : Cx} {C : Cc} {k : Nat} {f : Addr} {fd : FuncData} {ps : List Str} {x : Str} {p pos : Pos} {e : Expr} {es : List Expr} {fs : List FX} {G : Fx2} {ar : Nat}
theorem dy_call (F : FnR X.prog X.w X.K X.mg X.base k f fd ps (spq X.K ar G)) (hr : Rm k X.A) (hg : Gl X x) (hm : X.mg x = some (.ref f)) (hk : PySem.W.keepIn X.K (.ref f) = true) (hb : Binds X.K fd ps []) (tk : Takes X C.W)
    (ha : DYs X C (e :: es) fs) (har : fs.length = ar := by rfl) (hdb : (x == ("__debug__" : Str)) = false := by decide) (he : starEach (e :: es) X.env = (false, eval e X.env) :: starEach es X.env := by rfl) (hpl : (backTo pos (starEach es X.env)).any (·.1) = false := by rfl) :
    DY X C (.Call (.Name x p) (e :: es) [] pos) (ycl G fs) := pe_imp (pe_callR F hr hg hm hk hb (fun σ => passAt tk σ) ha hdb he hpl) fun σ H Q ⟨B, ρ, δ, S, r, k⟩ => by
  refine ⟨B, ρ, δ, S, r, ?_⟩
  unfold ycl at k
  cases ef : yvs fs δ S with
  | bad => rw [ef] at k; exact k
  | err c x δ1 S1 => rw [ef] at k; exact k
  | ok xs δ1 S1 =>
    rw [ef] at k
    intro vs H1 ρ1 s1 r1 zs
    refine ⟨B, ρ1, S1, xs, r1.rs, zs, (yvs_length ef).trans har, ?_⟩
    simp only at k
    cases eg : G xs S1 with
    | bad => rw [eg] at k; exact k
    | ok y S2 => rw [eg] at k; exact fun v H2 ρ2 s2 rs2 z => k v H2 ρ2 (s1.trans s2) (r1.step s2 rs2) z
    | err c y S2 => rw [eg] at k; exact fun cls dd H2 ρ2 s2 rs2 z => k cls dd H2 ρ2 (s1.trans s2) (r1.step s2 rs2) z
end
/-- no calls left -/
theorem fnq0 {P : Program} {w : World} {K : PySem.W.Frag} {mg : Str → Option Value} {base : Heap} {f : Addr} {fd : FuncData} {ps : List Str} {ar : Nat} : FnR P w K mg base 0 f fd ps (spq K ar fun _ _ => .bad) := by
  have no : ∀ vs H Q E, ¬ spq K ar (fun _ _ => .bad) vs H Q E := fun vs H Q E h => by
    obtain ⟨_, _, _, _, _, _, _, z⟩ := h
    exact z
  exact ⟨fun vs H Q E h => absurd h (no vs H Q E), fun A outer s H args us vs Q E _ _ _ _ h => absurd h (no vs H Q E)⟩
theorem FnR.imp {P : Program} {w : World} {K : PySem.W.Frag} {mg : Str → Option Value} {base : Heap} {n : Nat} {f : Addr} {fd : FuncData} {ps : List Str} {sp sp' : Sp} (F : FnR P w K mg base n f fd ps sp) (h : ∀ vs H Q E, sp' vs H Q E → sp vs H Q E) : FnR P w K mg base n f fd ps sp' :=
  ⟨fun vs H Q E q => F.len vs H Q E (h _ _ _ _ q), fun A outer s H args us vs Q E hr e0 hb r q => F.run A outer s H args us vs Q E hr e0 hb r (h _ _ _ _ q)⟩
/-! ### a def of the second layer as one of the first: data in, data out -/
def f21 (F : Fx2) (ds : List PyData) : R PyData := match F (ds.map .frz) [] with
  | .ok x S' => (match er S' eF x with
    | some d => .ok d
    | none => .bad)
  | .err c e _ => .err c e
  | .bad => .bad
theorem rs_nil {K : PySem.W.Frag} {H : Hp} {av : Addr → Prop} (hav : ∀ a, av a → H a ≠ none) : RS K ⟨H, av⟩ [] [] H where
  len := rfl
  inj := fun i j a h => by simp at h
  new := fun i a h => by simp at h
  keep := Same.refl H
  dom := fun a h => ⟨hav a h, fun i z => by simp at z⟩
  cell := fun l c a h => by simp at h
theorem avS_nil {H : Hp} {av : Addr → Prop} : ∀ a, avS ⟨H, av⟩ [] [] a → av a := by
  rintro a (h | ⟨l, h, _⟩)
  · exact h
  · simp at h
theorem fn21 {P : Program} {w : World} {K : PySem.W.Frag} {mg : Str → Option Value} {base : Heap} {n : Nat} {f : Addr} {fd : FuncData} {ps : List Str} {ar : Nat} {G : Fx2} (F : FnR P w K mg base n f fd ps (spq K ar G)) : FnR P w K mg base n f fd ps (spD K false ar (f21 G)) := F.imp fun vs H Q E h => by
  obtain ⟨ds, av, r, hl, hav, q⟩ := h
  refine ⟨⟨H, av⟩, [], [], ds.map .frz, rs_nil hav, (r.weak avS_nil).rvs, by rw [List.length_map]; exact hl, ?_⟩
  unfold f21 at q
  cases e : G (ds.map .frz) [] with
  | bad => rw [e] at q; exact q
  | err c x S' => rw [e] at q; exact fun cls dd H' ρ' s rs z => q cls dd H' rs.keep z
  | ok x S' =>
    rw [e] at q
    intro v H' ρ' s rs z
    simp only at q
    cases e2 : er S' eF x with
    | none => rw [e2] at q; exact q.elim
    | some d => rw [e2] at q; exact q v H' rs.keep (RV.er rs eF z e2)
/-- .. data in, a new list without lists out -/
def f21o (F : Fx2) (ds : List PyData) : R PyData := match F (ds.map .frz) [] with
  | .ok (.lab l) S' => (match S'[l]? with
    | some (.lst xs) => (match allFrz xs with
      | some es => if flts es = true then .ok (.list es) else .bad
      | none => .bad)
    | _ => .bad)
  | .ok _ _ => .bad
  | .err c e _ => .err c e
  | .bad => .bad
theorem fn21o {P : Program} {w : World} {K : PySem.W.Frag} {mg : Str → Option Value} {base : Heap} {n : Nat} {f : Addr} {fd : FuncData} {ps : List Str} {ar : Nat} {G : Fx2} (F : FnR P w K mg base n f fd ps (spq K ar G)) : FnR P w K mg base n f fd ps (spD K true ar (f21o G)) := F.imp fun vs H Q E h => by
  obtain ⟨ds, av, r, hl, hav, q⟩ := h
  refine ⟨⟨H, av⟩, [], [], ds.map .frz, rs_nil hav, (r.weak avS_nil).rvs, by rw [List.length_map]; exact hl, ?_⟩
  unfold f21o at q
  cases e : G (ds.map .frz) [] with
  | bad => rw [e] at q; exact q
  | err c x S' => rw [e] at q; exact fun cls dd H' ρ' s rs z => q cls dd H' rs.keep z
  | ok x S' =>
    rw [e] at q
    intro v H' ρ' s rs z
    cases x with
    | frz d => exact q.elim
    | tup d => exact q.elim
    | lab l =>
      simp only at q
      cases e2 : S'[l]? with
      | none => rw [e2] at q; exact q.elim
      | some c =>
        rw [e2] at q
        cases c with
        | lst xs =>
          simp only at q
          cases e3 : allFrz xs with
          | none => rw [e3] at q; exact q.elim
          | some es =>
            rw [e3] at q
            simp only at q
            split at q
            · rename_i hf
              cases z with
              | @lab a _ ha =>
                obtain ⟨vs', h1, h2⟩ := rs.cell l _ a e2 ha
                exact q _ H' rs.keep ⟨a, rfl, rs.new l a ha, vs', h1, RpAll.flt (allFrz_ok h2 e3) hf⟩
            · exact q.elim
        | _ => exact q.elim

/-! ### raise, i += e -/
def raq (c : Str) : FQ := fun δ S => .err c none δ S
section
variable {X : Cx} {C : Cc} {st : Stmt}
theorem dq_raise {c : Str} (h : PS X st (fun _ σ H => C.W (.ref (He.ga X.K c)) none σ H)) : DQ X C st (raq c) :=
  ps_imp h fun D σ H ⟨B, ρ, δ, S, r, k⟩ => k _ _ ρ σ H Stq.refl r ⟨rfl, rfl⟩
end
end Dl

namespace Dl
open PySem PySem.Spec PyProof.Rows L2
/-! ### a list that changes no more becomes data -/
def fzq (i : Nat) : FQ := fun δ S => match δ[i]? with
  | some (some (.v (.lab l))) => (match S[l]? with
    | some (.lst xs) => (match allFrz xs with
      | some ds => .nx (δ.set i (some (.v (.frz (.list ds))))) (S.set l .dead)
      | none => .bad)
    | _ => .bad)
  | _ => .bad
section
variable {K : PySem.W.Frag} {n : Nat} {B : Bs} {ρ : List Addr} {δ : Ev2} {S : Sto} {σ : L2.St} {H : Hp}
theorem avS_kill {l : Nat} : ∀ a, avS B ρ (S.set l .dead) a → avS B ρ S a := by
  rintro a (h | ⟨m, h1, c, h2, h3⟩)
  · exact .inl h
  · by_cases e : l = m
    · subst e
      by_cases hl : l < S.length
      · rw [List.getElem?_set_self hl] at h2; cases h2; exact absurd rfl h3
      · rw [List.getElem?_eq_none (by simpa using hl)] at h2; cases h2
    · rw [List.getElem?_set_ne e] at h2
      exact .inr ⟨m, h1, c, h2, h3⟩
theorem Stq.kill {l : Nat} : Stq B ρ S H ρ (S.set l .dead) H := ⟨Kp.of_same (Same.refl H), fun a h => .inl (avS_kill a h), fun _ _ h => h⟩
theorem CellOk.step {ρ' : List Addr} {S' : Sto} {a : Addr} {c : Cell} (h : CellOk K H (avS B ρ S) ρ a c) (s : Stq B ρ S H ρ' S' H) : CellOk K H (avS B ρ' S') ρ' a c := by
  cases c with
  | dead => exact h
  | lst xs => obtain ⟨vs, e, q⟩ := h; exact ⟨vs, e, q.step s⟩
  | dct kvs => obtain ⟨vs, e, q⟩ := h; exact ⟨vs, e, q.step s⟩
  | obj c fs => obtain ⟨vs, e, q⟩ := h; exact ⟨vs, e, q.step s⟩
theorem RS.kill {l : Nat} (r : RS K B ρ S H) : RS K B ρ (S.set l .dead) H where
  len := by rw [List.length_set]; exact r.len
  inj := r.inj
  new := r.new
  keep := r.keep
  dom := r.dom
  cell := fun m c a h1 h2 => by
    by_cases e : l = m
    · subst e
      have hl := r.ltS h2
      rw [List.getElem?_set_self hl] at h1
      cases h1
      exact r.labdom h2
    · rw [List.getElem?_set_ne e] at h1
      exact (r.cell m c a h1 h2).step Stq.kill
theorem R2.kill {l : Nat} (r : R2 K n B ρ δ S σ H) : R2 K n B ρ δ (S.set l .dead) σ H := ⟨r.rs.kill, r.sl, r.sn, fun i x h => by
  obtain ⟨v, h1, h2⟩ := r.val i x h
  refine ⟨v, h1, ?_⟩
  cases x with
  | v x => exact RV.step Stq.kill h2
  | als d => exact h2⟩
end
theorem σset {σ : L2.St} {i : Nat} {v : V} (h : σ[i]? = some (some v)) : σ.set i (some v) = σ := by
  refine List.ext_getElem? fun j => ?_
  by_cases e : i = j
  · subst e
    have hl : i < σ.length := by
      by_cases q : i < σ.length
      · exact q
      · rw [List.getElem?_eq_none (by simpa using q)] at h; cases h
    rw [List.getElem?_set_self hl, h]
  · rw [List.getElem?_set_ne e]
theorem dqs_fz {X : Cx} {C : Cc} {sts : List Stmt} {g : FQ} {i : Nat} (h : DQs X C sts g) : DQs X C sts (sqq (fzq i) g) := pss_imp h fun D σ H ⟨B, ρ, δ, S, r, k⟩ => by
  unfold sqq fzq at k
  match e : δ[i]?, k with
  | none, k => exact k.elim
  | some none, k => exact k.elim
  | some (some (.als _)), k => exact k.elim
  | some (some (.v (.frz _))), k => exact k.elim
  | some (some (.v (.tup _))), k => exact k.elim
  | some (some (.v (.lab l))), k =>
    simp only at k
    cases q : S[l]? with
    | none => rw [q] at k; exact k.elim
    | some c =>
      rw [q] at k
      cases c with
      | lst xs =>
        simp only at k
        cases q2 : allFrz xs with
        | none => rw [q2] at k; exact k.elim
        | some ds =>
          rw [q2] at k
          simp only at k
          obtain ⟨v, h1, h2⟩ := r.val i _ e
          cases h2 with
          | @lab a _ ha =>
            obtain ⟨vs, e1, e2⟩ := r.rs.cell l _ a q ha
            have st : Stq B ρ S H ρ (S.set l .dead) H := Stq.kill
            have na : ¬ avS B ρ (S.set l .dead) a := by
              rintro (z | ⟨m, z1, c, z2, z3⟩)
              · exact (r.rs.dom a z).2 l ha
              · have em := r.rs.inj l m a ha z1
                subst em
                rw [List.getElem?_set_self (r.rs.ltS ha)] at z2
                cases z2; exact z3 rfl
            have rp : Rp X.K H (avS B ρ (S.set l .dead)) (.ref a) (.list ds) := .lst (.inl e1) na (allFrz_ok (e2.step st) q2)
            have r2 := (r.kill (l := l)).set (i := i) (v := .ref a) (x := .v (.frz (.list ds))) (.frz rp)
            rw [σset h1] at r2
            exact ⟨B, ρ, _, _, r2, k.from st⟩
      | _ => exact k.elim
end Dl

namespace Kn
open PySem Dl
noncomputable section
def b__law_holds_v3_r1 (f_law_if : Fx) : FS :=
  (retS (op2 eqD (op2 ixD (vr 2) (vr 4)) (callF f_law_if [(vr 0), (op2 ixD (vr 3) (cst (.int 0))), (op2 ixD (vr 3) (cst (.int 1))), (vr 4)])))
def b__law_holds_v3_r2 (f_law_if : Fx) : FS :=
  (sq (ifS (tst (op2 eqD (op2 ixD (vr 1) (cst (.int 0))) (cst (.str "one")))) (retS (op2 eqD (op2 ixD (vr 2) (vr 4)) (orV (op2 ixD (op2 ixD (vr 3) (cst (.int 0))) (vr 4)) (op2 ixD (op2 ixD (vr 3) (cst (.int 1))) (vr 4))))) skp) (b__law_holds_v3_r1 f_law_if))
def b__law_holds_v3_r3 (f_law_if : Fx) : FS :=
  (sq (ifS (tst (op2 eqD (op2 ixD (vr 1) (cst (.int 0))) (cst (.str "both")))) (retS (op2 eqD (op2 ixD (vr 2) (vr 4)) (andV (op2 ixD (op2 ixD (vr 3) (cst (.int 0))) (vr 4)) (op2 ixD (op2 ixD (vr 3) (cst (.int 1))) (vr 4))))) skp) (b__law_holds_v3_r2 f_law_if))
def b__law_holds_v3_r4 (f_law_if : Fx) : FS :=
  (sq (ifS (tst (op2 eqD (op2 ixD (vr 1) (cst (.int 0))) (cst (.str "letter")))) (retS (op2 eqD (op2 ixD (vr 2) (vr 4)) (op2 inD (op2 ixD (vr 1) (cst (.int 1))) (op2 ixD (op2 ixD (vr 0) (vr 4)) (cst (.int 1)))))) skp) (b__law_holds_v3_r3 f_law_if))
/-- _law_holds: 0 worlds_here, 1 statement_here, 2 found, 3 inner, 4 world -/
def b__law_holds_v3 (f_law_if : Fx) : FS :=
  (sq (ifS (tst (op2 eqD (op2 ixD (vr 1) (cst (.int 0))) (cst (.str "low")))) (retS (notV (op2 ixD (vr 2) (vr 4)))) skp) (b__law_holds_v3_r4 f_law_if))
def b__law_if_l1 (f_law_later : Fx) : FS :=
  (ifS (andT (tst (op2 ixD (vr 1) (vr 4))) (notT (tst (op2 ixD (vr 2) (vr 4))))) (retS (cst (.bool false))) skp)
def b__law_if_r1 (f_law_later : Fx) : FS :=
  (retS (cst (.bool true)))
/-- _law_if: 0 worlds_here, 1 ones, 2 others, 3 world, 4 number -/
def b__law_if (f_law_later : Fx) : FS :=
  (sq (forS (itL (callF f_law_later [(vr 0), (vr 3)])) (bN 4) (b__law_if_l1 f_law_later)) (b__law_if_r1 f_law_later))
def b_law_k13_l1 (f_law_cell : Fx) (f_law_words : Fx) (f_law_worlds : Fx) (f_law_mix : Fx) (f_law_statement : Fx) (f_law_copy : Fx) (f_law_within : Fx) (f_known : Fx) (f_law_truths : Fx) (f_law_holds : Fx) : FQ :=
  (sqq (stq 8 (nw (callF f_known [(vr 4), (vr 7)]))) (sqq (ifq (notT (tst (callF f_law_truths [(vr 8), (cal lenD [(vr 2)])]))) (rtq (lo (cst (.bool false)))) skq) (appq (yv 5) (yv 8))))
def b_law_k13_l2 (f_law_cell : Fx) (f_law_words : Fx) (f_law_worlds : Fx) (f_law_mix : Fx) (f_law_statement : Fx) (f_law_copy : Fx) (f_law_within : Fx) (f_known : Fx) (f_law_truths : Fx) (f_law_holds : Fx) : FQ :=
  (ifq (notT (tst (callF f_law_holds [(vr 2), (vr 7), (vr 8), (vr 9), (vr 11)]))) (rtq (lo (cst (.bool false)))) skq)
def b_law_k13_l3 (f_law_cell : Fx) (f_law_words : Fx) (f_law_worlds : Fx) (f_law_mix : Fx) (f_law_statement : Fx) (f_law_copy : Fx) (f_law_within : Fx) (f_known : Fx) (f_law_truths : Fx) (f_law_holds : Fx) : FQ :=
  (sqq (stq 9 (al (lcF [10] (itT (slc (vr 7) (prt (cst (.int 1))) noP)) (bN 10) (tst (op2 eqD (cal lenD [(vr 7)]) (cst (.int 3)))) (op2 ixD (vr 5) (idxF (vr 6) (vr 10)))))) (forq (iRg (itR [(cal lenD [(vr 2)])])) (bNq 11) (b_law_k13_l2 f_law_cell f_law_words f_law_worlds f_law_mix f_law_statement f_law_copy f_law_within f_known f_law_truths f_law_holds)))
def b_law_k13_r1 (f_law_cell : Fx) (f_law_words : Fx) (f_law_worlds : Fx) (f_law_mix : Fx) (f_law_statement : Fx) (f_law_copy : Fx) (f_law_within : Fx) (f_known : Fx) (f_law_truths : Fx) (f_law_holds : Fx) : FQ :=
  (sqq (stq 12 (nf (cal listD [(op2 ixD (vr 5) (cst (.int 0)))]))) (sqq (appq (yix (yv 5) (cst (.int 0))) (lo (cst (.bool true)))) (rtq (fl (andV (op2 eqD (callF f_known [(vr 4), (vr 3)]) (vr 12)) (op2 eqD (vr 4) (vr 2)))))))
def b_law_k13_r2 (f_law_cell : Fx) (f_law_words : Fx) (f_law_worlds : Fx) (f_law_mix : Fx) (f_law_statement : Fx) (f_law_copy : Fx) (f_law_within : Fx) (f_known : Fx) (f_law_truths : Fx) (f_law_holds : Fx) : FQ :=
  (sqq (forq (iZp (yv 6) (yv 5)) (bTq [7, 8]) (b_law_k13_l3 f_law_cell f_law_words f_law_worlds f_law_mix f_law_statement f_law_copy f_law_within f_known f_law_truths f_law_holds)) (b_law_k13_r1 f_law_cell f_law_words f_law_worlds f_law_mix f_law_statement f_law_copy f_law_within f_known f_law_truths f_law_holds))
/-- law: 0 script, 1 words_here, 2 worlds_here, 3 statement_here, 4 handed, 5 told, 6 some_here, 7 here, 8 found, 9 inner, 10 part, 11 world, 12 kept -/
def b_law_k13 (f_law_cell : Fx) (f_law_words : Fx) (f_law_worlds : Fx) (f_law_mix : Fx) (f_law_statement : Fx) (f_law_copy : Fx) (f_law_within : Fx) (f_known : Fx) (f_law_truths : Fx) (f_law_holds : Fx) : FQ :=
  (sqq (stq 1 (lo (callF f_law_words [(callF f_law_cell [(vr 0), (cst (.int 0))]), (op2 addD (cst (.int 2)) (op2 modD (callF f_law_cell [(vr 0), (cst (.int 1))]) (cst (.int 5))))]))) (sqq (stq 2 (lo (callF f_law_worlds [(vr 0), (cst (.int 2)), (cst (.int 24)), (vr 1)]))) (sqq (stq 3 (lo (callF f_law_statement [(callF f_law_mix [(callF f_law_cell [(vr 0), (cst (.int 1))]), (cst (.int 76))]), (op2 addD (cst (.int 1)) (op2 modD (op2 fdivD (callF f_law_cell [(vr 0), (cst (.int 1))]) (cst (.int 5))) (cst (.int 25)))), (vr 1)]))) (sqq (stq 4 (lo (callF f_law_copy [(vr 2)]))) (sqq (stq 5 (yL [])) (sqq (stq 6 (lo (callF f_law_within [(vr 3)]))) (sqq (forq (iLo (itL (vr 6))) (bNq 7) (b_law_k13_l1 f_law_cell f_law_words f_law_worlds f_law_mix f_law_statement f_law_copy f_law_within f_known f_law_truths f_law_holds)) (b_law_k13_r2 f_law_cell f_law_words f_law_worlds f_law_mix f_law_statement f_law_copy f_law_within f_known f_law_truths f_law_holds))))))))
end
end Kn

namespace Kn
open PySem L2 Dl
local macro_rules | `(tactic| walk_at "ev") => `(tactic| try simp (disch := first | omega | (simp only [List.length_map, List.length_append, List.length_cons, List.length_nil, rangeL_len, mkI_len, mkW_len] <;> fail) | (simp only [List.length_map, List.length_append, List.length_cons, List.length_nil, rangeL_len, mkI_len, mkW_len]; omega)) only [ev_run, runK_rt, runK_err, ev_sq, sqK_nx, sqK_rt, sqK_bk, sqK_ct, sqK_err, ev_if, ifK_t, ifK_f, ifK_err, ev_set, setK_ok, setK_err, ev_ret, retK_ok, retK_err, ev_exp, expK_ok, expK_err, ev_skp, ev_brk, ev_cnt, ev_cst, ev_op2, ev_un1, ev_tst, asB_b, ev_andT, ev_orT, andK_t, andK_f, orK_t, orK_f, ev_notT, ev_andV, ev_orV, andW_t, andW_f, orW_t, orW_f, ev_notV, ev_isi, evs_nil, evs_cons, ev_mkT, ev_mkL, ev_cal, ev_call, ev_slc, ev_noP, ev_prt, asI_i, ev_for, forK_ok, ev_itLK, itLK_l, ev_itR, itRK_1, itRK_2, ev_itZ, itZK_l, itZK_t, ev_it1, it1K_l, ev_app, slotL_0, slotL_S, appK_ok, addD_i, addD_l, addD_s, subD_i, ltD_i, leD_i, gtD_i, geD_i, ltD_s, negD_i, isD_n, isntD_n, isNone_n, isNone_t, isNone_l, isNone_i, isNone_s, isNone_b, lenD_l, lenD_t, minD_i, maxD_i, mul_ok, mod_ok, fdiv_ok, eqD_int, eqD_str, neD_int, neD_str, ix0, ix1, ix2, ix3, vr0, vrS, R.bind_ok, R.bind_err, R.bind_bad, ofO_some, List.map_cons, List.map_nil, List.length_cons, List.length_nil, List.length_map, List.cons_append, List.nil_append, List.replicate, Nat.reduceAdd, Nat.reduceSub, List.set_cons_zero, List.set_cons_succ, lpK_nx, lpK_ct, lpK_bk, lpK_rt, lpK_err, whK_t, whK_f, sets, ev_aug, augK_ok, ev_asg, ev_mkD, evps_nil, evps_cons, pairK_s, pairK_i, listD_l, ev_lc, slD_l, slD_t, Int.cast_ofNat_Int, Int.reduceLT, Int.reduceLE, Int.reduceEq, Int.reduceAdd, Int.reduceSub, Int.reduceMul, Int.reduceNeg, Int.reduceMod, Int.reduceDiv, Int.reduceToNat, li0, li1, li2, li3, li4, str_inj, String.reduceEq, decide_false, decide_true, isiB_s, isiB_i, isiB_b, isiB_l, isiB_t, isiB_n, isiS, Bool.or_false, Bool.or_true, Bool.and_false, Bool.and_true, Bool.false_or, Bool.true_or, Bool.false_and, Bool.true_and, ev_dput, slotD_0, slotD_S, slotK_i, slotK_s, dinD_i, dinD_s, dixD_i, dixD_s, ev_keys, keysK_d, keysD_d, mkI_len, mkW_len, ev_popN, popN_ok, ev_popT, popT_ok, ev_raiseI, raiK_i, ev_raise, ev_try, tryK_nx, tryK_rt, tryK_e1, tryK_e0, fin1_nx, ev_fld, ev_tryO, tryOK_nx, tryOK_rt, tryOK_e, finO_nx, finO_rt, isD_b, ev_rev, revK_l, ev_ext, extK_ok, ev_callB, flatE_b, flatE_i, flatE_s, flatE_n, ev_extPop, ifT, ifF, ifTT, ifFT, intD_t, intD_f, cutT2, cutL_tail, inT2, inT3, tupleD_l, tupleD_t, listD_t, addD_t, lcD_nil, lcD_consT, consR_ok, forD_T2, forD_nil, wipe0, wipeS, Bool.not_true, Bool.not_false])
local macro_rules | `(tactic| walk_at "go") => `(tactic| try simp (disch := first | omega | (simp only [List.length_map, List.length_append, List.length_cons, List.length_nil, rangeL_len, mkI_len, mkW_len] <;> fail) | (simp only [List.length_map, List.length_append, List.length_cons, List.length_nil, rangeL_len, mkI_len, mkW_len]; omega)) only [ev_run, runK_rt, runK_err, ev_sq, sqK_nx, sqK_rt, sqK_bk, sqK_ct, sqK_err, ev_if, ifK_t, ifK_f, ifK_err, ev_set, setK_ok, setK_err, ev_ret, retK_ok, retK_err, ev_exp, expK_ok, expK_err, ev_skp, ev_brk, ev_cnt, ev_cst, ev_op2, ev_un1, ev_tst, asB_b, ev_andT, ev_orT, andK_t, andK_f, orK_t, orK_f, ev_notT, ev_andV, ev_orV, andW_t, andW_f, orW_t, orW_f, ev_notV, ev_isi, evs_nil, evs_cons, ev_mkT, ev_mkL, ev_cal, ev_call, ev_slc, ev_noP, ev_prt, asI_i, ev_for, forK_ok, ev_itLK, itLK_l, ev_itR, itRK_1, itRK_2, ev_itZ, itZK_l, itZK_t, ev_it1, it1K_l, ev_app, slotL_0, slotL_S, appK_ok, addD_i, addD_l, addD_s, subD_i, ltD_i, leD_i, gtD_i, geD_i, ltD_s, negD_i, isD_n, isntD_n, isNone_n, isNone_t, isNone_l, isNone_i, isNone_s, isNone_b, lenD_l, lenD_t, minD_i, maxD_i, mul_ok, mod_ok, fdiv_ok, eqD_int, eqD_str, neD_int, neD_str, ix0, ix1, ix2, ix3, vr0, vrS, R.bind_ok, R.bind_err, R.bind_bad, ofO_some, List.map_cons, List.map_nil, List.length_cons, List.length_nil, List.length_map, List.cons_append, List.nil_append, List.replicate, Nat.reduceAdd, Nat.reduceSub, List.set_cons_zero, List.set_cons_succ, lpK_nx, lpK_ct, lpK_bk, lpK_rt, lpK_err, whK_t, whK_f, sets, ev_aug, augK_ok, ev_asg, ev_mkD, evps_nil, evps_cons, pairK_s, pairK_i, listD_l, ev_lc, slD_l, slD_t, Int.cast_ofNat_Int, Int.reduceLT, Int.reduceLE, Int.reduceEq, Int.reduceAdd, Int.reduceSub, Int.reduceMul, Int.reduceNeg, Int.reduceMod, Int.reduceDiv, Int.reduceToNat, li0, li1, li2, li3, li4, str_inj, String.reduceEq, decide_false, decide_true, isiB_s, isiB_i, isiB_b, isiB_l, isiB_t, isiB_n, isiS, Bool.or_false, Bool.or_true, Bool.and_false, Bool.and_true, Bool.false_or, Bool.true_or, Bool.false_and, Bool.true_and, ev_dput, slotD_0, slotD_S, slotK_i, slotK_s, dinD_i, dinD_s, dixD_i, dixD_s, ev_keys, keysK_d, keysD_d, mkI_len, mkW_len, ev_popN, popN_ok, ev_popT, popT_ok, ev_raiseI, raiK_i, ev_raise, ev_try, tryK_nx, tryK_rt, tryK_e1, tryK_e0, fin1_nx, ev_fld, ev_tryO, tryOK_nx, tryOK_rt, tryOK_e, finO_nx, finO_rt, isD_b, ev_rev, revK_l, ev_ext, extK_ok, ev_callB, flatE_b, flatE_i, flatE_s, flatE_n, ev_extPop, ifT, ifF, ifTT, ifFT, intD_t, intD_f, cutT2, cutL_tail, inT2, inT3, tupleD_l, tupleD_t, listD_t, addD_t, lcD_nil, lcD_consT, consR_ok, forD_T2, forD_nil, wipe0, wipeS, Bool.not_true, Bool.not_false, *])
/-! ### k13: what goes together -/
theorem pc_mem {W : List Wd} {w : Nat} {S : List Nat} (g : Gw W) (c : PC W w W.length S) : ∀ j, j < W.length → (j ∈ S ↔ LtW W w j) := by
  have hd := g.dec
  have h1 : ∀ n j, j < n → j ∈ S → LtW W w j := by
    intro n
    induction n with
    | zero => intro j h; omega
    | succ n ih =>
      intro j hj hm
      rcases c.cl j hm with rfl | ⟨b, e, hb⟩
      · exact .refl
      · have := c.lt j hm
        exact .step (by omega) e (ih b (by have := hd j b e; omega) hb)
  intro j hj
  refine ⟨h1 (j + 1) j (by omega), fun h => ?_⟩
  induction h with
  | refl => exact List.mem_of_getElem? c.hd
  | @step j b hk e hc ih =>
    have l1 := Ch.le hd hc
    have l2 := hd j b e
    exact c.up j b (by omega) hj e (ih (by omega))
def kb (W : List Wd) (F : Fm) (i : Nat) : Bool := (knL W F).getD i false
theorem kb_get {W : List Wd} {F : Fm} {i : Nat} (h : i < W.length) : (knL W F)[i]? = some (kb W F i) := by
  have hl : i < (knL W F).length := by rw [knL_len]; exact h
  unfold kb
  rw [List.getD_eq_getElem?_getD, List.getElem?_eq_getElem hl]; rfl
theorem kb_iff {W : List Wd} {F : Fm} {i : Nat} (h : i < W.length) : kb W F i = true ↔ knP W F i := by
  unfold knP
  rw [kb_get h]
  simp
theorem kb_ix {W : List Wd} {F : Fm} {i : Nat} (h : i < W.length) : ixD (bls (knL W F)) (.int (i : Nat)) = some (.bool (kb W F i)) := ix_bls (kb_get h)
theorem if_loop {lt : Fx} {W : List Wd} {p q : Fm} (dW dw : PyData) : ∀ (R : List Nat) (x : Option PyData), (∀ m ∈ R, m < W.length) →
    (∃ y, (∀ m ∈ R, kb W p m = true → kb W q m = true) ∧ forD (bN 4) (b__law_if_l1 lt) (R.map fun n => .int (n : Nat)) [some dW, some (bls (knL W p)), some (bls (knL W q)), some dw, x] = .nx [some dW, some (bls (knL W p)), some (bls (knL W q)), some dw, y]) ∨
    (¬ (∀ m ∈ R, kb W p m = true → kb W q m = true) ∧ forD (bN 4) (b__law_if_l1 lt) (R.map fun n => .int (n : Nat)) [some dW, some (bls (knL W p)), some (bls (knL W q)), some dw, x] = .rt (.bool false))
  | [], x, _ => .inl ⟨x, (fun m h => nomatch h), rfl⟩
  | m :: R, x, h => by
    have hm := h m List.mem_cons_self
    have e1 := kb_ix (F := p) hm
    have e2 := kb_ix (F := q) hm
    have unf : ∀ δ, b__law_if_l1 lt δ = ifS (andT (tst (op2 ixD (vr 1) (vr 4))) (notT (tst (op2 ixD (vr 2) (vr 4))))) (retS (cst (.bool false))) skp δ := fun δ => rfl
    rw [List.map_cons, forD_N, unf]
    walk_at "ev"
    rw [e1]
    walk_at "ev"
    cases hp : kb W p m with
    | false =>
      walk_at "ev"
      rcases if_loop (lt := lt) dW dw R (some (.int (m : Nat))) (fun k hk => h k (List.mem_cons_of_mem _ hk)) with ⟨y, h1, h2⟩ | ⟨h1, h2⟩
      · exact .inl ⟨y, fun k hk hh => by
          rcases List.mem_cons.mp hk with rfl | hk
          · rw [hp] at hh; cases hh
          · exact h1 k hk hh, h2⟩
      · exact .inr ⟨fun z => h1 fun k hk => z k (List.mem_cons_of_mem _ hk), h2⟩
    | true =>
      walk_at "ev"
      rw [e2]
      walk_at "ev"
      cases hq : kb W q m with
      | false =>
        walk_at "ev"
        refine .inr ⟨fun z => ?_, trivial⟩
        have := z m List.mem_cons_self hp
        rw [hq] at this; cases this
      | true =>
        walk_at "ev"
        rcases if_loop (lt := lt) dW dw R (some (.int (m : Nat))) (fun k hk => h k (List.mem_cons_of_mem _ hk)) with ⟨y, h1, h2⟩ | ⟨h1, h2⟩
        · exact .inl ⟨y, fun k hk hh => by
            rcases List.mem_cons.mp hk with rfl | hk
            · exact hq
            · exact h1 k hk hh, h2⟩
        · exact .inr ⟨fun z => h1 fun k hk => z k (List.mem_cons_of_mem _ hk), h2⟩
theorem if_ok {lt : Fx} (hlt : ∀ (W : List Wd), Gw W → W.length ≤ 10000 → ∀ w, w < W.length → ∃ S : List Nat, lt [.list (W.map encW), .int (w : Nat)] = .ok (ins_ S) ∧ PC W w W.length S) {W : List Wd} (g : Gw W) (hW : W.length ≤ 10000) (p q : Fm) (w : Nat) (hw : w < W.length) :
    runF 5 (b__law_if lt) [.list (W.map encW), bls (knL W p), bls (knL W q), .int (w : Nat)] = .ok (.bool (kb W (.bin .then_ p q) w)) := by
  obtain ⟨S, eS, c⟩ := hlt W g hW w hw
  unfold b__law_if b__law_if_r1
  have hS : ∀ m ∈ S, m < W.length := c.lt
  have key : (∀ m ∈ S, kb W p m = true → kb W q m = true) ↔ kb W (.bin .then_ p q) w = true := by
    rw [kb_iff hw, kn_then g.dec hw]
    constructor
    · intro h j hj hp
      have hl := knP_lt hp
      exact (kb_iff hl).mp (h j ((pc_mem g c j hl).mpr hj) ((kb_iff hl).mpr hp))
    · intro h m hm hp
      have hl := hS m hm
      exact (kb_iff hl).mpr (h m ((pc_mem g c m hl).mp hm) ((kb_iff hl).mp hp))
  walk_at "ev"
  rw [eS]
  unfold ins_
  walk_at "ev"
  rcases if_loop (lt := lt) (p := p) (q := q) (.list (W.map encW)) (.int (w : Nat)) S none hS with ⟨y, h1, h2⟩ | ⟨h1, h2⟩
  · rw [h2]
    walk_at "ev"
    rw [key.mp h1]
  · rw [h2]
    walk_at "ev"
    have : kb W (.bin .then_ p q) w = false := by
      cases e : kb W (.bin .then_ p q) w with
      | false => rfl
      | true => exact absurd (key.mpr e) h1
    rw [this]
theorem inS_str (x : Str) (ws : List Str) : inD (.str x) (.list (ws.map .str)) = some (.bool (decide (x ∈ ws))) := by
  show (inL (.str x) (ws.map .str)).map PyData.bool = _
  rw [inL_str]; rfl
theorem bool_eq (a : Bool) : eqD (.bool a) (.bool a) = some (.bool true) := eqD_self (Sh.bool 0 _) (by omega)
theorem kb_both {W : List Wd} {p q : Fm} {i : Nat} (h : i < W.length) : kb W (.bin .both p q) i = (kb W p i && kb W q i) := by
  rw [Bool.eq_iff_iff, Bool.and_eq_true, kb_iff h, kb_iff h, kb_iff h]; exact kn_both
theorem kb_one {W : List Wd} {p q : Fm} {i : Nat} (h : i < W.length) : kb W (.bin .one p q) i = (kb W p i || kb W q i) := by
  rw [Bool.eq_iff_iff, Bool.or_eq_true, kb_iff h, kb_iff h, kb_iff h]; exact kn_one
theorem holds3_ok {fi : Fx} {W : List Wd} (hfi : ∀ (p q : Fm) (w : Nat), w < W.length → fi [.list (W.map encW), bls (knL W p), bls (knL W q), .int (w : Nat)] = .ok (.bool (kb W (.bin .then_ p q) w))) (hs : ∀ u ∈ W, u.ls.length ≤ 1000000) (F : Fm) (L : List PyData) (hL : ∀ k a b, F = .bin k a b → L = [bls (knL W a), bls (knL W b)]) (w : Nat) (hw : w < W.length) :
    runF 5 (b__law_holds_v3 fi) [.list (W.map encW), enc F, bls (knL W F), .list L, .int (w : Nat)] = .ok (.bool true) := by
  unfold b__law_holds_v3 b__law_holds_v3_r4 b__law_holds_v3_r3 b__law_holds_v3_r2 b__law_holds_v3_r1
  have e0 := kb_ix (F := F) hw
  cases F with
  | low =>
    have z : kb W .low w = false := by
      cases e : kb W .low w with
      | false => rfl
      | true => exact absurd ((kb_iff hw).mp e) (kn_low W w)
    rw [z] at e0
    simp only [enc]
    walk_at "ev"
    rw [e0]
    walk_at "ev"
  | lt x =>
    have eu : W[w]? = some W[w] := List.getElem?_eq_getElem hw
    have e1 : ixD (.list (W.map encW)) (.int (w : Nat)) = some (encW W[w]) := ixM eu
    have z : kb W (.lt x) w = decide (x ∈ W[w].ls) := by
      rw [Bool.eq_iff_iff, kb_iff hw, decide_eq_true_iff, kn_lt]
      constructor
      · rintro ⟨u, h1, h2⟩; rw [eu] at h1; cases h1; exact h2
      · exact fun h => ⟨_, eu, h⟩
    have e2 : ixD (encW W[w]) (.int 1) = some (.list (W[w].ls.map .str)) := rfl
    have e3 : inD (.str x) (.list (W[w].ls.map .str)) = some (.bool (decide (x ∈ W[w].ls))) := inS_str x _
    have e4 := bool_eq (decide (x ∈ W[w].ls))
    rw [z] at e0
    simp only [enc]
    walk_at "ev"
    rw [e0, e1]
    walk_at "ev"
    rw [e2]
    walk_at "ev"
    rw [e3]
    walk_at "ev"
    rw [e4]
    walk_at "ev"
  | bin k a b =>
    have eL := hL k a b rfl
    subst eL
    have ea := kb_ix (F := a) hw
    have eb := kb_ix (F := b) hw
    have x0 : ixD (.list [bls (knL W a), bls (knL W b)]) (.int 0) = some (bls (knL W a)) := rfl
    have x1 : ixD (.list [bls (knL W a), bls (knL W b)]) (.int 1) = some (bls (knL W b)) := rfl
    have e4 := bool_eq (kb W (.bin k a b) w)
    cases k with
    | both =>
      have z := kb_both (p := a) (q := b) hw
      simp only [enc, Kd.str]
      walk_at "ev"
      rw [e0]
      walk_at "ev"
      rw [ea]
      walk_at "ev"
      cases h : kb W a w with
      | true =>
        rw [h, Bool.true_and] at z
        walk_at "ev"
        rw [eb]
        walk_at "ev"
        rw [← z, e4]
        walk_at "ev"
      | false =>
        rw [h, Bool.false_and] at z
        walk_at "ev"
        rw [z, bool_eq]
        walk_at "ev"
    | one =>
      have z := kb_one (p := a) (q := b) hw
      simp only [enc, Kd.str]
      walk_at "ev"
      rw [e0]
      walk_at "ev"
      rw [ea]
      walk_at "ev"
      cases h : kb W a w with
      | false =>
        rw [h, Bool.false_or] at z
        walk_at "ev"
        rw [eb]
        walk_at "ev"
        rw [← z, e4]
        walk_at "ev"
      | true =>
        rw [h, Bool.true_or] at z
        walk_at "ev"
        rw [z, bool_eq]
        walk_at "ev"
    | then_ =>
      have ef := hfi a b w hw
      simp only [enc, Kd.str]
      walk_at "ev"
      rw [e0]
      walk_at "ev"
      rw [ef]
      walk_at "ev"
      rw [e4]
      walk_at "ev"
end Kn

namespace Dl
open PySem L2
/-! ### more evaluation -/
def catK : PyData → PyData → R PyData
  | .list xs, .list ys => if xs.length + ys.length ≤ sizeLine then .ok (.list (xs ++ ys)) else .bad
  | _, _ => .bad
theorem ev_cat (a b : FE) (δ : Ev) : catF a b δ = (a δ).bind fun d => (b δ).bind fun e => catK d e := by
  unfold catF
  cases a δ with
  | ok d => cases b δ with
    | ok e => cases d <;> cases e <;> rfl
    | err c x => rfl
    | bad => rfl
  | err c x => rfl
  | bad => rfl
theorem catK_ok {xs ys : List PyData} (h : xs.length + ys.length ≤ 16000000) : catK (.list xs) (.list ys) = .ok (.list (xs ++ ys)) := by
  have e : sizeLine = 16777216 := sizeLine_eq
  exact if_pos (show xs.length + ys.length ≤ sizeLine by omega)
def insK (o : Option (List PyData)) (rk r : R PyData) (i : Nat) (δ : Ev) : SR := match o with
  | some ds => (match rk with
    | .ok kd => (match r with
      | .ok d => (match kd with
        | .int z => if ds.length < sizeLine ∧ 0 ≤ z ∧ z < 2 ^ 63 then .nx (δ.set i (some (.list (ds.take z.toNat ++ [d] ++ ds.drop z.toNat)))) else .bad
        | _ => .bad)
      | .err c x => .err c x δ
      | .bad => .bad)
    | .err c x => .err c x δ
    | .bad => .bad)
  | none => .bad
theorem ev_ins (i : Nat) (fk f : FE) (δ : Ev) : insS i fk f δ = insK (slotL i δ) (fk δ) (f δ) i δ := by
  unfold insS insK exS
  cases slotL i δ with
  | none => rfl
  | some ds =>
    cases fk δ with
    | ok kd => cases f δ with
      | ok d => cases kd <;> rfl
      | err c x => rfl
      | bad => rfl
    | err c x => rfl
    | bad => rfl
theorem insK_ok {ds : List PyData} {z : Int} {d : PyData} {i : Nat} {δ : Ev} (h : ds.length < 16000000 ∧ 0 ≤ z ∧ z < 2 ^ 63) : insK (some ds) (.ok (.int z)) (.ok d) i δ = .nx (δ.set i (some (.list (ds.take z.toNat ++ [d] ++ ds.drop z.toNat)))) := by
  have e : sizeLine = 16777216 := sizeLine_eq
  exact if_pos ⟨show ds.length < sizeLine by omega, h.2⟩
/-- a comprehension over what is written -/
theorem lcD_of {α : Type} {e : α → PyData} {g : α → PyData} {f : FE} {δ : Ev} {i : Nat} : ∀ xs : List α, (∀ x ∈ xs, f (δ.set i (some (e x))) = .ok (g x)) → lcD (bN i) yesT f δ (xs.map e) = .ok (xs.map g)
  | [], _ => rfl
  | x :: xs, h => by
    rw [List.map_cons, lcD]
    have hb : bN i (e x) δ = some (δ.set i (some (e x))) := rfl
    simp only [hb, yesT]
    rw [h x List.mem_cons_self, lcD_of xs fun y hy => h y (List.mem_cons_of_mem _ hy)]
    rfl
theorem lcK_of {α : Type} {e : α → PyData} {g : α → PyData} {f : FE} {δ : Ev} {i : Nat} {xs : List α} (hl : xs.length ≤ 1000000) (h : ∀ x ∈ xs, f (δ.set i (some (e x))) = .ok (g x)) : lcK (bN i) yesT f δ (xs.map e) = .ok (.list (xs.map g)) := by
  unfold lcK
  rw [if_pos (by simpa using hl), lcD_of xs h]; rfl
/-- with a test -/
theorem lcD_ofT {α : Type} {e : α → PyData} {g : α → PyData} {p : α → Bool} {t : FT} {f : FE} {δ : Ev} {i : Nat} : ∀ xs : List α, (∀ x ∈ xs, t (δ.set i (some (e x))) = .ok (p x)) → (∀ x ∈ xs, p x = true → f (δ.set i (some (e x))) = .ok (g x)) → lcD (bN i) t f δ (xs.map e) = .ok ((xs.filter p).map g)
  | [], _, _ => rfl
  | x :: xs, ht, h => by
    have ih := lcD_ofT xs (fun y hy => ht y (List.mem_cons_of_mem _ hy)) fun y hy => h y (List.mem_cons_of_mem _ hy)
    rw [List.map_cons, lcD]
    have hb : bN i (e x) δ = some (δ.set i (some (e x))) := rfl
    simp only [hb]
    rw [ht x List.mem_cons_self]
    cases hp : p x with
    | false =>
      rw [List.filter_cons_of_neg (by simp [hp])]
      exact ih
    | true =>
      rw [List.filter_cons_of_pos hp]
      simp only
      rw [h x List.mem_cons_self hp, ih]
      rfl
theorem lcK_ofT {α : Type} {e : α → PyData} {g : α → PyData} {p : α → Bool} {t : FT} {f : FE} {δ : Ev} {i : Nat} {xs : List α} (hl : xs.length ≤ 1000000) (ht : ∀ x ∈ xs, t (δ.set i (some (e x))) = .ok (p x)) (h : ∀ x ∈ xs, p x = true → f (δ.set i (some (e x))) = .ok (g x)) : lcK (bN i) t f δ (xs.map e) = .ok (.list ((xs.filter p).map g)) := by
  unfold lcK
  rw [if_pos (by simpa using hl), lcD_ofT xs ht h]; rfl
theorem zipL_map {α β γ : Type} {e : α → PyData} {e' : β → PyData} (f : γ → α) (g : γ → β) : ∀ L : List γ, zipL ((L.map f).map e) ((L.map g).map e') = L.map fun x => .tuple [e (f x), e' (g x)] := by
  intro L
  induction L with
  | nil => rfl
  | cons x L ih =>
    show PyData.tuple [_, _] :: zipL _ _ = _
    rw [ih]; rfl
theorem lcK_nil (b : FB) (t : FT) (f : FE) (δ : Ev) : lcK b t f δ [] = .ok (.list []) := Eq.trans rfl rfl
def itTK : PyData → R (List PyData)
  | .tuple ds => .ok ds
  | _ => .bad
theorem ev_itT (f : FE) (δ : Ev) : itT f δ = (f δ).bind itTK := by unfold itT; cases f δ with | ok d => cases d <;> rfl | err c x => rfl | bad => rfl
theorem itTK_t (ds : List PyData) : itTK (.tuple ds) = .ok ds := Eq.trans rfl rfl
end Dl

namespace Dl
open PySem L2
/-! ### evaluation of the second layer -/
section
variable {S S' : Sto} {δ : Ev2} {l n : Nat}
-- views
theorem lowE_nil : lowE [] = [] := Eq.trans rfl rfl
theorem lowE_c (x : Option Sl) (r : Ev2) : lowE (x :: r) = lowS x :: lowE r := Eq.trans rfl rfl
theorem lowS_f (d : PyData) : lowS (some (.v (.frz d))) = some d := Eq.trans rfl rfl
theorem lowS_l (l : Nat) : lowS (some (.v (.lab l))) = none := Eq.trans rfl rfl
theorem lowS_t (x : List VL) : lowS (some (.v (.tup x))) = none := Eq.trans rfl rfl
theorem lowS_a (d : PyData) : lowS (some (.als d)) = none := Eq.trans rfl rfl
theorem lowS_0 : lowS none = none := Eq.trans rfl rfl
theorem eraE_nil : eraE S [] = [] := Eq.trans rfl rfl
theorem eraE_c (x : Option Sl) (r : Ev2) : eraE S (x :: r) = erS S x :: eraE S r := Eq.trans rfl rfl
theorem erS_f (d : PyData) : erS S (some (.v (.frz d))) = some d := Eq.trans rfl rfl
theorem erS_l (l : Nat) : erS S (some (.v (.lab l))) = er S eF (.lab l) := Eq.trans rfl rfl
theorem erS_t (x : List VL) : erS S (some (.v (.tup x))) = er S eF (.tup x) := Eq.trans rfl rfl
theorem erS_a (d : PyData) : erS S (some (.als d)) = some d := Eq.trans rfl rfl
theorem erS_0 : erS S none = none := Eq.trans rfl rfl
theorem wA_nil : wA [] = [] := Eq.trans rfl rfl
theorem wA_c (x : Option Sl) (r : Ev2) : wA (x :: r) = noAl x :: wA r := Eq.trans rfl rfl
theorem noAl_v (x : VL) : noAl (some (.v x)) = some (.v x) := Eq.trans rfl rfl
theorem noAl_a (d : PyData) : noAl (some (.als d)) = none := Eq.trans rfl rfl
theorem noAl_0 : noAl none = none := Eq.trans rfl rfl
theorem seqO_some {α : Type} : ∀ xs : List α, seqO (xs.map some) = some xs
  | [] => rfl
  | x :: xs => by rw [List.map_cons, seqO, seqO_some xs]; rfl
theorem er_frz (d : PyData) : er S n (.frz d) = some d := by cases n <;> rfl
theorem seqO_frz (ds : List PyData) : seqO ((ds.map VL.frz).map (er S n)) = some ds := by
  have : (ds.map VL.frz).map (er S n) = ds.map some := by
    rw [List.map_map]
    exact List.map_congr_left fun d _ => er_frz d
  rw [this, seqO_some]
/-- a list of data -/
theorem er_lf {ds : List PyData} (h : S[l]? = some (.lst (ds.map .frz))) : er S (n + 1) (.lab l) = some (.list ds) := by
  unfold er
  simp only [h, seqO_frz, Option.map_some]
theorem er_lst {xs : List VL} {ds : List PyData} (h : S[l]? = some (.lst xs)) (e : seqO (xs.map (er S n)) = some ds) : er S (n + 1) (.lab l) = some (.list ds) := by
  unfold er
  simp only [h, e, Option.map_some]
theorem er_tup {xs : List VL} {ds : List PyData} (e : seqO (xs.map (er S n)) = some ds) : er S (n + 1) (.tup xs) = some (.tuple ds) := by
  show (seqO (xs.map (er S n))).map PyData.tuple = _
  rw [e]; rfl
end
-- statements
def sqqK (r : SQ) (h : FQ) : SQ := match r with
  | .nx δ S => h δ S
  | r => r
theorem ev_sqq (g h : FQ) (δ : Ev2) (S : Sto) : sqq g h δ S = sqqK (g δ S) h := Eq.trans rfl rfl
theorem sqqK_nx (δ : Ev2) (S : Sto) (h : FQ) : sqqK (.nx δ S) h = h δ S := Eq.trans rfl rfl
theorem sqqK_rt (x : VL) (S : Sto) (h : FQ) : sqqK (.rt x S) h = .rt x S := Eq.trans rfl rfl
theorem sqqK_bk (δ : Ev2) (S : Sto) (h : FQ) : sqqK (.bk δ S) h = .bk δ S := Eq.trans rfl rfl
theorem sqqK_ct (δ : Ev2) (S : Sto) (h : FQ) : sqqK (.ct δ S) h = .ct δ S := Eq.trans rfl rfl
theorem sqqK_err (c : Str) (e : Option (Str × Int)) (δ : Ev2) (S : Sto) (h : FQ) : sqqK (.err c e δ S) h = .err c e δ S := Eq.trans rfl rfl
theorem ev_skq (δ : Ev2) (S : Sto) : skq δ S = .nx δ S := Eq.trans rfl rfl
theorem ev_bkq (δ : Ev2) (S : Sto) : bkq δ S = .bk δ S := Eq.trans rfl rfl
theorem ev_ctq (δ : Ev2) (S : Sto) : ctq δ S = .ct δ S := Eq.trans rfl rfl
theorem ev_raq (c : Str) (δ : Ev2) (S : Sto) : raq c δ S = .err c none δ S := Eq.trans rfl rfl
def exqK (r : RX) (k : Sl → FQ) : SQ := match r with
  | .ok x δ S => k x δ S
  | .err c e δ S => .err c e δ S
  | .bad => .bad
theorem ev_exq (f : FX) (k : Sl → FQ) (δ : Ev2) (S : Sto) : exq f k δ S = exqK (f δ S) k := Eq.trans rfl rfl
theorem exqK_ok (x : Sl) (δ : Ev2) (S : Sto) (k : Sl → FQ) : exqK (.ok x δ S) k = k x δ S := Eq.trans rfl rfl
theorem exqK_err (c : Str) (e : Option (Str × Int)) (δ : Ev2) (S : Sto) (k : Sl → FQ) : exqK (.err c e δ S) k = .err c e δ S := Eq.trans rfl rfl
def stK (i : Nat) (x : Sl) : FQ := fun δ S => .nx (δ.set i (some x)) S
theorem ev_stq (i : Nat) (f : FX) (δ : Ev2) (S : Sto) : stq i f δ S = exqK (f δ S) (stK i) := Eq.trans rfl rfl
theorem stK_ok (i : Nat) (x : Sl) (δ : Ev2) (S : Sto) : stK i x δ S = .nx (δ.set i (some x)) S := Eq.trans rfl rfl
def rtK (x : Sl) : FQ := fun δ S => match x with
  | .v y => .rt y S
  | .als _ => .bad
theorem ev_rtq (f : FX) (δ : Ev2) (S : Sto) : rtq f δ S = exqK (f δ S) rtK := Eq.trans rfl rfl
theorem rtK_v (y : VL) (δ : Ev2) (S : Sto) : rtK (.v y) δ S = .rt y S := Eq.trans rfl rfl
def epK (_ : Sl) : FQ := fun δ S => .nx δ S
theorem ev_epq (f : FX) (δ : Ev2) (S : Sto) : epq f δ S = exqK (f δ S) epK := Eq.trans rfl rfl
theorem epK_ok (x : Sl) (δ : Ev2) (S : Sto) : epK x δ S = .nx δ S := Eq.trans rfl rfl
def ifqK (r : R Bool) (a b : FQ) (δ : Ev2) (S : Sto) : SQ := match r with
  | .ok true => a δ S
  | .ok false => b δ S
  | .err c e => .err c e δ S
  | .bad => .bad
theorem ev_ifq (c : FT) (a b : FQ) (δ : Ev2) (S : Sto) : ifq c a b δ S = ifqK (c (eraE S δ)) a b δ S := Eq.trans rfl rfl
theorem ifqK_t (a b : FQ) (δ : Ev2) (S : Sto) : ifqK (.ok true) a b δ S = a δ S := Eq.trans rfl rfl
theorem ifqK_f (a b : FQ) (δ : Ev2) (S : Sto) : ifqK (.ok false) a b δ S = b δ S := Eq.trans rfl rfl
def asK (b : FBq) (x : Sl) : FQ := fun δ S => match b x δ with
  | some δ' => .nx δ' S
  | none => .bad
theorem ev_asq (b : FBq) (f : FX) (δ : Ev2) (S : Sto) : asq b f δ S = exqK (f δ S) (asK b) := Eq.trans rfl rfl
theorem asK_ok {b : FBq} {x : Sl} {δ δ' : Ev2} (S : Sto) (h : b x δ = some δ') : asK b x δ S = .nx δ' S := by unfold asK; rw [h]
-- expressions
def loK (r : R PyData) (δ : Ev2) (S : Sto) : RX := match r with
  | .ok d => .ok (.v (.frz d)) δ S
  | .err c e => .err c e δ S
  | .bad => .bad
theorem ev_lo (f : FE) (δ : Ev2) (S : Sto) : lo f δ S = loK (f (lowE δ)) δ S := Eq.trans rfl rfl
theorem loK_ok (d : PyData) (δ : Ev2) (S : Sto) : loK (.ok d) δ S = .ok (.v (.frz d)) δ S := Eq.trans rfl rfl
theorem loK_err (c : Str) (e : Option (Str × Int)) (δ : Ev2) (S : Sto) : loK (.err c e) δ S = .err c e δ S := Eq.trans rfl rfl
def flK (r : R PyData) (δ : Ev2) (S : Sto) : RX := match r with
  | .ok d => if flt d = true then .ok (.v (.frz d)) δ S else .bad
  | .err c e => .err c e δ S
  | .bad => .bad
theorem ev_fl (f : FE) (δ : Ev2) (S : Sto) : fl f δ S = flK (f (eraE S δ)) δ S := Eq.trans rfl rfl
theorem flK_ok {d : PyData} (δ : Ev2) (S : Sto) (h : flt d = true) : flK (.ok d) δ S = .ok (.v (.frz d)) δ S := if_pos h
theorem flK_b (b : Bool) (δ : Ev2) (S : Sto) : flK (.ok (.bool b)) δ S = .ok (.v (.frz (.bool b))) δ S := Eq.trans rfl rfl
theorem flK_i (i : Int) (δ : Ev2) (S : Sto) : flK (.ok (.int i)) δ S = .ok (.v (.frz (.int i))) δ S := Eq.trans rfl rfl
theorem flK_s (x : Str) (δ : Ev2) (S : Sto) : flK (.ok (.str x)) δ S = .ok (.v (.frz (.str x))) δ S := Eq.trans rfl rfl
theorem flK_n (δ : Ev2) (S : Sto) : flK (.ok .none) δ S = .ok (.v (.frz .none)) δ S := Eq.trans rfl rfl
def alK (r : R PyData) (δ : Ev2) (S : Sto) : RX := match r with
  | .ok d => .ok (.als d) δ S
  | .err c e => .err c e δ S
  | .bad => .bad
theorem ev_al (f : FE) (δ : Ev2) (S : Sto) : al f δ S = alK (f (eraE S δ)) δ S := Eq.trans rfl rfl
theorem alK_ok (d : PyData) (δ : Ev2) (S : Sto) : alK (.ok d) δ S = .ok (.als d) δ S := Eq.trans rfl rfl
def nwK (r : R PyData) (δ : Ev2) (S : Sto) : RX := match r with
  | .ok d => (match newC d with
    | some c => .ok (.v (.lab S.length)) δ (S ++ [c])
    | none => .bad)
  | .err c e => .err c e δ S
  | .bad => .bad
theorem ev_nw (f : FE) (δ : Ev2) (S : Sto) : nw f δ S = nwK (f (lowE δ)) δ S := Eq.trans rfl rfl
theorem nwK_l (ds : List PyData) (δ : Ev2) (S : Sto) : nwK (.ok (.list ds)) δ S = .ok (.v (.lab S.length)) δ (S ++ [.lst (ds.map .frz)]) := Eq.trans rfl rfl
theorem nwK_d (δ : Ev2) (S : Sto) : nwK (.ok (.dict [])) δ S = .ok (.v (.lab S.length)) δ (S ++ [.dct []]) := Eq.trans rfl rfl
def nfK (r : R PyData) (δ : Ev2) (S : Sto) : RX := match r with
  | .ok (.list ds) => if flts ds = true then .ok (.v (.lab S.length)) δ (S ++ [.lst (ds.map .frz)]) else .bad
  | .ok _ => .bad
  | .err c e => .err c e δ S
  | .bad => .bad
theorem ev_nf (f : FE) (δ : Ev2) (S : Sto) : nf f δ S = nfK (f (eraE S δ)) δ S := by
  unfold nf nfK
  cases f (eraE S δ) with
  | ok d => cases d <;> rfl
  | err c e => rfl
  | bad => rfl
theorem nfK_l {ds : List PyData} (δ : Ev2) (S : Sto) (h : flts ds = true) : nfK (.ok (.list ds)) δ S = .ok (.v (.lab S.length)) δ (S ++ [.lst (ds.map .frz)]) := if_pos h
def yvK (o : Option (Option Sl)) (δ : Ev2) (S : Sto) : RX := match o with
  | some (some x) => .ok x δ S
  | _ => .bad
theorem ev_yv (i : Nat) (δ : Ev2) (S : Sto) : yv i δ S = yvK δ[i]? δ S := by unfold yv yvK; rfl
theorem yvK_ok (x : Sl) (δ : Ev2) (S : Sto) : yvK (some (some x)) δ S = .ok x δ S := Eq.trans rfl rfl
def yvsK2 (x : VL) (r : RXs) : RXs := match r with
  | .ok xs δ S => .ok (x :: xs) δ S
  | r => r
def yvsK (r : RX) (fs : List FX) : RXs := match r with
  | .ok (.v x) δ1 S1 => yvsK2 x (yvs fs δ1 S1)
  | .ok (.als _) _ _ => .bad
  | .err c e δ1 S1 => .err c e δ1 S1
  | .bad => .bad
theorem ey_nil (δ : Ev2) (S : Sto) : yvs [] δ S = .ok [] δ S := Eq.trans rfl rfl
theorem ey_cons (f : FX) (fs : List FX) (δ : Ev2) (S : Sto) : yvs (f :: fs) δ S = yvsK (f δ S) fs := by
  rw [yvs]
  unfold yvsK
  cases f δ S with
  | ok x δ1 S1 => cases x <;> rfl
  | err c e δ1 S1 => rfl
  | bad => rfl
theorem yvsK_ok (x : VL) (δ : Ev2) (S : Sto) (fs : List FX) : yvsK (.ok (.v x) δ S) fs = yvsK2 x (yvs fs δ S) := Eq.trans rfl rfl
theorem yvsK2_ok (x : VL) (xs : List VL) (δ : Ev2) (S : Sto) : yvsK2 x (.ok xs δ S) = .ok (x :: xs) δ S := Eq.trans rfl rfl
def yTK (r : RXs) : RX := match r with
  | .ok xs δ' S' => .ok (.v (mkTup xs)) δ' S'
  | .err c e δ' S' => .err c e δ' S'
  | .bad => .bad
theorem ev_yT (fs : List FX) (δ : Ev2) (S : Sto) : yT fs δ S = yTK (yvs fs δ S) := Eq.trans rfl rfl
theorem yTK_ok (xs : List VL) (δ : Ev2) (S : Sto) : yTK (.ok xs δ S) = .ok (.v (mkTup xs)) δ S := Eq.trans rfl rfl
def yLK (r : RXs) : RX := match r with
  | .ok xs δ' S' => .ok (.v (.lab S'.length)) δ' (S' ++ [.lst xs])
  | .err c e δ' S' => .err c e δ' S'
  | .bad => .bad
theorem ev_yL (fs : List FX) (δ : Ev2) (S : Sto) : yL fs δ S = yLK (yvs fs δ S) := Eq.trans rfl rfl
theorem yLK_ok (xs : List VL) (δ : Ev2) (S : Sto) : yLK (.ok xs δ S) = .ok (.v (.lab S.length)) δ (S ++ [.lst xs]) := Eq.trans rfl rfl
def yclK (r : RXs) (G : Fx2) : RX := match r with
  | .ok xs δ1 S1 => (match G xs S1 with
    | .ok x S2 => .ok (.v x) (wA δ1) S2
    | .err c e S2 => .err c e (wA δ1) S2
    | .bad => .bad)
  | .err c e δ1 S1 => .err c e δ1 S1
  | .bad => .bad
theorem ev_ycl (G : Fx2) (fs : List FX) (δ : Ev2) (S : Sto) : ycl G fs δ S = yclK (yvs fs δ S) G := Eq.trans rfl rfl
theorem yclK_ok {xs : List VL} {δ : Ev2} {S S2 : Sto} {G : Fx2} {x : VL} (h : G xs S = .ok x S2) : yclK (.ok xs δ S) G = .ok (.v x) (wA δ) S2 := by unfold yclK; simp only [h]
theorem yclK_err {xs : List VL} {δ : Ev2} {S S2 : Sto} {G : Fx2} {c : Str} {e : Option (Str × Int)} (h : G xs S = .err c e S2) : yclK (.ok xs δ S) G = .err c e (wA δ) S2 := by unfold yclK; simp only [h]
def yixK (r : RX) (fk : FE) : RX := match r with
  | .ok x δ1 S1 => (match fk (eraE S1 δ1) with
    | .ok (.int i) => (match ixq S1 x i with
      | some y => .ok y δ1 S1
      | none => .bad)
    | .ok _ => .bad
    | .err c e => .err c e δ1 S1
    | .bad => .bad)
  | r => r
theorem ev_yix (fa : FX) (fk : FE) (δ : Ev2) (S : Sto) : yix fa fk δ S = yixK (fa δ S) fk := by
  unfold yix yixK
  cases fa δ S <;> rfl
theorem yixK_ok {x y : Sl} {δ : Ev2} {S : Sto} {fk : FE} {i : Int} (h : fk (eraE S δ) = .ok (.int i)) (h2 : ixq S x i = some y) : yixK (.ok x δ S) fk = .ok y δ S := by unfold yixK; simp only [h, h2]
-- lists change
def appK2 (l : Nat) (y : Sl) : FQ := fun δ S => match y with
  | .v y => (match S[l]? with
    | some (.lst xs) => if xs.length < sizeLine then .nx (wA δ) (S.set l (.lst (xs ++ [y]))) else .bad
    | _ => .bad)
  | .als _ => .bad
def appK1 (fa : FX) (x : Sl) : FQ := fun δ S => match x with
  | .v (.lab l) => (match S[l]? with
    | some (.lst _) => exqK (fa δ S) (appK2 l)
    | _ => .bad)
  | _ => .bad
theorem ev_appq (fr fa : FX) (δ : Ev2) (S : Sto) : appq fr fa δ S = exqK (fr δ S) (appK1 fa) := Eq.trans rfl rfl
theorem appK1_ok {fa : FX} {l : Nat} {δ : Ev2} {S : Sto} {xs : List VL} (h : S[l]? = some (.lst xs)) : appK1 fa (.v (.lab l)) δ S = exqK (fa δ S) (appK2 l) := by unfold appK1; simp only [h]
theorem appK2_ok {l : Nat} {y : VL} {δ : Ev2} {S : Sto} {xs : List VL} (h : S[l]? = some (.lst xs)) (hl : xs.length < 16000000) : appK2 l (.v y) δ S = .nx (wA δ) (S.set l (.lst (xs ++ [y]))) := by
  have e : sizeLine = 16777216 := sizeLine_eq
  unfold appK2
  simp only [h]
  exact if_pos (by omega)
def ppK (kk : VL → FQ) (x : Sl) : FQ := fun δ S => match x with
  | .v (.lab l) => (match S[l]? with
    | some (.lst xs) => (match xs[xs.length - 1]? with
      | some y => kk y (wA δ) (S.set l (.lst xs.dropLast))
      | none => .bad)
    | _ => .bad)
  | _ => .bad
theorem ev_ppq (fr : FX) (kk : VL → FQ) (δ : Ev2) (S : Sto) : ppq fr kk δ S = exqK (fr δ S) (ppK kk) := Eq.trans rfl rfl
theorem ppK_ok {kk : VL → FQ} {l : Nat} {δ : Ev2} {S : Sto} {xs : List VL} {y : VL} (h : S[l]? = some (.lst (xs ++ [y]))) : ppK kk (.v (.lab l)) δ S = kk y (wA δ) (S.set l (.lst xs)) := by
  unfold ppK
  simp [h]
theorem ptq_ok {fr fk f : FX} {δ δ1 δ2 δ3 : Ev2} {S S1 S2 S3 : Sto} {y : VL} {l : Nat} {z : Int} {xs : List VL} {j : Nat} (h1 : f δ S = .ok (.v y) δ1 S1) (h2 : fr δ1 S1 = .ok (.v (.lab l)) δ2 S2) (h3 : fk δ2 S2 = .ok (.v (.frz (.int z))) δ3 S3) (h4 : S3[l]? = some (.lst xs)) (h5 : ixN xs.length z = some j) :
    ptq fr fk f δ S = .nx (wA δ3) (S3.set l (.lst (xs.set j y))) := by
  unfold ptq exq
  simp only [h1, h2, h3, h4, h5]
theorem fzq_ok {i l : Nat} {δ : Ev2} {S : Sto} {ds : List PyData} (h : δ[i]? = some (some (.v (.lab l)))) (h2 : S[l]? = some (.lst (ds.map .frz))) : fzq i δ S = .nx (δ.set i (some (.v (.frz (.list ds))))) (S.set l .dead) := by
  have e : ∀ ds : List PyData, allFrz (ds.map .frz) = some ds := by
    intro ds
    induction ds with
    | nil => rfl
    | cons d ds ih => rw [List.map_cons, allFrz, ih]; rfl
  unfold fzq
  simp only [h, h2, e]
-- defs
def rnK (r : SQ) : RF := match r with
  | .rt x S' => .ok x S'
  | .nx _ S' => .ok (.frz .none) S'
  | .err c e _ S' => .err c e S'
  | _ => .bad
theorem ev_rnq (n : Nat) (g : FQ) (xs : List VL) (S : Sto) : rnq n g xs S = rnK (g (xs.map (fun x => some (Sl.v x)) ++ List.replicate (n - xs.length) none) S) := Eq.trans rfl rfl
theorem rnK_rt (x : VL) (S : Sto) : rnK (.rt x S) = .ok x S := Eq.trans rfl rfl
theorem rnK_nx (δ : Ev2) (S : Sto) : rnK (.nx δ S) = .ok (.frz .none) S := Eq.trans rfl rfl
theorem rnK_err (c : Str) (e : Option (Str × Int)) (δ : Ev2) (S : Sto) : rnK (.err c e δ S) = .err c e S := Eq.trans rfl rfl
theorem f21_ok {F : Fx2} {ds : List PyData} {x : VL} {S : Sto} {d : PyData} (h : F (ds.map .frz) [] = .ok x S) (e : er S eF x = some d) : f21 F ds = .ok d := by
  unfold f21
  simp only [h, e]
-- walks
def iLoK (r : R (List PyData)) (δ : Ev2) (S : Sto) : RI := match r with
  | .ok ds => .ok (ds.map fun d => .v (.frz d)) (fun _ => True) δ S
  | .err c e => .err c e δ S
  | .bad => .bad
theorem ev_iLo (f : FI) (δ : Ev2) (S : Sto) : iLo f δ S = iLoK (f (lowE δ)) δ S := Eq.trans rfl rfl
theorem ev_iRg (f : FI) (δ : Ev2) (S : Sto) : iRg f δ S = iLoK (f (eraE S δ)) δ S := Eq.trans rfl rfl
theorem iLoK_ok (ds : List PyData) (δ : Ev2) (S : Sto) : iLoK (.ok ds) δ S = .ok (ds.map fun d => .v (.frz d)) (fun _ => True) δ S := Eq.trans rfl rfl
noncomputable def forqK (r : RI) (b : FBq) (body : FQ) : SQ := match r with
  | .ok its chk δ1 S1 => forDq b body chk its δ1 S1
  | .err c e δ1 S1 => .err c e δ1 S1
  | .bad => .bad
theorem ev_forq (fi : FIq) (b : FBq) (body : FQ) (δ : Ev2) (S : Sto) : forq fi b body δ S = forqK (fi δ S) b body := Eq.trans rfl rfl
theorem forqK_ok (its : List Sl) (chk : Sto → Prop) (δ : Ev2) (S : Sto) (b : FBq) (body : FQ) : forqK (.ok its chk δ S) b body = forDq b body chk its δ S := Eq.trans rfl rfl
theorem iLab_ok {f : FX} {δ δ1 : Ev2} {S S1 : Sto} {l : Nat} {xs : List VL} (h : f δ S = .ok (.v (.lab l)) δ1 S1) (h2 : S1[l]? = some (.lst xs)) : iLab f δ S = .ok (xs.map .v) (fun S' => S'[l]? = some (.lst xs)) δ1 S1 := by
  unfold iLab; simp only [h, h2]
theorem iEnu_ok {f : FX} {δ δ1 : Ev2} {S S1 : Sto} {l : Nat} {xs : List VL} (h : f δ S = .ok (.v (.lab l)) δ1 S1) (h2 : S1[l]? = some (.lst xs)) : iEnu f δ S = .ok (enumq xs) (fun S' => S'[l]? = some (.lst xs)) δ1 S1 := by
  have e : yvs [f] δ S = .ok [.lab l] δ1 S1 := by rw [ey_cons, h, yvsK_ok, ey_nil, yvsK2_ok]
  unfold iEnu; simp only [e, h2]
theorem iZp_ok {f g : FX} {δ δ1 : Ev2} {S S1 : Sto} {x y : VL} {xs ys : List VL} {p q : Sto → Prop} (h : yvs [f, g] δ S = .ok [x, y] δ1 S1) (h2 : seqq S1 x = some (xs, p)) (h3 : seqq S1 y = some (ys, q)) : iZp f g δ S = .ok (zipq xs ys) (fun S' => p S' ∧ q S') δ1 S1 := by
  unfold iZp; simp only [h, h2, h3]
theorem forDq_nil {b : FBq} {body : FQ} {chk : Sto → Prop} {δ : Ev2} {S : Sto} (h : chk S) : forDq b body chk [] δ S = .nx δ S := by
  rw [forDq, if_pos h]
theorem forDq_nx {b : FBq} {body : FQ} {chk : Sto → Prop} {δ δ1 δ2 : Ev2} {S S2 : Sto} {x : Sl} {xs : List Sl} (h : chk S) (hb : b x δ = some δ1) (hg : body δ1 S = .nx δ2 S2) : forDq b body chk (x :: xs) δ S = forDq b body chk xs δ2 S2 := by
  rw [forDq, if_pos h]; simp only [hb, hg]
theorem forDq_rt {b : FBq} {body : FQ} {chk : Sto → Prop} {δ δ1 : Ev2} {S S2 : Sto} {x : Sl} {xs : List Sl} {y : VL} (h : chk S) (hb : b x δ = some δ1) (hg : body δ1 S = .rt y S2) : forDq b body chk (x :: xs) δ S = .rt y S2 := by
  rw [forDq, if_pos h]; simp only [hb, hg]
/-- a loop that goes through -/
theorem forDq_inv {b : FBq} {body : FQ} {chk : Sto → Prop} (P : Nat → Ev2 → Sto → Prop) : ∀ (its : List Sl) (k : Nat) (δ : Ev2) (S : Sto), (∀ i x δ S, its[i]? = some x → P (k + i) δ S → chk S ∧ ∃ δ1 δ2 S2, b x δ = some δ1 ∧ body δ1 S = .nx δ2 S2 ∧ P (k + i + 1) δ2 S2) →
    (∀ δ S, P (k + its.length) δ S → chk S) → P k δ S → ∃ δ' S', forDq b body chk its δ S = .nx δ' S' ∧ P (k + its.length) δ' S'
  | [], k, δ, S, _, he, h => ⟨δ, S, forDq_nil (he δ S h), h⟩
  | x :: xs, k, δ, S, hs, he, h => by
    obtain ⟨hc, δ1, δ2, S2, e1, e2, h2⟩ := hs 0 x δ S rfl h
    obtain ⟨δ', S', e3, h3⟩ := forDq_inv P xs (k + 1) δ2 S2 (fun i y δ S hy hP => by
      have := hs (i + 1) y δ S (by simpa using hy) (by rw [show k + (i + 1) = k + 1 + i by omega]; exact hP)
      rw [show k + (i + 1) + 1 = k + 1 + i + 1 by omega] at this
      exact this) (fun δ S hP => he δ S (by rw [List.length_cons, show k + (xs.length + 1) = k + 1 + xs.length by omega]; exact hP)) h2
    exact ⟨δ', S', by rw [forDq_nx hc e1 e2]; exact e3, by rw [List.length_cons, show k + (xs.length + 1) = k + 1 + xs.length by omega]; exact h3⟩
theorem bNq_ok (i : Nat) (x : Sl) (δ : Ev2) : bNq i x δ = some (δ.set i (some x)) := Eq.trans rfl rfl
end Dl

namespace Kn
open PySem L2 Dl
local macro_rules | `(tactic| walk_at "ev") => `(tactic| try simp (disch := first | omega | (simp only [List.length_map, List.length_append, List.length_cons, List.length_nil, rangeL_len, mkI_len, mkW_len] <;> fail) | (simp only [List.length_map, List.length_append, List.length_cons, List.length_nil, rangeL_len, mkI_len, mkW_len]; omega)) only [ev_run, runK_rt, runK_err, ev_sq, sqK_nx, sqK_rt, sqK_bk, sqK_ct, sqK_err, ev_if, ifK_t, ifK_f, ifK_err, ev_set, setK_ok, setK_err, ev_ret, retK_ok, retK_err, ev_exp, expK_ok, expK_err, ev_skp, ev_brk, ev_cnt, ev_cst, ev_op2, ev_un1, ev_tst, asB_b, ev_andT, ev_orT, andK_t, andK_f, orK_t, orK_f, ev_notT, ev_andV, ev_orV, andW_t, andW_f, orW_t, orW_f, ev_notV, ev_isi, evs_nil, evs_cons, ev_mkT, ev_mkL, ev_cal, ev_call, ev_slc, ev_noP, ev_prt, asI_i, ev_for, forK_ok, ev_itLK, itLK_l, ev_itR, itRK_1, itRK_2, ev_itZ, itZK_l, itZK_t, ev_it1, it1K_l, ev_app, slotL_0, slotL_S, appK_ok, addD_i, addD_l, addD_s, subD_i, ltD_i, leD_i, gtD_i, geD_i, ltD_s, negD_i, isD_n, isntD_n, isNone_n, isNone_t, isNone_l, isNone_i, isNone_s, isNone_b, lenD_l, lenD_t, minD_i, maxD_i, mul_ok, mod_ok, fdiv_ok, eqD_int, eqD_str, neD_int, neD_str, ix0, ix1, ix2, ix3, vr0, vrS, R.bind_ok, R.bind_err, R.bind_bad, ofO_some, List.map_cons, List.map_nil, List.length_cons, List.length_nil, List.length_map, List.cons_append, List.nil_append, List.replicate, Nat.reduceAdd, Nat.reduceSub, List.set_cons_zero, List.set_cons_succ, lpK_nx, lpK_ct, lpK_bk, lpK_rt, lpK_err, whK_t, whK_f, sets, ev_aug, augK_ok, ev_asg, ev_mkD, evps_nil, evps_cons, pairK_s, pairK_i, listD_l, ev_lc, slD_l, slD_t, Int.cast_ofNat_Int, Int.reduceLT, Int.reduceLE, Int.reduceEq, Int.reduceAdd, Int.reduceSub, Int.reduceMul, Int.reduceNeg, Int.reduceMod, Int.reduceDiv, Int.reduceToNat, li0, li1, li2, li3, li4, str_inj, String.reduceEq, decide_false, decide_true, isiB_s, isiB_i, isiB_b, isiB_l, isiB_t, isiB_n, isiS, Bool.or_false, Bool.or_true, Bool.and_false, Bool.and_true, Bool.false_or, Bool.true_or, Bool.false_and, Bool.true_and, ev_dput, slotD_0, slotD_S, slotK_i, slotK_s, dinD_i, dinD_s, dixD_i, dixD_s, ev_keys, keysK_d, keysD_d, mkI_len, mkW_len, ev_popN, popN_ok, ev_popT, popT_ok, ev_raiseI, raiK_i, ev_raise, ev_try, tryK_nx, tryK_rt, tryK_e1, tryK_e0, fin1_nx, ev_fld, ev_tryO, tryOK_nx, tryOK_rt, tryOK_e, finO_nx, finO_rt, isD_b, ev_rev, revK_l, ev_ext, extK_ok, ev_callB, flatE_b, flatE_i, flatE_s, flatE_n, ev_extPop, ifT, ifF, ifTT, ifFT, intD_t, intD_f, cutT2, cutL_tail, inT2, inT3, tupleD_l, tupleD_t, listD_t, addD_t, lcD_nil, lcD_consT, consR_ok, forD_T2, forD_nil, wipe0, wipeS, Bool.not_true, Bool.not_false])
local macro_rules | `(tactic| walk_at "go") => `(tactic| try simp (disch := first | omega | (simp only [List.length_map, List.length_append, List.length_cons, List.length_nil, rangeL_len, mkI_len, mkW_len] <;> fail) | (simp only [List.length_map, List.length_append, List.length_cons, List.length_nil, rangeL_len, mkI_len, mkW_len]; omega)) only [ev_run, runK_rt, runK_err, ev_sq, sqK_nx, sqK_rt, sqK_bk, sqK_ct, sqK_err, ev_if, ifK_t, ifK_f, ifK_err, ev_set, setK_ok, setK_err, ev_ret, retK_ok, retK_err, ev_exp, expK_ok, expK_err, ev_skp, ev_brk, ev_cnt, ev_cst, ev_op2, ev_un1, ev_tst, asB_b, ev_andT, ev_orT, andK_t, andK_f, orK_t, orK_f, ev_notT, ev_andV, ev_orV, andW_t, andW_f, orW_t, orW_f, ev_notV, ev_isi, evs_nil, evs_cons, ev_mkT, ev_mkL, ev_cal, ev_call, ev_slc, ev_noP, ev_prt, asI_i, ev_for, forK_ok, ev_itLK, itLK_l, ev_itR, itRK_1, itRK_2, ev_itZ, itZK_l, itZK_t, ev_it1, it1K_l, ev_app, slotL_0, slotL_S, appK_ok, addD_i, addD_l, addD_s, subD_i, ltD_i, leD_i, gtD_i, geD_i, ltD_s, negD_i, isD_n, isntD_n, isNone_n, isNone_t, isNone_l, isNone_i, isNone_s, isNone_b, lenD_l, lenD_t, minD_i, maxD_i, mul_ok, mod_ok, fdiv_ok, eqD_int, eqD_str, neD_int, neD_str, ix0, ix1, ix2, ix3, vr0, vrS, R.bind_ok, R.bind_err, R.bind_bad, ofO_some, List.map_cons, List.map_nil, List.length_cons, List.length_nil, List.length_map, List.cons_append, List.nil_append, List.replicate, Nat.reduceAdd, Nat.reduceSub, List.set_cons_zero, List.set_cons_succ, lpK_nx, lpK_ct, lpK_bk, lpK_rt, lpK_err, whK_t, whK_f, sets, ev_aug, augK_ok, ev_asg, ev_mkD, evps_nil, evps_cons, pairK_s, pairK_i, listD_l, ev_lc, slD_l, slD_t, Int.cast_ofNat_Int, Int.reduceLT, Int.reduceLE, Int.reduceEq, Int.reduceAdd, Int.reduceSub, Int.reduceMul, Int.reduceNeg, Int.reduceMod, Int.reduceDiv, Int.reduceToNat, li0, li1, li2, li3, li4, str_inj, String.reduceEq, decide_false, decide_true, isiB_s, isiB_i, isiB_b, isiB_l, isiB_t, isiB_n, isiS, Bool.or_false, Bool.or_true, Bool.and_false, Bool.and_true, Bool.false_or, Bool.true_or, Bool.false_and, Bool.true_and, ev_dput, slotD_0, slotD_S, slotK_i, slotK_s, dinD_i, dinD_s, dixD_i, dixD_s, ev_keys, keysK_d, keysD_d, mkI_len, mkW_len, ev_popN, popN_ok, ev_popT, popT_ok, ev_raiseI, raiK_i, ev_raise, ev_try, tryK_nx, tryK_rt, tryK_e1, tryK_e0, fin1_nx, ev_fld, ev_tryO, tryOK_nx, tryOK_rt, tryOK_e, finO_nx, finO_rt, isD_b, ev_rev, revK_l, ev_ext, extK_ok, ev_callB, flatE_b, flatE_i, flatE_s, flatE_n, ev_extPop, ifT, ifF, ifTT, ifFT, intD_t, intD_f, cutT2, cutL_tail, inT2, inT3, tupleD_l, tupleD_t, listD_t, addD_t, lcD_nil, lcD_consT, consR_ok, forD_T2, forD_nil, wipe0, wipeS, Bool.not_true, Bool.not_false, *])
/-- statements that are given -/
structure Gv (ws : List Str) (F : Fm) : Prop where
  parts : F.parts ≤ 60
  lt : ∀ w ∈ F.letters, w ∈ ws
theorem Gv.ok {ws : List Str} {F : Fm} (h : Gv ws F) (hW : ∀ w ∈ ws, WordOk w) : Ok 60 F := ⟨fun w hw => (hW w (h.lt w hw)).low.strOk, by have := F.deep_parts; have := h.parts; omega⟩
theorem Gv.deep {ws : List Str} {F : Fm} (h : Gv ws F) : F.deep ≤ 30 := by have := F.deep_parts; have := h.parts; omega
theorem StOk.gv {ws : List Str} {s : Int} {F : Fm} (h : StOk ws s F) (hs : s ≤ 60) : Gv ws F := ⟨by have := h.parts; omega, h.lt⟩
theorem idx_enc {G : List Fm} {F : Fm} (hF : Ok 60 F) (hG : ∀ g ∈ G, Ok 60 g) (hm : F ∈ G) {fa f : FE} {δ : Ev} (h1 : fa δ = .ok (.list (G.map enc))) (h2 : f δ = .ok (enc F)) : ∃ j : Nat, idxF fa f δ = .ok (.int (j : Nat)) ∧ G[j]? = some F := by
  have sG := (sh_encs hG).shaped (show 61 ≤ 64 by omega)
  have sF := hF.sh.shaped (show 60 ≤ 64 by omega)
  have key : ∃ j : Nat, ((G.map enc).findIdx? fun z => PyData.eqv z (enc F)) = some j ∧ G[j]? = some F := by
    clear sG hG h1
    induction G with
    | nil => cases hm
    | cons g G ih =>
      rw [List.map_cons, List.findIdx?_cons, enc_eqv]
      by_cases e : g = F
      · exact ⟨0, by simp [e], by simp [e]⟩
      · rcases List.mem_cons.mp hm with q | q
        · exact absurd q.symm e
        · obtain ⟨j, e1, e2⟩ := ih q
          exact ⟨j + 1, by simp [e, e1], by simpa using e2⟩
  obtain ⟨j, e1, e2⟩ := key
  refine ⟨j, ?_, e2⟩
  unfold idxF
  simp only [h1, h2, R.bind_ok, sG, sF, e1]
  rfl
/-! ### lifted by one -/
abbrev IsLift1 (n : Nat) (f : Fx) : Prop := ∀ (t : Tm) (own : Int), t.deep ≤ n → f [encT t, .int own] = .ok (encT (t.lift 1 own))
theorem lift1_step {f : Fx} {n : Nat} (hf : IsLift1 n f) : IsLift1 (n + 1) (runF 3 (b__law_lifted f)) := by
  intro t own hd
  unfold b__law_lifted b__law_lifted_r4 b__law_lifted_r3 b__law_lifted_r2 b__law_lifted_r1
  cases t with
  | «at» i =>
    simp only [encT, Tm.lift]
    by_cases h : own ≤ i <;> (walk_at "go"; (try simp only [encT, if_true, if_false]))
  | _ =>
    simp only [Tm.deep] at hd
    simp only [encT, Tm.lift]
    walk_at "go"
/-! ### terms are made -/
/-- parts that a term of a size has at most -/
def PB (s : Nat) : Nat := if s ≤ 30 then [2, 2, 14, 18, 30, 34, 54, 58, 66, 74, 78, 82, 122, 126, 130, 134, 142, 146, 190, 194, 198, 202, 206, 210, 262, 266, 270, 282, 286, 290, 298].getD s 0 else 300
theorem pb_dec : ∀ s : Fin 31, 2 ≤ s.val → (2 + 2 * PB (s.val / 2) ≤ PB s.val ∧ PB (s.val - 1) + 4 ≤ PB s.val ∧ 8 + PB (s.val / 2) + 2 * PB (s.val / 3) ≤ PB s.val) := by decide +kernel
theorem pb_all {s : Int} (h : 2 ≤ s) (h2 : s ≤ 30) : 2 + 2 * PB (s / 2).toNat ≤ PB s.toNat ∧ PB (s - 1).toNat + 4 ≤ PB s.toNat ∧ 8 + PB (s / 2).toNat + 2 * PB (s / 3).toNat ≤ PB s.toNat := by
  have q := pb_dec ⟨s.toNat, by omega⟩ (by show 2 ≤ s.toNat; omega)
  have e1 : (s / 2).toNat = s.toNat / 2 := by omega
  have e2 : (s - 1).toNat = s.toNat - 1 := by omega
  have e3 : (s / 3).toNat = s.toNat / 3 := by omega
  rw [e1, e2, e3]
  exact q
theorem pb_two_dec : ∀ s : Fin 31, 2 ≤ PB s.val := by decide +kernel
theorem pb_two (s : Nat) : 2 ≤ PB s := by
  by_cases h : s ≤ 30
  · exact pb_two_dec ⟨s, by omega⟩
  · unfold PB; rw [if_neg h]; omega
structure MdOk (ws : List Str) (G : List Fm) (sz : Int) (t : Tm) (k : Fm) : Prop where
  kd : kindF t G = some k
  gv : Gv ws k
  dp : (t.deep : Int) ≤ 2 * sz + 2
  tp : t.parts ≤ PB sz.toNat
  st : t.stm (Gv ws)
structure AnOk (ws : List Str) (G : List Fm) (sz : Int) (t : Tm) (k : Fm) : Prop where
  kd : kindF t G = some k
  lt : ∀ w ∈ k.letters, w ∈ ws
  de : k.deep ≤ 40
  pt : k.parts ≤ 200
  dp : (t.deep : Int) ≤ 2 * sz + 2
  tp : t.parts ≤ PB sz.toNat
  st : t.stm (Gv ws)
theorem MdOk.an {ws : List Str} {G : List Fm} {sz : Int} {t : Tm} {k : Fm} (h : MdOk ws G sz t k) : AnOk ws G sz t k := ⟨h.kd, h.gv.lt, by have := h.gv.deep; omega, by have := h.gv.parts; omega, h.dp, h.tp, h.st⟩
def pk (t : Tm) (k : Fm) : PyData := .tuple [encT t, enc k]
structure Pre (n : Nat) (c sz : Int) (G : List Fm) (ws : List Str) : Prop where
  c0 : 0 ≤ c
  s0 : 0 ≤ sz
  s30 : sz ≤ 30
  lv : 3 * sz + 10 ≤ n
  w1 : 1 ≤ ws.length
  wo : ∀ w ∈ ws, WordOk w
  gv : ∀ g ∈ G, Gv ws g
  gl : (G.length : Int) + sz ≤ 1000
abbrev IsMade (n : Nat) (f : Fx) : Prop := ∀ c sz G ws, Pre n c sz G ws → ∃ t k, f [.int c, .int sz, .list (G.map enc), .list (ws.map .str)] = .ok (pk t k) ∧ MdOk ws G sz t k
/-- at most two less for a helper -/
abbrev IsHelp (n : Nat) (f : Fx) : Prop := ∀ c sz G ws, Pre (n + 2) c sz G ws → 2 ≤ sz → ∃ t k, f [.int c, .int sz, .list (G.map enc), .list (ws.map .str)] = .ok (pk t k) ∧ AnOk ws G sz t k
abbrev IsAny (n : Nat) (f : Fx) : Prop := ∀ c sz G ws, Pre (n + 1) c sz G ws → 2 ≤ sz → ∃ t k, f [.int c, .int sz, .list (G.map enc), .list (ws.map .str)] = .ok (pk t k) ∧ AnOk ws G sz t k
abbrev IsSimple (n : Nat) (f : Fx) : Prop := ∀ (c : Int) (G : List Fm) (ws : List Str), 0 ≤ c → 5 ≤ n → 1 ≤ ws.length → (∀ w ∈ ws, WordOk w) → (∀ g ∈ G, Gv ws g) → ∃ t k, f [.int c, .list (G.map enc), .list (ws.map .str)] = .ok (pk t k) ∧ MdOk ws G 0 t k
theorem simple_step {s : Fx} {n : Nat} (hs : IsSt n s) : IsSimple (n + 1) (runF 4 (b__law_simple s)) := by
  intro c G ws h0 hn hw hW hG
  unfold b__law_simple
  obtain ⟨F, eF, pF⟩ := hs (c / 7) (1 + c / 7 % 4) ws (by omega) (by omega) (by omega) (by unfold lvS; rw [if_pos (by omega)]; omega) hw
  have gF := pF.gv (by omega)
  have en := eq_nil (sh_encs fun g hg => (hG g hg).ok hW) (by omega) (by omega)
  have fin : ∃ t k, R.ok (PyData.tuple [.tuple [.str "fun", enc F, .tuple [.str "at", .int 0]], .tuple [.str "then", enc F, enc F]]) = R.ok (pk t k) ∧ MdOk ws G 0 t k := by
    refine ⟨.fn F (.at 0), .bin .then_ F F, rfl, by simp [kindF], ⟨?_, fun w hw => ?_⟩, by simp [Tm.deep], by simp [Tm.parts, PB], gF, trivial⟩
    · have := pF.parts; simp only [Fm.parts]; omega
    · rcases List.mem_append.mp hw with h | h <;> exact gF.lt w h
  cases G with
  | nil =>
    simp only [List.map_nil, List.isEmpty_nil] at en ⊢
    walk_at "ev"
    rw [en]
    walk_at "ev"
    rw [eF]
    walk_at "ev"
    exact fin
  | cons g0 gr =>
    generalize hgl : g0 :: gr = G at *
    have hne : 0 < G.length := by rw [← hgl]; simp
    have hie : (G.map enc).isEmpty = false := by rw [← hgl]; rfl
    rw [hie] at en
    walk_at "ev"
    rw [en]
    walk_at "ev"
    by_cases h7 : c % 7 = 0
    · simp only [h7, decide_true]
      walk_at "ev"
      rw [eF]
      walk_at "ev"
      exact fin
    · simp only [h7, decide_false]
      walk_at "ev"
      unfold b__law_simple_r1
      have q0 := Int.emod_nonneg (c / 7) (show (G.length : Int) ≠ 0 by omega)
      have q1 := Int.emod_lt_of_pos (c / 7) (show (0 : Int) < (G.length : Int) by omega)
      obtain ⟨x, hx, hxm, ex⟩ := ixE (e := enc) q0 q1
      walk_at "ev"
      rw [ex]
      walk_at "ev"
      refine ⟨.at (c / 7 % (G.length : Int)), x, rfl, by simp only [kindF]; rw [if_pos q0]; exact hx, hG x hxm, by simp [Tm.deep], by simp [Tm.parts, PB], trivial⟩
theorem pk_asg {is : List Nat} {t : Tm} {k : Fm} {δ : Ev} (h : is.length = 2) : asgK (.ok (pk t k)) (bT is) δ = .nx (sets is [encT t, enc k] δ) := asgK_T (by simp [h])
theorem enc_hd (F : Fm) : ixD (enc F) (.int 0) = some (.str (match F with | .low => "low" | .lt _ => "letter" | .bin k _ _ => k.str)) := by cases F <;> (unfold enc; rw [ix0])
theorem pk_ix0 (t : Tm) (k : Fm) : ixD (pk t k) (.int 0) = some (encT t) := ix0 _ _
theorem pk_ix1 (t : Tm) (k : Fm) : ixD (pk t k) (.int 1) = some (enc k) := ix1 _ _ _
/-- a form and whether a statement has it -/
def hd (F : Fm) : Str := match F with | .low => "low" | .lt _ => "letter" | .bin k _ _ => k.str
theorem hd_ix (F : Fm) : ixD (enc F) (.int 0) = some (.str (hd F)) := enc_hd F
theorem hd_both (F : Fm) : hd F = "both" ↔ ∃ p q, F = .bin .both p q := by
  cases F with
  | low => simp [hd, str_inj]
  | lt w => simp [hd, str_inj]
  | bin k a b => cases k <;> simp [hd, Kd.str, str_inj]
theorem hd_one (F : Fm) : hd F = "one" ↔ ∃ p q, F = .bin .one p q := by
  cases F with
  | low => simp [hd, str_inj]
  | lt w => simp [hd, str_inj]
  | bin k a b => cases k <;> simp [hd, Kd.str, str_inj]
theorem hd_then (F : Fm) : hd F = "then" ↔ ∃ p q, F = .bin .then_ p q := by
  cases F with
  | low => simp [hd, str_inj]
  | lt w => simp [hd, str_inj]
  | bin k a b => cases k <;> simp [hd, Kd.str, str_inj]
theorem Gv.bin {ws : List Str} {k : Kd} {p q : Fm} (h : Gv ws (.bin k p q)) : Gv ws p ∧ Gv ws q := by
  have := h.parts
  simp only [Fm.parts] at this
  exact ⟨⟨by omega, fun w hw => h.lt w (List.mem_append_left _ hw)⟩, ⟨by omega, fun w hw => h.lt w (List.mem_append_right _ hw)⟩⟩
theorem sided_step {md m sm : Fx} {n : Nat} (hm : IsMix m) (hd0 : IsMade n md) (hsm : IsSimple n sm) (hn : 5 ≤ n) : IsHelp (n + 1) (runF 7 (b__law_sided m md sm)) := by
  intro c sz G ws P h2
  unfold b__law_sided
  have P1 : Pre n (mixZ c 1) (sz - 1) G ws := ⟨(mixZ_range _ _).1, by omega, by have := P.s30; omega, by have := P.lv; omega, P.w1, P.wo, P.gv, by have := P.gl; omega⟩
  obtain ⟨t, k, e1, o1⟩ := hd0 _ _ _ _ P1
  obtain ⟨u, l, e2, o2⟩ := hsm (mixZ c 2) G ws (mixZ_range _ _).1 hn P.w1 P.wo P.gv
  have m1 := hm c 1 (by omega) (by omega)
  have m2 := hm c 2 (by omega) (by omega)
  have hc2 : c % 2 = 0 ∨ c % 2 = 1 := by omega
  have d1 := o1.dp
  have d2 := o2.dp
  have p1 := o1.tp
  have p2 := o2.tp
  have pz : PB (0 : Int).toNat = 2 := rfl
  have pb := pb_all h2 P.s30
  walk_at "ev"
  rw [m1]
  walk_at "ev"
  rw [e1, pk_asg rfl]
  walk_at "ev"
  rw [hd_ix]
  walk_at "ev"
  by_cases hb : hd k = "both"
  · obtain ⟨p, q, rfl⟩ := (hd_both k).mp hb
    simp only [hb, decide_true]
    have ek : enc (.bin .both p q) = .tuple [.str "both", enc p, enc q] := rfl
    obtain ⟨gp, gq⟩ := o1.gv.bin
    rw [ek]
    rcases hc2 with h | h <;> (walk_at "ev"; rw [h]; walk_at "ev")
    · exact ⟨.left t, p, rfl, by simp [kindF, o1.kd], gp.lt, by have := gp.deep; omega, by have := gp.parts; omega, by simp only [Tm.deep]; omega, by simp only [Tm.parts]; omega, o1.st⟩
    · exact ⟨.right t, q, rfl, by simp [kindF, o1.kd], gq.lt, by have := gq.deep; omega, by have := gq.parts; omega, by simp only [Tm.deep]; omega, by simp only [Tm.parts]; omega, o1.st⟩
  · simp only [hb, decide_false]
    walk_at "ev"
    unfold b__law_sided_r1
    walk_at "ev"
    rw [m2]
    walk_at "ev"
    rw [e2]
    walk_at "ev"
    rw [pk_ix0]
    walk_at "ev"
    rcases hc2 with h | h <;> (rw [h]; walk_at "ev")
    · exact ⟨.left (.pair t u), k, rfl, by simp [kindF, o1.kd, o2.kd], o1.gv.lt, by have := o1.gv.deep; omega, by have := o1.gv.parts; omega, by simp only [Tm.deep]; omega, by simp only [Tm.parts]; omega, o1.st, o2.st⟩
    · exact ⟨.right (.pair u t), k, rfl, by simp [kindF, o1.kd, o2.kd], o1.gv.lt, by have := o1.gv.deep; omega, by have := o1.gv.parts; omega, by simp only [Tm.deep]; omega, by simp only [Tm.parts]; omega, o2.st, o1.st⟩
end Kn

namespace Kn
open PySem L2 Dl
local macro_rules | `(tactic| walk_at "ev") => `(tactic| try simp (disch := first | omega | (simp only [List.length_map, List.length_append, List.length_cons, List.length_nil, rangeL_len, mkI_len, mkW_len] <;> fail) | (simp only [List.length_map, List.length_append, List.length_cons, List.length_nil, rangeL_len, mkI_len, mkW_len]; omega)) only [ev_run, runK_rt, runK_err, ev_sq, sqK_nx, sqK_rt, sqK_bk, sqK_ct, sqK_err, ev_if, ifK_t, ifK_f, ifK_err, ev_set, setK_ok, setK_err, ev_ret, retK_ok, retK_err, ev_exp, expK_ok, expK_err, ev_skp, ev_brk, ev_cnt, ev_cst, ev_op2, ev_un1, ev_tst, asB_b, ev_andT, ev_orT, andK_t, andK_f, orK_t, orK_f, ev_notT, ev_andV, ev_orV, andW_t, andW_f, orW_t, orW_f, ev_notV, ev_isi, evs_nil, evs_cons, ev_mkT, ev_mkL, ev_cal, ev_call, ev_slc, ev_noP, ev_prt, asI_i, ev_for, forK_ok, ev_itLK, itLK_l, ev_itR, itRK_1, itRK_2, ev_itZ, itZK_l, itZK_t, ev_it1, it1K_l, ev_app, slotL_0, slotL_S, appK_ok, addD_i, addD_l, addD_s, subD_i, ltD_i, leD_i, gtD_i, geD_i, ltD_s, negD_i, isD_n, isntD_n, isNone_n, isNone_t, isNone_l, isNone_i, isNone_s, isNone_b, lenD_l, lenD_t, minD_i, maxD_i, mul_ok, mod_ok, fdiv_ok, eqD_int, eqD_str, neD_int, neD_str, ix0, ix1, ix2, ix3, vr0, vrS, R.bind_ok, R.bind_err, R.bind_bad, ofO_some, List.map_cons, List.map_nil, List.length_cons, List.length_nil, List.length_map, List.cons_append, List.nil_append, List.replicate, Nat.reduceAdd, Nat.reduceSub, List.set_cons_zero, List.set_cons_succ, lpK_nx, lpK_ct, lpK_bk, lpK_rt, lpK_err, whK_t, whK_f, sets, ev_aug, augK_ok, ev_asg, ev_mkD, evps_nil, evps_cons, pairK_s, pairK_i, listD_l, ev_lc, slD_l, slD_t, Int.cast_ofNat_Int, Int.reduceLT, Int.reduceLE, Int.reduceEq, Int.reduceAdd, Int.reduceSub, Int.reduceMul, Int.reduceNeg, Int.reduceMod, Int.reduceDiv, Int.reduceToNat, li0, li1, li2, li3, li4, str_inj, String.reduceEq, decide_false, decide_true, isiB_s, isiB_i, isiB_b, isiB_l, isiB_t, isiB_n, isiS, Bool.or_false, Bool.or_true, Bool.and_false, Bool.and_true, Bool.false_or, Bool.true_or, Bool.false_and, Bool.true_and, ev_dput, slotD_0, slotD_S, slotK_i, slotK_s, dinD_i, dinD_s, dixD_i, dixD_s, ev_keys, keysK_d, keysD_d, mkI_len, mkW_len, ev_popN, popN_ok, ev_popT, popT_ok, ev_raiseI, raiK_i, ev_raise, ev_try, tryK_nx, tryK_rt, tryK_e1, tryK_e0, fin1_nx, ev_fld, ev_tryO, tryOK_nx, tryOK_rt, tryOK_e, finO_nx, finO_rt, isD_b, ev_rev, revK_l, ev_ext, extK_ok, ev_callB, flatE_b, flatE_i, flatE_s, flatE_n, ev_extPop, ifT, ifF, ifTT, ifFT, intD_t, intD_f, cutT2, cutL_tail, inT2, inT3, tupleD_l, tupleD_t, listD_t, addD_t, lcD_nil, lcD_consT, consR_ok, forD_T2, forD_nil, wipe0, wipeS, Bool.not_true, Bool.not_false])
local macro_rules | `(tactic| walk_at "go") => `(tactic| try simp (disch := first | omega | (simp only [List.length_map, List.length_append, List.length_cons, List.length_nil, rangeL_len, mkI_len, mkW_len] <;> fail) | (simp only [List.length_map, List.length_append, List.length_cons, List.length_nil, rangeL_len, mkI_len, mkW_len]; omega)) only [ev_run, runK_rt, runK_err, ev_sq, sqK_nx, sqK_rt, sqK_bk, sqK_ct, sqK_err, ev_if, ifK_t, ifK_f, ifK_err, ev_set, setK_ok, setK_err, ev_ret, retK_ok, retK_err, ev_exp, expK_ok, expK_err, ev_skp, ev_brk, ev_cnt, ev_cst, ev_op2, ev_un1, ev_tst, asB_b, ev_andT, ev_orT, andK_t, andK_f, orK_t, orK_f, ev_notT, ev_andV, ev_orV, andW_t, andW_f, orW_t, orW_f, ev_notV, ev_isi, evs_nil, evs_cons, ev_mkT, ev_mkL, ev_cal, ev_call, ev_slc, ev_noP, ev_prt, asI_i, ev_for, forK_ok, ev_itLK, itLK_l, ev_itR, itRK_1, itRK_2, ev_itZ, itZK_l, itZK_t, ev_it1, it1K_l, ev_app, slotL_0, slotL_S, appK_ok, addD_i, addD_l, addD_s, subD_i, ltD_i, leD_i, gtD_i, geD_i, ltD_s, negD_i, isD_n, isntD_n, isNone_n, isNone_t, isNone_l, isNone_i, isNone_s, isNone_b, lenD_l, lenD_t, minD_i, maxD_i, mul_ok, mod_ok, fdiv_ok, eqD_int, eqD_str, neD_int, neD_str, ix0, ix1, ix2, ix3, vr0, vrS, R.bind_ok, R.bind_err, R.bind_bad, ofO_some, List.map_cons, List.map_nil, List.length_cons, List.length_nil, List.length_map, List.cons_append, List.nil_append, List.replicate, Nat.reduceAdd, Nat.reduceSub, List.set_cons_zero, List.set_cons_succ, lpK_nx, lpK_ct, lpK_bk, lpK_rt, lpK_err, whK_t, whK_f, sets, ev_aug, augK_ok, ev_asg, ev_mkD, evps_nil, evps_cons, pairK_s, pairK_i, listD_l, ev_lc, slD_l, slD_t, Int.cast_ofNat_Int, Int.reduceLT, Int.reduceLE, Int.reduceEq, Int.reduceAdd, Int.reduceSub, Int.reduceMul, Int.reduceNeg, Int.reduceMod, Int.reduceDiv, Int.reduceToNat, li0, li1, li2, li3, li4, str_inj, String.reduceEq, decide_false, decide_true, isiB_s, isiB_i, isiB_b, isiB_l, isiB_t, isiB_n, isiS, Bool.or_false, Bool.or_true, Bool.and_false, Bool.and_true, Bool.false_or, Bool.true_or, Bool.false_and, Bool.true_and, ev_dput, slotD_0, slotD_S, slotK_i, slotK_s, dinD_i, dinD_s, dixD_i, dixD_s, ev_keys, keysK_d, keysD_d, mkI_len, mkW_len, ev_popN, popN_ok, ev_popT, popT_ok, ev_raiseI, raiK_i, ev_raise, ev_try, tryK_nx, tryK_rt, tryK_e1, tryK_e0, fin1_nx, ev_fld, ev_tryO, tryOK_nx, tryOK_rt, tryOK_e, finO_nx, finO_rt, isD_b, ev_rev, revK_l, ev_ext, extK_ok, ev_callB, flatE_b, flatE_i, flatE_s, flatE_n, ev_extPop, ifT, ifF, ifTT, ifFT, intD_t, intD_f, cutT2, cutL_tail, inT2, inT3, tupleD_l, tupleD_t, listD_t, addD_t, lcD_nil, lcD_consT, consR_ok, forD_T2, forD_nil, wipe0, wipeS, Bool.not_true, Bool.not_false, *])
/-! ### all statements in a statement -/
def Cld (L : List Fm) (i : Nat) : Prop := ∀ (j : Nat) (k : Kd) (a b : Fm), j < i → L[j]? = some (.bin k a b) → a ∈ L ∧ b ∈ L
theorem parts_pos (F : Fm) : 1 ≤ F.parts := by cases F <;> simp [Fm.parts] <;> omega
theorem sum_ge : ∀ L : List Fm, L.length ≤ (L.map Fm.parts).sum
  | [] => by simp
  | F :: L => by have := sum_ge L; have := parts_pos F; simp only [List.length_cons, List.map_cons, List.sum_cons]; omega
theorem within_loop (s0 : PyData) (P : Fm → Prop) (hP : ∀ k a b, P (.bin k a b) → P a ∧ P b) : ∀ (m : Nat) (L : List Fm) (i fuel : Nat), i ≤ L.length → ((L.drop i).map Fm.parts).sum = m → m < fuel → Cld L i → (∀ G ∈ L, P G) → i + m ≤ 100000 →
    ∃ X, whD (tst (op2 ltD (vr 2) (cal lenD [(vr 1)]))) b__law_within_l1 fuel [some s0, some (.list (L.map enc)), some (.int (i : Nat))] = .nx [some s0, some (.list ((L ++ X).map enc)), some (.int ((L ++ X).length : Nat))] ∧ Cld (L ++ X) (L ++ X).length ∧ (∀ G ∈ L ++ X, P G) ∧ (L ++ X).length = i + m
  | m, L, i, 0, _, _, q, _, _, _ => by omega
  | m, L, i, fuel + 1, hi, hm, hf, hc, hp, hl => by
    rw [ev_wh]
    have hll : L.length ≤ 100000 := by have := sum_ge (L.drop i); rw [List.length_drop] at this; omega
    rcases Nat.lt_or_ge i L.length with hlt | hge
    · obtain ⟨G, hG⟩ : ∃ G, L[i]? = some G := ⟨_, List.getElem?_eq_getElem hlt⟩
      have eG : L[i] = G := by rw [List.getElem?_eq_getElem hlt] at hG; exact Option.some.inj hG
      have ed : L.drop i = G :: L.drop (i + 1) := by rw [List.drop_eq_getElem_cons hlt, eG]
      rw [ed, List.map_cons, List.sum_cons] at hm
      have hpp := parts_pos G
      have hm1 : 1 ≤ m := by omega
      have ex : ixD (.list (L.map enc)) (.int (i : Nat)) = some (enc G) := by
        rw [ixL (j := i) rfl (by simpa using hlt), List.getElem_map, eG]
      have hdec : decide (((i : Nat) : Int) < ((L.length : Nat) : Int)) = true := decide_eq_true (by omega)
      have e1 : ((i : Nat) : Int) + 1 = ((i + 1 : Nat) : Int) := rfl
      have unf : ∀ δ, b__law_within_l1 δ = sq (ifS (tst (op2 eqD (cal lenD [(op2 ixD (vr 1) (vr 2))]) (cst (.int 3)))) (sq (appS 1 (op2 ixD (op2 ixD (vr 1) (vr 2)) (cst (.int 1)))) (appS 1 (op2 ixD (op2 ixD (vr 1) (vr 2)) (cst (.int 2))))) skp) (augS 2 (fun a b => a + b) (cst (.int 1))) δ := fun δ => rfl
      have leaf : G.parts = 1 → (∀ k a b, G ≠ .bin k a b) → ∃ X, whD (tst (op2 ltD (vr 2) (cal lenD [(vr 1)]))) b__law_within_l1 fuel [some s0, some (.list (L.map enc)), some (.int ((i + 1 : Nat) : Int))] = .nx [some s0, some (.list ((L ++ X).map enc)), some (.int ((L ++ X).length : Nat))] ∧ Cld (L ++ X) (L ++ X).length ∧ (∀ G ∈ L ++ X, P G) ∧ (L ++ X).length = i + m := by
        intro hp1 hnb
        obtain ⟨X, w, c1, c2, c3⟩ := within_loop s0 P hP (m - 1) L (i + 1) fuel hlt (by omega) (by omega) (fun j k a b hj e => by
          rcases Nat.lt_or_ge j i with q | q
          · exact hc j k a b q e
          · have : j = i := by omega
            subst this
            rw [hG] at e; cases e; exact absurd rfl (hnb k a b)) hp (by omega)
        exact ⟨X, w, c1, c2, by omega⟩
      cases G with
      | low =>
        have e0 : enc .low = .tuple [.str "low"] := rfl
        rw [e0] at ex
        obtain ⟨X, w, h⟩ := leaf rfl (fun k a b => by simp)
        refine ⟨X, ?_, h⟩
        walk_at "ev"
        rw [hdec]
        walk_at "ev"
        rw [unf]
        walk_at "ev"
        rw [ex]
        walk_at "ev"
        rw [e1]
        exact w
      | lt v =>
        have e0 : enc (.lt v) = .tuple [.str "letter", .str v] := rfl
        rw [e0] at ex
        obtain ⟨X, w, h⟩ := leaf rfl (fun k a b => by simp)
        refine ⟨X, ?_, h⟩
        walk_at "ev"
        rw [hdec]
        walk_at "ev"
        rw [unf]
        walk_at "ev"
        rw [ex]
        walk_at "ev"
        rw [e1]
        exact w
      | bin k a b =>
        have e0 : enc (.bin k a b) = .tuple [.str k.str, enc a, enc b] := rfl
        rw [e0] at ex
        have pab := hP k a b (hp _ (List.mem_of_getElem? hG))
        simp only [Fm.parts] at hm
        have hLG : (L ++ [a])[i]? = some (.bin k a b) := by rw [List.getElem?_append_left hlt]; exact hG
        have ex2 : ixD (.list ((L ++ [a]).map enc)) (.int (i : Nat)) = some (.tuple [.str k.str, enc a, enc b]) := by
          rw [ixL (j := i) rfl (by simp; omega), List.getElem_map]
          have : (L ++ [a])[i]'(by simp; omega) = .bin k a b := by
            have := List.getElem?_eq_getElem (l := L ++ [a]) (i := i) (by simp; omega)
            rw [hLG] at this; exact (Option.some.inj this).symm
          rw [this, e0]
        have em : L.map enc ++ [enc a] = (L ++ [a]).map enc := by simp
        have em2 : (L ++ [a]).map enc ++ [enc b] = (L ++ [a, b]).map enc := by simp
        obtain ⟨X, w, c1, c2, c3⟩ := within_loop s0 P hP (m - 1) (L ++ [a, b]) (i + 1) fuel (by simp; omega) (by
          rw [List.drop_append_of_le_length (show i + 1 ≤ L.length from hlt)]
          simp only [List.map_append, List.sum_append, List.map_cons, List.map_nil, List.sum_cons, List.sum_nil]
          omega) (by omega) (fun j k' a' b' hj e => by
          rcases Nat.lt_or_ge j i with q | q
          · rw [List.getElem?_append_left (by omega)] at e
            have := hc j k' a' b' q e
            exact ⟨List.mem_append_left _ this.1, List.mem_append_left _ this.2⟩
          · have : j = i := by omega
            subst this
            rw [List.getElem?_append_left hlt, hG] at e; cases e
            exact ⟨by simp, by simp⟩) (fun G hG' => by
          rcases List.mem_append.mp hG' with q | q
          · exact hp G q
          · rcases List.mem_cons.mp q with q | q
            · rw [q]; exact pab.1
            · rw [List.mem_singleton.mp q]; exact pab.2) (by omega)
        refine ⟨[a, b] ++ X, ?_, by rw [← List.append_assoc]; exact c1, by rw [← List.append_assoc]; exact c2, by rw [← List.append_assoc, c3]; omega⟩
        walk_at "ev"
        rw [hdec]
        walk_at "ev"
        rw [unf]
        walk_at "ev"
        rw [ex]
        walk_at "ev"
        rw [ex]
        walk_at "ev"
        rw [em, ex2]
        walk_at "ev"
        rw [em2, e1, w]
        simp
    · have hil : i = L.length := by omega
      have hm0 : m = 0 := by
        rw [← hm, List.drop_eq_nil_of_le hge]; rfl
      have hdec : decide (((i : Nat) : Int) < ((L.length : Nat) : Int)) = false := decide_eq_false (by omega)
      refine ⟨[], ?_, ?_, ?_, ?_⟩
      · walk_at "ev"
        rw [hdec]
        walk_at "ev"
        simp [hil]
      · rw [List.append_nil, ← hil]; exact hc
      · rw [List.append_nil]; exact hp
      · rw [List.append_nil]; omega
structure Wn (P : Fm → Prop) (F : Fm) (L : List Fm) : Prop where
  hd : L[0]? = some F
  cl : Cld L L.length
  al : ∀ G ∈ L, P G
  ln : L.length = F.parts
theorem within_ok (P : Fm → Prop) (hP : ∀ k a b, P (.bin k a b) → P a ∧ P b) (F : Fm) (h : P F) (hl : F.parts ≤ 90000) : ∃ L, runF 3 b__law_within [enc F] = .ok (.list (L.map enc)) ∧ Wn P F L := by
  obtain ⟨X, w, c1, c2, c3⟩ := within_loop (enc F) P hP F.parts [F] 0 1000000000 (by simp) (by simp) (by omega) (fun j k a b hj => by omega) (fun G hG => by rw [List.mem_singleton.mp hG]; exact h) (by simp; omega)
  refine ⟨[F] ++ X, ?_, rfl, c1, c2, by omega⟩
  have z0 : (((0 : Nat)) : Int) = 0 := rfl
  have em : [F].map enc = [enc F] := rfl
  rw [z0, em] at w
  unfold b__law_within b__law_within_r1
  walk_at "ev"
  rw [w]
  walk_at "ev"
end Kn

namespace Kn
open PySem L2 Dl
local macro_rules | `(tactic| walk_at "ev") => `(tactic| try simp (disch := first | omega | (simp only [List.length_map, List.length_append, List.length_cons, List.length_nil, rangeL_len, mkI_len, mkW_len] <;> fail) | (simp only [List.length_map, List.length_append, List.length_cons, List.length_nil, rangeL_len, mkI_len, mkW_len]; omega)) only [ev_run, runK_rt, runK_err, ev_sq, sqK_nx, sqK_rt, sqK_bk, sqK_ct, sqK_err, ev_if, ifK_t, ifK_f, ifK_err, ev_set, setK_ok, setK_err, ev_ret, retK_ok, retK_err, ev_exp, expK_ok, expK_err, ev_skp, ev_brk, ev_cnt, ev_cst, ev_op2, ev_un1, ev_tst, asB_b, ev_andT, ev_orT, andK_t, andK_f, orK_t, orK_f, ev_notT, ev_andV, ev_orV, andW_t, andW_f, orW_t, orW_f, ev_notV, ev_isi, evs_nil, evs_cons, ev_mkT, ev_mkL, ev_cal, ev_call, ev_slc, ev_noP, ev_prt, asI_i, ev_for, forK_ok, ev_itLK, itLK_l, ev_itR, itRK_1, itRK_2, ev_itZ, itZK_l, itZK_t, ev_it1, it1K_l, ev_app, slotL_0, slotL_S, appK_ok, addD_i, addD_l, addD_s, subD_i, ltD_i, leD_i, gtD_i, geD_i, ltD_s, negD_i, isD_n, isntD_n, isNone_n, isNone_t, isNone_l, isNone_i, isNone_s, isNone_b, lenD_l, lenD_t, minD_i, maxD_i, mul_ok, mod_ok, fdiv_ok, eqD_int, eqD_str, neD_int, neD_str, ix0, ix1, ix2, ix3, vr0, vrS, R.bind_ok, R.bind_err, R.bind_bad, ofO_some, List.map_cons, List.map_nil, List.length_cons, List.length_nil, List.length_map, List.cons_append, List.nil_append, List.replicate, Nat.reduceAdd, Nat.reduceSub, List.set_cons_zero, List.set_cons_succ, lpK_nx, lpK_ct, lpK_bk, lpK_rt, lpK_err, whK_t, whK_f, sets, ev_aug, augK_ok, ev_asg, ev_mkD, evps_nil, evps_cons, pairK_s, pairK_i, listD_l, ev_lc, slD_l, slD_t, Int.cast_ofNat_Int, Int.reduceLT, Int.reduceLE, Int.reduceEq, Int.reduceAdd, Int.reduceSub, Int.reduceMul, Int.reduceNeg, Int.reduceMod, Int.reduceDiv, Int.reduceToNat, li0, li1, li2, li3, li4, str_inj, String.reduceEq, decide_false, decide_true, isiB_s, isiB_i, isiB_b, isiB_l, isiB_t, isiB_n, isiS, Bool.or_false, Bool.or_true, Bool.and_false, Bool.and_true, Bool.false_or, Bool.true_or, Bool.false_and, Bool.true_and, ev_dput, slotD_0, slotD_S, slotK_i, slotK_s, dinD_i, dinD_s, dixD_i, dixD_s, ev_keys, keysK_d, keysD_d, mkI_len, mkW_len, ev_popN, popN_ok, ev_popT, popT_ok, ev_raiseI, raiK_i, ev_raise, ev_try, tryK_nx, tryK_rt, tryK_e1, tryK_e0, fin1_nx, ev_fld, ev_tryO, tryOK_nx, tryOK_rt, tryOK_e, finO_nx, finO_rt, isD_b, ev_rev, revK_l, ev_ext, extK_ok, ev_callB, flatE_b, flatE_i, flatE_s, flatE_n, ev_extPop, ifT, ifF, ifTT, ifFT, intD_t, intD_f, cutT2, cutL_tail, inT2, inT3, tupleD_l, tupleD_t, listD_t, addD_t, lcD_nil, lcD_consT, consR_ok, forD_T2, forD_nil, wipe0, wipeS, Bool.not_true, Bool.not_false])
local macro_rules | `(tactic| walk_at "go") => `(tactic| try simp (disch := first | omega | (simp only [List.length_map, List.length_append, List.length_cons, List.length_nil, rangeL_len, mkI_len, mkW_len] <;> fail) | (simp only [List.length_map, List.length_append, List.length_cons, List.length_nil, rangeL_len, mkI_len, mkW_len]; omega)) only [ev_run, runK_rt, runK_err, ev_sq, sqK_nx, sqK_rt, sqK_bk, sqK_ct, sqK_err, ev_if, ifK_t, ifK_f, ifK_err, ev_set, setK_ok, setK_err, ev_ret, retK_ok, retK_err, ev_exp, expK_ok, expK_err, ev_skp, ev_brk, ev_cnt, ev_cst, ev_op2, ev_un1, ev_tst, asB_b, ev_andT, ev_orT, andK_t, andK_f, orK_t, orK_f, ev_notT, ev_andV, ev_orV, andW_t, andW_f, orW_t, orW_f, ev_notV, ev_isi, evs_nil, evs_cons, ev_mkT, ev_mkL, ev_cal, ev_call, ev_slc, ev_noP, ev_prt, asI_i, ev_for, forK_ok, ev_itLK, itLK_l, ev_itR, itRK_1, itRK_2, ev_itZ, itZK_l, itZK_t, ev_it1, it1K_l, ev_app, slotL_0, slotL_S, appK_ok, addD_i, addD_l, addD_s, subD_i, ltD_i, leD_i, gtD_i, geD_i, ltD_s, negD_i, isD_n, isntD_n, isNone_n, isNone_t, isNone_l, isNone_i, isNone_s, isNone_b, lenD_l, lenD_t, minD_i, maxD_i, mul_ok, mod_ok, fdiv_ok, eqD_int, eqD_str, neD_int, neD_str, ix0, ix1, ix2, ix3, vr0, vrS, R.bind_ok, R.bind_err, R.bind_bad, ofO_some, List.map_cons, List.map_nil, List.length_cons, List.length_nil, List.length_map, List.cons_append, List.nil_append, List.replicate, Nat.reduceAdd, Nat.reduceSub, List.set_cons_zero, List.set_cons_succ, lpK_nx, lpK_ct, lpK_bk, lpK_rt, lpK_err, whK_t, whK_f, sets, ev_aug, augK_ok, ev_asg, ev_mkD, evps_nil, evps_cons, pairK_s, pairK_i, listD_l, ev_lc, slD_l, slD_t, Int.cast_ofNat_Int, Int.reduceLT, Int.reduceLE, Int.reduceEq, Int.reduceAdd, Int.reduceSub, Int.reduceMul, Int.reduceNeg, Int.reduceMod, Int.reduceDiv, Int.reduceToNat, li0, li1, li2, li3, li4, str_inj, String.reduceEq, decide_false, decide_true, isiB_s, isiB_i, isiB_b, isiB_l, isiB_t, isiB_n, isiS, Bool.or_false, Bool.or_true, Bool.and_false, Bool.and_true, Bool.false_or, Bool.true_or, Bool.false_and, Bool.true_and, ev_dput, slotD_0, slotD_S, slotK_i, slotK_s, dinD_i, dinD_s, dixD_i, dixD_s, ev_keys, keysK_d, keysD_d, mkI_len, mkW_len, ev_popN, popN_ok, ev_popT, popT_ok, ev_raiseI, raiK_i, ev_raise, ev_try, tryK_nx, tryK_rt, tryK_e1, tryK_e0, fin1_nx, ev_fld, ev_tryO, tryOK_nx, tryOK_rt, tryOK_e, finO_nx, finO_rt, isD_b, ev_rev, revK_l, ev_ext, extK_ok, ev_callB, flatE_b, flatE_i, flatE_s, flatE_n, ev_extPop, ifT, ifF, ifTT, ifFT, intD_t, intD_f, cutT2, cutL_tail, inT2, inT3, tupleD_l, tupleD_t, listD_t, addD_t, lcD_nil, lcD_consT, consR_ok, forD_T2, forD_nil, wipe0, wipeS, Bool.not_true, Bool.not_false, *])
local macro_rules | `(tactic| walk_at "e2") => `(tactic| try simp (disch := first | omega | (simp only [List.length_map, List.length_append, List.length_cons, List.length_nil, rangeL_len, mkI_len, mkW_len] <;> fail) | (simp only [List.length_map, List.length_append, List.length_cons, List.length_nil, rangeL_len, mkI_len, mkW_len]; omega)) only [ev_run, runK_rt, runK_err, ev_sq, sqK_nx, sqK_rt, sqK_bk, sqK_ct, sqK_err, ev_if, ifK_t, ifK_f, ifK_err, ev_set, setK_ok, setK_err, ev_ret, retK_ok, retK_err, ev_exp, expK_ok, expK_err, ev_skp, ev_brk, ev_cnt, ev_cst, ev_op2, ev_un1, ev_tst, asB_b, ev_andT, ev_orT, andK_t, andK_f, orK_t, orK_f, ev_notT, ev_andV, ev_orV, andW_t, andW_f, orW_t, orW_f, ev_notV, ev_isi, evs_nil, evs_cons, ev_mkT, ev_mkL, ev_cal, ev_call, ev_slc, ev_noP, ev_prt, asI_i, ev_for, forK_ok, ev_itLK, itLK_l, ev_itR, itRK_1, itRK_2, ev_itZ, itZK_l, itZK_t, ev_it1, it1K_l, ev_app, slotL_0, slotL_S, appK_ok, addD_i, addD_l, addD_s, subD_i, ltD_i, leD_i, gtD_i, geD_i, ltD_s, negD_i, isD_n, isntD_n, isNone_n, isNone_t, isNone_l, isNone_i, isNone_s, isNone_b, lenD_l, lenD_t, minD_i, maxD_i, mul_ok, mod_ok, fdiv_ok, eqD_int, eqD_str, neD_int, neD_str, ix0, ix1, ix2, ix3, vr0, vrS, R.bind_ok, R.bind_err, R.bind_bad, ofO_some, List.map_cons, List.map_nil, List.length_cons, List.length_nil, List.length_map, List.cons_append, List.nil_append, List.replicate, Nat.reduceAdd, Nat.reduceSub, List.set_cons_zero, List.set_cons_succ, lpK_nx, lpK_ct, lpK_bk, lpK_rt, lpK_err, whK_t, whK_f, sets, ev_aug, augK_ok, ev_asg, ev_mkD, evps_nil, evps_cons, pairK_s, pairK_i, listD_l, ev_lc, slD_l, slD_t, Int.cast_ofNat_Int, Int.reduceLT, Int.reduceLE, Int.reduceEq, Int.reduceAdd, Int.reduceSub, Int.reduceMul, Int.reduceNeg, Int.reduceMod, Int.reduceDiv, Int.reduceToNat, li0, li1, li2, li3, li4, str_inj, String.reduceEq, decide_false, decide_true, isiB_s, isiB_i, isiB_b, isiB_l, isiB_t, isiB_n, isiS, Bool.or_false, Bool.or_true, Bool.and_false, Bool.and_true, Bool.false_or, Bool.true_or, Bool.false_and, Bool.true_and, ev_dput, slotD_0, slotD_S, slotK_i, slotK_s, dinD_i, dinD_s, dixD_i, dixD_s, ev_keys, keysK_d, keysD_d, mkI_len, mkW_len, ev_popN, popN_ok, ev_popT, popT_ok, ev_raiseI, raiK_i, ev_raise, ev_try, tryK_nx, tryK_rt, tryK_e1, tryK_e0, fin1_nx, ev_fld, ev_tryO, tryOK_nx, tryOK_rt, tryOK_e, finO_nx, finO_rt, isD_b, ev_rev, revK_l, ev_ext, extK_ok, ev_callB, flatE_b, flatE_i, flatE_s, flatE_n, ev_extPop, ifT, ifF, ifTT, ifFT, intD_t, intD_f, cutT2, cutL_tail, inT2, inT3, tupleD_l, tupleD_t, listD_t, addD_t, lcD_nil, lcD_consT, consR_ok, forD_T2, forD_nil, wipe0, wipeS, Bool.not_true, Bool.not_false, lowE_nil, lowE_c, lowS_f, lowS_l, lowS_t, lowS_a, lowS_0, eraE_nil, eraE_c, erS_f, erS_l, erS_t, erS_a, erS_0, wA_nil, wA_c, noAl_v, noAl_a, noAl_0, ev_sqq, sqqK_nx, sqqK_rt, sqqK_bk, sqqK_ct, sqqK_err, ev_skq, ev_bkq, ev_ctq, ev_raq, ev_exq, exqK_ok, exqK_err, ev_stq, stK_ok, ev_rtq, rtK_v, ev_epq, epK_ok, ev_ifq, ifqK_t, ifqK_f, ev_asq, ev_lo, loK_ok, loK_err, ev_fl, flK_b, flK_i, flK_s, flK_n, ev_al, alK_ok, ev_nw, nwK_l, nwK_d, ev_nf, ev_yv, yvK_ok, List.getElem?_cons_zero, List.getElem?_cons_succ, ey_nil, ey_cons, yvsK_ok, yvsK2_ok, ev_yT, yTK_ok, ev_yL, yLK_ok, ev_ycl, ev_yix, ev_appq, ev_ppq, ev_rnq, rnK_rt, rnK_nx, rnK_err, ev_iLo, ev_iRg, iLoK_ok, ev_forq, forqK_ok])
/-! ### k13: what is told within -/
def innW (W : List Wd) : Fm → List PyData
  | .bin _ a b => [bls (knL W a), bls (knL W b)]
  | _ => []
theorem inner_ok {W : List Wd} {L : List Fm} (okL : ∀ G ∈ L, Ok 60 G) (G : Fm) (hab : ∀ k a b, G = .bin k a b → a ∈ L ∧ b ∈ L) (x0 x1 x2 x3 x4 x8 x9 x10 x11 x12 : Option PyData) :
    lcF [10] (itT (slc (vr 7) (prt (cst (.int 1))) noP)) (bN 10) (tst (op2 eqD (cal lenD [(vr 7)]) (cst (.int 3)))) (op2 ixD (vr 5) (idxF (vr 6) (vr 10))) [x0, x1, x2, x3, x4, some (.list (L.map fun G => bls (knL W G))), some (.list (L.map enc)), some (enc G), x8, x9, x10, x11, x12] = .ok (.list (innW W G)) := by
  have told : ∀ a ∈ L, ∀ (fa f : FE) (δ : Ev), fa δ = .ok (.list (L.map enc)) → f δ = .ok (enc a) → ∃ j : Nat, idxF fa f δ = .ok (.int (j : Nat)) ∧ ixD (.list (L.map fun G => bls (knL W G))) (.int (j : Nat)) = some (bls (knL W a)) := fun a ha fa f δ h1 h2 => by
    obtain ⟨j, q1, q2⟩ := idx_enc (okL a ha) okL ha h1 h2
    exact ⟨j, q1, ixM (e := fun G => bls (knL W G)) q2⟩
  cases G with
  | low =>
    simp only [enc, innW]
    walk_at "ev"
    rw [ev_itT]
    walk_at "ev"
    rw [itTK_t]
    walk_at "ev"
    rw [lcK_nil]
  | lt w =>
    simp only [enc, innW]
    walk_at "ev"
    rw [ev_itT]
    walk_at "ev"
    rw [itTK_t]
    walk_at "ev"
    have l1 : [PyData.str w] = [w].map PyData.str := rfl
    rw [l1, lcK_ofT (xs := [w]) (e := PyData.str) (g := PyData.str) (p := fun _ => false) (by simp) (fun d hd => by walk_at "ev") (fun d hd h => by cases h)]
    simp only [List.filter_cons, List.filter_nil]
    walk_at "ev"
  | bin k a b =>
    obtain ⟨ha, hb⟩ := hab k a b rfl
    simp only [enc, innW]
    walk_at "ev"
    rw [ev_itT]
    walk_at "ev"
    rw [itTK_t]
    walk_at "ev"
    have l1 : [enc a, enc b] = [a, b].map enc := rfl
    rw [l1, lcK_ofT (xs := [a, b]) (e := enc) (g := fun G => bls (knL W G)) (p := fun _ => true) (by simp) (fun d hd => by walk_at "ev") (fun d hd _ => by
      have hdL : d ∈ L := by
        rcases List.mem_cons.mp hd with rfl | hd
        · exact ha
        · rw [List.mem_singleton.mp hd]; exact hb
      obtain ⟨j, q1, q2⟩ := told d hdL (vr 6) (vr 10) [x0, x1, x2, x3, x4, some (.list (L.map fun G => bls (knL W G))), some (.list (L.map enc)), some (.tuple [.str k.str, enc a, enc b]), x8, x9, some (enc d), x11, x12] rfl rfl
      walk_at "ev"
      rw [q1]
      walk_at "ev"
      rw [q2]
      walk_at "ev")]
    simp only [List.filter_cons, List.filter_nil]
    walk_at "ev"
theorem inner_ok' {W : List Wd} {L : List Fm} (okL : ∀ G ∈ L, Ok 60 G) (G : Fm) (hab : ∀ k a b, G = .bin k a b → a ∈ L ∧ b ∈ L) (x0 x1 x2 x3 x4 x8 x9 x10 x11 x12 : Option PyData) :
    (itT (slc (vr 7) (prt (cst (.int 1))) noP) [x0, x1, x2, x3, x4, some (.list (L.map fun G => bls (knL W G))), some (.list (L.map enc)), some (enc G), x8, x9, x10, x11, x12]).bind (lcK (bN 10) (tst (op2 eqD (cal lenD [(vr 7)]) (cst (.int 3)))) (op2 ixD (vr 5) (idxF (vr 6) (vr 10))) [x0, x1, x2, x3, x4, some (.list (L.map fun G => bls (knL W G))), some (.list (L.map enc)), some (enc G), x8, x9, none, x11, x12]) = .ok (.list (innW W G)) := by
  have h := inner_ok (W := W) okL G hab x0 x1 x2 x3 x4 x8 x9 x10 x11 x12
  rw [ev_lc] at h
  exact h
end Kn

namespace K_ken_k13_known
open PySem Dl Kn
noncomputable section
abbrev Cl2 := Nat → Fx2
def bodies (c : Cl) (c2 : Cl2) : Cl
  | 0 => runF 7 (b_lacking)
  | 1 => runF 10 (b_known (c 1) (c 0))
  | 2 => runF 3 (b__law_mix)
  | 3 => runF 3 (b__law_cell (c 2))
  | 4 => runF 7 (b__law_words_v2)
  | 5 => runF 2 (b__law_leaf)
  | 6 => runF 7 (b__law_statement_v2 (c 5) (c 2) (c 6))
  | 7 => runF 8 (b__law_worlds (c 3) (c 8) (c 2))
  | 8 => runF 6 (b__law_some (c 2))
  | 9 => runF 3 (b__law_copy)
  | 10 => runF 3 (b__law_within)
  | 11 => runF 4 (b__law_later)
  | 12 => runF 3 (b__law_truths)
  | 13 => runF 5 (b__law_if (c 11))
  | 14 => runF 5 (b__law_holds_v3 (c 13))
  | _ => fun _ => .bad
def bodies2 (c : Cl) (c2 : Cl2) : Cl2
  | 15 => rnq 13 (b_law_k13 (c 3) (c 4) (c 7) (c 2) (c 6) (c 9) (c 10) (c 1) (c 12) (c 14))
  | _ => fun _ _ => .bad
def denP : Nat → Cl × Cl2
  | 0 => (fun _ _ => .bad, fun _ _ _ => .bad)
  | n + 1 => (bodies (denP n).1 (denP n).2, bodies2 (denP n).1 (denP n).2)
def den (n : Nat) : Cl := (denP n).1
def den2 (n : Nat) : Cl2 := (denP n).2
end
end K_ken_k13_known

namespace K_ken_k13_known
open PySem L2 Dl Kn
local macro_rules | `(tactic| walk_at "ev") => `(tactic| try simp (disch := first | omega | (simp only [List.length_map, List.length_append, List.length_cons, List.length_nil, rangeL_len, mkI_len, mkW_len] <;> fail) | (simp only [List.length_map, List.length_append, List.length_cons, List.length_nil, rangeL_len, mkI_len, mkW_len]; omega)) only [ev_run, runK_rt, runK_err, ev_sq, sqK_nx, sqK_rt, sqK_bk, sqK_ct, sqK_err, ev_if, ifK_t, ifK_f, ifK_err, ev_set, setK_ok, setK_err, ev_ret, retK_ok, retK_err, ev_exp, expK_ok, expK_err, ev_skp, ev_brk, ev_cnt, ev_cst, ev_op2, ev_un1, ev_tst, asB_b, ev_andT, ev_orT, andK_t, andK_f, orK_t, orK_f, ev_notT, ev_andV, ev_orV, andW_t, andW_f, orW_t, orW_f, ev_notV, ev_isi, evs_nil, evs_cons, ev_mkT, ev_mkL, ev_cal, ev_call, ev_slc, ev_noP, ev_prt, asI_i, ev_for, forK_ok, ev_itLK, itLK_l, ev_itR, itRK_1, itRK_2, ev_itZ, itZK_l, itZK_t, ev_it1, it1K_l, ev_app, slotL_0, slotL_S, appK_ok, addD_i, addD_l, addD_s, subD_i, ltD_i, leD_i, gtD_i, geD_i, ltD_s, negD_i, isD_n, isntD_n, isNone_n, isNone_t, isNone_l, isNone_i, isNone_s, isNone_b, lenD_l, lenD_t, minD_i, maxD_i, mul_ok, mod_ok, fdiv_ok, eqD_int, eqD_str, neD_int, neD_str, ix0, ix1, ix2, ix3, vr0, vrS, R.bind_ok, R.bind_err, R.bind_bad, ofO_some, List.map_cons, List.map_nil, List.length_cons, List.length_nil, List.length_map, List.cons_append, List.nil_append, List.replicate, Nat.reduceAdd, Nat.reduceSub, List.set_cons_zero, List.set_cons_succ, lpK_nx, lpK_ct, lpK_bk, lpK_rt, lpK_err, whK_t, whK_f, sets, ev_aug, augK_ok, ev_asg, ev_mkD, evps_nil, evps_cons, pairK_s, pairK_i, listD_l, ev_lc, slD_l, slD_t, Int.cast_ofNat_Int, Int.reduceLT, Int.reduceLE, Int.reduceEq, Int.reduceAdd, Int.reduceSub, Int.reduceMul, Int.reduceNeg, Int.reduceMod, Int.reduceDiv, Int.reduceToNat, li0, li1, li2, li3, li4, str_inj, String.reduceEq, decide_false, decide_true, isiB_s, isiB_i, isiB_b, isiB_l, isiB_t, isiB_n, isiS, Bool.or_false, Bool.or_true, Bool.and_false, Bool.and_true, Bool.false_or, Bool.true_or, Bool.false_and, Bool.true_and, ev_dput, slotD_0, slotD_S, slotK_i, slotK_s, dinD_i, dinD_s, dixD_i, dixD_s, ev_keys, keysK_d, keysD_d, mkI_len, mkW_len, ev_popN, popN_ok, ev_popT, popT_ok, ev_raiseI, raiK_i, ev_raise, ev_try, tryK_nx, tryK_rt, tryK_e1, tryK_e0, fin1_nx, ev_fld, ev_tryO, tryOK_nx, tryOK_rt, tryOK_e, finO_nx, finO_rt, isD_b, ev_rev, revK_l, ev_ext, extK_ok, ev_callB, flatE_b, flatE_i, flatE_s, flatE_n, ev_extPop, ifT, ifF, ifTT, ifFT, intD_t, intD_f, cutT2, cutL_tail, inT2, inT3, tupleD_l, tupleD_t, listD_t, addD_t, lcD_nil, lcD_consT, consR_ok, forD_T2, forD_nil, wipe0, wipeS, Bool.not_true, Bool.not_false])
local macro_rules | `(tactic| walk_at "go") => `(tactic| try simp (disch := first | omega | (simp only [List.length_map, List.length_append, List.length_cons, List.length_nil, rangeL_len, mkI_len, mkW_len] <;> fail) | (simp only [List.length_map, List.length_append, List.length_cons, List.length_nil, rangeL_len, mkI_len, mkW_len]; omega)) only [ev_run, runK_rt, runK_err, ev_sq, sqK_nx, sqK_rt, sqK_bk, sqK_ct, sqK_err, ev_if, ifK_t, ifK_f, ifK_err, ev_set, setK_ok, setK_err, ev_ret, retK_ok, retK_err, ev_exp, expK_ok, expK_err, ev_skp, ev_brk, ev_cnt, ev_cst, ev_op2, ev_un1, ev_tst, asB_b, ev_andT, ev_orT, andK_t, andK_f, orK_t, orK_f, ev_notT, ev_andV, ev_orV, andW_t, andW_f, orW_t, orW_f, ev_notV, ev_isi, evs_nil, evs_cons, ev_mkT, ev_mkL, ev_cal, ev_call, ev_slc, ev_noP, ev_prt, asI_i, ev_for, forK_ok, ev_itLK, itLK_l, ev_itR, itRK_1, itRK_2, ev_itZ, itZK_l, itZK_t, ev_it1, it1K_l, ev_app, slotL_0, slotL_S, appK_ok, addD_i, addD_l, addD_s, subD_i, ltD_i, leD_i, gtD_i, geD_i, ltD_s, negD_i, isD_n, isntD_n, isNone_n, isNone_t, isNone_l, isNone_i, isNone_s, isNone_b, lenD_l, lenD_t, minD_i, maxD_i, mul_ok, mod_ok, fdiv_ok, eqD_int, eqD_str, neD_int, neD_str, ix0, ix1, ix2, ix3, vr0, vrS, R.bind_ok, R.bind_err, R.bind_bad, ofO_some, List.map_cons, List.map_nil, List.length_cons, List.length_nil, List.length_map, List.cons_append, List.nil_append, List.replicate, Nat.reduceAdd, Nat.reduceSub, List.set_cons_zero, List.set_cons_succ, lpK_nx, lpK_ct, lpK_bk, lpK_rt, lpK_err, whK_t, whK_f, sets, ev_aug, augK_ok, ev_asg, ev_mkD, evps_nil, evps_cons, pairK_s, pairK_i, listD_l, ev_lc, slD_l, slD_t, Int.cast_ofNat_Int, Int.reduceLT, Int.reduceLE, Int.reduceEq, Int.reduceAdd, Int.reduceSub, Int.reduceMul, Int.reduceNeg, Int.reduceMod, Int.reduceDiv, Int.reduceToNat, li0, li1, li2, li3, li4, str_inj, String.reduceEq, decide_false, decide_true, isiB_s, isiB_i, isiB_b, isiB_l, isiB_t, isiB_n, isiS, Bool.or_false, Bool.or_true, Bool.and_false, Bool.and_true, Bool.false_or, Bool.true_or, Bool.false_and, Bool.true_and, ev_dput, slotD_0, slotD_S, slotK_i, slotK_s, dinD_i, dinD_s, dixD_i, dixD_s, ev_keys, keysK_d, keysD_d, mkI_len, mkW_len, ev_popN, popN_ok, ev_popT, popT_ok, ev_raiseI, raiK_i, ev_raise, ev_try, tryK_nx, tryK_rt, tryK_e1, tryK_e0, fin1_nx, ev_fld, ev_tryO, tryOK_nx, tryOK_rt, tryOK_e, finO_nx, finO_rt, isD_b, ev_rev, revK_l, ev_ext, extK_ok, ev_callB, flatE_b, flatE_i, flatE_s, flatE_n, ev_extPop, ifT, ifF, ifTT, ifFT, intD_t, intD_f, cutT2, cutL_tail, inT2, inT3, tupleD_l, tupleD_t, listD_t, addD_t, lcD_nil, lcD_consT, consR_ok, forD_T2, forD_nil, wipe0, wipeS, Bool.not_true, Bool.not_false, *])
local macro_rules | `(tactic| walk_at "e2") => `(tactic| try simp (disch := first | omega | (simp only [List.length_map, List.length_append, List.length_cons, List.length_nil, rangeL_len, mkI_len, mkW_len] <;> fail) | (simp only [List.length_map, List.length_append, List.length_cons, List.length_nil, rangeL_len, mkI_len, mkW_len]; omega)) only [ev_run, runK_rt, runK_err, ev_sq, sqK_nx, sqK_rt, sqK_bk, sqK_ct, sqK_err, ev_if, ifK_t, ifK_f, ifK_err, ev_set, setK_ok, setK_err, ev_ret, retK_ok, retK_err, ev_exp, expK_ok, expK_err, ev_skp, ev_brk, ev_cnt, ev_cst, ev_op2, ev_un1, ev_tst, asB_b, ev_andT, ev_orT, andK_t, andK_f, orK_t, orK_f, ev_notT, ev_andV, ev_orV, andW_t, andW_f, orW_t, orW_f, ev_notV, ev_isi, evs_nil, evs_cons, ev_mkT, ev_mkL, ev_cal, ev_call, ev_slc, ev_noP, ev_prt, asI_i, ev_for, forK_ok, ev_itLK, itLK_l, ev_itR, itRK_1, itRK_2, ev_itZ, itZK_l, itZK_t, ev_it1, it1K_l, ev_app, slotL_0, slotL_S, appK_ok, addD_i, addD_l, addD_s, subD_i, ltD_i, leD_i, gtD_i, geD_i, ltD_s, negD_i, isD_n, isntD_n, isNone_n, isNone_t, isNone_l, isNone_i, isNone_s, isNone_b, lenD_l, lenD_t, minD_i, maxD_i, mul_ok, mod_ok, fdiv_ok, eqD_int, eqD_str, neD_int, neD_str, ix0, ix1, ix2, ix3, vr0, vrS, R.bind_ok, R.bind_err, R.bind_bad, ofO_some, List.map_cons, List.map_nil, List.length_cons, List.length_nil, List.length_map, List.cons_append, List.nil_append, List.replicate, Nat.reduceAdd, Nat.reduceSub, List.set_cons_zero, List.set_cons_succ, lpK_nx, lpK_ct, lpK_bk, lpK_rt, lpK_err, whK_t, whK_f, sets, ev_aug, augK_ok, ev_asg, ev_mkD, evps_nil, evps_cons, pairK_s, pairK_i, listD_l, ev_lc, slD_l, slD_t, Int.cast_ofNat_Int, Int.reduceLT, Int.reduceLE, Int.reduceEq, Int.reduceAdd, Int.reduceSub, Int.reduceMul, Int.reduceNeg, Int.reduceMod, Int.reduceDiv, Int.reduceToNat, li0, li1, li2, li3, li4, str_inj, String.reduceEq, decide_false, decide_true, isiB_s, isiB_i, isiB_b, isiB_l, isiB_t, isiB_n, isiS, Bool.or_false, Bool.or_true, Bool.and_false, Bool.and_true, Bool.false_or, Bool.true_or, Bool.false_and, Bool.true_and, ev_dput, slotD_0, slotD_S, slotK_i, slotK_s, dinD_i, dinD_s, dixD_i, dixD_s, ev_keys, keysK_d, keysD_d, mkI_len, mkW_len, ev_popN, popN_ok, ev_popT, popT_ok, ev_raiseI, raiK_i, ev_raise, ev_try, tryK_nx, tryK_rt, tryK_e1, tryK_e0, fin1_nx, ev_fld, ev_tryO, tryOK_nx, tryOK_rt, tryOK_e, finO_nx, finO_rt, isD_b, ev_rev, revK_l, ev_ext, extK_ok, ev_callB, flatE_b, flatE_i, flatE_s, flatE_n, ev_extPop, ifT, ifF, ifTT, ifFT, intD_t, intD_f, cutT2, cutL_tail, inT2, inT3, tupleD_l, tupleD_t, listD_t, addD_t, lcD_nil, lcD_consT, consR_ok, forD_T2, forD_nil, wipe0, wipeS, Bool.not_true, Bool.not_false, lowE_nil, lowE_c, lowS_f, lowS_l, lowS_t, lowS_a, lowS_0, eraE_nil, eraE_c, erS_f, erS_l, erS_t, erS_a, erS_0, wA_nil, wA_c, noAl_v, noAl_a, noAl_0, ev_sqq, sqqK_nx, sqqK_rt, sqqK_bk, sqqK_ct, sqqK_err, ev_skq, ev_bkq, ev_ctq, ev_raq, ev_exq, exqK_ok, exqK_err, ev_stq, stK_ok, ev_rtq, rtK_v, ev_epq, epK_ok, ev_ifq, ifqK_t, ifqK_f, ev_asq, ev_lo, loK_ok, loK_err, ev_fl, flK_b, flK_i, flK_s, flK_n, ev_al, alK_ok, ev_nw, nwK_l, nwK_d, ev_nf, ev_yv, yvK_ok, List.getElem?_cons_zero, List.getElem?_cons_succ, ey_nil, ey_cons, yvsK_ok, yvsK2_ok, ev_yT, yTK_ok, ev_yL, yLK_ok, ev_ycl, ev_yix, ev_appq, ev_ppq, ev_rnq, rnK_rt, rnK_nx, rnK_err, ev_iLo, ev_iRg, iLoK_ok, ev_forq, forqK_ok])
def labs (n : Nat) : List VL := (List.range n).map fun j => .lab (j + 1)
def cellB (W : List Wd) (G : Fm) : Cell := .lst (((knL W G).map PyData.bool).map VL.frz)
def St (W : List Wd) (M : List Fm) : Sto := .lst (labs M.length) :: M.map (cellB W)
theorem labs_succ (n : Nat) : labs (n + 1) = labs n ++ [.lab (n + 1)] := by simp [labs, List.range_succ]
theorem labs_len (n : Nat) : (labs n).length = n := by simp [labs]
theorem labs_get {n i : Nat} (h : i < n) : (labs n)[i]? = some (.lab (i + 1)) := by simp [labs, h]
theorem St_len (W : List Wd) (M : List Fm) : (St W M).length = M.length + 1 := by simp [St]
theorem St_get {W : List Wd} {M : List Fm} {i : Nat} {G : Fm} (h : M[i]? = some G) : (St W M)[i + 1]? = some (cellB W G) := by
  show (M.map (cellB W))[i]? = _
  rw [List.getElem?_map, h]; rfl
theorem St_snoc (W : List Wd) (M : List Fm) (G : Fm) : (St W M ++ [cellB W G]).set 0 (.lst (labs M.length ++ [.lab (M.length + 1)])) = St W (M ++ [G]) := by
  simp [St, labs_succ]
theorem er_one {S : Sto} {W : List Wd} {G : Fm} {l n : Nat} (h : S[l]? = some (cellB W G)) : er S (n + 1) (.lab l) = some (bls (knL W G)) := er_lf h
theorem er_told {W : List Wd} {M : List Fm} {S : Sto} {n : Nat} (h0 : S[0]? = some (.lst (labs M.length))) (h : ∀ (i : Nat) (G : Fm), M[i]? = some G → S[i + 1]? = some (cellB W G)) : er S (n + 1 + 1) (.lab 0) = some (.list (M.map fun G => bls (knL W G))) := by
  refine er_lst h0 ?_
  have e : (labs M.length).map (er S (n + 1)) = (M.map fun G => bls (knL W G)).map some := by
    refine List.ext_getElem? fun i => ?_
    rw [List.getElem?_map, List.getElem?_map, List.getElem?_map]
    by_cases hi : i < M.length
    · rw [labs_get hi, List.getElem?_eq_getElem hi]
      simp only [Option.map_some]
      rw [er_one (h i _ (List.getElem?_eq_getElem hi))]
    · rw [List.getElem?_eq_none (by rw [labs_len]; omega), List.getElem?_eq_none (by omega)]; rfl
  rw [e, seqO_some]
theorem mk2 (d : PyData) (l : Nat) : mkTup [.frz d, .lab l] = .tup [.frz d, .lab l] := rfl
theorem bT2 (x y : VL) (δ : Ev2) (i j : Nat) : bTq [i, j] (.v (.tup [x, y])) δ = some ((δ.set i (some (.v x))).set j (some (.v y))) := rfl
theorem flts_bools (L : List Bool) : flts (L.map PyData.bool) = true := by
  induction L with
  | nil => rfl
  | cons b L ih => simp [flts, flt, ih]
theorem listD_bls (L : List Bool) : listD [bls L] = some (bls L) := rfl
theorem gv_sub {ws : List Str} : ∀ k a b, Gv ws (.bin k a b) → Gv ws a ∧ Gv ws b := fun k a b h => by
  have hp := h.parts
  simp only [Fm.parts] at hp
  exact ⟨⟨by omega, fun w hw => h.lt w (by simp [Fm.letters, hw])⟩, ⟨by omega, fun w hw => h.lt w (by simp [Fm.letters, hw])⟩⟩
theorem law_ok {c wd wl mx st cp wi kn tr ho : Fx} (hc : IsCell c) (hwd : ∀ (c many : Int), 0 ≤ c → 2 ≤ many → many ≤ 6 → ∃ vs : List Str, wd [.int c, .int many] = .ok (.list (vs.map .str)) ∧ (vs.length : Int) = many ∧ ∀ w ∈ vs, WordOk w) (hwl : IsWorlds wl) (hmx : IsMix mx) (hst : IsSt 100 st)
    (hcp : ∀ W : List Wd, W.length ≤ 1000000 → cp [.list (W.map encW)] = .ok (.list (W.map encW))) (hwi : ∀ (P : Fm → Prop), (∀ k a b, P (.bin k a b) → P a ∧ P b) → ∀ F, P F → F.parts ≤ 90000 → ∃ L, wi [enc F] = .ok (.list (L.map enc)) ∧ Wn P F L)
    (hkn : IsKn 200 kn) (htr : ∀ (L : List Bool) (n : Int), L.length ≤ 1000000 → tr [bls L, .int n] = .ok (.bool (decide ((L.length : Int) = n))))
    (hho : ∀ (W : List Wd), Gw W → W.length ≤ 10000 → (∀ u ∈ W, u.ls.length ≤ 1000000) → ∀ (F : Fm) (L : List PyData), (∀ k a b, F = .bin k a b → L = [bls (knL W a), bls (knL W b)]) → ∀ w, w < W.length → ho [.list (W.map encW), enc F, bls (knL W F), .list L, .int (w : Nat)] = .ok (.bool true)) (ns : List Int) (hn : ns.length ≤ 63) :
    ∃ S, rnq 13 (b_law_k13 c wd wl mx st cp wi kn tr ho) [.frz (.list (ns.map .int))] [] = .ok (.frz (.bool true)) S := by
  have e0 := hc ns 0 (by omega) (by omega)
  have e1 := hc ns 1 (by omega) (by omega)
  have r0 := cellZ_range ns 0
  have r1 := cellZ_range ns 1
  obtain ⟨ws, ew, lw, hW⟩ := hwd (cellZ ns 0) (2 + cellZ ns 1 % 5) (by omega) (by omega) (by omega)
  obtain ⟨W, eW, g, lW1, lW2⟩ := hwl ns 2 24 ws hn (by omega) (by omega) (by omega) (by omega) (by omega) hW
  have em := hmx (cellZ ns 1) 76 (by omega) (by omega)
  have lv := lvS_le (1 + cellZ ns 1 / 5 % 25) (by omega)
  obtain ⟨F, eF, oF⟩ := hst (mixZ (cellZ ns 1) 76) (1 + cellZ ns 1 / 5 % 25) ws (mixZ_range _ _).1 (by omega) (by omega) (by omega) (by omega)
  have gF : Gv ws F := oF.gv (by omega)
  have gw := g.gw
  have wln : ∀ u ∈ W, u.ls.length ≤ 1000000 := fun u hu => by
    obtain ⟨i, hi, e⟩ := List.mem_iff_getElem.mp hu
    have := (g.each i u (by rw [List.getElem?_eq_getElem hi, e])).2
    omega
  have ec := hcp W (by omega)
  obtain ⟨L, eL, wn⟩ := hwi (Gv ws) gv_sub F gF (by have := gF.parts; omega)
  have lL : L.length ≤ 60 := by have := wn.ln; have := gF.parts; omega
  have okL : ∀ G ∈ L, Ok 60 G := fun G hG => (wn.al G hG).ok hW
  have kL : ∀ G ∈ L, kn [.list (W.map encW), enc G] = .ok (.list ((knL W G).map .bool)) := fun G hG => hkn W G (by have := (wn.al G hG).deep; omega) gw lW1 (by omega) wln
  have tL : ∀ G ∈ L, tr [bls (knL W G), .int ((W.length : Nat) : Int)] = .ok (.bool true) := fun G hG => by
    have := htr (knL W G) ((W.length : Nat) : Int) (by rw [knL_len]; omega)
    rw [knL_len, decide_eq_true rfl] at this
    exact this
  have hoL : ∀ G ∈ L, ∀ w, w < W.length → ho [.list (W.map encW), enc G, bls (knL W G), .list (innW W G), .int (w : Nat)] = .ok (.bool true) := fun G hG w hw => hho W gw (by omega) wln G (innW W G) (fun k a b h => by subst h; rfl) w hw
  have abL : ∀ G ∈ L, ∀ k a b, G = .bin k a b → a ∈ L ∧ b ∈ L := fun G hG k a b h => by
    subst h
    obtain ⟨jG, hjG⟩ := List.getElem?_of_mem hG
    exact wn.cl jG k a b (by
      rcases Nat.lt_or_ge jG L.length with q | q
      · exact q
      · rw [List.getElem?_eq_none q] at hjG; cases hjG) hjG
  have hF0 : L[0]? = some F := wn.hd
  have hF : F ∈ L := List.mem_of_getElem? hF0
  clear hwd hwl hst hcp hwi hkn htr hho
  -- the first loop
  have loop1 : ∃ δ' S', forDq (bNq 7) (b_law_k13_l1 c wd wl mx st cp wi kn tr ho) (fun _ => True) ((L.map enc).map fun d => .v (.frz d)) [some (.v (.frz (.list (ns.map .int)))), some (.v (.frz (.list (ws.map .str)))), some (.v (.frz (.list (W.map encW)))), some (.v (.frz (enc F))), some (.v (.frz (.list (W.map encW)))), some (.v (.lab 0)), some (.v (.frz (.list (L.map enc)))), none, none, none, none, none, none] [.lst []] = .nx δ' S' ∧
      (S' = St W L ∧ ∃ y7 y8, δ' = [some (.v (.frz (.list (ns.map .int)))), some (.v (.frz (.list (ws.map .str)))), some (.v (.frz (.list (W.map encW)))), some (.v (.frz (enc F))), some (.v (.frz (.list (W.map encW)))), some (.v (.lab 0)), some (.v (.frz (.list (L.map enc)))), y7, y8, none, none, none, none]) := by
    obtain ⟨δ', S', h1, h2⟩ := forDq_inv (b := bNq 7) (body := b_law_k13_l1 c wd wl mx st cp wi kn tr ho) (chk := fun _ => True) (fun i δ S => S = St W (L.take i) ∧ ∃ y7 y8, δ = [some (.v (.frz (.list (ns.map .int)))), some (.v (.frz (.list (ws.map .str)))), some (.v (.frz (.list (W.map encW)))), some (.v (.frz (enc F))), some (.v (.frz (.list (W.map encW)))), some (.v (.lab 0)), some (.v (.frz (.list (L.map enc)))), y7, y8, none, none, none, none]) ((L.map enc).map fun d => .v (.frz d)) 0 _ _ (fun i x δ S hx hP => by
      obtain ⟨rfl, y7, y8, rfl⟩ := hP
      rw [Nat.zero_add] at *
      have hi : i < L.length := by
        rcases Nat.lt_or_ge i L.length with q | q
        · exact q
        · rw [List.getElem?_eq_none (by simpa using q)] at hx; cases hx
      have hG : L[i] ∈ L := List.getElem_mem hi
      generalize hGe : L[i] = G at hG
      have hGi : L[i]? = some G := by rw [List.getElem?_eq_getElem hi, hGe]
      have ex : x = .v (.frz (enc G)) := by
        rw [List.getElem?_map, List.getElem?_map, hGi] at hx
        cases hx; rfl
      subst ex
      have ek := kL G hG
      have et := tL G hG
      have lM : (L.take i).length = i := by rw [List.length_take]; omega
      refine ⟨trivial, _, [some (.v (.frz (.list (ns.map .int)))), some (.v (.frz (.list (ws.map .str)))), some (.v (.frz (.list (W.map encW)))), some (.v (.frz (enc F))), some (.v (.frz (.list (W.map encW)))), some (.v (.lab 0)), some (.v (.frz (.list (L.map enc)))), some (.v (.frz (enc G))), some (.v (.lab (i + 1))), none, none, none, none], St W (L.take (i + 1)), bNq_ok _ _ _, ?_, rfl, _, _, rfl⟩
      have unf : ∀ δ S, b_law_k13_l1 c wd wl mx st cp wi kn tr ho δ S = sqq (stq 8 (nw (callF kn [(vr 4), (vr 7)]))) (sqq (ifq (notT (tst (callF tr [(vr 8), (cal lenD [(vr 2)])]))) (rtq (lo (cst (.bool false)))) skq) (appq (yv 5) (yv 8))) δ S := fun δ S => rfl
      rw [unf]
      walk_at "e2"
      rw [ek]
      walk_at "e2"
      have e8 : er (St W (L.take i) ++ [Cell.lst (((knL W G).map PyData.bool).map VL.frz)]) Dl.eF (.lab (St W (L.take i)).length) = some (bls (knL W G)) := er_one (G := G) (by rw [List.getElem?_append_right (Nat.le_refl _), Nat.sub_self]; rfl)
      rw [e8]
      walk_at "e2"
      rw [et]
      walk_at "e2"
      have g0 : (St W (L.take i) ++ [Cell.lst (((knL W G).map PyData.bool).map VL.frz)])[0]? = some (.lst (labs (L.take i).length)) := rfl
      rw [appK1_ok g0]
      walk_at "e2"
      rw [appK2_ok g0 (by rw [labs_len]; omega)]
      walk_at "e2"
      have e9 := St_snoc W (L.take i) G
      have e10 : L.take i ++ [G] = L.take (i + 1) := by rw [List.take_succ, hGi]; rfl
      rw [e10, lM] at e9
      have e11 : (St W (L.take i)).length = i + 1 := by rw [St_len, lM]
      rw [e11, lM]
      exact congrArg _ e9) (fun δ S _ => trivial) ⟨rfl, none, none, rfl⟩
    rw [Nat.zero_add, List.length_map, List.length_map, List.take_length] at h2
    exact ⟨δ', S', h1, h2⟩
  obtain ⟨δ1, S1, l1, rfl, y7, y8, rfl⟩ := loop1
  have g0 : (St W L)[0]? = some (.lst (labs L.length)) := rfl
  have gi : ∀ (i : Nat) (G : Fm), L[i]? = some G → (St W L)[i + 1]? = some (cellB W G) := fun i G h => St_get h
  have et5 : er (St W L) Dl.eF (.lab 0) = some (.list (L.map fun G => bls (knL W G))) := er_told (n := 28) g0 gi
  -- the second loop
  have loop2 : ∃ δ' S', forDq (bTq [7, 8]) (b_law_k13_l3 c wd wl mx st cp wi kn tr ho) (fun S' => True ∧ S'[0]? = some (.lst (labs L.length))) (zipq ((L.map enc).map .frz) (labs L.length)) [some (.v (.frz (.list (ns.map .int)))), some (.v (.frz (.list (ws.map .str)))), some (.v (.frz (.list (W.map encW)))), some (.v (.frz (enc F))), some (.v (.frz (.list (W.map encW)))), some (.v (.lab 0)), some (.v (.frz (.list (L.map enc)))), y7, y8, none, none, none, none] (St W L) = .nx δ' S' ∧
      (S' = St W L ∧ ∃ y7 y8 y9 y11, δ' = [some (.v (.frz (.list (ns.map .int)))), some (.v (.frz (.list (ws.map .str)))), some (.v (.frz (.list (W.map encW)))), some (.v (.frz (enc F))), some (.v (.frz (.list (W.map encW)))), some (.v (.lab 0)), some (.v (.frz (.list (L.map enc)))), y7, y8, y9, none, y11, none]) := by
    refine forDq_inv (b := bTq [7, 8]) (body := b_law_k13_l3 c wd wl mx st cp wi kn tr ho) (chk := fun S' => True ∧ S'[0]? = some (.lst (labs L.length))) (fun i δ S => S = St W L ∧ ∃ y7 y8 y9 y11, δ = [some (.v (.frz (.list (ns.map .int)))), some (.v (.frz (.list (ws.map .str)))), some (.v (.frz (.list (W.map encW)))), some (.v (.frz (enc F))), some (.v (.frz (.list (W.map encW)))), some (.v (.lab 0)), some (.v (.frz (.list (L.map enc)))), y7, y8, y9, none, y11, none]) _ 0 _ _ (fun i x δ S hx hP => ?_) (fun δ S h => by rw [h.1]; exact ⟨trivial, g0⟩) ⟨rfl, y7, y8, none, none, rfl⟩
    obtain ⟨rfl, y7, y8, y9, y11, rfl⟩ := hP
    have hi : i < L.length := by
      rcases Nat.lt_or_ge i L.length with q | q
      · exact q
      · rw [List.getElem?_eq_none (by rw [zipq_len, List.length_map, List.length_map, labs_len]; omega)] at hx; cases hx
    have hG : L[i] ∈ L := List.getElem_mem hi
    generalize hGe : L[i] = G at hG
    have hGi : L[i]? = some G := by rw [List.getElem?_eq_getElem hi, hGe]
    have ex : x = .v (.tup [.frz (enc G), .lab (i + 1)]) := by
      rw [zipq_get (x := .frz (enc G)) (by rw [List.getElem?_map, List.getElem?_map, hGi]; rfl) (labs_get hi), mk2] at hx
      cases hx; rfl
    subst ex
    have e8 : er (St W L) Dl.eF (.lab (i + 1)) = some (bls (knL W G)) := er_one (gi i G hGi)
    have ei := inner_ok' (W := W) okL G (abL G hG)
    have unf2 : ∀ δ S, b_law_k13_l2 c wd wl mx st cp wi kn tr ho δ S = ifq (notT (tst (callF ho [(vr 2), (vr 7), (vr 8), (vr 9), (vr 11)]))) (rtq (lo (cst (.bool false)))) skq δ S := fun δ S => rfl
    have unf : ∀ δ S, b_law_k13_l3 c wd wl mx st cp wi kn tr ho δ S = sqq (stq 9 (al (lcF [10] (itT (slc (vr 7) (prt (cst (.int 1))) noP)) (bN 10) (tst (op2 eqD (cal lenD [(vr 7)]) (cst (.int 3)))) (op2 ixD (vr 5) (idxF (vr 6) (vr 10)))))) (forq (iRg (itR [(cal lenD [(vr 2)])])) (bNq 11) (b_law_k13_l2 c wd wl mx st cp wi kn tr ho)) δ S := fun δ S => rfl
    refine ⟨⟨trivial, g0⟩, ?_⟩
    obtain ⟨δ3, S3, l3, rfl, z11, rfl⟩ : ∃ δ' S', forDq (bNq 11) (b_law_k13_l2 c wd wl mx st cp wi kn tr ho) (fun _ => True) ((rangeL 0 W.length).map fun d => .v (.frz d)) [some (.v (.frz (.list (ns.map .int)))), some (.v (.frz (.list (ws.map .str)))), some (.v (.frz (.list (W.map encW)))), some (.v (.frz (enc F))), some (.v (.frz (.list (W.map encW)))), some (.v (.lab 0)), some (.v (.frz (.list (L.map enc)))), some (.v (.frz (enc G))), some (.v (.lab (i + 1))), some (.als (.list (innW W G))), none, y11, none] (St W L) = .nx δ' S' ∧ (S' = St W L ∧ ∃ z11, δ' = [some (.v (.frz (.list (ns.map .int)))), some (.v (.frz (.list (ws.map .str)))), some (.v (.frz (.list (W.map encW)))), some (.v (.frz (enc F))), some (.v (.frz (.list (W.map encW)))), some (.v (.lab 0)), some (.v (.frz (.list (L.map enc)))), some (.v (.frz (enc G))), some (.v (.lab (i + 1))), some (.als (.list (innW W G))), none, z11, none]) := by
      refine forDq_inv (b := bNq 11) (body := b_law_k13_l2 c wd wl mx st cp wi kn tr ho) (chk := fun _ => True) (fun _ δ S => S = St W L ∧ ∃ z11, δ = [some (.v (.frz (.list (ns.map .int)))), some (.v (.frz (.list (ws.map .str)))), some (.v (.frz (.list (W.map encW)))), some (.v (.frz (enc F))), some (.v (.frz (.list (W.map encW)))), some (.v (.lab 0)), some (.v (.frz (.list (L.map enc)))), some (.v (.frz (enc G))), some (.v (.lab (i + 1))), some (.als (.list (innW W G))), none, z11, none]) _ 0 _ _ (fun j x δ S hx hP => ?_) (fun δ S h => trivial) ⟨rfl, y11, rfl⟩
      obtain ⟨rfl, z11, rfl⟩ := hP
      have hj : j < W.length := by
        rcases Nat.lt_or_ge j W.length with q | q
        · exact q
        · rw [List.getElem?_eq_none (by simpa [rangeL] using q)] at hx; cases hx
      have ex : x = .v (.frz (.int (j : Nat))) := by
        rw [List.getElem?_map] at hx
        unfold rangeL at hx
        rw [List.getElem?_map, List.getElem?_range hj] at hx
        simpa using hx.symm
      subst ex
      have eh := hoL G hG j hj
      refine ⟨trivial, _, [some (.v (.frz (.list (ns.map .int)))), some (.v (.frz (.list (ws.map .str)))), some (.v (.frz (.list (W.map encW)))), some (.v (.frz (enc F))), some (.v (.frz (.list (W.map encW)))), some (.v (.lab 0)), some (.v (.frz (.list (L.map enc)))), some (.v (.frz (enc G))), some (.v (.lab (i + 1))), some (.als (.list (innW W G))), none, some (.v (.frz (.int (j : Nat)))), none], St W L, bNq_ok _ _ _, ?_, rfl, _, rfl⟩
      rw [unf2]
      walk_at "e2"
      rw [e8]
      walk_at "e2"
      rw [eh]
      walk_at "e2"
    refine ⟨_, [some (.v (.frz (.list (ns.map .int)))), some (.v (.frz (.list (ws.map .str)))), some (.v (.frz (.list (W.map encW)))), some (.v (.frz (enc F))), some (.v (.frz (.list (W.map encW)))), some (.v (.lab 0)), some (.v (.frz (.list (L.map enc)))), some (.v (.frz (enc G))), some (.v (.lab (i + 1))), some (.als (.list (innW W G))), none, z11, none], St W L, bT2 _ _ _ _ _, ?_, rfl, _, _, _, z11, rfl⟩
    rw [unf]
    walk_at "e2"
    rw [et5, e8, ei]
    walk_at "e2"
    have er1 : ((W.length : Nat) : Int).toNat = W.length := by omega
    rw [er1] at *
    exact l3
  obtain ⟨δ2, S2, l2, rfl, z7, z8, z9, z11, rfl⟩ := loop2
  clear hoL abL tL
  have ek := kL F hF
  have sb := eqD_self (sh_bls (knL W F)) (by omega)
  have sw := eqD_self (plW g).sh (by omega)
  have ez : iZp (yv 6) (yv 5) [some (.v (.frz (.list (ns.map .int)))), some (.v (.frz (.list (ws.map .str)))), some (.v (.frz (.list (W.map encW)))), some (.v (.frz (enc F))), some (.v (.frz (.list (W.map encW)))), some (.v (.lab 0)), some (.v (.frz (.list (L.map enc)))), y7, y8, none, none, none, none] (St W L) = .ok (zipq ((L.map enc).map .frz) (labs L.length)) (fun S' => True ∧ S'[0]? = some (.lst (labs L.length))) [some (.v (.frz (.list (ns.map .int)))), some (.v (.frz (.list (ws.map .str)))), some (.v (.frz (.list (W.map encW)))), some (.v (.frz (enc F))), some (.v (.frz (.list (W.map encW)))), some (.v (.lab 0)), some (.v (.frz (.list (L.map enc)))), y7, y8, none, none, none, none] (St W L) :=
    iZp_ok (x := .frz (.list (L.map enc))) (y := .lab 0) rfl rfl rfl
  have i0 : ixD (.list (L.map fun G => bls (knL W G))) (.int 0) = some (bls (knL W F)) := ixM (i := 0) hF0
  have gF1 : (St W L ++ [Cell.lst (((knL W F).map PyData.bool).map VL.frz)])[1]? = some (.lst (((knL W F).map PyData.bool).map VL.frz)) := by
    rw [List.getElem?_append_left (by rw [St_len]; have := List.length_pos_of_mem hF; omega)]
    exact gi 0 F hF0
  have len0 : 0 < L.length := List.length_pos_of_mem hF
  unfold b_law_k13 b_law_k13_r2 b_law_k13_r1
  refine ⟨(St W L ++ [Cell.lst (((knL W F).map PyData.bool).map VL.frz)]).set 1 (.lst (((knL W F).map PyData.bool).map VL.frz ++ [.frz (.bool true)])), ?_⟩
  walk_at "e2"
  rw [e0, e1]
  walk_at "e2"
  rw [ew]
  walk_at "e2"
  rw [eW]
  walk_at "e2"
  rw [e1]
  walk_at "e2"
  rw [em]
  walk_at "e2"
  rw [eF]
  walk_at "e2"
  rw [ec]
  walk_at "e2"
  rw [eL]
  walk_at "e2"
  rw [l1]
  walk_at "e2"
  rw [ez]
  walk_at "e2"
  rw [l2]
  walk_at "e2"
  rw [et5]
  walk_at "e2"
  rw [i0]
  walk_at "e2"
  rw [listD_bls]
  unfold bls
  walk_at "e2"
  rw [nfK_l _ _ (flts_bools _)]
  walk_at "e2"
  have ix1 : ixq (St W L ++ [Cell.lst (((knL W F).map PyData.bool).map VL.frz)]) (.v (.lab 0)) 0 = some (.v (.lab 1)) := by
    have e : (St W L ++ [Cell.lst (((knL W F).map PyData.bool).map VL.frz)])[0]? = some (.lst (labs L.length)) := rfl
    unfold ixq
    simp only [e]
    have e2 : (labs L.length)[0]? = some (.lab 1) := labs_get len0
    have e3 : ixN (labs L.length).length 0 = some 0 := by
      rw [labs_len]
      unfold ixN
      rw [if_pos (by omega), if_pos (by omega)]
      rfl
    unfold atI
    rw [e3]
    simp [e2]
  rw [yixK_ok (i := 0) (y := .v (.lab 1)) rfl ix1]
  walk_at "e2"
  rw [appK1_ok gF1]
  walk_at "e2"
  rw [appK2_ok gF1 (by rw [List.length_map, List.length_map, knL_len]; omega)]
  walk_at "e2"
  rw [ek]
  walk_at "e2"
  have e12 : er ((St W L ++ [Cell.lst (((knL W F).map PyData.bool).map VL.frz)]).set 1 (.lst (((knL W F).map PyData.bool).map VL.frz ++ [.frz (.bool true)]))) Dl.eF (.lab (St W L).length) = some (.list ((knL W F).map .bool)) := by
    refine er_lf ?_
    have : 1 ≠ (St W L).length := by rw [St_len]; omega
    rw [List.getElem?_set_ne this, List.getElem?_append_right (Nat.le_refl _), Nat.sub_self]; rfl
  rw [e12]
  walk_at "e2"
  have sb' : eqD (.list ((knL W F).map .bool)) (.list ((knL W F).map .bool)) = some (.bool true) := sb
  rw [sb']
  walk_at "e2"
  rw [sw]
  walk_at "e2"
theorem h_mix (n : Nat) : IsMix (den (n + 1) 2) := mix_ok
theorem h_leaf : ∀ n, 1 ≤ n → IsLeaf (den n 5)
  | 0, q => by omega
  | n + 1, _ => leaf_ok
theorem h_mix' : ∀ n, 1 ≤ n → IsMix (den n 2)
  | 0, q => by omega
  | n + 1, _ => mix_ok
theorem h_st : ∀ n, IsSt n (den n 6)
  | 0 => fun c s ws _ _ _ q _ => by have : 2 ≤ lvS s := by unfold lvS; repeat (first | split | omega)
                                    omega
  | n + 1 => st_step (h_leaf n) (h_mix' n) (h_st n)
theorem h_kn : ∀ n, IsKn n (den (n + 1) 1)
  | 0 => fun W F q => by have := F.deep_pos; omega
  | n + 1 => known_step (h_kn n) lacking_ok
theorem h_cell (n : Nat) : IsCell (den (n + 2) 3) := fun ns k h0 h1 => cell_ok (h_mix n) ns k h0 h1
theorem law_true (ns : List Int) (hn : ns.length ≤ 63) : f21 (den2 650 15) [.list (ns.map .int)] = .ok (.bool true) := by
  obtain ⟨S, h⟩ := law_ok (h_cell 647) (fun c many h0 h1 h2 => words2_ok c many h0 h1 h2)
    (worlds_ok mix_ok (h_cell 646) (fun c old ws h1 h2 h3 h4 h5 => some_ok mix_ok c old ws h1 h2 h3 h4 h5)) mix_ok (fun c s ws h0 h1 h2 h3 h4 => h_st 649 c s ws h0 h1 h2 (by omega) h4) (fun W h => copyW_ok W h) (fun P hP F h hl => within_ok P hP F h hl) (fun W F q => h_kn 648 W F (by omega)) (fun L n hl => truths_ok L n hl)
    (fun W g h hl F L hL w hw => holds3_ok (fun p q w hw => if_ok (fun W g h w hw => lawlater_ok g h w hw) g h p q w hw) hl F L hL w hw) ns hn
  exact f21_ok h rfl
end K_ken_k13_known

namespace Dl
open PySem PySem.Spec L2
theorem cx_false {P : Program} {w : World} {o : List Env} {H : Hp} {s : Shared} {e : Value} {s' : Shared} (h : L2.CX P w o H s (fun _ _ _ => False) e s') : False := by
  obtain ⟨_, _, _, _, _, _, _, _, _, _, _, _, z⟩ := h
  exact z
/-- a law: the end -/
theorem walk_D {l : PySem.W.OpenLaw} {n : Nat} {q : Program} {loose : List Str} {XP : (Str → Option Value) → Heap → Prop} {YP : World → Heap → Prop} {d : DefRec} {x : Str} {G : List PyData → R PyData}
    (hn : l.most = some n) (hn2 : n ≤ sizeLine) (hdf : d.params.defaults = [])
    (hl : ∀ ns : List Int, ns.length ≤ n → G [.list (ns.map .int)] = .ok (.bool true))
    (F : ∀ (w : World) (mg : Str → Option Value) (fa : Addr) (h : Heap), YP w h → h.Ns mainGlobals mg → mg d.name = some (.ref fa) →
      ∃ (K : PySem.W.Frag) (fd : FuncData), K.In h ∧ (∀ (s : Shared) (u : Value), BindsTo s fd ⟨[u], []⟩ [(x, u)]) ∧ (∀ a o, K.lookup a = some o → o.cls ≠ .type "list") ∧
        ∀ base : Heap, K.In base → base.Ns mainGlobals mg → FnR l.prog w K mg base 650 fa fd [x] (spD K false 1 G)) :
    PySem.W.WalkO q loose XP YP l.row.toRowW d [] (fun f vs => PySem.call f vs) := by
  refine Att.attach_call hn hdf fun w s₀ s₁ mg mb fa o pm cd doc a vs ns Gr Y ho hd hcd hmg hobj hints hlen hg => ?_
  obtain ⟨K, fd, KX, hb, hnl, hF⟩ := F w mg fa _ Y Gr.T.g hmg
  refine law_call KX Gr.T.g Gr.T.b Gr.T.builtins Gr.T.nolimit hg hobj hints (Nat.le_trans hlen hn2) ⟨rfl, by decide, by decide⟩ (fun base h1 h2 => (hF base h1 h2).ok (Nat.le_refl _)) hb (fun H hO hS => ?_) fun H e s' h => cx_false h
  have rp : ∀ ms : List Int, RpAll K H (fun _ => False) (ms.map V.int) (ms.map PyData.int) := by
    intro ms
    induction ms with
    | nil => exact .nil
    | cons m ms ih => exact .cons (.int m) ih
  have rd : Rd H a (.lst (ns.map V.int)) := by
    rcases hS with h | ⟨ob, its, n, h1, h2, _⟩
    · exact h
    · exact absurd h2 (hnl _ _ h1)
  refine ⟨[.list (ns.map .int)], fun _ => False, .cons (.lst rd (fun z => z) (rp ns)) .nil, rfl, fun _ z => z.elim, ?_⟩
  rw [hl ns hlen]
  intro v H' s z
  have z' : Rp K H' (fun _ => False) v (.bool true) := z
  exact z'.bw.bool
end Dl

namespace K_ken_k13_known
open PySem PySem.Spec PyProof.Rows L2 Dl Kn
def top (i : Nat) : Stmt := PySem.Challenge.pw_ken_k13_known.main.body.getD i (.Pass ⟨0, 0, 0, 0⟩)
abbrev FnP (K : PySem.W.Frag) (x : Str) (st : Stmt) (f : Addr) (fd : FuncData) : Prop := FunD K x x (defArgs st) (defBody st) (defScope st) [] [] f fd
abbrev N_lacking : List Str := ["worlds", "ones", "others", "lacks", "one", "other", "number"]
theorem sc_lacking : FnScope N_lacking ["worlds", "ones", "others"] (defScope (top 1)) := ⟨rfl, rfl, rfl, by decide +kernel, rfl, by decide +kernel, by decide +kernel⟩
abbrev N_known : List Str := ["worlds", "statement", "pair", "before", "words", "ones", "others", "one", "other", "lacks"]
theorem sc_known : FnScope N_known ["worlds", "statement"] (defScope (top 2)) := ⟨rfl, rfl, rfl, by decide +kernel, rfl, by decide +kernel, by decide +kernel⟩
abbrev N__law_mix : List Str := ["_law_cell_here", "_law_k", "_law_first"]
theorem sc__law_mix : FnScope N__law_mix ["_law_cell_here", "_law_k"] (defScope (top 4)) := ⟨rfl, rfl, rfl, by decide +kernel, rfl, by decide +kernel, by decide +kernel⟩
abbrev N__law_cell : List Str := ["_law_script", "_law_k", "_law_cell_here"]
theorem sc__law_cell : FnScope N__law_cell ["_law_script", "_law_k"] (defScope (top 5)) := ⟨rfl, rfl, rfl, by decide +kernel, rfl, by decide +kernel, by decide +kernel⟩
abbrev N__law_words : List Str := ["_law_cell_here", "_law_many", "_law_some_here", "_law_k", "_law_size", "_law_at", "_law_start"]
theorem sc__law_words : FnScope N__law_words ["_law_cell_here", "_law_many"] (defScope (top 6)) := ⟨rfl, rfl, rfl, by decide +kernel, rfl, by decide +kernel, by decide +kernel⟩
abbrev N__law_leaf : List Str := ["_law_cell_here", "_law_words_here"]
theorem sc__law_leaf : FnScope N__law_leaf ["_law_cell_here", "_law_words_here"] (defScope (top 7)) := ⟨rfl, rfl, rfl, by decide +kernel, rfl, by decide +kernel, by decide +kernel⟩
abbrev N__law_statement : List Str := ["_law_cell_here", "_law_size", "_law_words_here", "_law_rest", "_law_few", "_law_one", "_law_other"]
theorem sc__law_statement : FnScope N__law_statement ["_law_cell_here", "_law_size", "_law_words_here"] (defScope (top 8)) := ⟨rfl, rfl, rfl, by decide +kernel, rfl, by decide +kernel, by decide +kernel⟩
abbrev N__law_worlds : List Str := ["_law_script", "_law_start", "_law_most", "_law_words_here", "_law_made", "_law_k", "_law_cell_here", "_law_before"]
theorem sc__law_worlds : FnScope N__law_worlds ["_law_script", "_law_start", "_law_most", "_law_words_here"] (defScope (top 9)) := ⟨rfl, rfl, rfl, by decide +kernel, rfl, by decide +kernel, by decide +kernel⟩
abbrev N__law_some : List Str := ["_law_cell_here", "_law_old", "_law_words_here", "_law_found", "_law_k", "_law_word"]
theorem sc__law_some : FnScope N__law_some ["_law_cell_here", "_law_old", "_law_words_here"] (defScope (top 10)) := ⟨rfl, rfl, rfl, by decide +kernel, rfl, by decide +kernel, by decide +kernel⟩
abbrev N__law_copy : List Str := ["_law_worlds_here", "_law_before", "_law_words_here"]
theorem sc__law_copy : FnScope N__law_copy ["_law_worlds_here"] (defScope (top 11)) := ⟨rfl, rfl, rfl, by decide +kernel, rfl, by decide +kernel, by decide +kernel⟩
abbrev N__law_within : List Str := ["_law_statement_here", "_law_found", "_law_at"]
theorem sc__law_within : FnScope N__law_within ["_law_statement_here"] (defScope (top 12)) := ⟨rfl, rfl, rfl, by decide +kernel, rfl, by decide +kernel, by decide +kernel⟩
abbrev N__law_later : List Str := ["_law_worlds_here", "_law_world", "_law_found", "_law_number"]
theorem sc__law_later : FnScope N__law_later ["_law_worlds_here", "_law_world"] (defScope (top 13)) := ⟨rfl, rfl, rfl, by decide +kernel, rfl, by decide +kernel, by decide +kernel⟩
abbrev N__law_truths : List Str := ["_law_found", "_law_size", "_law_truth"]
theorem sc__law_truths : FnScope N__law_truths ["_law_found", "_law_size"] (defScope (top 14)) := ⟨rfl, rfl, rfl, by decide +kernel, rfl, by decide +kernel, by decide +kernel⟩
abbrev N__law_if : List Str := ["_law_worlds_here", "_law_ones", "_law_others", "_law_world", "_law_number"]
theorem sc__law_if : FnScope N__law_if ["_law_worlds_here", "_law_ones", "_law_others", "_law_world"] (defScope (top 15)) := ⟨rfl, rfl, rfl, by decide +kernel, rfl, by decide +kernel, by decide +kernel⟩
abbrev N__law_holds : List Str := ["_law_worlds_here", "_law_statement_here", "_law_found", "_law_inner", "_law_world"]
theorem sc__law_holds : FnScope N__law_holds ["_law_worlds_here", "_law_statement_here", "_law_found", "_law_inner", "_law_world"] (defScope (top 16)) := ⟨rfl, rfl, rfl, by decide +kernel, rfl, by decide +kernel, by decide +kernel⟩
abbrev N_law : List Str := ["_law_script", "_law_words_here", "_law_worlds_here", "_law_statement_here", "_law_handed", "_law_told", "_law_some_here", "_law_here", "_law_found", "_law_inner", "_law_part", "_law_world", "_law_kept"]
theorem sc_law : FnScope N_law ["_law_script"] (defScope (top 17)) := ⟨rfl, rfl, rfl, by decide +kernel, rfl, by decide +kernel, by decide +kernel⟩
/-- what the top has left -/
structure Txt (K : PySem.W.Frag) (w : World) (mg : Str → Option Value) (fd : Nat → FuncData) : Prop where
  f_lacking : FnP K "lacking" (top 1) (He.ga K "lacking") (fd 0)
  g_lacking : mg "lacking" = some (.ref (He.ga K "lacking"))
  k_lacking : PySem.W.keepIn K (.ref (He.ga K "lacking")) = true
  b_lacking : Binds K (fd 0) ["worlds", "ones", "others"] []
  f_known : FnP K "known" (top 2) (He.ga K "known") (fd 1)
  g_known : mg "known" = some (.ref (He.ga K "known"))
  k_known : PySem.W.keepIn K (.ref (He.ga K "known")) = true
  b_known : Binds K (fd 1) ["worlds", "statement"] []
  f__law_mix : FnP K "_law_mix" (top 4) (He.ga K "_law_mix") (fd 2)
  g__law_mix : mg "_law_mix" = some (.ref (He.ga K "_law_mix"))
  k__law_mix : PySem.W.keepIn K (.ref (He.ga K "_law_mix")) = true
  b__law_mix : Binds K (fd 2) ["_law_cell_here", "_law_k"] []
  f__law_cell : FnP K "_law_cell" (top 5) (He.ga K "_law_cell") (fd 3)
  g__law_cell : mg "_law_cell" = some (.ref (He.ga K "_law_cell"))
  k__law_cell : PySem.W.keepIn K (.ref (He.ga K "_law_cell")) = true
  b__law_cell : Binds K (fd 3) ["_law_script", "_law_k"] []
  f__law_words : FnP K "_law_words" (top 6) (He.ga K "_law_words") (fd 4)
  g__law_words : mg "_law_words" = some (.ref (He.ga K "_law_words"))
  k__law_words : PySem.W.keepIn K (.ref (He.ga K "_law_words")) = true
  b__law_words : Binds K (fd 4) ["_law_cell_here", "_law_many"] []
  f__law_leaf : FnP K "_law_leaf" (top 7) (He.ga K "_law_leaf") (fd 5)
  g__law_leaf : mg "_law_leaf" = some (.ref (He.ga K "_law_leaf"))
  k__law_leaf : PySem.W.keepIn K (.ref (He.ga K "_law_leaf")) = true
  b__law_leaf : Binds K (fd 5) ["_law_cell_here", "_law_words_here"] []
  f__law_statement : FnP K "_law_statement" (top 8) (He.ga K "_law_statement") (fd 6)
  g__law_statement : mg "_law_statement" = some (.ref (He.ga K "_law_statement"))
  k__law_statement : PySem.W.keepIn K (.ref (He.ga K "_law_statement")) = true
  b__law_statement : Binds K (fd 6) ["_law_cell_here", "_law_size", "_law_words_here"] []
  f__law_worlds : FnP K "_law_worlds" (top 9) (He.ga K "_law_worlds") (fd 7)
  g__law_worlds : mg "_law_worlds" = some (.ref (He.ga K "_law_worlds"))
  k__law_worlds : PySem.W.keepIn K (.ref (He.ga K "_law_worlds")) = true
  b__law_worlds : Binds K (fd 7) ["_law_script", "_law_start", "_law_most", "_law_words_here"] []
  f__law_some : FnP K "_law_some" (top 10) (He.ga K "_law_some") (fd 8)
  g__law_some : mg "_law_some" = some (.ref (He.ga K "_law_some"))
  k__law_some : PySem.W.keepIn K (.ref (He.ga K "_law_some")) = true
  b__law_some : Binds K (fd 8) ["_law_cell_here", "_law_old", "_law_words_here"] []
  f__law_copy : FnP K "_law_copy" (top 11) (He.ga K "_law_copy") (fd 9)
  g__law_copy : mg "_law_copy" = some (.ref (He.ga K "_law_copy"))
  k__law_copy : PySem.W.keepIn K (.ref (He.ga K "_law_copy")) = true
  b__law_copy : Binds K (fd 9) ["_law_worlds_here"] []
  f__law_within : FnP K "_law_within" (top 12) (He.ga K "_law_within") (fd 10)
  g__law_within : mg "_law_within" = some (.ref (He.ga K "_law_within"))
  k__law_within : PySem.W.keepIn K (.ref (He.ga K "_law_within")) = true
  b__law_within : Binds K (fd 10) ["_law_statement_here"] []
  f__law_later : FnP K "_law_later" (top 13) (He.ga K "_law_later") (fd 11)
  g__law_later : mg "_law_later" = some (.ref (He.ga K "_law_later"))
  k__law_later : PySem.W.keepIn K (.ref (He.ga K "_law_later")) = true
  b__law_later : Binds K (fd 11) ["_law_worlds_here", "_law_world"] []
  f__law_truths : FnP K "_law_truths" (top 14) (He.ga K "_law_truths") (fd 12)
  g__law_truths : mg "_law_truths" = some (.ref (He.ga K "_law_truths"))
  k__law_truths : PySem.W.keepIn K (.ref (He.ga K "_law_truths")) = true
  b__law_truths : Binds K (fd 12) ["_law_found", "_law_size"] []
  f__law_if : FnP K "_law_if" (top 15) (He.ga K "_law_if") (fd 13)
  g__law_if : mg "_law_if" = some (.ref (He.ga K "_law_if"))
  k__law_if : PySem.W.keepIn K (.ref (He.ga K "_law_if")) = true
  b__law_if : Binds K (fd 13) ["_law_worlds_here", "_law_ones", "_law_others", "_law_world"] []
  f__law_holds : FnP K "_law_holds" (top 16) (He.ga K "_law_holds") (fd 14)
  g__law_holds : mg "_law_holds" = some (.ref (He.ga K "_law_holds"))
  k__law_holds : PySem.W.keepIn K (.ref (He.ga K "_law_holds")) = true
  b__law_holds : Binds K (fd 14) ["_law_worlds_here", "_law_statement_here", "_law_found", "_law_inner", "_law_world"] []
  f_law : FnP K "law" (top 17) (He.ga K "law") (fd 15)
  g_law : mg "law" = some (.ref (He.ga K "law"))
  k_law : PySem.W.keepIn K (.ref (He.ga K "law")) = true
  b_law : Binds K (fd 15) ["_law_script"] []
  z_bool : mg "bool" = none
  z_enumerate : mg "enumerate" = none
  z_isinstance : mg "isinstance" = none
  z_len : mg "len" = none
  z_list : mg "list" = none
  z_max : mg "max" = none
  z_range : mg "range" = none
  z_sorted : mg "sorted" = none
  z_zip : mg "zip" = none
section
variable {P : Program} {w : World} {K : PySem.W.Frag} {mg : Str → Option Value} {base : Heap} {fd : Nat → FuncData}
structure OkN (P : Program) (w : World) (K : PySem.W.Frag) (mg : Str → Option Value) (base : Heap) (fd : Nat → FuncData) (n : Nat) : Prop where
  h_lacking : FnR P w K mg base n (He.ga K "lacking") (fd 0) ["worlds", "ones", "others"] (spD K false 3 (den n 0))
  h_known : FnR P w K mg base n (He.ga K "known") (fd 1) ["worlds", "statement"] (spD K true 2 (den n 1))
  h__law_mix : FnR P w K mg base n (He.ga K "_law_mix") (fd 2) ["_law_cell_here", "_law_k"] (spD K false 2 (den n 2))
  h__law_cell : FnR P w K mg base n (He.ga K "_law_cell") (fd 3) ["_law_script", "_law_k"] (spD K false 2 (den n 3))
  h__law_words : FnR P w K mg base n (He.ga K "_law_words") (fd 4) ["_law_cell_here", "_law_many"] (spD K false 2 (den n 4))
  h__law_leaf : FnR P w K mg base n (He.ga K "_law_leaf") (fd 5) ["_law_cell_here", "_law_words_here"] (spD K false 2 (den n 5))
  h__law_statement : FnR P w K mg base n (He.ga K "_law_statement") (fd 6) ["_law_cell_here", "_law_size", "_law_words_here"] (spD K false 3 (den n 6))
  h__law_worlds : FnR P w K mg base n (He.ga K "_law_worlds") (fd 7) ["_law_script", "_law_start", "_law_most", "_law_words_here"] (spD K false 4 (den n 7))
  h__law_some : FnR P w K mg base n (He.ga K "_law_some") (fd 8) ["_law_cell_here", "_law_old", "_law_words_here"] (spD K false 3 (den n 8))
  h__law_copy : FnR P w K mg base n (He.ga K "_law_copy") (fd 9) ["_law_worlds_here"] (spD K false 1 (den n 9))
  h__law_within : FnR P w K mg base n (He.ga K "_law_within") (fd 10) ["_law_statement_here"] (spD K false 1 (den n 10))
  h__law_later : FnR P w K mg base n (He.ga K "_law_later") (fd 11) ["_law_worlds_here", "_law_world"] (spD K false 2 (den n 11))
  h__law_truths : FnR P w K mg base n (He.ga K "_law_truths") (fd 12) ["_law_found", "_law_size"] (spD K false 2 (den n 12))
  h__law_if : FnR P w K mg base n (He.ga K "_law_if") (fd 13) ["_law_worlds_here", "_law_ones", "_law_others", "_law_world"] (spD K false 4 (den n 13))
  h__law_holds : FnR P w K mg base n (He.ga K "_law_holds") (fd 14) ["_law_worlds_here", "_law_statement_here", "_law_found", "_law_inner", "_law_world"] (spD K false 5 (den n 14))
  h_law : FnR P w K mg base n (He.ga K "law") (fd 15) ["_law_script"] (spq K 1 (den2 n 15))
theorem ok_lacking {n : Nat} (T : Txt K w mg fd) (IH : OkN P w K mg base fd n) : FnR P w K mg base (n + 1) (He.ga K "lacking") (fd 0) ["worlds", "ones", "others"] (spD K false 3 (runF 7 (b_lacking))) := by
  refine fnD T.f_lacking sc_lacking rfl rfl fun cdv A outer s H E hr tk ps => ⟨[], ?_⟩
  have nd := sc_lacking.nd
  exact (dss_cons (O1 := [3]) (ds_setF (O' := [3]) (lc_asg (vs := [4, 5]) (is := [4, 5]) (ps_setLc (i := 3) (own := [("one", 4), ("other", 5)]) rfl nd rfl rfl (sw_true rfl rfl rfl (by decide +kernel)) (dc_zipA (dab_cons (e2b (de_var (pv 1) (by decide))) (dab_cons (e2b (de_var (pv 2) (by decide))) dab_nil)) (fun _ h => RZ.pi_zipA (by rfl) T.z_zip h)) (blkOk_by (own := [("one", 4), ("other", 5)]) (N := N_lacking) (sc := defScope (top 1)) (by decide +kernel)) (fun _ _ _ _ _ => (dg_tup (is := [4, 5]) (pg_two rfl (pgs_cons (pg_name (i := 4) nd rfl (by first | exact Or.inl rfl | exact Or.inr rfl)) (pgs_cons (pg_name (i := 5) nd rfl (by first | exact Or.inl rfl | exact Or.inr rfl)) pgs_nil))))) (fun _ _ _ _ _ => dts_nil) (fun _ _ _ _ _ => (de_and (e2b (de_var (pv 4) (by decide))) (de_one (de_not (e2b (de_var (pv 5) (by decide))))))))))
      (dss_cons (O1 := []) (ds_end (O' := [3]) (O2 := []) (ds_for ps rfl (dx_range3 (dab_cons (e2b (de_op od_sub (e2b (dx_callB relE_ok cd_len (by rfl) T.z_len boot_len (dab_cons (e2b (de_var (pv 0) (by decide))) dab_nil))) (e2b (de_cst pe_int rfl)))) (dab_cons (e2b (de_cst pe_int rfl)) (dab_cons (e2b (de_neg (e2b (de_cst pe_int rfl)))) dab_nil))) (fun _ h => pi_range3 (by rfl) T.z_range h)) (dg_name (pg_name (i := 6) nd rfl (by first | exact Or.inl rfl | exact Or.inr rfl))) (dss_one (ds_if (dt_val (e2b (de_ix (db_var (pv 3)) (e2b (de_var (pv 6) (by decide)))))) (dss_one (ds_put (ps_asg (de_cst pe_bl rfl) (pg_sub (pv 3) (de_ix (e2b (de_ix (e2b (de_var (pv 0) (by decide))) (e2b (de_var (pv 6) (by decide))))) (e2b (de_cst pe_int rfl))) set_list)))) dss_nil))))
      (dss_one (ds_ret (de_var (pv 3) (by decide))))))
theorem ok_known {n : Nat} (T : Txt K w mg fd) (IH : OkN P w K mg base fd n) : FnR P w K mg base (n + 1) (He.ga K "known") (fd 1) ["worlds", "statement"] (spD K true 2 (runF 10 (b_known (den n 1) (den n 0)))) := by
  refine fnD T.f_known sc_known rfl rfl fun cdv A outer s H E hr tk ps => ⟨[], ?_⟩
  have nd := sc_known.nd
  exact (dss_cons (O1 := []) (ds_if (dt_cmp (od_eq hr.u1000) (e2b (de_ix (e2b (de_var (pv 1) (by decide))) (e2b (de_cst pe_int rfl)))) (e2b (de_cst pe_str rfl))) (dss_one (ds_retF (df_lc (vs := [2]) (is := [2]) (pe_lc (own := [("pair", 2)]) rfl nd (dc_list (e2b (de_var (pv 0) (by decide)))) (blkOk_by (own := [("pair", 2)]) (N := N_known) (sc := defScope (top 2)) (by decide +kernel)) (fun _ _ _ _ _ => (dg_name (pg_name (i := 2) nd rfl (by first | exact Or.inl rfl | exact Or.inr rfl)))) (fun _ _ _ _ _ => dts_nil) (fun _ _ _ _ _ => (de_cst pe_bl rfl)))))) dss_nil)
      (dss_cons (O1 := []) (ds_if (dt_cmp (od_eq hr.u1000) (e2b (de_ix (e2b (de_var (pv 1) (by decide))) (e2b (de_cst pe_int rfl)))) (e2b (de_cst pe_str rfl))) (dss_one (ds_retF (df_lc (vs := [3, 4]) (is := [3, 4]) (pe_lc (own := [("before", 3), ("words", 4)]) rfl nd (dc_list (e2b (de_var (pv 0) (by decide)))) (blkOk_by (own := [("before", 3), ("words", 4)]) (N := N_known) (sc := defScope (top 2)) (by decide +kernel)) (fun _ _ _ _ _ => (dg_tup (is := [3, 4]) (pg_two rfl (pgs_cons (pg_name (i := 3) nd rfl (by first | exact Or.inl rfl | exact Or.inr rfl)) (pgs_cons (pg_name (i := 4) nd rfl (by first | exact Or.inl rfl | exact Or.inr rfl)) pgs_nil))))) (fun _ _ _ _ _ => dts_nil) (fun _ _ _ _ _ => (de_cmp (od_in hr.u65) (e2b (de_ix (e2b (de_var (pv 1) (by decide))) (e2b (de_cst pe_int rfl)))) (e2b (de_var (pv 4) (by decide))))))))) dss_nil)
      (dss_cons (O1 := []) (ds_set (ps_set (i := 5) nd rfl (Or.inl rfl) (f2e (df_call IH.h_known hr (by rfl) T.g_known T.k_known T.b_known tk (da_cons (de_var (pv 0) (by decide)) (da_cons (de_ix (e2b (de_var (pv 1) (by decide))) (e2b (de_cst pe_int rfl))) da_nil))))))
      (dss_cons (O1 := []) (ds_set (ps_set (i := 6) nd rfl (Or.inl rfl) (f2e (df_call IH.h_known hr (by rfl) T.g_known T.k_known T.b_known tk (da_cons (de_var (pv 0) (by decide)) (da_cons (de_ix (e2b (de_var (pv 1) (by decide))) (e2b (de_cst pe_int rfl))) da_nil))))))
      (dss_cons (O1 := []) (ds_if (dt_cmp (od_eq hr.u1000) (e2b (de_ix (e2b (de_var (pv 1) (by decide))) (e2b (de_cst pe_int rfl)))) (e2b (de_cst pe_str rfl))) (dss_one (ds_retF (df_lc (vs := [7, 8]) (is := [7, 8]) (pe_lc (own := [("one", 7), ("other", 8)]) rfl nd (dc_zipA (dab_cons (e2b (de_var (pv 5) (by decide))) (dab_cons (e2b (de_var (pv 6) (by decide))) dab_nil)) (fun _ h => RZ.pi_zipA (by rfl) T.z_zip h)) (blkOk_by (own := [("one", 7), ("other", 8)]) (N := N_known) (sc := defScope (top 2)) (by decide +kernel)) (fun _ _ _ _ _ => (dg_tup (is := [7, 8]) (pg_two rfl (pgs_cons (pg_name (i := 7) nd rfl (by first | exact Or.inl rfl | exact Or.inr rfl)) (pgs_cons (pg_name (i := 8) nd rfl (by first | exact Or.inl rfl | exact Or.inr rfl)) pgs_nil))))) (fun _ _ _ _ _ => dts_nil) (fun _ _ _ _ _ => (de_and (e2b (de_var (pv 7) (by decide))) (de_one (de_var (pv 8) (by decide))))))))) dss_nil)
      (dss_cons (O1 := []) (ds_if (dt_cmp (od_eq hr.u1000) (e2b (de_ix (e2b (de_var (pv 1) (by decide))) (e2b (de_cst pe_int rfl)))) (e2b (de_cst pe_str rfl))) (dss_one (ds_retF (df_lc (vs := [7, 8]) (is := [7, 8]) (pe_lc (own := [("one", 7), ("other", 8)]) rfl nd (dc_zipA (dab_cons (e2b (de_var (pv 5) (by decide))) (dab_cons (e2b (de_var (pv 6) (by decide))) dab_nil)) (fun _ h => RZ.pi_zipA (by rfl) T.z_zip h)) (blkOk_by (own := [("one", 7), ("other", 8)]) (N := N_known) (sc := defScope (top 2)) (by decide +kernel)) (fun _ _ _ _ _ => (dg_tup (is := [7, 8]) (pg_two rfl (pgs_cons (pg_name (i := 7) nd rfl (by first | exact Or.inl rfl | exact Or.inr rfl)) (pgs_cons (pg_name (i := 8) nd rfl (by first | exact Or.inl rfl | exact Or.inr rfl)) pgs_nil))))) (fun _ _ _ _ _ => dts_nil) (fun _ _ _ _ _ => (de_or (e2b (de_var (pv 7) (by decide))) (de_one (de_var (pv 8) (by decide))))))))) dss_nil)
      (dss_one (ds_retF (df_lc (vs := [9]) (is := [9]) (pe_lc (own := [("lacks", 9)]) rfl nd (dc_list (e2b (de_call IH.h_lacking hr (by rfl) T.g_lacking T.k_lacking T.b_lacking tk (da_cons (de_var (pv 0) (by decide)) (da_cons (de_var (pv 5) (by decide)) (da_cons (de_var (pv 6) (by decide)) da_nil)))))) (blkOk_by (own := [("lacks", 9)]) (N := N_known) (sc := defScope (top 2)) (by decide +kernel)) (fun _ _ _ _ _ => (dg_name (pg_name (i := 9) nd rfl (by first | exact Or.inl rfl | exact Or.inr rfl)))) (fun _ _ _ _ _ => dts_nil) (fun _ _ _ _ _ => (de_not (e2b (de_var (pv 9) (by decide)))))))))))))))
theorem ok__law_mix {n : Nat} (T : Txt K w mg fd) (IH : OkN P w K mg base fd n) : FnR P w K mg base (n + 1) (He.ga K "_law_mix") (fd 2) ["_law_cell_here", "_law_k"] (spD K false 2 (runF 3 (b__law_mix))) := by
  refine fnD T.f__law_mix sc__law_mix rfl rfl fun cdv A outer s H E hr tk ps => ⟨[], ?_⟩
  have nd := sc__law_mix.nd
  exact (dss_cons (O1 := []) (ds_set (ps_set (i := 2) nd rfl (Or.inl rfl) (de_op od_mod (e2b (de_op od_mul (e2b (de_op od_add (e2b (de_var (pv 0) (by decide))) (e2b (de_cst pe_int rfl)))) (e2b (de_op od_add (e2b (de_cst pe_int rfl)) (e2b (de_op od_mul (e2b (de_cst pe_int rfl)) (e2b (de_var (pv 1) (by decide))))))))) (e2b (de_cst pe_int rfl)))))
      (dss_one (ds_ret (de_op od_mod (e2b (de_op od_add (e2b (de_op od_add (e2b (de_op od_mul (e2b (de_op od_fdiv (e2b (de_var (pv 2) (by decide))) (e2b (de_cst pe_int rfl)))) (e2b (de_cst pe_int rfl)))) (e2b (de_op od_mul (e2b (de_var (pv 2) (by decide))) (e2b (de_op od_add (e2b (de_op od_mul (e2b (de_var (pv 1) (by decide))) (e2b (de_var (pv 1) (by decide))))) (e2b (de_cst pe_int rfl)))))))) (e2b (de_var (pv 1) (by decide))))) (e2b (de_cst pe_int rfl))))))
theorem ok__law_cell {n : Nat} (T : Txt K w mg fd) (IH : OkN P w K mg base fd n) : FnR P w K mg base (n + 1) (He.ga K "_law_cell") (fd 3) ["_law_script", "_law_k"] (spD K false 2 (runF 3 (b__law_cell (den n 2)))) := by
  refine fnD T.f__law_cell sc__law_cell rfl rfl fun cdv A outer s H E hr tk ps => ⟨[], ?_⟩
  have nd := sc__law_cell.nd
  exact (dss_cons (O1 := []) (ds_set (ps_set (i := 2) nd rfl (Or.inl rfl) (de_cst pe_int rfl)))
      (dss_cons (O1 := []) (ds_if (dt_cmp od_lt (e2b (de_var (pv 1) (by decide))) (e2b (dx_callB relE_ok cd_len (by rfl) T.z_len boot_len (dab_cons (e2b (de_var (pv 0) (by decide))) dab_nil)))) (dss_one (ds_set (ps_set (i := 2) nd rfl (Or.inl rfl) (de_op od_mod (e2b (de_ix (e2b (de_var (pv 0) (by decide))) (e2b (de_var (pv 1) (by decide))))) (e2b (de_cst pe_int rfl)))))) dss_nil)
      (dss_one (ds_ret (de_call IH.h__law_mix hr (by rfl) T.g__law_mix T.k__law_mix T.b__law_mix tk (da_cons (de_var (pv 2) (by decide)) (da_cons (de_op od_add (e2b (de_var (pv 1) (by decide))) (e2b (de_cst pe_int rfl))) da_nil)))))))
theorem ok__law_words {n : Nat} (T : Txt K w mg fd) (IH : OkN P w K mg base fd n) : FnR P w K mg base (n + 1) (He.ga K "_law_words") (fd 4) ["_law_cell_here", "_law_many"] (spD K false 2 (runF 7 (b__law_words_v2))) := by
  refine fnD T.f__law_words sc__law_words rfl rfl fun cdv A outer s H E hr tk ps => ⟨[], ?_⟩
  have nd := sc__law_words.nd
  exact (dss_cons (O1 := []) (ds_set (ps_set (i := 2) nd rfl (Or.inl rfl) (f2e (df_lst (da_cons (de_cst pe_str rfl) (da_cons (de_cst pe_str rfl) (da_cons (de_cst pe_str rfl) (da_cons (de_cst pe_str rfl) (da_cons (de_cst pe_str rfl) (da_cons (de_cst pe_str rfl) da_nil))))))))))
      (dss_cons (O1 := []) (ds_if (dt_cmp (od_eq hr.u1000) (e2b (de_op od_mod (e2b (de_var (pv 0) (by decide))) (e2b (de_cst pe_int rfl)))) (e2b (de_cst pe_int rfl))) (dss_one (ds_set (asg_f2e (lc_asg (vs := [3]) (is := [3]) (ps_setLc (i := 2) (own := [("_law_k", 3)]) rfl nd rfl rfl (sw_true rfl rfl rfl (by decide +kernel)) (dx_range1 (by rfl) T.z_range (dab_cons (e2b (de_cst pe_int rfl)) dab_nil) (fun _ h => pi_range1 (by rfl) T.z_range h)) (blkOk_by (own := [("_law_k", 3)]) (N := N__law_words) (sc := defScope (top 6)) (by decide +kernel)) (fun _ _ _ _ _ => (dg_name (pg_name (i := 3) nd rfl (by first | exact Or.inl rfl | exact Or.inr rfl)))) (fun _ _ _ _ _ => dts_nil) (fun _ _ _ _ _ => (de_op od_mul (e2b (de_cst pe_str rfl)) (e2b (de_op od_add (e2b (de_cst pe_int rfl)) (e2b (de_var (pv 3) (by decide)))))))))))) dss_nil)
      (dss_cons (O1 := []) (ds_if (dt_cmp (od_eq hr.u1000) (e2b (de_op od_mod (e2b (de_var (pv 0) (by decide))) (e2b (de_cst pe_int rfl)))) (e2b (de_cst pe_int rfl))) (dss_cons (O1 := []) (ds_set (ps_set (i := 4) nd rfl (Or.inr rfl) (de_op od_add (e2b (de_cst pe_int rfl)) (e2b (de_op od_mod (e2b (de_op od_fdiv (e2b (de_var (pv 0) (by decide))) (e2b (de_cst pe_int rfl)))) (e2b (de_cst pe_int rfl)))))))
      (dss_cons (O1 := []) (ds_set (ps_set (i := 5) nd rfl (Or.inr rfl) (de_op od_mod (e2b (de_op od_fdiv (e2b (de_var (pv 0) (by decide))) (e2b (de_cst pe_int rfl)))) (e2b (de_var (pv 4) (by decide))))))
      (dss_one (ds_set (asg_f2e (lc_asg (vs := [3]) (is := [3]) (ps_setLc (i := 2) (own := [("_law_k", 3)]) rfl nd rfl rfl (sw_true rfl rfl rfl (by decide +kernel)) (dx_range1 (by rfl) T.z_range (dab_cons (e2b (de_cst pe_int rfl)) dab_nil) (fun _ h => pi_range1 (by rfl) T.z_range h)) (blkOk_by (own := [("_law_k", 3)]) (N := N__law_words) (sc := defScope (top 6)) (by decide +kernel)) (fun _ _ _ _ _ => (dg_name (pg_name (i := 3) nd rfl (by first | exact Or.inl rfl | exact Or.inr rfl)))) (fun _ _ _ _ _ => dts_nil) (fun _ _ _ _ _ => (de_op od_add (e2b (de_op od_add (e2b (de_op od_mul (e2b (de_cst pe_str rfl)) (e2b (de_var (pv 5) (by decide))))) (e2b (de_ix (e2b (de_cst pe_str rfl)) (e2b (de_var (pv 3) (by decide))))))) (e2b (de_op od_mul (e2b (de_cst pe_str rfl)) (e2b (de_op od_sub (e2b (de_op od_sub (e2b (de_var (pv 4) (by decide))) (e2b (de_cst pe_int rfl)))) (e2b (de_var (pv 5) (by decide)))))))))))))))) dss_nil)
      (dss_cons (O1 := []) (ds_if (dt_cmp (od_eq hr.u1000) (e2b (de_op od_mod (e2b (de_var (pv 0) (by decide))) (e2b (de_cst pe_int rfl)))) (e2b (de_cst pe_int rfl))) (dss_one (ds_set (ps_set (i := 2) nd rfl (Or.inl rfl) (f2e (df_lst (da_cons (de_cst pe_str rfl) (da_cons (de_cst pe_str rfl) (da_cons (de_cst pe_str rfl) (da_cons (de_cst pe_str rfl) (da_cons (de_cst pe_str rfl) (da_cons (de_cst pe_str rfl) da_nil))))))))))) dss_nil)
      (dss_cons (O1 := []) (ds_set (ps_set (i := 6) nd rfl (Or.inl rfl) (de_op od_mod (e2b (de_op od_fdiv (e2b (de_var (pv 0) (by decide))) (e2b (de_cst pe_int rfl)))) (e2b (de_cst pe_int rfl)))))
      (dss_one (ds_ret (de_slc (e2b (de_op od_add (e2b (de_slc (e2b (de_var (pv 2) (by decide))) (do_some (e2b (de_var (pv 6) (by decide)))) do_none)) (e2b (de_slc (e2b (de_var (pv 2) (by decide))) do_none (do_some (e2b (de_var (pv 6) (by decide)))))))) do_none (do_some (e2b (de_var (pv 1) (by decide))))))))))))
theorem ok__law_leaf {n : Nat} (T : Txt K w mg fd) (IH : OkN P w K mg base fd n) : FnR P w K mg base (n + 1) (He.ga K "_law_leaf") (fd 5) ["_law_cell_here", "_law_words_here"] (spD K false 2 (runF 2 (b__law_leaf))) := by
  refine fnD T.f__law_leaf sc__law_leaf rfl rfl fun cdv A outer s H E hr tk ps => ⟨[], ?_⟩
  have nd := sc__law_leaf.nd
  exact (dss_cons (O1 := []) (ds_if (dt_cmp (od_eq hr.u1000) (e2b (de_op od_mod (e2b (de_var (pv 0) (by decide))) (e2b (de_cst pe_int rfl)))) (e2b (de_cst pe_int rfl))) (dss_one (ds_ret (de_tup (da_cons (de_cst pe_str rfl) da_nil)))) dss_nil)
      (dss_one (ds_ret (de_tup (da_cons (de_cst pe_str rfl) (da_cons (de_ix (e2b (de_var (pv 1) (by decide))) (e2b (de_op od_mod (e2b (de_op od_fdiv (e2b (de_var (pv 0) (by decide))) (e2b (de_cst pe_int rfl)))) (e2b (dx_callB relE_ok cd_len (by rfl) T.z_len boot_len (dab_cons (e2b (de_var (pv 1) (by decide))) dab_nil)))))) da_nil))))))
theorem ok__law_statement {n : Nat} (T : Txt K w mg fd) (IH : OkN P w K mg base fd n) : FnR P w K mg base (n + 1) (He.ga K "_law_statement") (fd 6) ["_law_cell_here", "_law_size", "_law_words_here"] (spD K false 3 (runF 7 (b__law_statement_v2 (den n 5) (den n 2) (den n 6)))) := by
  refine fnD T.f__law_statement sc__law_statement rfl rfl fun cdv A outer s H E hr tk ps => ⟨[], ?_⟩
  have nd := sc__law_statement.nd
  exact (dss_cons (O1 := []) (ds_if (dt_cmp od_lt (e2b (de_var (pv 1) (by decide))) (e2b (de_cst pe_int rfl))) (dss_one (ds_ret (de_call IH.h__law_leaf hr (by rfl) T.g__law_leaf T.k__law_leaf T.b__law_leaf tk (da_cons (de_op od_fdiv (e2b (de_var (pv 0) (by decide))) (e2b (de_cst pe_int rfl))) (da_cons (de_var (pv 2) (by decide)) da_nil))))) dss_nil)
      (dss_cons (O1 := []) (ds_if (w2t (dw_and (dt_cmp od_lt (e2b (de_var (pv 1) (by decide))) (e2b (de_cst pe_int rfl))) (dw_and1 (dt_cmp (od_eq hr.u1000) (e2b (de_op od_mod (e2b (de_op od_fdiv (e2b (de_var (pv 0) (by decide))) (e2b (de_cst pe_int rfl)))) (e2b (de_cst pe_int rfl)))) (e2b (de_cst pe_int rfl)))))) (dss_one (ds_ret (de_tup (da_cons (de_cst pe_str rfl) (da_cons (de_call IH.h__law_statement hr (by rfl) T.g__law_statement T.k__law_statement T.b__law_statement tk (da_cons (de_call IH.h__law_mix hr (by rfl) T.g__law_mix T.k__law_mix T.b__law_mix tk (da_cons (de_var (pv 0) (by decide)) (da_cons (de_cst pe_int rfl) da_nil))) (da_cons (de_op od_sub (e2b (de_var (pv 1) (by decide))) (e2b (de_cst pe_int rfl))) (da_cons (de_var (pv 2) (by decide)) da_nil)))) (da_cons (de_tup (da_cons (de_cst pe_str rfl) da_nil)) da_nil)))))) dss_nil)
      (dss_cons (O1 := []) (ds_set (ps_set (i := 3) nd rfl (Or.inl rfl) (de_op od_sub (e2b (de_var (pv 1) (by decide))) (e2b (de_cst pe_int rfl)))))
      (dss_cons (O1 := []) (ds_set (ps_set (i := 4) nd rfl (Or.inl rfl) (de_op od_add (e2b (de_cst pe_int rfl)) (e2b (de_op od_mod (e2b (de_call IH.h__law_mix hr (by rfl) T.g__law_mix T.k__law_mix T.b__law_mix tk (da_cons (de_var (pv 0) (by decide)) (da_cons (de_cst pe_int rfl) da_nil)))) (e2b (de_op od_sub (e2b (de_var (pv 3) (by decide))) (e2b (de_cst pe_int rfl)))))))))
      (dss_cons (O1 := []) (ds_if (dt_cmp od_ge (e2b (de_var (pv 1) (by decide))) (e2b (de_cst pe_int rfl))) (dss_one (ds_set (ps_set (i := 4) nd rfl (Or.inl rfl) (de_op od_add (e2b (de_op od_fdiv (e2b (de_var (pv 3) (by decide))) (e2b (de_cst pe_int rfl)))) (e2b (de_op od_mod (e2b (de_call IH.h__law_mix hr (by rfl) T.g__law_mix T.k__law_mix T.b__law_mix tk (da_cons (de_var (pv 0) (by decide)) (da_cons (de_cst pe_int rfl) da_nil)))) (e2b (de_op od_fdiv (e2b (de_var (pv 3) (by decide))) (e2b (de_cst pe_int rfl)))))))))) dss_nil)
      (dss_cons (O1 := []) (ds_set (ps_set (i := 5) nd rfl (Or.inl rfl) (de_call IH.h__law_statement hr (by rfl) T.g__law_statement T.k__law_statement T.b__law_statement tk (da_cons (de_call IH.h__law_mix hr (by rfl) T.g__law_mix T.k__law_mix T.b__law_mix tk (da_cons (de_var (pv 0) (by decide)) (da_cons (de_cst pe_int rfl) da_nil))) (da_cons (de_var (pv 4) (by decide)) (da_cons (de_var (pv 2) (by decide)) da_nil))))))
      (dss_cons (O1 := []) (ds_set (ps_set (i := 6) nd rfl (Or.inl rfl) (de_call IH.h__law_statement hr (by rfl) T.g__law_statement T.k__law_statement T.b__law_statement tk (da_cons (de_call IH.h__law_mix hr (by rfl) T.g__law_mix T.k__law_mix T.b__law_mix tk (da_cons (de_var (pv 0) (by decide)) (da_cons (de_cst pe_int rfl) da_nil))) (da_cons (de_op od_sub (e2b (de_var (pv 3) (by decide))) (e2b (de_var (pv 4) (by decide)))) (da_cons (de_var (pv 2) (by decide)) da_nil))))))
      (dss_one (ds_ret (de_tup (da_cons (de_ix (f2b (df_lst (da_cons (de_cst pe_str rfl) (da_cons (de_cst pe_str rfl) (da_cons (de_cst pe_str rfl) (da_cons (de_cst pe_str rfl) da_nil)))))) (e2b (de_op od_mod (e2b (de_var (pv 0) (by decide))) (e2b (de_cst pe_int rfl))))) (da_cons (de_var (pv 5) (by decide)) (da_cons (de_var (pv 6) (by decide)) da_nil)))))))))))))
theorem ok__law_worlds {n : Nat} (T : Txt K w mg fd) (IH : OkN P w K mg base fd n) : FnR P w K mg base (n + 1) (He.ga K "_law_worlds") (fd 7) ["_law_script", "_law_start", "_law_most", "_law_words_here"] (spD K false 4 (runF 8 (b__law_worlds (den n 3) (den n 8) (den n 2)))) := by
  refine fnD T.f__law_worlds sc__law_worlds rfl rfl fun cdv A outer s H E hr tk ps => ⟨[], ?_⟩
  have nd := sc__law_worlds.nd
  exact (dss_cons (O1 := [4]) (ds_setF (O' := [4]) (ps_set (i := 4) nd rfl (Or.inl rfl) (df_lst (da_cons (de_tup (da_cons (de_cst pe_non rfl) (da_cons (de_call IH.h__law_some hr (by rfl) T.g__law_some T.k__law_some T.b__law_some tk (da_cons (de_call IH.h__law_cell hr (by rfl) T.g__law_cell T.k__law_cell T.b__law_cell tk (da_cons (de_var (pv 0) (by decide)) (da_cons (de_var (pv 1) (by decide)) da_nil))) (da_cons (f2e (df_lst da_nil)) (da_cons (de_var (pv 3) (by decide)) da_nil)))) da_nil))) da_nil))))
      (dss_cons (O1 := []) (ds_end (O' := [4]) (O2 := []) (ds_for ps rfl (dx_range2 (by rfl) T.z_range (dab_cons (e2b (de_cst pe_int rfl)) (dab_cons (e2b (de_op od_add (e2b (de_cst pe_int rfl)) (e2b (de_op od_mod (e2b (de_call IH.h__law_cell hr (by rfl) T.g__law_cell T.k__law_cell T.b__law_cell tk (da_cons (de_var (pv 0) (by decide)) (da_cons (de_op od_add (e2b (de_var (pv 1) (by decide))) (e2b (de_cst pe_int rfl))) da_nil)))) (e2b (de_var (pv 2) (by decide))))))) dab_nil)) (fun _ h => pi_range2 (by rfl) T.z_range h)) (dg_name (pg_name (i := 5) nd rfl (by first | exact Or.inl rfl | exact Or.inr rfl))) (dss_cons (O1 := [4]) (ds_set (ps_set (i := 6) nd rfl (Or.inl rfl) (de_call IH.h__law_mix hr (by rfl) T.g__law_mix T.k__law_mix T.b__law_mix tk (da_cons (de_call IH.h__law_cell hr (by rfl) T.g__law_cell T.k__law_cell T.b__law_cell tk (da_cons (de_var (pv 0) (by decide)) (da_cons (de_op od_add (e2b (de_op od_add (e2b (de_var (pv 1) (by decide))) (e2b (de_cst pe_int rfl)))) (e2b (de_op od_mod (e2b (de_var (pv 5) (by decide))) (e2b (dx_callB relE_ok (cd_max rfl) (by rfl) T.z_max boot_max (dab_cons (e2b (de_cst pe_int rfl)) (dab_cons (e2b (dx_callB relE_ok cd_len (by rfl) T.z_len boot_len (dab_cons (e2b (de_var (pv 0) (by decide))) dab_nil))) dab_nil))))))) da_nil))) (da_cons (de_op od_add (e2b (de_var (pv 5) (by decide))) (e2b (de_cst pe_int rfl))) da_nil)))))
      (dss_cons (O1 := [4]) (ds_set (ps_set (i := 7) nd rfl (Or.inl rfl) (de_op od_mod (e2b (de_var (pv 6) (by decide))) (e2b (de_var (pv 5) (by decide))))))
      (dss_cons (O1 := [4]) (ds_if (dt_cmp (od_eq hr.u1000) (e2b (de_op od_mod (e2b (de_op od_fdiv (e2b (de_var (pv 6) (by decide))) (e2b (de_cst pe_int rfl)))) (e2b (de_cst pe_int rfl)))) (e2b (de_cst pe_int rfl))) (dss_one (ds_set (ps_set (i := 7) nd rfl (Or.inl rfl) (de_op od_sub (e2b (de_var (pv 5) (by decide))) (e2b (de_cst pe_int rfl)))))) dss_nil)
      (dss_one (ds_app (ps_expr (pe_bm PySem.F.plainAttrs_list PySem.F.slot_list_append PySem.F.type_list_append mt_append (pv 4) (pa_cons (de_tup (da_cons (de_var (pv 7) (by decide)) (da_cons (de_call IH.h__law_some hr (by rfl) T.g__law_some T.k__law_some T.b__law_some tk (da_cons (de_op od_fdiv (e2b (de_var (pv 6) (by decide))) (e2b (de_cst pe_int rfl))) (da_cons (de_ix (e2b (de_ix (db_var (pv 4)) (e2b (de_var (pv 7) (by decide))))) (e2b (de_cst pe_int rfl))) (da_cons (de_var (pv 3) (by decide)) da_nil)))) da_nil))) pa_nil))))))))))
      (dss_one (ds_ret (de_var (pv 4) (by decide))))))
theorem ok__law_some {n : Nat} (T : Txt K w mg fd) (IH : OkN P w K mg base fd n) : FnR P w K mg base (n + 1) (He.ga K "_law_some") (fd 8) ["_law_cell_here", "_law_old", "_law_words_here"] (spD K false 3 (runF 6 (b__law_some (den n 2)))) := by
  refine fnD T.f__law_some sc__law_some rfl rfl fun cdv A outer s H E hr tk ps => ⟨[], ?_⟩
  have nd := sc__law_some.nd
  exact (dss_cons (O1 := [3]) (ds_setF (O' := [3]) (ps_set (i := 3) nd rfl (Or.inl rfl) (dx_callTy relF_ok cf_list (by rfl) T.z_list boot_list (dab_cons (e2b (de_var (pv 1) (by decide))) dab_nil))))
      (dss_cons (O1 := []) (ds_end (O' := [3]) (O2 := []) (ds_for ps rfl (di_enum (da_cons (de_var (pv 2) (by decide)) da_nil) (fun _ h => pi_enum (by rfl) T.z_enumerate h)) (dg_tup (is := [4, 5]) (pg_two rfl (pgs_cons (pg_name (i := 4) nd rfl (by first | exact Or.inl rfl | exact Or.inr rfl)) (pgs_cons (pg_name (i := 5) nd rfl (by first | exact Or.inl rfl | exact Or.inr rfl)) pgs_nil)))) (dss_one (ds_if (w2t (dw_and (dt_cmp (od_notin hr.u65) (e2b (de_var (pv 5) (by decide))) (db_var (pv 3))) (dw_and1 (dt_cmp (od_eq hr.u1000) (e2b (de_op od_mod (e2b (de_call IH.h__law_mix hr (by rfl) T.g__law_mix T.k__law_mix T.b__law_mix tk (da_cons (de_var (pv 0) (by decide)) (da_cons (de_op od_add (e2b (de_cst pe_int rfl)) (e2b (de_var (pv 4) (by decide)))) da_nil)))) (e2b (de_cst pe_int rfl)))) (e2b (de_cst pe_int rfl)))))) (dss_one (ds_app (ps_expr (pe_bm PySem.F.plainAttrs_list PySem.F.slot_list_append PySem.F.type_list_append mt_append (pv 3) (pa_cons (de_var (pv 5) (by decide)) pa_nil))))) dss_nil))))
      (dss_one (ds_ret (f2e (dx_callB relF_ok (cf_sorted hr.u200) (by rfl) T.z_sorted boot_sorted (dab_cons (e2b (de_var (pv 3) (by decide))) dab_nil)))))))
theorem ok__law_copy {n : Nat} (T : Txt K w mg fd) (IH : OkN P w K mg base fd n) : FnR P w K mg base (n + 1) (He.ga K "_law_copy") (fd 9) ["_law_worlds_here"] (spD K false 1 (runF 3 (b__law_copy))) := by
  refine fnD T.f__law_copy sc__law_copy rfl rfl fun cdv A outer s H E hr tk ps => ⟨[], ?_⟩
  have nd := sc__law_copy.nd
  exact (dss_one (ds_ret (f2e (df_lc (vs := [1, 2]) (is := [1, 2]) (pe_lc (own := [("_law_before", 1), ("_law_words_here", 2)]) rfl nd (dc_list (e2b (de_var (pv 0) (by decide)))) (blkOk_by (own := [("_law_before", 1), ("_law_words_here", 2)]) (N := N__law_copy) (sc := defScope (top 11)) (by decide +kernel)) (fun _ _ _ _ _ => (dg_tup (is := [1, 2]) (pg_two rfl (pgs_cons (pg_name (i := 1) nd rfl (by first | exact Or.inl rfl | exact Or.inr rfl)) (pgs_cons (pg_name (i := 2) nd rfl (by first | exact Or.inl rfl | exact Or.inr rfl)) pgs_nil))))) (fun _ _ _ _ _ => dts_nil) (fun _ _ _ _ _ => (de_tup (da_cons (de_var (pv 1) (by decide)) (da_cons (f2e (dx_callTy relF_ok cf_list (by rfl) T.z_list boot_list (dab_cons (e2b (de_var (pv 2) (by decide))) dab_nil))) da_nil)))))))))
theorem ok__law_within {n : Nat} (T : Txt K w mg fd) (IH : OkN P w K mg base fd n) : FnR P w K mg base (n + 1) (He.ga K "_law_within") (fd 10) ["_law_statement_here"] (spD K false 1 (runF 3 (b__law_within))) := by
  refine fnD T.f__law_within sc__law_within rfl rfl fun cdv A outer s H E hr tk ps => ⟨[], ?_⟩
  have nd := sc__law_within.nd
  exact (dss_cons (O1 := [1]) (ds_setF (O' := [1]) (ps_set (i := 1) nd rfl (Or.inl rfl) (df_lst (da_cons (de_var (pv 0) (by decide)) da_nil))))
      (dss_cons (O1 := [1]) (ds_set (ps_set (i := 2) nd rfl (Or.inl rfl) (de_cst pe_int rfl)))
      (dss_cons (O1 := []) (ds_end (O' := [1]) (O2 := []) (ds_while 1000000000 ps (dt_cmp od_lt (e2b (de_var (pv 2) (by decide))) (e2b (dx_callB relE_ok cd_len (by rfl) T.z_len boot_len (dab_cons (db_var (pv 1)) dab_nil)))) (dss_cons (O1 := [1]) (ds_if (dt_cmp (od_eq hr.u1000) (e2b (dx_callB relE_ok cd_len (by rfl) T.z_len boot_len (dab_cons (e2b (de_ix (db_var (pv 1)) (e2b (de_var (pv 2) (by decide))))) dab_nil))) (e2b (de_cst pe_int rfl))) (dss_cons (O1 := [1]) (ds_app (ps_expr (pe_bm PySem.F.plainAttrs_list PySem.F.slot_list_append PySem.F.type_list_append mt_append (pv 1) (pa_cons (de_ix (e2b (de_ix (db_var (pv 1)) (e2b (de_var (pv 2) (by decide))))) (e2b (de_cst pe_int rfl))) pa_nil))))
      (dss_one (ds_app (ps_expr (pe_bm PySem.F.plainAttrs_list PySem.F.slot_list_append PySem.F.type_list_append mt_append (pv 1) (pa_cons (de_ix (e2b (de_ix (db_var (pv 1)) (e2b (de_var (pv 2) (by decide))))) (e2b (de_cst pe_int rfl))) pa_nil)))))) dss_nil)
      (dss_one (ds_aug (ps_aug (i := 2) nd rfl (Or.inl rfl) (de_cst pe_int rfl) ip_add))))))
      (dss_one (ds_ret (de_var (pv 1) (by decide)))))))
theorem ok__law_later {n : Nat} (T : Txt K w mg fd) (IH : OkN P w K mg base fd n) : FnR P w K mg base (n + 1) (He.ga K "_law_later") (fd 11) ["_law_worlds_here", "_law_world"] (spD K false 2 (runF 4 (b__law_later))) := by
  refine fnD T.f__law_later sc__law_later rfl rfl fun cdv A outer s H E hr tk ps => ⟨[], ?_⟩
  have nd := sc__law_later.nd
  exact (dss_cons (O1 := [2]) (ds_setF (O' := [2]) (ps_set (i := 2) nd rfl (Or.inl rfl) (df_lst (da_cons (de_var (pv 1) (by decide)) da_nil))))
      (dss_cons (O1 := []) (ds_end (O' := [2]) (O2 := []) (ds_for ps rfl (dx_range2 (by rfl) T.z_range (dab_cons (e2b (de_op od_add (e2b (de_var (pv 1) (by decide))) (e2b (de_cst pe_int rfl)))) (dab_cons (e2b (dx_callB relE_ok cd_len (by rfl) T.z_len boot_len (dab_cons (e2b (de_var (pv 0) (by decide))) dab_nil))) dab_nil)) (fun _ h => pi_range2 (by rfl) T.z_range h)) (dg_name (pg_name (i := 3) nd rfl (by first | exact Or.inl rfl | exact Or.inr rfl))) (dss_one (ds_if (dt_cmp (od_in hr.u65) (e2b (de_ix (e2b (de_ix (e2b (de_var (pv 0) (by decide))) (e2b (de_var (pv 3) (by decide))))) (e2b (de_cst pe_int rfl)))) (db_var (pv 2))) (dss_one (ds_app (ps_expr (pe_bm PySem.F.plainAttrs_list PySem.F.slot_list_append PySem.F.type_list_append mt_append (pv 2) (pa_cons (de_var (pv 3) (by decide)) pa_nil))))) dss_nil))))
      (dss_one (ds_ret (de_var (pv 2) (by decide))))))
theorem ok__law_truths {n : Nat} (T : Txt K w mg fd) (IH : OkN P w K mg base fd n) : FnR P w K mg base (n + 1) (He.ga K "_law_truths") (fd 12) ["_law_found", "_law_size"] (spD K false 2 (runF 3 (b__law_truths))) := by
  refine fnD T.f__law_truths sc__law_truths rfl rfl fun cdv A outer s H E hr tk ps => ⟨[], ?_⟩
  have nd := sc__law_truths.nd
  exact (dss_cons (O1 := []) (ds_if (w2t (dw_or (dt_not (dt_val (e2b (de_isi kit_list (fun _ h => pe_callB call_isi (by rfl) T.z_isinstance boot_isinstance h) (e2b (de_var (pv 0) (by decide))) (pe_bltn (by rfl) T.z_list boot_list rfl))))) (dw_or1 (dt_cmp (od_ne hr.u1000) (e2b (dx_callB relE_ok cd_len (by rfl) T.z_len boot_len (dab_cons (e2b (de_var (pv 0) (by decide))) dab_nil))) (e2b (de_var (pv 1) (by decide))))))) (dss_one (ds_ret (de_cst pe_bl rfl))) dss_nil)
      (dss_one (ds_ret (de_cmp (od_eq hr.u1000) (f2b (df_lc (vs := [2]) (is := [2]) (pe_lc (own := [("_law_truth", 2)]) rfl nd (dc_list (e2b (de_var (pv 0) (by decide)))) (blkOk_by (own := [("_law_truth", 2)]) (N := N__law_truths) (sc := defScope (top 14)) (by decide +kernel)) (fun _ _ _ _ _ => (dg_name (pg_name (i := 2) nd rfl (by first | exact Or.inl rfl | exact Or.inr rfl)))) (fun _ _ _ _ _ => (dts_one (dt_not (dt_val (e2b (de_isi kit_bool (fun _ h => pe_callB call_isi (by rfl) T.z_isinstance boot_isinstance h) (e2b (de_var (pv 2) (by decide))) (pe_bltn (by rfl) T.z_bool boot_bool rfl))))))) (fun _ _ _ _ _ => (de_var (pv 2) (by decide)))))) (f2b (df_lst da_nil))))))
theorem ok__law_if {n : Nat} (T : Txt K w mg fd) (IH : OkN P w K mg base fd n) : FnR P w K mg base (n + 1) (He.ga K "_law_if") (fd 13) ["_law_worlds_here", "_law_ones", "_law_others", "_law_world"] (spD K false 4 (runF 5 (b__law_if (den n 11)))) := by
  refine fnD T.f__law_if sc__law_if rfl rfl fun cdv A outer s H E hr tk ps => ⟨[], ?_⟩
  have nd := sc__law_if.nd
  exact (dss_cons (O1 := []) (ds_for ps rfl (di_list (de_call IH.h__law_later hr (by rfl) T.g__law_later T.k__law_later T.b__law_later tk (da_cons (de_var (pv 0) (by decide)) (da_cons (de_var (pv 3) (by decide)) da_nil)))) (dg_name (pg_name (i := 4) nd rfl (by first | exact Or.inl rfl | exact Or.inr rfl))) (dss_one (ds_if (w2t (dw_and (dt_val (e2b (de_ix (e2b (de_var (pv 1) (by decide))) (e2b (de_var (pv 4) (by decide)))))) (dw_and1 (dt_not (dt_val (e2b (de_ix (e2b (de_var (pv 2) (by decide))) (e2b (de_var (pv 4) (by decide)))))))))) (dss_one (ds_ret (de_cst pe_bl rfl))) dss_nil)))
      (dss_one (ds_ret (de_cst pe_bl rfl))))
theorem ok__law_holds {n : Nat} (T : Txt K w mg fd) (IH : OkN P w K mg base fd n) : FnR P w K mg base (n + 1) (He.ga K "_law_holds") (fd 14) ["_law_worlds_here", "_law_statement_here", "_law_found", "_law_inner", "_law_world"] (spD K false 5 (runF 5 (b__law_holds_v3 (den n 13)))) := by
  refine fnD T.f__law_holds sc__law_holds rfl rfl fun cdv A outer s H E hr tk ps => ⟨[], ?_⟩
  have nd := sc__law_holds.nd
  exact (dss_cons (O1 := []) (ds_if (dt_cmp (od_eq hr.u1000) (e2b (de_ix (e2b (de_var (pv 1) (by decide))) (e2b (de_cst pe_int rfl)))) (e2b (de_cst pe_str rfl))) (dss_one (ds_ret (de_not (e2b (de_ix (e2b (de_var (pv 2) (by decide))) (e2b (de_var (pv 4) (by decide)))))))) dss_nil)
      (dss_cons (O1 := []) (ds_if (dt_cmp (od_eq hr.u1000) (e2b (de_ix (e2b (de_var (pv 1) (by decide))) (e2b (de_cst pe_int rfl)))) (e2b (de_cst pe_str rfl))) (dss_one (ds_ret (de_cmp (od_eq hr.u1000) (e2b (de_ix (e2b (de_var (pv 2) (by decide))) (e2b (de_var (pv 4) (by decide))))) (e2b (de_cmp (od_in hr.u65) (e2b (de_ix (e2b (de_var (pv 1) (by decide))) (e2b (de_cst pe_int rfl)))) (e2b (de_ix (e2b (de_ix (e2b (de_var (pv 0) (by decide))) (e2b (de_var (pv 4) (by decide))))) (e2b (de_cst pe_int rfl))))))))) dss_nil)
      (dss_cons (O1 := []) (ds_if (dt_cmp (od_eq hr.u1000) (e2b (de_ix (e2b (de_var (pv 1) (by decide))) (e2b (de_cst pe_int rfl)))) (e2b (de_cst pe_str rfl))) (dss_one (ds_ret (de_cmp (od_eq hr.u1000) (e2b (de_ix (e2b (de_var (pv 2) (by decide))) (e2b (de_var (pv 4) (by decide))))) (e2b (de_and (e2b (de_ix (e2b (de_ix (e2b (de_var (pv 3) (by decide))) (e2b (de_cst pe_int rfl)))) (e2b (de_var (pv 4) (by decide))))) (de_one (de_ix (e2b (de_ix (e2b (de_var (pv 3) (by decide))) (e2b (de_cst pe_int rfl)))) (e2b (de_var (pv 4) (by decide)))))))))) dss_nil)
      (dss_cons (O1 := []) (ds_if (dt_cmp (od_eq hr.u1000) (e2b (de_ix (e2b (de_var (pv 1) (by decide))) (e2b (de_cst pe_int rfl)))) (e2b (de_cst pe_str rfl))) (dss_one (ds_ret (de_cmp (od_eq hr.u1000) (e2b (de_ix (e2b (de_var (pv 2) (by decide))) (e2b (de_var (pv 4) (by decide))))) (e2b (de_or (e2b (de_ix (e2b (de_ix (e2b (de_var (pv 3) (by decide))) (e2b (de_cst pe_int rfl)))) (e2b (de_var (pv 4) (by decide))))) (de_one (de_ix (e2b (de_ix (e2b (de_var (pv 3) (by decide))) (e2b (de_cst pe_int rfl)))) (e2b (de_var (pv 4) (by decide)))))))))) dss_nil)
      (dss_one (ds_ret (de_cmp (od_eq hr.u1000) (e2b (de_ix (e2b (de_var (pv 2) (by decide))) (e2b (de_var (pv 4) (by decide))))) (e2b (de_call IH.h__law_if hr (by rfl) T.g__law_if T.k__law_if T.b__law_if tk (da_cons (de_var (pv 0) (by decide)) (da_cons (de_ix (e2b (de_var (pv 3) (by decide))) (e2b (de_cst pe_int rfl))) (da_cons (de_ix (e2b (de_var (pv 3) (by decide))) (e2b (de_cst pe_int rfl))) (da_cons (de_var (pv 4) (by decide)) da_nil)))))))))))))
theorem ok_law {n : Nat} (T : Txt K w mg fd) (IH : OkN P w K mg base fd n) : FnR P w K mg base (n + 1) (He.ga K "law") (fd 15) ["_law_script"] (spq K 1 (rnq 13 (b_law_k13 (den n 3) (den n 4) (den n 7) (den n 2) (den n 6) (den n 9) (den n 10) (den n 1) (den n 12) (den n 14)))) := by
  refine fnq T.f_law sc_law rfl rfl fun cdv A outer s H E hr tk ps => ?_
  have nd := sc_law.nd
  exact (dqs_cons (dq_set (ps_set (i := 1) nd rfl (Or.inl rfl) (dy_lo (de_call IH.h__law_words hr (by rfl) T.g__law_words T.k__law_words T.b__law_words tk (da_cons (de_call IH.h__law_cell hr (by rfl) T.g__law_cell T.k__law_cell T.b__law_cell tk (da_cons (de_var (pv 0) (by decide)) (da_cons (de_cst pe_int rfl) da_nil))) (da_cons (de_op od_add (e2b (de_cst pe_int rfl)) (e2b (de_op od_mod (e2b (de_call IH.h__law_cell hr (by rfl) T.g__law_cell T.k__law_cell T.b__law_cell tk (da_cons (de_var (pv 0) (by decide)) (da_cons (de_cst pe_int rfl) da_nil)))) (e2b (de_cst pe_int rfl))))) da_nil))))))
      (dqs_cons (dq_set (ps_set (i := 2) nd rfl (Or.inl rfl) (dy_lo (de_call IH.h__law_worlds hr (by rfl) T.g__law_worlds T.k__law_worlds T.b__law_worlds tk (da_cons (de_var (pv 0) (by decide)) (da_cons (de_cst pe_int rfl) (da_cons (de_cst pe_int rfl) (da_cons (de_var (pv 1) (by decide)) da_nil))))))))
      (dqs_cons (dq_set (ps_set (i := 3) nd rfl (Or.inl rfl) (dy_lo (de_call IH.h__law_statement hr (by rfl) T.g__law_statement T.k__law_statement T.b__law_statement tk (da_cons (de_call IH.h__law_mix hr (by rfl) T.g__law_mix T.k__law_mix T.b__law_mix tk (da_cons (de_call IH.h__law_cell hr (by rfl) T.g__law_cell T.k__law_cell T.b__law_cell tk (da_cons (de_var (pv 0) (by decide)) (da_cons (de_cst pe_int rfl) da_nil))) (da_cons (de_cst pe_int rfl) da_nil))) (da_cons (de_op od_add (e2b (de_cst pe_int rfl)) (e2b (de_op od_mod (e2b (de_op od_fdiv (e2b (de_call IH.h__law_cell hr (by rfl) T.g__law_cell T.k__law_cell T.b__law_cell tk (da_cons (de_var (pv 0) (by decide)) (da_cons (de_cst pe_int rfl) da_nil)))) (e2b (de_cst pe_int rfl)))) (e2b (de_cst pe_int rfl))))) (da_cons (de_var (pv 1) (by decide)) da_nil)))))))
      (dqs_cons (dq_set (ps_set (i := 4) nd rfl (Or.inl rfl) (dy_lo (de_call IH.h__law_copy hr (by rfl) T.g__law_copy T.k__law_copy T.b__law_copy tk (da_cons (de_var (pv 2) (by decide)) da_nil)))))
      (dqs_cons (dq_set (ps_set (i := 5) nd rfl (Or.inr rfl) (dy_lst dys_nil)))
      (dqs_cons (dq_set (ps_set (i := 6) nd rfl (Or.inr rfl) (dy_lo (de_call IH.h__law_within hr (by rfl) T.g__law_within T.k__law_within T.b__law_within tk (da_cons (de_var (pv 3) (by decide)) da_nil)))))
      (dqs_cons (dq_for ps rfl (di_lo (di_list (de_var (pv 6) (by decide)))) (dgq_name (pg_name (i := 7) nd rfl (by first | exact Or.inl rfl | exact Or.inr rfl))) (dqs_cons (dq_set (ps_set (i := 8) nd rfl (Or.inl rfl) (dy_nw (df_call IH.h_known hr (by rfl) T.g_known T.k_known T.b_known tk (da_cons (de_var (pv 4) (by decide)) (da_cons (de_var (pv 7) (by decide)) da_nil))))))
      (dqs_cons (dq_if (dz_of (dt_not (dt_val (e2b (de_call IH.h__law_truths hr (by rfl) T.g__law_truths T.k__law_truths T.b__law_truths tk (da_cons (de_var (pv 8) (by decide)) (da_cons (dx_callB relE_ok cd_len (by rfl) T.z_len boot_len (dab_cons (e2b (de_var (pv 2) (by decide))) dab_nil)) da_nil))))))) (dqs_one (dq_ret (dy_lo (de_cst pe_bl rfl)))) dqs_nil)
      (dqs_one (dq_app (ps_expr (pe_bm PySem.F.plainAttrs_list PySem.F.slot_list_append PySem.F.type_list_append mt_append (dy_var (pv 5)) (pa_cons (dy_var (pv 8)) pa_nil))))))))
      (dqs_cons (dq_for ps rfl (di_zp (dys_cons (dy_var (pv 6)) (dys_cons (dy_var (pv 5)) dys_nil)) (fun _ h => pi_zip (by rfl) T.z_zip h)) (dgq_tup (is := [7, 8]) (pg_two rfl (pgs_cons (pg_name (i := 7) nd rfl (by first | exact Or.inl rfl | exact Or.inr rfl)) (pgs_cons (pg_name (i := 8) nd rfl (by first | exact Or.inl rfl | exact Or.inr rfl)) pgs_nil)))) (dqs_cons (dq_set (ay_al (asg_f2e (lc_asg (vs := [10]) (is := [10]) (ps_setLc (i := 9) (own := [("_law_part", 10)]) rfl nd rfl rfl (sw_true rfl rfl rfl (by decide +kernel)) (dc_tup (e2b (de_slc (e2b (de_var (pv 7) (by decide))) (do_some (e2b (de_cst pe_int rfl))) do_none))) (blkOk_by (own := [("_law_part", 10)]) (N := N_law) (sc := defScope (top 17)) (by decide +kernel)) (fun _ _ _ _ _ => (dg_name (pg_name (i := 10) nd rfl (by first | exact Or.inl rfl | exact Or.inr rfl)))) (fun _ _ _ _ _ => (dts_one (dt_cmp (od_eq hr.u1000) (e2b (dx_callB relE_ok cd_len (by rfl) T.z_len boot_len (dab_cons (e2b (de_var (pv 7) (by decide))) dab_nil))) (e2b (de_cst pe_int rfl))))) (fun _ _ _ _ _ => (de_ix (e2b (de_var (pv 5) (by decide))) (e2b (de_idx hr.u65 (e2b (de_var (pv 6) (by decide))) (e2b (de_var (pv 10) (by decide))))))))))))
      (dqs_one (dq_for ps rfl (di_rg (dx_range1 (by rfl) T.z_range (dab_cons (e2b (dx_callB relE_ok cd_len (by rfl) T.z_len boot_len (dab_cons (e2b (de_var (pv 2) (by decide))) dab_nil))) dab_nil) (fun _ h => pi_range1 (by rfl) T.z_range h))) (dgq_name (pg_name (i := 11) nd rfl (by first | exact Or.inl rfl | exact Or.inr rfl))) (dqs_one (dq_if (dz_of (dt_not (dt_val (e2b (de_call IH.h__law_holds hr (by rfl) T.g__law_holds T.k__law_holds T.b__law_holds tk (da_cons (de_var (pv 2) (by decide)) (da_cons (de_var (pv 7) (by decide)) (da_cons (de_var (pv 8) (by decide)) (da_cons (de_var (pv 9) (by decide)) (da_cons (de_var (pv 11) (by decide)) da_nil)))))))))) (dqs_one (dq_ret (dy_lo (de_cst pe_bl rfl)))) dqs_nil))))))
      (dqs_cons (dq_set (ps_set (i := 12) nd rfl (Or.inl rfl) (dy_nf (dx_callTy relF_ok cf_list (by rfl) T.z_list boot_list (dab_cons (e2b (de_ix (e2b (de_var (pv 5) (by decide))) (e2b (de_cst pe_int rfl)))) dab_nil)))))
      (dqs_cons (dq_app (ps_expr (pe_bm PySem.F.plainAttrs_list PySem.F.slot_list_append PySem.F.type_list_append mt_append (dy_ix (dy_var (pv 5)) (e2b (de_cst pe_int rfl))) (pa_cons (dy_lo (de_cst pe_bl rfl)) pa_nil))))
      (dqs_one (dq_ret (dy_fl (de_and (e2b (de_cmp (od_eq hr.u1000) (f2b (df_call IH.h_known hr (by rfl) T.g_known T.k_known T.b_known tk (da_cons (de_var (pv 4) (by decide)) (da_cons (de_var (pv 3) (by decide)) da_nil)))) (e2b (de_var (pv 12) (by decide))))) (de_one (de_cmp (od_eq hr.u1000) (e2b (de_var (pv 4) (by decide))) (e2b (de_var (pv 2) (by decide)))))))))))))))))))
theorem sound (T : Txt K w mg fd) : ∀ n, OkN P w K mg base fd n
  | 0 => ⟨fn0, fn0, fn0, fn0, fn0, fn0, fn0, fn0, fn0, fn0, fn0, fn0, fn0, fn0, fn0, fnq0⟩
  | n + 1 =>
    have IH := sound T n
    ⟨ok_lacking T IH, ok_known T IH, ok__law_mix T IH, ok__law_cell T IH, ok__law_words T IH, ok__law_leaf T IH, ok__law_statement T IH, ok__law_worlds T IH, ok__law_some T IH, ok__law_copy T IH, ok__law_within T IH, ok__law_later T IH, ok__law_truths T IH, ok__law_if T IH, ok__law_holds T IH, ok_law T IH⟩
end
/-! ### the head -/
def d_lacking : He.DefD := ⟨("lacking", none), "lacking", "lacking", defArgs (top 1), defBody (top 1), defScope (top 1), [], []⟩
def d_known : He.DefD := ⟨("known", none), "known", "known", defArgs (top 2), defBody (top 2), defScope (top 2), [], []⟩
def d__law_mix : He.DefD := ⟨("_law_mix", none), "_law_mix", "_law_mix", defArgs (top 4), defBody (top 4), defScope (top 4), [], []⟩
def d__law_cell : He.DefD := ⟨("_law_cell", none), "_law_cell", "_law_cell", defArgs (top 5), defBody (top 5), defScope (top 5), [], []⟩
def d__law_words : He.DefD := ⟨("_law_words", none), "_law_words", "_law_words", defArgs (top 6), defBody (top 6), defScope (top 6), [], []⟩
def d__law_leaf : He.DefD := ⟨("_law_leaf", none), "_law_leaf", "_law_leaf", defArgs (top 7), defBody (top 7), defScope (top 7), [], []⟩
def d__law_statement : He.DefD := ⟨("_law_statement", none), "_law_statement", "_law_statement", defArgs (top 8), defBody (top 8), defScope (top 8), [], []⟩
def d__law_worlds : He.DefD := ⟨("_law_worlds", none), "_law_worlds", "_law_worlds", defArgs (top 9), defBody (top 9), defScope (top 9), [], []⟩
def d__law_some : He.DefD := ⟨("_law_some", none), "_law_some", "_law_some", defArgs (top 10), defBody (top 10), defScope (top 10), [], []⟩
def d__law_copy : He.DefD := ⟨("_law_copy", none), "_law_copy", "_law_copy", defArgs (top 11), defBody (top 11), defScope (top 11), [], []⟩
def d__law_within : He.DefD := ⟨("_law_within", none), "_law_within", "_law_within", defArgs (top 12), defBody (top 12), defScope (top 12), [], []⟩
def d__law_later : He.DefD := ⟨("_law_later", none), "_law_later", "_law_later", defArgs (top 13), defBody (top 13), defScope (top 13), [], []⟩
def d__law_truths : He.DefD := ⟨("_law_truths", none), "_law_truths", "_law_truths", defArgs (top 14), defBody (top 14), defScope (top 14), [], []⟩
def d__law_if : He.DefD := ⟨("_law_if", none), "_law_if", "_law_if", defArgs (top 15), defBody (top 15), defScope (top 15), [], []⟩
def d__law_holds : He.DefD := ⟨("_law_holds", none), "_law_holds", "_law_holds", defArgs (top 16), defBody (top 16), defScope (top 16), [], []⟩
def d_law : He.DefD := ⟨("law", none), "law", "law", defArgs (top 17), defBody (top 17), defScope (top 17), [], []⟩
def fn : List He.DefD := [d_lacking, d_known, d__law_mix, d__law_cell, d__law_words, d__law_leaf, d__law_statement, d__law_worlds, d__law_some, d__law_copy, d__law_within, d__law_later, d__law_truths, d__law_if, d__law_holds, d_law]
def fa : List He.Fa := [.glo "lacking", .glo "known", .glo "_law_mix", .glo "_law_cell", .glo "_law_words", .glo "_law_leaf", .glo "_law_statement", .glo "_law_worlds", .glo "_law_some", .glo "_law_copy", .glo "_law_within", .glo "_law_later", .glo "_law_truths", .glo "_law_if", .glo "_law_holds", .glo "law", .free "bool", .free "enumerate", .free "isinstance", .free "len", .free "list", .free "max", .free "range", .free "sorted", .free "zip"]
abbrev ts : List He.Tab := []
def exB (K : PySem.W.Frag) : Bool := (K.all fun q => !decide (q.2.cls = .type "list"))
abbrev RR : PySem.W.OpenRow := PySem.W.OpenLaw.row PySem.Challenge.rw_ken_k13_known
abbrev hk : PySem.W.Hook := He.hookX 4 fa fn ts [] exB
def ob (s : PySem.W.SharedT) : He.AlX := He.obsX 4 fa fn ts [] exB (HandSHeadRun.getT s)
theorem ob_eq (s : PySem.W.SharedT) : ob s = hk.obs s.abs := He.obsX_eq (HandSHeadRun.getT_eq s)
def loose0 : List Str := ["lacking", "known", "_law_mix", "_law_cell", "_law_words", "_law_leaf", "_law_statement", "_law_worlds", "_law_some", "_law_copy", "_law_within", "_law_later", "_law_truths", "_law_if", "_law_holds"]
theorem run (w : World) : HandSHeadRun.RunEq RR (PySem.W.view RR.prog [17]) hk ob 4000 (loose0) w := by
  intro os
  kernel_rfl
theorem noList {K : PySem.W.Frag} (h : exB K = true) {a : Addr} {o : Obj} (e : K.lookup a = some o) : o.cls ≠ .type "list" := by
  have h2 : (K.all fun q => !decide (q.2.cls = .type "list")) = true := by
    unfold exB at h
    skip
    exact h
  have m := He.lookup_mem e
  have := List.all_eq_true.mp h2 _ m
  simpa using this
theorem facts {w : World} {K : PySem.W.Frag} {h : Heap} {mg : Str → Option Value} (X : K.In h) (G : h.Ns mainGlobals mg) (c : He.SaysX fa fn ts [] exB w h K) : ∃ fd, Txt K w mg fd := by
  have cd := c.t.d
  obtain ⟨fd0, F0⟩ := cd.def_ 0 (d := d_lacking) rfl
  obtain ⟨fd1, F1⟩ := cd.def_ 1 (d := d_known) rfl
  obtain ⟨fd2, F2⟩ := cd.def_ 2 (d := d__law_mix) rfl
  obtain ⟨fd3, F3⟩ := cd.def_ 3 (d := d__law_cell) rfl
  obtain ⟨fd4, F4⟩ := cd.def_ 4 (d := d__law_words) rfl
  obtain ⟨fd5, F5⟩ := cd.def_ 5 (d := d__law_leaf) rfl
  obtain ⟨fd6, F6⟩ := cd.def_ 6 (d := d__law_statement) rfl
  obtain ⟨fd7, F7⟩ := cd.def_ 7 (d := d__law_worlds) rfl
  obtain ⟨fd8, F8⟩ := cd.def_ 8 (d := d__law_some) rfl
  obtain ⟨fd9, F9⟩ := cd.def_ 9 (d := d__law_copy) rfl
  obtain ⟨fd10, F10⟩ := cd.def_ 10 (d := d__law_within) rfl
  obtain ⟨fd11, F11⟩ := cd.def_ 11 (d := d__law_later) rfl
  obtain ⟨fd12, F12⟩ := cd.def_ 12 (d := d__law_truths) rfl
  obtain ⟨fd13, F13⟩ := cd.def_ 13 (d := d__law_if) rfl
  obtain ⟨fd14, F14⟩ := cd.def_ 14 (d := d__law_holds) rfl
  obtain ⟨fd15, F15⟩ := cd.def_ 15 (d := d_law) rfl
  refine ⟨fun k => match k with
    | 0 => fd0
    | 1 => fd1
    | 2 => fd2
    | 3 => fd3
    | 4 => fd4
    | 5 => fd5
    | 6 => fd6
    | 7 => fd7
    | 8 => fd8
    | 9 => fd9
    | 10 => fd10
    | 11 => fd11
    | 12 => fd12
    | 13 => fd13
    | 14 => fd14
    | 15 => fd15
    | _ => fd0, ?_⟩
  exact {
    f_lacking := F0,
    g_lacking := He.glo_ok X G (cd.fact 0 (f := .glo "lacking") rfl),
    k_lacking := F0.kp,
    b_lacking := F0.bindsN fun _ _ _ _ _ _ us hl => match us, hl with | [_, _, _], _ => rfl,
    f_known := F1,
    g_known := He.glo_ok X G (cd.fact 1 (f := .glo "known") rfl),
    k_known := F1.kp,
    b_known := F1.bindsN fun _ _ _ _ _ _ us hl => match us, hl with | [_, _], _ => rfl,
    f__law_mix := F2,
    g__law_mix := He.glo_ok X G (cd.fact 2 (f := .glo "_law_mix") rfl),
    k__law_mix := F2.kp,
    b__law_mix := F2.bindsN fun _ _ _ _ _ _ us hl => match us, hl with | [_, _], _ => rfl,
    f__law_cell := F3,
    g__law_cell := He.glo_ok X G (cd.fact 3 (f := .glo "_law_cell") rfl),
    k__law_cell := F3.kp,
    b__law_cell := F3.bindsN fun _ _ _ _ _ _ us hl => match us, hl with | [_, _], _ => rfl,
    f__law_words := F4,
    g__law_words := He.glo_ok X G (cd.fact 4 (f := .glo "_law_words") rfl),
    k__law_words := F4.kp,
    b__law_words := F4.bindsN fun _ _ _ _ _ _ us hl => match us, hl with | [_, _], _ => rfl,
    f__law_leaf := F5,
    g__law_leaf := He.glo_ok X G (cd.fact 5 (f := .glo "_law_leaf") rfl),
    k__law_leaf := F5.kp,
    b__law_leaf := F5.bindsN fun _ _ _ _ _ _ us hl => match us, hl with | [_, _], _ => rfl,
    f__law_statement := F6,
    g__law_statement := He.glo_ok X G (cd.fact 6 (f := .glo "_law_statement") rfl),
    k__law_statement := F6.kp,
    b__law_statement := F6.bindsN fun _ _ _ _ _ _ us hl => match us, hl with | [_, _, _], _ => rfl,
    f__law_worlds := F7,
    g__law_worlds := He.glo_ok X G (cd.fact 7 (f := .glo "_law_worlds") rfl),
    k__law_worlds := F7.kp,
    b__law_worlds := F7.bindsN fun _ _ _ _ _ _ us hl => match us, hl with | [_, _, _, _], _ => rfl,
    f__law_some := F8,
    g__law_some := He.glo_ok X G (cd.fact 8 (f := .glo "_law_some") rfl),
    k__law_some := F8.kp,
    b__law_some := F8.bindsN fun _ _ _ _ _ _ us hl => match us, hl with | [_, _, _], _ => rfl,
    f__law_copy := F9,
    g__law_copy := He.glo_ok X G (cd.fact 9 (f := .glo "_law_copy") rfl),
    k__law_copy := F9.kp,
    b__law_copy := F9.bindsN fun _ _ _ _ _ _ us hl => match us, hl with | [_], _ => rfl,
    f__law_within := F10,
    g__law_within := He.glo_ok X G (cd.fact 10 (f := .glo "_law_within") rfl),
    k__law_within := F10.kp,
    b__law_within := F10.bindsN fun _ _ _ _ _ _ us hl => match us, hl with | [_], _ => rfl,
    f__law_later := F11,
    g__law_later := He.glo_ok X G (cd.fact 11 (f := .glo "_law_later") rfl),
    k__law_later := F11.kp,
    b__law_later := F11.bindsN fun _ _ _ _ _ _ us hl => match us, hl with | [_, _], _ => rfl,
    f__law_truths := F12,
    g__law_truths := He.glo_ok X G (cd.fact 12 (f := .glo "_law_truths") rfl),
    k__law_truths := F12.kp,
    b__law_truths := F12.bindsN fun _ _ _ _ _ _ us hl => match us, hl with | [_, _], _ => rfl,
    f__law_if := F13,
    g__law_if := He.glo_ok X G (cd.fact 13 (f := .glo "_law_if") rfl),
    k__law_if := F13.kp,
    b__law_if := F13.bindsN fun _ _ _ _ _ _ us hl => match us, hl with | [_, _, _, _], _ => rfl,
    f__law_holds := F14,
    g__law_holds := He.glo_ok X G (cd.fact 14 (f := .glo "_law_holds") rfl),
    k__law_holds := F14.kp,
    b__law_holds := F14.bindsN fun _ _ _ _ _ _ us hl => match us, hl with | [_, _, _, _, _], _ => rfl,
    f_law := F15,
    g_law := He.glo_ok X G (cd.fact 15 (f := .glo "law") rfl),
    k_law := F15.kp,
    b_law := F15.bindsN fun _ _ _ _ _ _ us hl => match us, hl with | [_], _ => rfl,
    z_bool := He.free_ok X G (cd.fact 16 (f := .free "bool") rfl),
    z_enumerate := He.free_ok X G (cd.fact 17 (f := .free "enumerate") rfl),
    z_isinstance := He.free_ok X G (cd.fact 18 (f := .free "isinstance") rfl),
    z_len := He.free_ok X G (cd.fact 19 (f := .free "len") rfl),
    z_list := He.free_ok X G (cd.fact 20 (f := .free "list") rfl),
    z_max := He.free_ok X G (cd.fact 21 (f := .free "max") rfl),
    z_range := He.free_ok X G (cd.fact 22 (f := .free "range") rfl),
    z_sorted := He.free_ok X G (cd.fact 23 (f := .free "sorted") rfl),
    z_zip := He.free_ok X G (cd.fact 24 (f := .free "zip") rfl) }
end K_ken_k13_known
open PySem PySem.W PySem.Calls PyProof.Rows
theorem K_ken_k13_known.holds_of (hl : ∀ ns : List Int, ns.length ≤ 63 → Dl.f21 (K_ken_k13_known.den2 650 15) [.list (ns.map .int)] = .ok (.bool true)) : PySem.Challenge.rw_ken_k13_known.Holds := by
  w_on; o_law
  refine HandSHeadRun.head_any (r := OpenLaw.row PySem.Challenge.rw_ken_k13_known) (q := view (OpenLaw.row PySem.Challenge.rw_ken_k13_known).prog [17]) (H := K_ken_k13_known.hk) (ob := K_ken_k13_known.ob) (M := 4000) (loose := K_ken_k13_known.loose0) (d := HandSHeadRun.topDef (OpenLaw.row PySem.Challenge.rw_ken_k13_known).prog 17) (kwd := []) K_ken_k13_known.ob_eq
    (by kernel_rfl) (fun s => by kernel_rfl) K_ken_k13_known.run (by kernel_rfl) (by kernel_rfl) (by kernel_rfl) (by rfl) (by first | assumption | decide +kernel) (by decide +kernel) ⟨rfl, rfl, rfl, rfl, rfl, by decide +kernel⟩ ?hw ?hc
  case hw => w_witness2
  case hc =>
    refine Dl.walk_D (l := PySem.Challenge.rw_ken_k13_known) (n := 63) (x := "_law_script") (G := Dl.f21 (K_ken_k13_known.den2 650 15)) rfl (by decide) (by kernel_rfl) hl ?F
    intro w mg fa h Y G hmg0
    obtain ⟨K, KX, c⟩ := Y
    have hmg : mg ("law" : PySem.Str) = some (.ref fa) := by
      have e : (HandSHeadRun.topDef (OpenLaw.row PySem.Challenge.rw_ken_k13_known).prog 17).name = ("law" : PySem.Str) := by kernel_rfl
      rw [← e]
      exact hmg0
    obtain ⟨fd, T⟩ := K_ken_k13_known.facts KX G c
    have e := hmg.symm.trans T.g_law
    cases e
    have b := L2.FunD.bindsA (ps := ["_law_script"]) T.f_law fun _ _ _ _ _ _ us hl => match us, hl with | [_], _ => rfl
    exact ⟨K, fd 15, KX, fun s v => b s [v] rfl, fun a o e => K_ken_k13_known.noList c.more e, fun base _ _ => Dl.fn21 ((K_ken_k13_known.sound (P := (PySem.Challenge.rw_ken_k13_known).prog) (w := w) T 650).h_law)⟩

theorem PySem.Challenge.cw_ken_k13_known_holds : PySem.Challenge.rw_ken_k13_known.Holds := by
  exact K_ken_k13_known.holds_of K_ken_k13_known.law_true
