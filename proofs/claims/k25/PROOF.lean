import PyProof.Rows.All
import Wide.All
import OpenK.AllK
import Wide.FinOn
import HandS.ForMost
import HandS.Deep
import HandS.TupAny
import HandS.Zip
import HandS.Rev
import HandS.IsInst
import HandS.Conv
import HandS.Gcd
import HandS.Style
import HandS.Small
import HandS.More
import HandS.TupLen
import HandS.Flt
import HandS.RevTup
import KE.KMathG
import HandS.Wide
import KE.DataCmp
import KE.SortData
import KE.KDictCopyH
import PySem.Challenge.RW_fewlifts_k25_bounds
set_option Elab.async false
set_option linter.all false
set_option maxRecDepth 100000
set_option maxHeartbeats 4000000
/-! Plain data (D), mutable things (MO) by address, what stands for them in the layer's heap (Rep, RelM), what is kept (Kp). -/
namespace Vc
open PySem PySem.Spec PyProof.Rows L2
/-- a datum: lst, tup, dct are never changed any more; ref: a thing that may still be changed -/
inductive D where
  | non | bl (b : Bool) | int (i : Int) | str (x : Str) | lst (xs : List D) | tup (xs : List D) | ktp (xs : List D) | klst (xs : List D) | dct (t : Bool) (kvs : List (D × D)) | ref (a : Addr)
inductive MO where
  | lst (xs : List D) | dct (t : Bool) (kvs : List (D × D)) | ins (C : Str) (fs : List (Str × D))
abbrev Mp := Addr → Option MO
def mu (M : Mp) (a : Addr) (o : MO) : Mp := fun b => if b = a then some o else M b
def mdel (M : Mp) (a : Addr) : Mp := fun b => if b = a then none else M b
theorem mu_same {M : Mp} {a : Addr} {o : MO} : mu M a o a = some o := if_pos rfl
theorem mu_ne {M : Mp} {a b : Addr} {o : MO} (h : b ≠ a) : mu M a o b = M b := if_neg h
theorem mu_mu {M : Mp} {a : Addr} {o u : MO} : mu (mu M a o) a u = mu M a u := by
  funext b; unfold mu; split <;> rfl
theorem mu_none {M : Mp} {a b : Addr} {o : MO} : mu M a o b = none ↔ b ≠ a ∧ M b = none := by
  unfold mu; split <;> simp_all
theorem mdel_same {M : Mp} {a : Addr} : mdel M a a = none := if_pos rfl
theorem mdel_ne {M : Mp} {a b : Addr} (h : b ≠ a) : mdel M a b = M b := if_neg h
theorem mdel_mu {M : Mp} {a : Addr} {o : MO} (h : M a = none) : mdel (mu M a o) a = M := by
  funext b; unfold mdel mu; split
  · next e => subst e; exact h.symm
  · rfl
/-- a key of a dict -/
def keyD : D → Option Key
  | .int i => some (.inl i)
  | .str x => some (.inr x)
  | _ => none
def keysD : List D → Option (List Key)
  | [] => some []
  | d :: ds => match keyD d, keysD ds with
    | some k, some ks => some (k :: ks)
    | _, _ => none
def tkeyD : D → Option (List Key)
  | .tup ds => keysD ds
  | _ => none
/-- the module's own objects, given once -/
class KF where
  K : PySem.W.Frag
variable [KF]
/-- a list, a tuple of the module's own -/
def KL (a : Addr) (vs : List V) : Prop := ∃ (o : Obj) (its : Array Value) (n : Nat), KF.K.lookup a = some o ∧ o.cls = .type "list" ∧ o.dict = none ∧ o.data = .seq its n ∧ its.size ≤ sizeLine ∧ Vals vs its.toList
def KT (a : Addr) (vs : List V) : Prop := ∃ (o : Obj) (its : Array Value) (n : Nat), KF.K.lookup a = some o ∧ o.cls = .type "tuple" ∧ o.data = .seq its n ∧ its.size ≤ sizeLine ∧ Vals vs its.toList
/-- where one stands has these objects -/
class XK (X : Cx) : Prop where
  e : X.K = KF.K
instance {X : Cx} [h : XK X] (s : Shared) (H : Hp) (sc : Scope) (env : Env) (fp : List Addr) : XK (X.blk s H sc env fp) := ⟨h.e⟩
mutual
def Rep (M : Mp) (H : Hp) : D → V → Prop
  | .non, v => v = .non
  | .bl b, v => v = .bl b
  | .int i, v => v = .int i
  | .str x, v => v = .str x
  | .ref a, v => v = .ref a
  | .lst xs, v => ∃ a vs, v = .ref a ∧ M a = none ∧ Rd H a (.lst vs) ∧ Reps M H xs vs
  | .klst xs, v => ∃ a vs, v = .ref a ∧ KL a vs ∧ Reps M H xs vs
  | .tup xs, v => ∃ a vs, v = .ref a ∧ M a = none ∧ H a = some (.tup vs) ∧ Reps M H xs vs
  | .ktp xs, v => ∃ a vs, v = .ref a ∧ KT a vs ∧ Reps M H xs vs
  | .dct false kvs, v => ∃ a l, v = .ref a ∧ M a = none ∧ Rd H a (.dK l) ∧ RepK M H kvs l
  | .dct true kvs, v => ∃ a l, v = .ref a ∧ M a = none ∧ Rd H a (.dT l) ∧ RepT M H kvs l
def Reps (M : Mp) (H : Hp) : List D → List V → Prop
  | [], vs => vs = []
  | d :: ds, vs => ∃ v r, vs = v :: r ∧ Rep M H d v ∧ Reps M H ds r
def RepK (M : Mp) (H : Hp) : List (D × D) → List (Key × V) → Prop
  | [], l => l = []
  | (k, d) :: r, l => ∃ q v t, l = (q, v) :: t ∧ keyD k = some q ∧ Rep M H d v ∧ RepK M H r t
def RepT (M : Mp) (H : Hp) : List (D × D) → List (List Key × V) → Prop
  | [], l => l = []
  | (k, d) :: r, l => ∃ q v t, l = (q, v) :: t ∧ tkeyD k = some q ∧ Rep M H d v ∧ RepT M H r t
end
def isDct : HO → Prop
  | .dK _ => True
  | .dT _ => True
  | _ => False
/-- all that is tracked and not to be changed is kept (a dict may be locked) -/
def Kp (M : Mp) (H : Hp) (M' : Mp) (H' : Hp) : Prop := ∀ a u, H a = some u → M a = none → (H' a = some u ∨ (isDct u ∧ ∃ o, H' a = some (.frz o u))) ∧ M' a = none
theorem Kp.refl {M : Mp} {H : Hp} : Kp M H M H := fun _ _ h n => ⟨.inl h, n⟩
theorem Kp.trans {M M1 M2 : Mp} {H H1 H2 : Hp} (a : Kp M H M1 H1) (b : Kp M1 H1 M2 H2) : Kp M H M2 H2 := fun c u h n => by
  obtain ⟨h1, n1⟩ := a c u h n
  rcases h1 with h1 | ⟨d, o, h1⟩
  · exact b c u h1 n1
  · obtain ⟨h2, n2⟩ := b c _ h1 n1
    rcases h2 with h2 | ⟨d2, _⟩
    · exact ⟨.inr ⟨d, o, h2⟩, n2⟩
    · exact d2.elim
theorem Kp.tup {M M' : Mp} {H H' : Hp} (k : Kp M H M' H') {a : Addr} {vs : List V} (h : H a = some (.tup vs)) (n : M a = none) : H' a = some (.tup vs) ∧ M' a = none := by
  obtain ⟨h1, n1⟩ := k a _ h n
  rcases h1 with h1 | ⟨d, _⟩
  · exact ⟨h1, n1⟩
  · exact d.elim
def MOk (M : Mp) (H : Hp) (a : Addr) : MO → Prop
  | .lst xs => ∃ vs, H a = some (.lst vs) ∧ Reps M H xs vs
  | .dct false kvs => ∃ l, H a = some (.dK l) ∧ RepK M H kvs l
  | .dct true kvs => ∃ l, H a = some (.dT l) ∧ RepT M H kvs l
  | .ins _ _ => False
def RelM (M : Mp) (H : Hp) : Prop := ∀ a o, M a = some o → MOk M H a o
section
variable {M M' : Mp} {H H' : Hp}
theorem Kp.rd (k : Kp M H M' H') {a : Addr} {u : HO} (n : M a = none) (h : Rd H a u) : Rd H' a u ∧ M' a = none := by
  rcases h with h | ⟨o, h⟩
  · obtain ⟨h1, n1⟩ := k _ _ h n
    rcases h1 with h1 | ⟨_, o, h1⟩
    · exact ⟨.inl h1, n1⟩
    · exact ⟨.inr ⟨o, h1⟩, n1⟩
  · obtain ⟨h1, n1⟩ := k _ _ h n
    rcases h1 with h1 | ⟨d, _⟩
    · exact ⟨.inr ⟨o, h1⟩, n1⟩
    · exact d.elim
mutual
theorem Rep.mono (k : Kp M H M' H') : ∀ (d : D) (v : V), Rep M H d v → Rep M' H' d v
  | .non, _, h => by simpa [Rep] using h
  | .bl _, _, h => by simpa [Rep] using h
  | .int _, _, h => by simpa [Rep] using h
  | .str _, _, h => by simpa [Rep] using h
  | .ref _, _, h => by simpa [Rep] using h
  | .lst xs, v, h => by
    rw [Rep] at h ⊢
    obtain ⟨a, vs, e, n, h1, h2⟩ := h
    exact ⟨a, vs, e, (k.rd n h1).2, (k.rd n h1).1, Reps.mono k xs vs h2⟩
  | .tup xs, v, h => by
    rw [Rep] at h ⊢
    obtain ⟨a, vs, e, n, h1, h2⟩ := h
    exact ⟨a, vs, e, (k.tup h1 n).2, (k.tup h1 n).1, Reps.mono k xs vs h2⟩
  | .klst xs, v, h => by
    rw [Rep] at h ⊢
    obtain ⟨a, vs, e, h1, h2⟩ := h
    exact ⟨a, vs, e, h1, Reps.mono k xs vs h2⟩
  | .ktp xs, v, h => by
    rw [Rep] at h ⊢
    obtain ⟨a, vs, e, h1, h2⟩ := h
    exact ⟨a, vs, e, h1, Reps.mono k xs vs h2⟩
  | .dct false kvs, v, h => by
    rw [Rep] at h ⊢
    obtain ⟨a, l, e, n, h1, h2⟩ := h
    exact ⟨a, l, e, (k.rd n h1).2, (k.rd n h1).1, RepK.mono k kvs l h2⟩
  | .dct true kvs, v, h => by
    rw [Rep] at h ⊢
    obtain ⟨a, l, e, n, h1, h2⟩ := h
    exact ⟨a, l, e, (k.rd n h1).2, (k.rd n h1).1, RepT.mono k kvs l h2⟩
theorem Reps.mono (k : Kp M H M' H') : ∀ (ds : List D) (vs : List V), Reps M H ds vs → Reps M' H' ds vs
  | [], _, h => by simpa [Reps] using h
  | d :: ds, vs, h => by
    rw [Reps] at h ⊢
    obtain ⟨v, r, e, h1, h2⟩ := h
    exact ⟨v, r, e, Rep.mono k d v h1, Reps.mono k ds r h2⟩
theorem RepK.mono (k : Kp M H M' H') : ∀ (ds : List (D × D)) (l : List (Key × V)), RepK M H ds l → RepK M' H' ds l
  | [], _, h => by simpa [RepK] using h
  | (x, d) :: ds, l, h => by
    rw [RepK] at h ⊢
    obtain ⟨q, v, t, e, h0, h1, h2⟩ := h
    exact ⟨q, v, t, e, h0, Rep.mono k d v h1, RepK.mono k ds t h2⟩
theorem RepT.mono (k : Kp M H M' H') : ∀ (ds : List (D × D)) (l : List (List Key × V)), RepT M H ds l → RepT M' H' ds l
  | [], _, h => by simpa [RepT] using h
  | (x, d) :: ds, l, h => by
    rw [RepT] at h ⊢
    obtain ⟨q, v, t, e, h0, h1, h2⟩ := h
    exact ⟨q, v, t, e, h0, Rep.mono k d v h1, RepT.mono k ds t h2⟩
end
theorem Reps.nil : Reps M H [] [] := by rw [Reps]
theorem Reps.cons {d : D} {ds : List D} {v : V} {vs : List V} (h : Rep M H d v) (t : Reps M H ds vs) : Reps M H (d :: ds) (v :: vs) := by
  rw [Reps]; exact ⟨v, vs, rfl, h, t⟩
theorem Reps.length : ∀ {ds : List D} {vs : List V}, Reps M H ds vs → ds.length = vs.length
  | [], _, h => by rw [Reps] at h; subst h; rfl
  | d :: ds, _, h => by
    rw [Reps] at h
    obtain ⟨v, r, rfl, _, h2⟩ := h
    simp [Reps.length h2]
theorem Reps.get : ∀ {ds : List D} {vs : List V} {i : Nat} {d : D}, Reps M H ds vs → ds[i]? = some d → ∃ v, vs[i]? = some v ∧ Rep M H d v
  | [], _, _, _, _, e => by simp at e
  | d :: ds, _, 0, x, h, e => by
    rw [Reps] at h
    obtain ⟨v, r, rfl, h1, _⟩ := h
    simp at e; subst e
    exact ⟨v, rfl, h1⟩
  | d :: ds, _, i + 1, x, h, e => by
    rw [Reps] at h
    obtain ⟨v, r, rfl, _, h2⟩ := h
    obtain ⟨w, e1, h1⟩ := Reps.get (i := i) (d := x) h2 (by simpa using e)
    exact ⟨w, by simpa using e1, h1⟩
theorem Reps.append : ∀ {ds es : List D} {vs ws : List V}, Reps M H ds vs → Reps M H es ws → Reps M H (ds ++ es) (vs ++ ws)
  | [], _, _, _, h, t => by rw [Reps] at h; subst h; exact t
  | d :: ds, _, _, _, h, t => by
    rw [Reps] at h
    obtain ⟨v, r, rfl, h1, h2⟩ := h
    exact .cons h1 (Reps.append h2 t)
theorem Reps.take : ∀ {ds : List D} {vs : List V} (n : Nat), Reps M H ds vs → Reps M H (ds.take n) (vs.take n)
  | _, _, 0, _ => .nil
  | [], _, n + 1, h => by rw [Reps] at h; subst h; exact .nil
  | d :: ds, _, n + 1, h => by
    rw [Reps] at h
    obtain ⟨v, r, rfl, h1, h2⟩ := h
    exact .cons h1 (Reps.take n h2)
theorem Reps.drop : ∀ {ds : List D} {vs : List V} (n : Nat), Reps M H ds vs → Reps M H (ds.drop n) (vs.drop n)
  | _, _, 0, h => h
  | [], _, n + 1, h => by rw [Reps] at h; subst h; exact .nil
  | d :: ds, _, n + 1, h => by
    rw [Reps] at h
    obtain ⟨v, r, rfl, _, h2⟩ := h
    exact Reps.drop n h2
theorem Reps.set : ∀ {ds : List D} {vs : List V} (n : Nat) {d : D} {v : V}, Rep M H d v → Reps M H ds vs → Reps M H (ds.set n d) (vs.set n v)
  | [], _, n, _, _, _, h => by rw [Reps] at h; subst h; exact .nil
  | d :: ds, _, 0, _, _, q, h => by
    rw [Reps] at h
    obtain ⟨v, r, rfl, h1, h2⟩ := h
    exact .cons q h2
  | d :: ds, _, n + 1, _, _, q, h => by
    rw [Reps] at h
    obtain ⟨v, r, rfl, h1, h2⟩ := h
    exact .cons h1 (Reps.set n q h2)
theorem Reps.reverse : ∀ {ds : List D} {vs : List V}, Reps M H ds vs → Reps M H ds.reverse vs.reverse
  | [], _, h => by rw [Reps] at h; subst h; exact .nil
  | d :: ds, _, h => by
    rw [Reps] at h
    obtain ⟨v, r, rfl, h1, h2⟩ := h
    rw [List.reverse_cons, List.reverse_cons]
    exact (Reps.reverse h2).append (.cons h1 .nil)
theorem reps_ints : ∀ (ns : List Int), Reps M H (ns.map D.int) (ns.map V.int)
  | [] => .nil
  | n :: ns => .cons (by rw [Rep]) (reps_ints ns)
theorem KL.seq {a : Addr} {vs : List V} (h : KL a vs) : SqL KF.K H a vs := .inr h
theorem KT.seq {a : Addr} {vs : List V} (h : KT a vs) : SqT KF.K H a vs := .inr h
theorem Rep.lst_at {xs : List D} {v : V} (h : Rep M H (.lst xs) v) : ∃ a vs, v = .ref a ∧ SqL KF.K H a vs ∧ Reps M H xs vs := by
  rw [Rep] at h
  obtain ⟨a, vs, e, _, h1, h2⟩ := h
  exact ⟨a, vs, e, .inl h1, h2⟩
theorem Rep.klst_at {xs : List D} {v : V} (h : Rep M H (.klst xs) v) : ∃ a vs, v = .ref a ∧ SqL KF.K H a vs ∧ Reps M H xs vs := by
  rw [Rep] at h
  obtain ⟨a, vs, e, h1, h2⟩ := h
  exact ⟨a, vs, e, h1.seq, h2⟩
theorem Rep.tup_at {xs : List D} {v : V} (h : Rep M H (.tup xs) v) : ∃ a vs, v = .ref a ∧ SqT KF.K H a vs ∧ Reps M H xs vs := by
  rw [Rep] at h
  obtain ⟨a, vs, e, _, h1, h2⟩ := h
  exact ⟨a, vs, e, .inl (.inl h1), h2⟩
theorem Rep.ktp_at {xs : List D} {v : V} (h : Rep M H (.ktp xs) v) : ∃ a vs, v = .ref a ∧ SqT KF.K H a vs ∧ Reps M H xs vs := by
  rw [Rep] at h
  obtain ⟨a, vs, e, h1, h2⟩ := h
  exact ⟨a, vs, e, h1.seq, h2⟩
theorem RelM.dom (r : RelM M H) {a : Addr} (n : H a = none) : M a = none := by
  cases e : M a with
  | none => rfl
  | some o =>
    have h := r a o e
    match o, h with
    | .lst xs, ⟨vs, h, _⟩ => rw [n] at h; cases h
    | .dct false _, ⟨vs, h, _⟩ => rw [n] at h; cases h
    | .dct true _, ⟨vs, h, _⟩ => rw [n] at h; cases h
    | .ins _ _, h => exact h.elim
theorem MOk.mono (k : Kp M H M' H') {a : Addr} (e : ∀ u, H a = some u → H' a = some u) : ∀ {o : MO}, MOk M H a o → MOk M' H' a o
  | .lst xs, ⟨vs, h1, h2⟩ => ⟨vs, e _ h1, Reps.mono k _ _ h2⟩
  | .dct false _, ⟨vs, h1, h2⟩ => ⟨vs, e _ h1, RepK.mono k _ _ h2⟩
  | .dct true _, ⟨vs, h1, h2⟩ => ⟨vs, e _ h1, RepT.mono k _ _ h2⟩
  | .ins _ _, h => h.elim
/-- a new thing is laid that is not to be changed -/
theorem Kp.laid {p : Addr} {u : HO} (n : H p = none) (hM : M p = none) : Kp M H M (upd H p u) := fun a x h m => ⟨.inl (by rw [upd_ne (ne_of_none h n)]; exact h), m⟩
theorem RelM.laid (r : RelM M H) {p : Addr} {u : HO} (n : H p = none) : RelM M (upd H p u) := fun a o e =>
  (r a o e).mono (Kp.laid n (r.dom n)) fun x h => by rw [upd_ne (ne_of_none h n)]; exact h
/-- a new list is laid that may be changed -/
theorem Kp.laidM {p : Addr} {u : HO} {o : MO} (n : H p = none) : Kp M H (mu M p o) (upd H p u) := fun a x h m => by
  have q : a ≠ p := ne_of_none h n
  exact ⟨.inl (by rw [upd_ne q]; exact h), by rw [mu_ne q]; exact m⟩
/-- what holds of p is told; all else as it was -/
theorem RelM.put (r : RelM M H) {p : Addr} {o : MO} {u : HO} (k : Kp M H (mu M p o) (upd H p u)) (new : MOk (mu M p o) (upd H p u) p o) : RelM (mu M p o) (upd H p u) := fun a o' e => by
  by_cases q : a = p
  · subst q
    rw [mu_same] at e; cases e
    exact new
  · rw [mu_ne q] at e
    exact (r a o' e).mono k fun x h => by rw [upd_ne q]; exact h
theorem RelM.laidL (r : RelM M H) {p : Addr} {xs : List D} {vs : List V} (n : H p = none) (h : Reps M H xs vs) : RelM (mu M p (.lst xs)) (upd H p (.lst vs)) :=
  r.put (Kp.laidM n) ⟨vs, upd_same, Reps.mono (Kp.laidM n) _ _ h⟩
/-- a list is changed -/
theorem Kp.wrote {p : Addr} {o o' : MO} {u : HO} (e : M p = some o) : Kp M H (mu M p o') (upd H p u) := fun a x h m => by
  have q : a ≠ p := fun z => by subst z; rw [e] at m; cases m
  exact ⟨.inl (by rw [upd_ne q]; exact h), by rw [mu_ne q]; exact m⟩
theorem RelM.wroteL (r : RelM M H) {p : Addr} {o : MO} {xs : List D} {vs : List V} (e : M p = some o) (h : Reps M H xs vs) : RelM (mu M p (.lst xs)) (upd H p (.lst vs)) :=
  r.put (Kp.wrote e) ⟨vs, upd_same, Reps.mono (Kp.wrote e) _ _ h⟩
theorem RelM.list (r : RelM M H) {p : Addr} {xs : List D} (e : M p = some (.lst xs)) : ∃ vs, H p = some (.lst vs) ∧ Reps M H xs vs := r p _ e
end
end Vc
/-! The small language (Ex, Tx, Tg, Ix, Sm) and what it asks: wpE, wpT, wpS. -/
namespace Vc
open PySem PySem.Spec PyProof.Rows L2
mutual
/-- data as the library's comparisons read them -/
def D.py : D → Option PyData
  | .non => some .none
  | .bl b => some (.bool b)
  | .int i => some (.int i)
  | .str x => some (.str x)
  | .lst xs => match pys xs with | some l => some (.list l) | none => none
  | .tup xs => match pys xs with | some l => some (.tuple l) | none => none
  | .ktp xs => match pys xs with | some l => some (.tuple l) | none => none
  | .klst xs => match pys xs with | some l => some (.list l) | none => none
  | .dct _ _ => none
  | .ref _ => none
def pys : List D → Option (List PyData)
  | [] => some []
  | d :: ds => match d.py, pys ds with | some p, some l => some (p :: l) | _, _ => none
end
abbrev Env' := List (Option D)
abbrev KD := D → Mp → Prop
/-- a list that may still be changed, read as it stands -/
def look (M : Mp) : D → D
  | .ref a => match M a with
    | some (.lst xs) => .lst xs
    | some (.dct t kvs) => .dct t kvs
    | _ => .ref a
  | .ktp xs => .tup xs
  | .klst xs => .lst xs
  | d => d
/-- a list made here -/
def ownL (M : Mp) : D → Option (List D)
  | .lst xs => some xs
  | .ref a => match M a with
    | some (.lst xs) => some xs
    | _ => none
  | _ => none
/-- the items of a list or tuple -/
def items (M : Mp) (d : D) : Option (List D) := match look M d with
  | .lst xs => some xs
  | .tup xs => some xs
  | _ => none
/-! ### operations -/
def binD (op : Operator) (x y : D) (M : Mp) (K : KD) : Prop :=
  match op, x, y with
  | .Add, .int i, .int j => K (.int (i + j)) M
  | .Sub, .int i, .int j => K (.int (i - j)) M
  | .Mult, .int i, .int j => (CMul i j ∨ CMulW i j) ∧ K (.int (i * j)) M
  | .FloorDiv, .int i, .int j => (CDiv i j ∨ CDivW i j) ∧ K (.int (i / j)) M
  | .Mod, .int i, .int j => 0 < j ∧ K (.int (i % j)) M
  | .Pow, .int i, .int j => CPow i j ∧ K (.int (i ^ j.toNat)) M
  | .LShift, .int i, .int j => CPow i j ∧ K (.int (i * 2 ^ j.toNat)) M
  | .RShift, .int i, .int j => 0 ≤ j ∧ K (.int (i / 2 ^ j.toNat)) M
  | .BitXor, .int i, .int j => K (.int (Builtin.bitXor i j)) M
  | .BitAnd, .int i, .int j => K (.int (Builtin.bitAnd i j)) M
  | .BitOr, .int i, .int j => K (.int (Builtin.bitOr i j)) M
  | .Add, .str a, .str b => a.length + b.length ≤ sizeLine ∧ K (.str (a ++ b)) M
  | .Add, .tup xs, .tup ys => xs.length + ys.length ≤ sizeLine ∧ K (.tup (xs ++ ys)) M
  | .Add, x, y => ∃ xs ys, ownL M x = some xs ∧ ownL M y = some ys ∧ xs.length + ys.length ≤ sizeLine ∧ K (.lst (xs ++ ys)) M
  | _, _, _ => False
def eqD (x y : D) (M : Mp) (K : Bool → Prop) : Prop :=
  match x, y with
  | .int i, .int j => K (decide (i = j))
  | .str a, .str b => K (decide (a = b))
  | .bl a, .bl b => K (decide (a = b))
  | x, y => ∃ p q, (look M x).py = some p ∧ (look M y).py = some q ∧ SeqAt.shaped p = true ∧ SeqAt.shaped q = true ∧ K (PyData.eqv p q)
def ltD (x y : D) (M : Mp) (K : Bool → Prop) : Prop :=
  match x, y with
  | .int i, .int j => K (decide (i < j))
  | x, y => ∃ p q, (look M x).py = some p ∧ (look M y).py = some q ∧ PySem.W.alike p q = true ∧ p ≠ .none ∧ p.depth ≤ 50 ∧ K (PySem.W.dataLt p q)
def leD (x y : D) (M : Mp) (K : Bool → Prop) : Prop :=
  match x, y with
  | .int i, .int j => K (decide (i ≤ j))
  | x, y => ∃ p q, (look M x).py = some p ∧ (look M y).py = some q ∧ PySem.W.alike p q = true ∧ p ≠ .none ∧ p.depth ≤ 50 ∧ K (!PySem.W.dataLt q p)
/-- what a dict holds at a key -/
def lookK : List (D × D) → D → Option D
  | [], _ => none
  | (k, d) :: r, x => if (match keyD k, keyD x with | some a, some b => decide (a = b) | _, _ => false) then some d else lookK r x
def lookT : List (D × D) → D → Option D
  | [], _ => none
  | (k, d) :: r, x => if (match tkeyD k, tkeyD x with | some a, some b => decide (a = b) | _, _ => false) then some d else lookT r x
def getK (t : Bool) (kvs : List (D × D)) (x : D) : Option D := if t then lookT kvs x else lookK kvs x
def okK (t : Bool) (x : D) : Prop := if t then (tkeyD x).isSome = true else (keyD x).isSome = true
def sameK (t : Bool) (k x : D) : Bool := if t then (match tkeyD k, tkeyD x with | some a, some b => decide (a = b) | _, _ => false) else (match keyD k, keyD x with | some a, some b => decide (a = b) | _, _ => false)
def putD (t : Bool) (kvs : List (D × D)) (x d : D) : List (D × D) := if (kvs.any fun kv => sameK t kv.1 x) = true then kvs.map (fun kv => if sameK t kv.1 x = true then (kv.1, d) else kv) else kvs ++ [(x, d)]
def dropD (t : Bool) (kvs : List (D × D)) (x : D) : List (D × D) := kvs.filter fun kv => !sameK t kv.1 x
def inD (x y : D) (M : Mp) (K : Bool → Prop) : Prop :=
  match x, look M y with
  | .str a, .str b => K (!(Builtin.Str.occurrences b a 0 b.length 1).isEmpty)
  | x, .dct t kvs => okK t x ∧ K (getK t kvs x).isSome
  | x, .lst ys => ∃ p qs, x.py = some p ∧ pys ys = some qs ∧ SeqAt.shaped p = true ∧ SeqAt.shaped (.list qs) = true ∧ K (qs.any fun q => PyData.eqv q p)
  | x, .tup ys => ∃ p qs, x.py = some p ∧ pys ys = some qs ∧ SeqAt.shaped p = true ∧ SeqAt.shaped (.tuple qs) = true ∧ K (qs.any fun q => PyData.eqv q p)
  | _, _ => False
def cmpD (op : CmpOp) (x y : D) (M : Mp) (K : Bool → Prop) : Prop :=
  match op with
  | .Eq => eqD x y M K
  | .NotEq => eqD x y M fun b => K (!b)
  | .Lt => ltD x y M K
  | .Gt => ltD y x M K
  | .LtE => leD x y M K
  | .GtE => leD y x M K
  | .In => inD x y M K
  | .NotIn => inD x y M fun b => K (!b)
  | _ => False
def truD (d : D) (M : Mp) (K : Bool → Prop) : Prop :=
  match look M d with
  | .non => K false
  | .bl b => K b
  | .int i => K (i != 0)
  | .str y => y.length ≤ sizeLine ∧ K ((y.length : Int) != 0)
  | .lst xs => K (!xs.isEmpty)
  | .tup xs => K (!xs.isEmpty)
  | .dct false kvs => K (!kvs.isEmpty)
  | _ => False
def isNone : D → Bool
  | .non => true
  | _ => false
def subD (x y : D) (M : Mp) (K : KD) : Prop :=
  match look M x with
  | .lst xs => ∃ i d, y = .int i ∧ atI xs i = some d ∧ K d M
  | .tup xs => ∃ i d, y = .int i ∧ atI xs i = some d ∧ K d M
  | .str z => ∃ i c, y = .int i ∧ z.length ≤ sizeLine ∧ atI z.cps.toList i = some c ∧ K (.str ⟨#[c]⟩) M
  | .dct t kvs => ∃ d, okK t y ∧ getK t kvs y = some d ∧ K d M
  | _ => False
def cutD (xs : List D) (lo hi : Option Int) : List D := (xs.drop (HT.sIx xs.length 0 lo)).take (HT.sIx xs.length xs.length hi - HT.sIx xs.length 0 lo)
def slcD (x : D) (lo hi : Option Int) (M : Mp) (K : KD) : Prop :=
  match look M x with
  | .lst xs => K (.lst (cutD xs lo hi)) M
  | _ => match x with
    | .tup xs => K (.tup (cutD xs lo hi)) M
    | _ => False
/-- o[i] = v -/
def setD (o i d : D) (M : Mp) (K : Mp → Prop) : Prop :=
  match o with
  | .ref a => match M a with
    | some (.lst xs) => ∃ k j, i = .int k ∧ ixN xs.length k = some j ∧ K (mu M a (.lst (xs.set j d)))
    | some (.dct t kvs) => okK t i ∧ kvs.length < sizeLine ∧ K (mu M a (.dct t (putD t kvs i d)))
    | _ => False
  | _ => False
/-- type names for isinstance -/
def tyD (d : D) (M : Mp) : Option String :=
  match look M d with
  | .non => some "NoneType"
  | .bl _ => some "bool"
  | .int _ => some "int"
  | .str _ => some "str"
  | .lst _ => some "list"
  | .tup _ => some "tuple"
  | .ktp _ => some "tuple"
  | .klst _ => some "list"
  | .dct _ _ => some "dict"
  | .ref _ => none
def isiD (d : D) (ty : String) (M : Mp) (K : Bool → Prop) : Prop :=
  match tyD d M with
  | some t => ["int", "str", "bool", "tuple", "list", "dict"].contains ty = true ∧ K (t == ty || (t == "bool" && ty == "int"))
  | none => False
inductive Mm where | min | max deriving DecidableEq
def intsD : List D → Option (List Int)
  | [] => some []
  | .int i :: ds => match intsD ds with | some l => some (i :: l) | none => none
  | _ => none
def best (m : Mm) : Int → List Int → Int
  | x, [] => x
  | x, y :: r => best m (match m with | .min => if y < x then y else x | .max => if x < y then y else x) r
def pickD (m : Mm) (ds : List D) (M : Mp) (K : KD) : Prop :=
  match ds with
  | [] => False
  | [d] => ∃ xs n ns, look M d = .lst xs ∧ intsD xs = some (n :: ns) ∧ K (.int (best m n ns)) M
  | [.int i, .int j] => K (.int (best m i [j])) M
  | [.int i, .int j, .int k] => K (.int (best m i [j, k])) M
  | _ => False
def sortable (ps : List PyData) : Prop :=
  (∀ p ∈ ps, ∀ q ∈ ps, PySem.W.alike p q = true) ∧ PySem.W.Sortable ps ∧ (∀ p ∈ ps, p.depth ≤ 40) ∧ ps.length ≤ sizeLine
def pyD (d : D) : PyData := d.py.getD .none
def sortD (xs : List D) : List D := xs.mergeSort (PySem.W.dataLe false pyD)
def keysOf (kvs : List (D × D)) : List D := kvs.map (·.1)
/-- what an iterable yields, as a whole -/
def allOf (d : D) (M : Mp) : Option (List D) := match look M d with
  | .lst xs => some xs
  | .tup xs => some xs
  | .dct _ kvs => some (keysOf kvs)
  | _ => none
/-- built-in functions by name -/
def biD (f : String) (ds : List D) (M : Mp) (K : KD) : Prop :=
  match f with
  | "len" => ∃ d n, ds = [d] ∧ (match look M d with | .lst xs => n = xs.length | .tup xs => n = xs.length | .dct _ kvs => n = kvs.length | .str x => x.length ≤ sizeLine ∧ n = x.length | _ => False) ∧ K (.int (n : Nat)) M
  | "int" => ∃ d, ds = [d] ∧ (match d with | .int i => K (.int i) M | .bl b => K (.int (if b then 1 else 0)) M | _ => False)
  | "str" => ∃ d, ds = [d] ∧ (match d with | .int i => i.natAbs.log2 < 1920 ∧ K (.str (toString i)) M | _ => False)
  | "tuple" => ∃ d, ds = [d] ∧ (match look M d with | .lst xs => K (.tup xs) M | .tup _ => K d M | _ => False)
  | "list" => ∃ d xs, ds = [d] ∧ allOf d M = some xs ∧ K (.lst xs) M
  | "abs" => ∃ i, ds = [.int i] ∧ K (.int (if i < 0 then -i else i)) M
  | "min" => pickD .min ds M K
  | "max" => pickD .max ds M K
  | "sum" => ∃ d xs ns, ds = [d] ∧ look M d = .lst xs ∧ intsD xs = some ns ∧ K (.int ns.sum) M
  | "sorted" => ∃ d xs, ds = [d] ∧ look M d = .lst xs ∧ (∀ x ∈ xs, x.py.isSome = true) ∧ sortable (xs.map pyD) ∧ K (.lst (sortD xs)) M
  | _ => False
/-- a thing's type, as far as methods ask -/
def isTyD (T : String) (d : D) (M : Mp) : Prop :=
  match look M d with
  | .lst _ => T = "list"
  | .dct _ _ => T = "dict"
  | .str _ => T = "str"
  | _ => False
/-- methods of built-in types by name -/
def mthD (id : String) (o : D) (ds : List D) (M : Mp) (K : KD) : Prop :=
  match id with
  | "list.append" => ∃ a xs d, o = .ref a ∧ ds = [d] ∧ M a = some (.lst xs) ∧ xs.length < sizeLine ∧ K .non (mu M a (.lst (xs ++ [d])))
  | "list.extend" => ∃ a xs d ys, o = .ref a ∧ ds = [d] ∧ M a = some (.lst xs) ∧ ownL M d = some ys ∧ xs.length + ys.length ≤ sizeLine ∧ K .non (mu M a (.lst (xs ++ ys)))
  | "list.index" => ∃ xs qs d p j z, ds = [d] ∧ look M o = .lst xs ∧ pys xs = some qs ∧ d.py = some p ∧ SeqAt.shaped (.list qs) = true ∧ SeqAt.shaped p = true ∧ qs[j]? = some z ∧ PyData.eqv z p = true ∧ (∀ m z', m < j → qs[m]? = some z' → PyData.eqv z' p = false) ∧ K (.int (j : Nat)) M
  | "dict.get" => ∃ t kvs, look M o = .dct t kvs ∧ ((∃ k, ds = [k] ∧ okK t k ∧ K ((getK t kvs k).getD .non) M) ∨ ∃ k d, ds = [k, d] ∧ okK t k ∧ K ((getK t kvs k).getD d) M)
  | _ => False
/-- functions of math -/
def bfD (id : String) (ds : List D) (M : Mp) (K : KD) : Prop :=
  match id with
  | "math.lcm" => ∃ a b : Int, ds = [.int a, .int b] ∧ a.natAbs < 2 ^ 60 ∧ b.natAbs < 2 ^ 60 ∧ K (.int ((Nat.lcm a.natAbs b.natAbs : Nat) : Int)) M
  | "math.gcd" => ∃ a b : Int, ds = [.int a, .int b] ∧ K (.int ((Nat.gcd a.natAbs b.natAbs : Nat) : Int)) M
  | _ => False
def zipK : List Str → List D → List (D × D)
  | k :: ks, d :: ds => (.str k, d) :: zipK ks ds
  | _, _ => []
mutual
inductive Ex where
  | v (i : Nat) | k (c : D) | g (x : Str)
  | bin (op : Operator) (a b : Ex) | neg (a : Ex)
  | cmp (op : CmpOp) (a b : Ex) | chain (o p : CmpOp) (a b c : Ex) | isN (yes : Bool) (a : Ex)
  | and (es : List Ex) | or (es : List Ex) | not (a : Ex) | ite (t : Tx) (a b : Ex)
  | tup (es : List Ex) | lst (es : List Ex) | lstM (es : List Ex) | dctM (t : Bool)
  | sub (a i : Ex) | slc (a : Ex) (lo hi : Option Ex)
  | isi (a : Ex) (ty : String)
  | bi (f : String) (es : List Ex)
  | call (f : Str) (es : List Ex)
  | mth (T m : String) (o : Ex) (es : List Ex)
  | comp (mt : Bool) (own : List Nat) (tg : Tg) (it : Ix) (ifs : Option Tx) (el : Ex)
  | comp2 (mt : Bool) (own own1 : List Nat) (tg : Tg) (it : Ix) (ifs : Option Tx) (tg1 : Tg) (it1 : Ix) (ifs1 : Option Tx) (el : Ex)
  | bf (f : Str) (es : List Ex) | disp (ks : List Str) (es : List Ex) | lkeys (a : Ex) | callK (f : Str) (es : List Ex) (ks : List Str) (kes : List Ex)
inductive Tx where
  | e (a : Ex) | not (t : Tx) | and (ts : List Tx) | or (ts : List Tx)
  | cmp (op : CmpOp) (a b : Ex) | chain (o p : CmpOp) (a b c : Ex) | isN (yes : Bool) (a : Ex)
inductive Tg where
  | n (i : Nat) | t (l : List Tg)
inductive Ix where
  | s (a : Ex) | rng (es : List Ex)
end
/-- a contract: what a call asks, and of what it then holds -/
abbrev CSp := List D → Mp → KD → Prop
structure Gam where
  con : Str → Option D
  fn : Str → Option (Nat × CSp)
  bf : Str → Option String := fun _ => none
  kw : Str → Nat → Option (List Str) := fun _ _ => none
def runC (sp : CSp) (ds : List D) (M : Mp) (K : KD) : Prop := ∃ K0, sp ds M K0 ∧ ∀ d M', K0 d M' → K d M'
theorem runC.of {sp : CSp} {ds : List D} {M : Mp} {K : KD} (h : sp ds M K) : runC sp ds M K := ⟨K, h, fun _ _ q => q⟩
def wipeD (ρ : Env') : List Nat → Env'
  | [] => ρ
  | v :: vs => (wipeD ρ vs).set v none
def rangeD (lo hi c : Int) : List D := (List.range (if 0 < c then ((hi - lo + c - 1) / c).toNat else 0)).map fun (i : Nat) => D.int (lo + (i : Int) * c)
/-! targets -/
mutual
def wpG : Tg → D → Env' → Mp → (Env' → Prop) → Prop
  | .n i, d, ρ, _, Q => Q (ρ.set i (some d))
  | .t l, d, ρ, M, Q => match d with
    | .tup xs => l.length = xs.length ∧ wpGs l xs ρ M Q
    | .ktp xs => l.length = xs.length ∧ wpGs l xs ρ M Q
    | _ => False
def wpGs : List Tg → List D → Env' → Mp → (Env' → Prop) → Prop
  | [], [], ρ, _, Q => Q ρ
  | t :: ts, d :: ds, ρ, M, Q => wpG t d ρ M fun ρ1 => wpGs ts ds ρ1 M Q
  | _, _, _, _, _ => False
end
/-- one turn after the other; the items made so far stand at p -/
def compL (turn : D → Mp → (Option D → Mp → Prop) → Prop) (inv : Mp → Prop) (p : Addr) : List D → List D → Mp → (List D → Mp → Prop) → Prop
  | [], acc, M, K => inv M ∧ K acc M
  | x :: xs, acc, M, K => inv M ∧ turn x M fun r M1 => M1 p = some (.lst acc) ∧ match r with
    | some d => acc.length < sizeLine ∧ compL turn inv p xs (acc ++ [d]) (mu M1 p (.lst (acc ++ [d]))) K
    | none => compL turn inv p xs acc M1 K
/-- the outer turns of two -/
def outL (turn : D → List D → Mp → (List D → Mp → Prop) → Prop) (inv : Mp → Prop) : List D → List D → Mp → (List D → Mp → Prop) → Prop
  | [], acc, M, K => inv M ∧ K acc M
  | x :: xs, acc, M, K => inv M ∧ turn x acc M fun acc1 M1 => outL turn inv xs acc1 M1 K
mutual
def wpE (Γ : Gam) : Ex → Env' → Mp → KD → Prop
  | .v i, ρ, M, Q => ∃ d, ρ[i]? = some (some d) ∧ Q d M
  | .k c, _, M, Q => Q c M
  | .g x, _, M, Q => ∃ d, Γ.con x = some d ∧ Q d M
  | .bin op a b, ρ, M, Q => wpE Γ a ρ M fun x M1 => wpE Γ b ρ M1 fun y M2 => binD op x y M2 Q
  | .neg a, ρ, M, Q => wpE Γ a ρ M fun x M1 => ∃ i, x = .int i ∧ Q (.int (-i)) M1
  | .cmp op a b, ρ, M, Q => wpE Γ a ρ M fun x M1 => wpE Γ b ρ M1 fun y M2 => cmpD op x y M2 fun c => Q (.bl c) M2
  | .chain o p a b c, ρ, M, Q => wpE Γ a ρ M fun x M1 => wpE Γ b ρ M1 fun y M2 => cmpD o x y M2 fun k => if k = true then wpE Γ c ρ M2 fun z M3 => cmpD p y z M3 fun k2 => Q (.bl k2) M3 else Q (.bl false) M2
  | .isN yes a, ρ, M, Q => wpE Γ a ρ M fun x M1 => Q (.bl (if yes then isNone x else !isNone x)) M1
  | .and es, ρ, M, Q => wpAnd Γ es ρ M Q
  | .or es, ρ, M, Q => wpOr Γ es ρ M Q
  | .not a, ρ, M, Q => wpE Γ a ρ M fun x M1 => truD x M1 fun c => Q (.bl (!c)) M1
  | .ite t a b, ρ, M, Q => wpT Γ t ρ M fun c M1 => if c = true then wpE Γ a ρ M1 Q else wpE Γ b ρ M1 Q
  | .tup es, ρ, M, Q => wpEs Γ es ρ M fun ds M1 => ds.length ≤ sizeLine ∧ Q (.tup ds) M1
  | .lst es, ρ, M, Q => wpEs Γ es ρ M fun ds M1 => ds.length ≤ sizeLine ∧ Q (.lst ds) M1
  | .lstM es, ρ, M, Q => wpEs Γ es ρ M fun ds M1 => ds.length ≤ sizeLine ∧ ∀ p, M1 p = none → Q (.ref p) (mu M1 p (.lst ds))
  | .dctM t, _, M, Q => ∀ p, M p = none → Q (.ref p) (mu M p (.dct t []))
  | .sub a i, ρ, M, Q => wpE Γ a ρ M fun x M1 => wpE Γ i ρ M1 fun y M2 => subD x y M2 Q
  | .slc a lo hi, ρ, M, Q => wpE Γ a ρ M fun x M1 => wpO Γ lo ρ M1 fun l M2 => wpO Γ hi ρ M2 fun h M3 => slcD x l h M3 Q
  | .isi a ty, ρ, M, Q => wpE Γ a ρ M fun x M1 => isiD x ty M1 fun c => Q (.bl c) M1
  | .bi f es, ρ, M, Q => wpEs Γ es ρ M fun ds M1 => biD f ds M1 Q
  | .call f es, ρ, M, Q => ∃ sp, Γ.fn f = some (es.length, sp) ∧ wpEs Γ es ρ M fun ds M1 => runC sp ds M1 Q
  | .mth T m o es, ρ, M, Q => wpE Γ o ρ M fun x M1 => isTyD T x M1 ∧ wpEs Γ es ρ M1 fun ds M2 => mthD (T ++ "." ++ m) x ds M2 Q
  | .comp mt own tg it ifs el, ρ, M, Q => wpI Γ it ρ M fun xs inv M1 => ∀ p, M1 p = none → compL (fun x M2 K => wpG tg x (wipeD ρ own) M2 fun ρ1 => wpTo Γ ifs ρ1 M2 fun c M3 => if c = true then wpE Γ el ρ1 M3 fun d M4 => K (some d) M4 else K none M3) inv p xs [] (mu M1 p (.lst [])) fun ds M2 => if mt = true then Q (.ref p) M2 else Q (.lst ds) (mdel M2 p)
  | .comp2 mt own own1 tg it ifs tg1 it1 ifs1 el, ρ, M, Q => wpI Γ it ρ M fun xs inv M1 => ∀ p, M1 p = none → outL (fun x acc M2 K => wpG tg x (wipeD ρ own) M2 fun ρ1 => wpTo Γ ifs ρ1 M2 fun c M3 => if c = true then wpI Γ it1 ρ1 M3 fun ys inv1 M4 => M4 p = some (.lst acc) ∧ compL (fun y M5 K' => wpG tg1 y (wipeD ρ1 own1) M5 fun ρ2 => wpTo Γ ifs1 ρ2 M5 fun c M6 => if c = true then wpE Γ el ρ2 M6 fun d M7 => K' (some d) M7 else K' none M6) inv1 p ys acc M4 K else M3 p = some (.lst acc) ∧ K acc M3) inv xs [] (mu M1 p (.lst [])) fun ds M2 => if mt = true then Q (.ref p) M2 else Q (.lst ds) (mdel M2 p)
  | .bf f es, ρ, M, Q => ∃ id, Γ.bf f = some id ∧ (id = "math.lcm" ∨ id = "math.gcd") ∧ wpEs Γ es ρ M fun ds M1 => bfD id ds M1 Q
  | .disp ks es, ρ, M, Q => ∀ p, M p = none → wpEs Γ es ρ (mu M p (.dct false [])) fun ds M1 => M1 p = some (.dct false []) ∧ Q (.ref p) (mu M1 p (.dct false (zipK ks ds)))
  | .lkeys a, ρ, M, Q => wpE Γ a ρ M fun x M1 => ∃ kvs, look M1 x = .dct true kvs ∧ Q (.lst (keysOf kvs)) M1
  | .callK f es ks kes, ρ, M, Q => ∃ sp, Γ.fn f = some (es.length + kes.length, sp) ∧ Γ.kw f es.length = some ks ∧ wpEs Γ es ρ M fun ds M1 => wpEs Γ kes ρ M1 fun zs M2 => runC sp (ds ++ zs) M2 Q
def wpEs (Γ : Gam) : List Ex → Env' → Mp → (List D → Mp → Prop) → Prop
  | [], _, M, Q => Q [] M
  | e :: es, ρ, M, Q => wpE Γ e ρ M fun d M1 => wpEs Γ es ρ M1 fun ds M2 => Q (d :: ds) M2
def wpO (Γ : Gam) : Option Ex → Env' → Mp → (Option Int → Mp → Prop) → Prop
  | none, _, M, Q => Q none M
  | some e, ρ, M, Q => wpE Γ e ρ M fun d M1 => ∃ i, d = .int i ∧ Q (some i) M1
def wpAnd (Γ : Gam) : List Ex → Env' → Mp → KD → Prop
  | [], _, _, _ => False
  | e :: es, ρ, M, Q => wpE Γ e ρ M fun x M1 => match es with
    | [] => Q x M1
    | _ => ∃ c, x = .bl c ∧ if c = true then wpAnd Γ es ρ M1 Q else Q (.bl false) M1
def wpOr (Γ : Gam) : List Ex → Env' → Mp → KD → Prop
  | [], _, _, _ => False
  | e :: es, ρ, M, Q => wpE Γ e ρ M fun x M1 => match es with
    | [] => Q x M1
    | _ => ∃ c, x = .bl c ∧ if c = true then Q (.bl true) M1 else wpOr Γ es ρ M1 Q
def wpT (Γ : Gam) : Tx → Env' → Mp → (Bool → Mp → Prop) → Prop
  | .e a, ρ, M, Q => wpE Γ a ρ M fun x M1 => truD x M1 fun c => Q c M1
  | .not t, ρ, M, Q => wpT Γ t ρ M fun c M1 => Q (!c) M1
  | .and ts, ρ, M, Q => wpTAnd Γ ts ρ M Q
  | .or ts, ρ, M, Q => wpTOr Γ ts ρ M Q
  | .cmp op a b, ρ, M, Q => wpE Γ a ρ M fun x M1 => wpE Γ b ρ M1 fun y M2 => cmpD op x y M2 fun c => Q c M2
  | .chain o p a b c, ρ, M, Q => wpE Γ a ρ M fun x M1 => wpE Γ b ρ M1 fun y M2 => cmpD o x y M2 fun k => if k = true then wpE Γ c ρ M2 fun z M3 => cmpD p y z M3 fun k2 => Q k2 M3 else Q false M2
  | .isN yes a, ρ, M, Q => wpE Γ a ρ M fun x M1 => Q (if yes then isNone x else !isNone x) M1
def wpTAnd (Γ : Gam) : List Tx → Env' → Mp → (Bool → Mp → Prop) → Prop
  | [], _, _, _ => False
  | t :: ts, ρ, M, Q => wpT Γ t ρ M fun c M1 => match ts with
    | [] => Q c M1
    | _ => if c = true then wpTAnd Γ ts ρ M1 Q else Q false M1
def wpTOr (Γ : Gam) : List Tx → Env' → Mp → (Bool → Mp → Prop) → Prop
  | [], _, _, _ => False
  | t :: ts, ρ, M, Q => wpT Γ t ρ M fun c M1 => match ts with
    | [] => Q c M1
    | _ => if c = true then Q true M1 else wpTOr Γ ts ρ M1 Q
def wpTo (Γ : Gam) : Option Tx → Env' → Mp → (Bool → Mp → Prop) → Prop
  | none, _, M, Q => Q true M
  | some t, ρ, M, Q => wpT Γ t ρ M Q
def wpI (Γ : Gam) : Ix → Env' → Mp → (List D → (Mp → Prop) → Mp → Prop) → Prop
  | .s a, ρ, M, Q => wpE Γ a ρ M fun x M1 => match x with
    | .lst xs => Q xs (fun _ => True) M1
    | .tup xs => Q xs (fun _ => True) M1
    | .ktp xs => Q xs (fun _ => True) M1
    | .klst xs => Q xs (fun _ => True) M1
    | .dct _ kvs => Q (keysOf kvs) (fun _ => True) M1
    | .ref a => match M1 a with
      | some (.lst xs) => Q xs (fun M => M a = some (.lst xs)) M1
      | _ => False
    | _ => False
  | .rng es, ρ, M, Q => wpEs Γ es ρ M fun ds M1 => match ds with
    | [.int j] => (-(2 ^ 62) ≤ j ∧ j < 2 ^ 62) ∧ Q (rangeD 0 j 1) (fun _ => True) M1
    | [.int i, .int j] => (-(2 ^ 62) ≤ i ∧ i < 2 ^ 62 ∧ -(2 ^ 62) ≤ j ∧ j < 2 ^ 62) ∧ Q (rangeD i j 1) (fun _ => True) M1
    | _ => False
end
inductive Sm where
  | asg (t : Tg) (e : Ex) | par (l : List Nat) (es : List Ex) | set (o i e : Ex) | aug (i : Nat) (op : Operator) (e : Ex) | augS (o i : Ex) (op : Operator) (e : Ex)
  | ex (e : Ex) | ret (e : Ex) | retN | ite (t : Tx) (a b : List Sm) | for_ (tg : Tg) (it : Ix) (body : List Sm) | while_ (t : Tx) (body : List Sm)
  | brk | cont | pass | frz (i : Nat)
structure EndD where
  nx : Env' → Mp → Prop
  rt : KD
  bk : Env' → Mp → Prop
  ct : Env' → Mp → Prop
def forL (turn : D → Env' → Mp → (Env' → Mp → Prop) → Prop) (inv : Mp → Prop) (nx : Env' → Mp → Prop) : List D → Env' → Mp → Prop
  | [], ρ, M => inv M ∧ nx ρ M
  | x :: xs, ρ, M => inv M ∧ turn x ρ M (forL turn inv nx xs)
def whileL (test : Env' → Mp → (Bool → Mp → Prop) → Prop) (body : Env' → Mp → (Env' → Mp → Prop) → Prop) (nx : Env' → Mp → Prop) : Nat → Env' → Mp → Prop
  | 0, _, _ => False
  | n + 1, ρ, M => test ρ M fun c M1 => if c = true then body ρ M1 (whileL test body nx n) else nx ρ M1
def setL (ρ : Env') : List Nat → List D → Env'
  | i :: l, d :: ds => setL (ρ.set i (some d)) l ds
  | _, _ => ρ
mutual
def wpS (Γ : Gam) : Sm → Env' → Mp → EndD → Prop
  | .asg t e, ρ, M, D => wpE Γ e ρ M fun d M1 => wpG t d ρ M1 fun ρ1 => D.nx ρ1 M1
  | .par l es, ρ, M, D => wpEs Γ es ρ M fun ds M1 => D.nx (setL ρ l ds) M1
  | .set o i e, ρ, M, D => wpE Γ e ρ M fun d M1 => wpE Γ o ρ M1 fun x M2 => wpE Γ i ρ M2 fun y M3 => setD x y d M3 fun M4 => D.nx ρ M4
  | .aug i op e, ρ, M, D => ∃ x, ρ[i]? = some (some x) ∧ wpE Γ e ρ M fun y M1 => (∃ a b, x = .int a ∧ y = .int b) ∧ binD op x y M1 fun z M2 => D.nx (ρ.set i (some z)) M2
  | .augS o i op e, ρ, M, D => wpE Γ o ρ M fun x M1 => wpE Γ i ρ M1 fun y M2 => subD x y M2 fun z M3 => wpE Γ e ρ M3 fun w M4 => (∃ a b, z = .int a ∧ w = .int b) ∧ binD op z w M4 fun r M5 => setD x y r M5 fun M6 => D.nx ρ M6
  | .ex e, ρ, M, D => wpE Γ e ρ M fun _ M1 => D.nx ρ M1
  | .ret e, ρ, M, D => wpE Γ e ρ M D.rt
  | .retN, _, M, D => D.rt .non M
  | .ite t a b, ρ, M, D => wpT Γ t ρ M fun c M1 => if c = true then wpSs Γ a ρ M1 D else wpSs Γ b ρ M1 D
  | .for_ tg it body, ρ, M, D => wpI Γ it ρ M fun xs inv M1 => forL (fun x ρ1 M2 N => wpG tg x ρ1 M2 fun ρ2 => wpSs Γ body ρ2 M2 ⟨N, D.rt, D.nx, N⟩) inv D.nx xs ρ M1
  | .while_ t body, ρ, M, D => ∃ n, whileL (wpT Γ t) (fun ρ1 M1 N => wpSs Γ body ρ1 M1 ⟨N, D.rt, D.nx, N⟩) D.nx n ρ M
  | .brk, ρ, M, D => D.bk ρ M
  | .cont, ρ, M, D => D.ct ρ M
  | .pass, ρ, M, D => D.nx ρ M
  | .frz i, ρ, M, D => ∃ a, ρ[i]? = some (some (.ref a)) ∧ match M a with
    | some (.lst xs) => D.nx (ρ.set i (some (.lst xs))) (mdel M a)
    | some (.dct t kvs) => D.nx (ρ.set i (some (.dct t kvs))) (mdel M a)
    | _ => False
def wpSs (Γ : Gam) : List Sm → Env' → Mp → EndD → Prop
  | [], ρ, M, D => D.nx ρ M
  | s :: ss, ρ, M, D => wpS Γ s ρ M { D with nx := fun ρ1 M1 => wpSs Γ ss ρ1 M1 D }
end
end Vc
/-! What is asked may be weakened. -/
namespace Vc
open PySem PySem.Spec PyProof.Rows L2
theorem runC.mono {sp : CSp} {ds : List D} {M : Mp} {K K' : KD} (h : runC sp ds M K) (m : ∀ d M, K d M → K' d M) : runC sp ds M K' :=
  let ⟨K0, a, b⟩ := h; ⟨K0, a, fun d M q => m d M (b d M q)⟩
theorem binD_mono {op : Operator} {x y : D} {M : Mp} {K K' : KD} (m : ∀ d M, K d M → K' d M) (h : binD op x y M K) : binD op x y M K' := by
  unfold binD at h ⊢
  split at h <;> first
    | exact m _ _ h
    | exact ⟨h.1, m _ _ h.2⟩
    | (obtain ⟨xs, ys, h1, h2, h3, h4⟩ := h; exact ⟨xs, ys, h1, h2, h3, m _ _ h4⟩)
    | exact h
theorem eqD_mono {x y : D} {M : Mp} {K K' : Bool → Prop} (m : ∀ b, K b → K' b) (h : eqD x y M K) : eqD x y M K' := by
  unfold eqD at h ⊢
  split at h <;> first
    | exact m _ h
    | (obtain ⟨p, q, h1, h2, h3, h4, h5⟩ := h; exact ⟨p, q, h1, h2, h3, h4, m _ h5⟩)
theorem ltD_mono {x y : D} {M : Mp} {K K' : Bool → Prop} (m : ∀ b, K b → K' b) (h : ltD x y M K) : ltD x y M K' := by
  unfold ltD at h ⊢
  split at h <;> first
    | exact m _ h
    | (obtain ⟨p, q, h1, h2, h3, h4, h5, h6⟩ := h; exact ⟨p, q, h1, h2, h3, h4, h5, m _ h6⟩)
theorem leD_mono {x y : D} {M : Mp} {K K' : Bool → Prop} (m : ∀ b, K b → K' b) (h : leD x y M K) : leD x y M K' := by
  unfold leD at h ⊢
  split at h <;> first
    | exact m _ h
    | (obtain ⟨p, q, h1, h2, h3, h4, h5, h6⟩ := h; exact ⟨p, q, h1, h2, h3, h4, h5, m _ h6⟩)
theorem inD_mono {x y : D} {M : Mp} {K K' : Bool → Prop} (m : ∀ b, K b → K' b) (h : inD x y M K) : inD x y M K' := by
  unfold inD at h ⊢
  split at h <;> first
    | exact m _ h
    | exact ⟨h.1, m _ h.2⟩
    | (obtain ⟨p, q, h1, h2, h3, h4, h5⟩ := h; exact ⟨p, q, h1, h2, h3, h4, m _ h5⟩)
    | exact h
theorem cmpD_mono {op : CmpOp} {x y : D} {M : Mp} {K K' : Bool → Prop} (m : ∀ b, K b → K' b) (h : cmpD op x y M K) : cmpD op x y M K' := by
  cases op <;> first
    | exact eqD_mono m h
    | exact eqD_mono (fun b => m (!b)) h
    | exact ltD_mono m h
    | exact leD_mono m h
    | exact inD_mono m h
    | exact inD_mono (fun b => m (!b)) h
    | exact h
theorem truD_mono {x : D} {M : Mp} {K K' : Bool → Prop} (m : ∀ b, K b → K' b) (h : truD x M K) : truD x M K' := by
  unfold truD at h ⊢
  split at h <;> first
    | exact m _ h
    | exact ⟨h.1, m _ h.2⟩
    | exact h
theorem subD_mono {x y : D} {M : Mp} {K K' : KD} (m : ∀ d M, K d M → K' d M) (h : subD x y M K) : subD x y M K' := by
  unfold subD at h ⊢
  split at h <;> first
    | (obtain ⟨i, d, h1, h2, h3⟩ := h; exact ⟨i, d, h1, h2, m _ _ h3⟩)
    | (obtain ⟨i, d, h1, h2, h3, h4⟩ := h; exact ⟨i, d, h1, h2, h3, m _ _ h4⟩)
    | (obtain ⟨d, h1, h2, h3⟩ := h; exact ⟨d, h1, h2, m _ _ h3⟩)
    | exact h
theorem slcD_mono {x : D} {l h : Option Int} {M : Mp} {K K' : KD} (m : ∀ d M, K d M → K' d M) (q : slcD x l h M K) : slcD x l h M K' := by
  unfold slcD at q ⊢
  split at q
  · exact m _ _ q
  · split at q
    · exact m _ _ q
    · exact q
theorem setD_mono {o i d : D} {M : Mp} {K K' : Mp → Prop} (m : ∀ M, K M → K' M) (h : setD o i d M K) : setD o i d M K' := by
  unfold setD at h ⊢
  split at h
  · split at h <;> first
      | (obtain ⟨i, d, h1, h2, h3⟩ := h; exact ⟨i, d, h1, h2, m _ h3⟩)
      | (obtain ⟨h1, h2, h3⟩ := h; exact ⟨h1, h2, m _ h3⟩)
      | exact h
  · exact h
theorem isiD_mono {x : D} {ty : String} {M : Mp} {K K' : Bool → Prop} (m : ∀ b, K b → K' b) (h : isiD x ty M K) : isiD x ty M K' := by
  unfold isiD at h ⊢
  split at h
  · exact ⟨h.1, m _ h.2⟩
  · exact h
theorem pickD_mono {p : Mm} {ds : List D} {M : Mp} {K K' : KD} (m : ∀ d M, K d M → K' d M) (h : pickD p ds M K) : pickD p ds M K' := by
  unfold pickD at h ⊢
  split at h
  · exact h
  · obtain ⟨xs, n, ns, h1, h2, h3⟩ := h
    exact ⟨xs, n, ns, h1, h2, m _ _ h3⟩
  · exact m _ _ h
  · exact m _ _ h
  · exact h
theorem biD_mono {f : String} {ds : List D} {M : Mp} {K K' : KD} (m : ∀ d M, K d M → K' d M) (h : biD f ds M K) : biD f ds M K' := by
  unfold biD at h ⊢
  split at h
  · obtain ⟨d, n, h1, h2, h3⟩ := h
    exact ⟨d, n, h1, h2, m _ _ h3⟩
  · obtain ⟨d, h1, h2⟩ := h
    refine ⟨d, h1, ?_⟩
    split at h2 <;> first | exact m _ _ h2 | exact h2
  · obtain ⟨d, h1, h2⟩ := h
    refine ⟨d, h1, ?_⟩
    split at h2 <;> first | exact ⟨h2.1, m _ _ h2.2⟩ | exact h2
  · obtain ⟨d, h1, h2⟩ := h
    refine ⟨d, h1, ?_⟩
    split at h2 <;> first | exact m _ _ h2 | exact h2
  · obtain ⟨d, xs, h1, h2, h3⟩ := h
    exact ⟨d, xs, h1, h2, m _ _ h3⟩
  · obtain ⟨i, h1, h2⟩ := h
    exact ⟨i, h1, m _ _ h2⟩
  · exact pickD_mono m h
  · exact pickD_mono m h
  · obtain ⟨d, xs, ns, h1, h2, h3, h4⟩ := h
    exact ⟨d, xs, ns, h1, h2, h3, m _ _ h4⟩
  · obtain ⟨d, xs, h1, h2, h3, h4, h5⟩ := h
    exact ⟨d, xs, h1, h2, h3, h4, m _ _ h5⟩
  · exact h
theorem mthD_mono {f : String} {o : D} {ds : List D} {M : Mp} {K K' : KD} (m : ∀ d M, K d M → K' d M) (h : mthD f o ds M K) : mthD f o ds M K' := by
  unfold mthD at h ⊢
  split at h
  · obtain ⟨a, xs, d, h1, h2, h3, h4, h5⟩ := h
    exact ⟨a, xs, d, h1, h2, h3, h4, m _ _ h5⟩
  · obtain ⟨a, xs, d, ys, h1, h2, h3, h4, h5, h6⟩ := h
    exact ⟨a, xs, d, ys, h1, h2, h3, h4, h5, m _ _ h6⟩
  · obtain ⟨xs, qs, d, p, j, z, h1, h2, h3, h4, h5, h6, h7, h8, h9, h10⟩ := h
    exact ⟨xs, qs, d, p, j, z, h1, h2, h3, h4, h5, h6, h7, h8, h9, m _ _ h10⟩
  · obtain ⟨t, kvs, h1, h2⟩ := h
    refine ⟨t, kvs, h1, ?_⟩
    rcases h2 with ⟨k, h2, h3, h4⟩ | ⟨k, d, h2, h3, h4⟩
    · exact .inl ⟨k, h2, h3, m _ _ h4⟩
    · exact .inr ⟨k, d, h2, h3, m _ _ h4⟩
  · exact h
mutual
theorem wpG_mono : ∀ (t : Tg) (d : D) (ρ : Env') (M : Mp) (Q Q' : Env' → Prop), (∀ ρ, Q ρ → Q' ρ) → wpG t d ρ M Q → wpG t d ρ M Q'
  | .n i, d, ρ, M, Q, Q', m, h => by rw [wpG] at h ⊢; exact m _ h
  | .t l, d, ρ, M, Q, Q', m, h => by
    cases d <;> simp only [wpG] at h ⊢ <;> exact ⟨h.1, wpGs_mono l _ ρ M Q Q' m h.2⟩
theorem wpGs_mono : ∀ (t : List Tg) (d : List D) (ρ : Env') (M : Mp) (Q Q' : Env' → Prop), (∀ ρ, Q ρ → Q' ρ) → wpGs t d ρ M Q → wpGs t d ρ M Q'
  | [], [], ρ, M, Q, Q', m, h => by rw [wpGs] at h ⊢; exact m _ h
  | t :: ts, d :: ds, ρ, M, Q, Q', m, h => by
    rw [wpGs] at h ⊢
    exact wpG_mono t d ρ M _ _ (fun ρ1 => wpGs_mono ts ds ρ1 M Q Q' m) h
  | [], _ :: _, _, _, _, _, _, h => by simp [wpGs] at h
  | _ :: _, [], _, _, _, _, _, h => by simp [wpGs] at h
end
theorem compL_mono {turn turn' : D → Mp → (Option D → Mp → Prop) → Prop} (mt : ∀ x M K K', (∀ d M, K d M → K' d M) → turn x M K → turn' x M K') {inv : Mp → Prop} {p : Addr} : ∀ (xs acc : List D) (M : Mp) (K K' : List D → Mp → Prop), (∀ d M, K d M → K' d M) → compL turn inv p xs acc M K → compL turn' inv p xs acc M K'
  | [], acc, M, K, K', m, h => by rw [compL] at h ⊢; exact ⟨h.1, m _ _ h.2⟩
  | x :: xs, acc, M, K, K', m, h => by
    rw [compL] at h ⊢
    refine ⟨h.1, mt _ _ _ _ (fun r M1 q => ⟨q.1, ?_⟩) h.2⟩
    cases r with
    | none => exact compL_mono mt xs acc M1 K K' m q.2
    | some d => exact ⟨q.2.1, compL_mono mt xs _ _ K K' m q.2.2⟩
theorem outL_mono {turn turn' : D → List D → Mp → (List D → Mp → Prop) → Prop} (mt : ∀ x acc M K K', (∀ d M, K d M → K' d M) → turn x acc M K → turn' x acc M K') {inv : Mp → Prop} : ∀ (xs acc : List D) (M : Mp) (K K' : List D → Mp → Prop), (∀ d M, K d M → K' d M) → outL turn inv xs acc M K → outL turn' inv xs acc M K'
  | [], acc, M, K, K', m, h => by rw [outL] at h ⊢; exact ⟨h.1, m _ _ h.2⟩
  | x :: xs, acc, M, K, K', m, h => by
    rw [outL] at h ⊢
    exact ⟨h.1, mt _ _ _ _ _ (fun r M1 q => outL_mono mt xs r M1 K K' m q) h.2⟩
theorem bfD_mono {id : String} {ds : List D} {M : Mp} {K K' : KD} (m : ∀ d M, K d M → K' d M) (h : bfD id ds M K) : bfD id ds M K' := by
  unfold bfD at h ⊢
  split at h
  · obtain ⟨a, b, h1, h2, h3, h4⟩ := h; exact ⟨a, b, h1, h2, h3, m _ _ h4⟩
  · obtain ⟨a, b, h1, h4⟩ := h; exact ⟨a, b, h1, m _ _ h4⟩
  · exact h
mutual
theorem wpE_mono (Γ : Gam) : ∀ (e : Ex) (ρ : Env') (M : Mp) (Q Q' : KD), (∀ d M, Q d M → Q' d M) → wpE Γ e ρ M Q → wpE Γ e ρ M Q'
  | .v i, ρ, M, Q, Q', m, h => by rw [wpE] at h ⊢; exact let ⟨d, h1, h2⟩ := h; ⟨d, h1, m _ _ h2⟩
  | .k c, ρ, M, Q, Q', m, h => by rw [wpE] at h ⊢; exact m _ _ h
  | .g x, ρ, M, Q, Q', m, h => by rw [wpE] at h ⊢; exact let ⟨d, h1, h2⟩ := h; ⟨d, h1, m _ _ h2⟩
  | .bin op a b, ρ, M, Q, Q', m, h => by
    rw [wpE] at h ⊢
    exact wpE_mono Γ a ρ M _ _ (fun x M1 => wpE_mono Γ b ρ M1 _ _ fun y M2 => binD_mono m) h
  | .neg a, ρ, M, Q, Q', m, h => by
    rw [wpE] at h ⊢
    exact wpE_mono Γ a ρ M _ _ (fun x M1 ⟨i, h1, h2⟩ => ⟨i, h1, m _ _ h2⟩) h
  | .cmp op a b, ρ, M, Q, Q', m, h => by
    rw [wpE] at h ⊢
    exact wpE_mono Γ a ρ M _ _ (fun x M1 => wpE_mono Γ b ρ M1 _ _ fun y M2 => cmpD_mono fun c => m _ _) h
  | .chain o p a b c, ρ, M, Q, Q', m, h => by
    rw [wpE] at h ⊢
    refine wpE_mono Γ a ρ M _ _ (fun x M1 => wpE_mono Γ b ρ M1 _ _ fun y M2 => cmpD_mono fun k q => ?_) h
    split at q
    · next e => rw [if_pos e]; exact wpE_mono Γ c ρ M2 _ _ (fun z M3 => cmpD_mono fun k2 => m _ _) q
    · next e => rw [if_neg e]; exact m _ _ q
  | .isN yes a, ρ, M, Q, Q', m, h => by
    rw [wpE] at h ⊢
    exact wpE_mono Γ a ρ M _ _ (fun x M1 => m _ _) h
  | .and es, ρ, M, Q, Q', m, h => by rw [wpE] at h ⊢; exact wpAnd_mono Γ es ρ M Q Q' m h
  | .or es, ρ, M, Q, Q', m, h => by rw [wpE] at h ⊢; exact wpOr_mono Γ es ρ M Q Q' m h
  | .not a, ρ, M, Q, Q', m, h => by
    rw [wpE] at h ⊢
    exact wpE_mono Γ a ρ M _ _ (fun x M1 => truD_mono fun c => m _ _) h
  | .ite t a b, ρ, M, Q, Q', m, h => by
    rw [wpE] at h ⊢
    refine wpT_mono Γ t ρ M _ _ (fun c M1 q => ?_) h
    split at q
    · next e => rw [if_pos e]; exact wpE_mono Γ a ρ M1 Q Q' m q
    · next e => rw [if_neg e]; exact wpE_mono Γ b ρ M1 Q Q' m q
  | .tup es, ρ, M, Q, Q', m, h => by
    rw [wpE] at h ⊢
    exact wpEs_mono Γ es ρ M _ _ (fun ds M1 q => ⟨q.1, m _ _ q.2⟩) h
  | .lst es, ρ, M, Q, Q', m, h => by
    rw [wpE] at h ⊢
    exact wpEs_mono Γ es ρ M _ _ (fun ds M1 q => ⟨q.1, m _ _ q.2⟩) h
  | .lstM es, ρ, M, Q, Q', m, h => by
    rw [wpE] at h ⊢
    exact wpEs_mono Γ es ρ M _ _ (fun ds M1 q => ⟨q.1, fun p n => m _ _ (q.2 p n)⟩) h
  | .dctM t, ρ, M, Q, Q', m, h => by rw [wpE] at h ⊢; exact fun p n => m _ _ (h p n)
  | .sub a i, ρ, M, Q, Q', m, h => by
    rw [wpE] at h ⊢
    exact wpE_mono Γ a ρ M _ _ (fun x M1 => wpE_mono Γ i ρ M1 _ _ fun y M2 => subD_mono m) h
  | .slc a lo hi, ρ, M, Q, Q', m, h => by
    rw [wpE] at h ⊢
    exact wpE_mono Γ a ρ M _ _ (fun x M1 => wpO_mono Γ lo ρ M1 _ _ fun l M2 => wpO_mono Γ hi ρ M2 _ _ fun h M3 => slcD_mono m) h
  | .isi a ty, ρ, M, Q, Q', m, h => by
    rw [wpE] at h ⊢
    exact wpE_mono Γ a ρ M _ _ (fun x M1 => isiD_mono fun c => m _ _) h
  | .bi f es, ρ, M, Q, Q', m, h => by
    rw [wpE] at h ⊢
    exact wpEs_mono Γ es ρ M _ _ (fun ds M1 => biD_mono m) h
  | .call f es, ρ, M, Q, Q', m, h => by
    rw [wpE] at h ⊢
    obtain ⟨sp, e, h⟩ := h
    exact ⟨sp, e, wpEs_mono Γ es ρ M _ _ (fun ds M1 q => q.mono m) h⟩
  | .mth T n o es, ρ, M, Q, Q', m, h => by
    rw [wpE] at h ⊢
    exact wpE_mono Γ o ρ M _ _ (fun x M1 q => ⟨q.1, wpEs_mono Γ es ρ M1 _ _ (fun ds M2 => mthD_mono m) q.2⟩) h
  | .comp mt own tg it ifs el, ρ, M, Q, Q', m, h => by
    rw [wpE] at h ⊢
    refine wpI_mono Γ it ρ M _ _ (fun xs inv M1 q p np => compL_mono (fun x M2 K K' mk q2 => ?_) xs [] _ _ _ (fun ds M2 q => by
      cases mt with
      | true => exact m _ _ q
      | false => exact m _ _ q) (q p np)) h
    refine wpG_mono tg x _ M2 _ _ (fun ρ1 q3 => wpTo_mono Γ ifs ρ1 M2 _ _ (fun c M3 q4 => ?_) q3) q2
    split at q4
    · next e => rw [if_pos e]; exact wpE_mono Γ el ρ1 M3 _ _ (fun d M4 => mk _ _) q4
    · next e => rw [if_neg e]; exact mk _ _ q4
  | .comp2 mt own own1 tg it ifs tg1 it1 ifs1 el, ρ, M, Q, Q', m, h => by
    rw [wpE] at h ⊢
    refine wpI_mono Γ it ρ M _ _ (fun xs inv M1 q p np => outL_mono (fun x acc M2 K K' mk q2 => ?_) xs [] _ _ _ (fun ds M2 q => by
      cases mt with
      | true => exact m _ _ q
      | false => exact m _ _ q) (q p np)) h
    refine wpG_mono tg x _ M2 _ _ (fun ρ1 q3 => wpTo_mono Γ ifs ρ1 M2 _ _ (fun c M3 q4 => ?_) q3) q2
    cases c with
    | false => exact ⟨q4.1, mk _ _ q4.2⟩
    | true =>
      simp only [if_true] at q4 ⊢
      refine wpI_mono Γ it1 ρ1 M3 _ _ (fun ys inv1 M4 q5 => ⟨q5.1, compL_mono (fun y M5 K K' mk5 q6 => ?_) ys acc M4 _ _ mk q5.2⟩) q4
      refine wpG_mono tg1 y _ M5 _ _ (fun ρ2 q7 => wpTo_mono Γ ifs1 ρ2 M5 _ _ (fun c M6 q8 => ?_) q7) q6
      cases c with
      | false => exact mk5 _ _ q8
      | true =>
        simp only [if_true] at q8 ⊢
        exact wpE_mono Γ el ρ2 M6 _ _ (fun d M7 => mk5 _ _) q8
  | .bf f es, ρ, M, Q, Q', m, h => by
    rw [wpE] at h ⊢
    obtain ⟨id, h1, h3, h2⟩ := h
    exact ⟨id, h1, h3, wpEs_mono Γ es ρ M _ _ (fun ds M1 => bfD_mono m) h2⟩
  | .disp ks es, ρ, M, Q, Q', m, h => by
    rw [wpE] at h ⊢
    exact fun p n => wpEs_mono Γ es ρ _ _ _ (fun ds M1 q => ⟨q.1, m _ _ q.2⟩) (h p n)
  | .lkeys a, ρ, M, Q, Q', m, h => by
    rw [wpE] at h ⊢
    exact wpE_mono Γ a ρ M _ _ (fun x M1 ⟨kvs, h1, h2⟩ => ⟨kvs, h1, m _ _ h2⟩) h
  | .callK f es ks kes, ρ, M, Q, Q', m, h => by
    rw [wpE] at h ⊢
    obtain ⟨sp, h1, h2, h3⟩ := h
    exact ⟨sp, h1, h2, wpEs_mono Γ es ρ M _ _ (fun ds M1 => wpEs_mono Γ kes ρ M1 _ _ fun zs M2 q => q.mono m) h3⟩
theorem wpEs_mono (Γ : Gam) : ∀ (es : List Ex) (ρ : Env') (M : Mp) (Q Q' : List D → Mp → Prop), (∀ d M, Q d M → Q' d M) → wpEs Γ es ρ M Q → wpEs Γ es ρ M Q'
  | [], ρ, M, Q, Q', m, h => by rw [wpEs] at h ⊢; exact m _ _ h
  | e :: es, ρ, M, Q, Q', m, h => by
    rw [wpEs] at h ⊢
    exact wpE_mono Γ e ρ M _ _ (fun d M1 => wpEs_mono Γ es ρ M1 _ _ fun ds M2 => m _ _) h
theorem wpO_mono (Γ : Gam) : ∀ (o : Option Ex) (ρ : Env') (M : Mp) (Q Q' : Option Int → Mp → Prop), (∀ d M, Q d M → Q' d M) → wpO Γ o ρ M Q → wpO Γ o ρ M Q'
  | none, ρ, M, Q, Q', m, h => by rw [wpO] at h ⊢; exact m _ _ h
  | some e, ρ, M, Q, Q', m, h => by rw [wpO] at h ⊢; exact wpE_mono Γ e ρ M _ _ (fun d M1 ⟨i, e, q⟩ => ⟨i, e, m _ _ q⟩) h
theorem wpAnd_mono (Γ : Gam) : ∀ (es : List Ex) (ρ : Env') (M : Mp) (Q Q' : KD), (∀ d M, Q d M → Q' d M) → wpAnd Γ es ρ M Q → wpAnd Γ es ρ M Q'
  | [], ρ, M, Q, Q', m, h => by simp [wpAnd] at h
  | [e], ρ, M, Q, Q', m, h => by rw [wpAnd] at h ⊢; exact wpE_mono Γ e ρ M _ _ (fun x M1 => m _ _) h
  | e :: e2 :: es, ρ, M, Q, Q', m, h => by
    rw [wpAnd] at h ⊢
    refine wpE_mono Γ e ρ M _ _ (fun x M1 ⟨c, h1, h2⟩ => ⟨c, h1, ?_⟩) h
    split at h2
    · next q => rw [if_pos q]; exact wpAnd_mono Γ (e2 :: es) ρ M1 Q Q' m h2
    · next q => rw [if_neg q]; exact m _ _ h2
theorem wpOr_mono (Γ : Gam) : ∀ (es : List Ex) (ρ : Env') (M : Mp) (Q Q' : KD), (∀ d M, Q d M → Q' d M) → wpOr Γ es ρ M Q → wpOr Γ es ρ M Q'
  | [], ρ, M, Q, Q', m, h => by simp [wpOr] at h
  | [e], ρ, M, Q, Q', m, h => by rw [wpOr] at h ⊢; exact wpE_mono Γ e ρ M _ _ (fun x M1 => m _ _) h
  | e :: e2 :: es, ρ, M, Q, Q', m, h => by
    rw [wpOr] at h ⊢
    refine wpE_mono Γ e ρ M _ _ (fun x M1 ⟨c, h1, h2⟩ => ⟨c, h1, ?_⟩) h
    split at h2
    · next q => rw [if_pos q]; exact m _ _ h2
    · next q => rw [if_neg q]; exact wpOr_mono Γ (e2 :: es) ρ M1 Q Q' m h2
theorem wpT_mono (Γ : Gam) : ∀ (t : Tx) (ρ : Env') (M : Mp) (Q Q' : Bool → Mp → Prop), (∀ d M, Q d M → Q' d M) → wpT Γ t ρ M Q → wpT Γ t ρ M Q'
  | .e a, ρ, M, Q, Q', m, h => by
    rw [wpT] at h ⊢
    exact wpE_mono Γ a ρ M _ _ (fun x M1 => truD_mono fun c => m _ _) h
  | .not t, ρ, M, Q, Q', m, h => by rw [wpT] at h ⊢; exact wpT_mono Γ t ρ M _ _ (fun c M1 => m _ _) h
  | .and ts, ρ, M, Q, Q', m, h => by rw [wpT] at h ⊢; exact wpTAnd_mono Γ ts ρ M Q Q' m h
  | .or ts, ρ, M, Q, Q', m, h => by rw [wpT] at h ⊢; exact wpTOr_mono Γ ts ρ M Q Q' m h
  | .cmp op a b, ρ, M, Q, Q', m, h => by
    rw [wpT] at h ⊢
    exact wpE_mono Γ a ρ M _ _ (fun x M1 => wpE_mono Γ b ρ M1 _ _ fun y M2 => cmpD_mono fun c => m _ _) h
  | .chain o p a b c, ρ, M, Q, Q', m, h => by
    rw [wpT] at h ⊢
    refine wpE_mono Γ a ρ M _ _ (fun x M1 => wpE_mono Γ b ρ M1 _ _ fun y M2 => cmpD_mono fun k q => ?_) h
    split at q
    · next e => rw [if_pos e]; exact wpE_mono Γ c ρ M2 _ _ (fun z M3 => cmpD_mono fun k2 => m _ _) q
    · next e => rw [if_neg e]; exact m _ _ q
  | .isN yes a, ρ, M, Q, Q', m, h => by
    rw [wpT] at h ⊢
    exact wpE_mono Γ a ρ M _ _ (fun x M1 => m _ _) h
theorem wpTAnd_mono (Γ : Gam) : ∀ (ts : List Tx) (ρ : Env') (M : Mp) (Q Q' : Bool → Mp → Prop), (∀ d M, Q d M → Q' d M) → wpTAnd Γ ts ρ M Q → wpTAnd Γ ts ρ M Q'
  | [], ρ, M, Q, Q', m, h => by simp [wpTAnd] at h
  | [t], ρ, M, Q, Q', m, h => by rw [wpTAnd] at h ⊢; exact wpT_mono Γ t ρ M _ _ (fun x M1 => m _ _) h
  | t :: t2 :: ts, ρ, M, Q, Q', m, h => by
    rw [wpTAnd] at h ⊢
    refine wpT_mono Γ t ρ M _ _ (fun c M1 h2 => ?_) h
    dsimp only at h2 ⊢
    split at h2
    · next q => rw [if_pos q]; exact wpTAnd_mono Γ (t2 :: ts) ρ M1 Q Q' m h2
    · next q => rw [if_neg q]; exact m _ _ h2
theorem wpTOr_mono (Γ : Gam) : ∀ (ts : List Tx) (ρ : Env') (M : Mp) (Q Q' : Bool → Mp → Prop), (∀ d M, Q d M → Q' d M) → wpTOr Γ ts ρ M Q → wpTOr Γ ts ρ M Q'
  | [], ρ, M, Q, Q', m, h => by simp [wpTOr] at h
  | [t], ρ, M, Q, Q', m, h => by rw [wpTOr] at h ⊢; exact wpT_mono Γ t ρ M _ _ (fun x M1 => m _ _) h
  | t :: t2 :: ts, ρ, M, Q, Q', m, h => by
    rw [wpTOr] at h ⊢
    refine wpT_mono Γ t ρ M _ _ (fun c M1 h2 => ?_) h
    dsimp only at h2 ⊢
    split at h2
    · next q => rw [if_pos q]; exact m _ _ h2
    · next q => rw [if_neg q]; exact wpTOr_mono Γ (t2 :: ts) ρ M1 Q Q' m h2
theorem wpTo_mono (Γ : Gam) : ∀ (o : Option Tx) (ρ : Env') (M : Mp) (Q Q' : Bool → Mp → Prop), (∀ d M, Q d M → Q' d M) → wpTo Γ o ρ M Q → wpTo Γ o ρ M Q'
  | none, ρ, M, Q, Q', m, h => by rw [wpTo] at h ⊢; exact m _ _ h
  | some e, ρ, M, Q, Q', m, h => by rw [wpTo] at h ⊢; exact wpT_mono Γ e ρ M _ _ m h
theorem wpI_mono (Γ : Gam) : ∀ (i : Ix) (ρ : Env') (M : Mp) (Q Q' : List D → (Mp → Prop) → Mp → Prop), (∀ d iv M, Q d iv M → Q' d iv M) → wpI Γ i ρ M Q → wpI Γ i ρ M Q'
  | .s a, ρ, M, Q, Q', m, h => by
    rw [wpI] at h ⊢
    refine wpE_mono Γ a ρ M _ _ (fun x M1 q => ?_) h
    split at q <;> first
      | exact m _ _ _ q
      | (split at q <;> first | exact m _ _ _ q | exact q)
      | exact q
  | .rng es, ρ, M, Q, Q', m, h => by
    rw [wpI] at h ⊢
    refine wpEs_mono Γ es ρ M _ _ (fun x M1 q => ?_) h
    split at q <;> first
      | exact ⟨q.1, m _ _ _ q.2⟩
      | exact q
end
structure EndD.Le (D D' : EndD) : Prop where
  nx : ∀ ρ M, D.nx ρ M → D'.nx ρ M
  rt : ∀ d M, D.rt d M → D'.rt d M
  bk : ∀ ρ M, D.bk ρ M → D'.bk ρ M
  ct : ∀ ρ M, D.ct ρ M → D'.ct ρ M
theorem forL_mono {turn turn' : D → Env' → Mp → (Env' → Mp → Prop) → Prop} (mt : ∀ x ρ M N N', (∀ ρ M, N ρ M → N' ρ M) → turn x ρ M N → turn' x ρ M N') {inv : Mp → Prop} {nx nx' : Env' → Mp → Prop} (m : ∀ ρ M, nx ρ M → nx' ρ M) : ∀ (xs : List D) (ρ : Env') (M : Mp), forL turn inv nx xs ρ M → forL turn' inv nx' xs ρ M
  | [], ρ, M, h => by rw [forL] at h ⊢; exact ⟨h.1, m _ _ h.2⟩
  | x :: xs, ρ, M, h => by
    rw [forL] at h ⊢
    exact ⟨h.1, mt _ _ _ _ _ (forL_mono mt m xs) h.2⟩
theorem whileL_mono {test test' : Env' → Mp → (Bool → Mp → Prop) → Prop} (mt : ∀ ρ M Q Q', (∀ c M, Q c M → Q' c M) → test ρ M Q → test' ρ M Q') {body body' : Env' → Mp → (Env' → Mp → Prop) → Prop} (mb : ∀ ρ M N N', (∀ ρ M, N ρ M → N' ρ M) → body ρ M N → body' ρ M N')
    {nx nx' : Env' → Mp → Prop} (m : ∀ ρ M, nx ρ M → nx' ρ M) : ∀ (n : Nat) (ρ : Env') (M : Mp), whileL test body nx n ρ M → whileL test' body' nx' n ρ M
  | 0, ρ, M, h => by rw [whileL] at h; exact h.elim
  | n + 1, ρ, M, h => by
    rw [whileL] at h ⊢
    refine mt _ _ _ _ (fun c M1 q => ?_) h
    split at q
    · next e => rw [if_pos e]; exact mb _ _ _ _ (whileL_mono mt mb m n) q
    · next e => rw [if_neg e]; exact m _ _ q
mutual
theorem wpS_mono (Γ : Gam) : ∀ (s : Sm) (ρ : Env') (M : Mp) (D D' : EndD), D.Le D' → wpS Γ s ρ M D → wpS Γ s ρ M D'
  | .asg t e, ρ, M, D, D', m, h => by
    rw [wpS] at h ⊢
    exact wpE_mono Γ e ρ M _ _ (fun d M1 => wpG_mono t d ρ M1 _ _ fun ρ1 => m.nx _ _) h
  | .par l es, ρ, M, D, D', m, h => by
    rw [wpS] at h ⊢
    exact wpEs_mono Γ es ρ M _ _ (fun ds M1 => m.nx _ _) h
  | .set o i e, ρ, M, D, D', m, h => by
    rw [wpS] at h ⊢
    exact wpE_mono Γ e ρ M _ _ (fun d M1 => wpE_mono Γ o ρ M1 _ _ fun x M2 => wpE_mono Γ i ρ M2 _ _ fun y M3 => setD_mono fun M4 => m.nx _ _) h
  | .aug i op e, ρ, M, D, D', m, h => by
    rw [wpS] at h ⊢
    obtain ⟨x, h1, h2⟩ := h
    exact ⟨x, h1, wpE_mono Γ e ρ M _ _ (fun y M1 q => ⟨q.1, binD_mono (fun z M2 => m.nx _ _) q.2⟩) h2⟩
  | .augS o i op e, ρ, M, D, D', m, h => by
    rw [wpS] at h ⊢
    exact wpE_mono Γ o ρ M _ _ (fun x M1 => wpE_mono Γ i ρ M1 _ _ fun y M2 => subD_mono fun z M3 => wpE_mono Γ e ρ M3 _ _ fun w M4 q => ⟨q.1, binD_mono (fun r M5 => setD_mono fun M6 => m.nx _ _) q.2⟩) h
  | .ex e, ρ, M, D, D', m, h => by rw [wpS] at h ⊢; exact wpE_mono Γ e ρ M _ _ (fun d M1 => m.nx _ _) h
  | .ret e, ρ, M, D, D', m, h => by rw [wpS] at h ⊢; exact wpE_mono Γ e ρ M _ _ (fun d M1 => m.rt _ _) h
  | .retN, ρ, M, D, D', m, h => by rw [wpS] at h ⊢; exact m.rt _ _ h
  | .ite t a b, ρ, M, D, D', m, h => by
    rw [wpS] at h ⊢
    refine wpT_mono Γ t ρ M _ _ (fun c M1 q => ?_) h
    split at q
    · next e => rw [if_pos e]; exact wpSs_mono Γ a ρ M1 D D' m q
    · next e => rw [if_neg e]; exact wpSs_mono Γ b ρ M1 D D' m q
  | .for_ tg it body, ρ, M, D, D', m, h => by
    rw [wpS] at h ⊢
    exact wpI_mono Γ it ρ M _ _ (fun xs inv M1 => forL_mono (fun x ρ1 M2 N N' n => wpG_mono tg x ρ1 M2 _ _ fun ρ2 => wpSs_mono Γ body ρ2 M2 ⟨N, D.rt, D.nx, N⟩ ⟨N', D'.rt, D'.nx, N'⟩ ⟨n, m.rt, m.nx, n⟩) m.nx xs ρ M1) h
  | .while_ t body, ρ, M, D, D', m, h => by
    rw [wpS] at h ⊢
    exact let ⟨n, h⟩ := h; ⟨n, whileL_mono (fun ρ M Q Q' k => wpT_mono Γ t ρ M Q Q' k) (fun ρ1 M1 N N' k => wpSs_mono Γ body ρ1 M1 ⟨N, D.rt, D.nx, N⟩ ⟨N', D'.rt, D'.nx, N'⟩ ⟨k, m.rt, m.nx, k⟩) m.nx n ρ M h⟩
  | .brk, ρ, M, D, D', m, h => by rw [wpS] at h ⊢; exact m.bk _ _ h
  | .cont, ρ, M, D, D', m, h => by rw [wpS] at h ⊢; exact m.ct _ _ h
  | .pass, ρ, M, D, D', m, h => by rw [wpS] at h ⊢; exact m.nx _ _ h
  | .frz i, ρ, M, D, D', m, h => by
    rw [wpS] at h ⊢
    obtain ⟨a, h1, h2⟩ := h
    refine ⟨a, h1, ?_⟩
    split at h2
    · exact m.nx _ _ h2
    · exact m.nx _ _ h2
    · exact h2
theorem wpSs_mono (Γ : Gam) : ∀ (s : List Sm) (ρ : Env') (M : Mp) (D D' : EndD), D.Le D' → wpSs Γ s ρ M D → wpSs Γ s ρ M D'
  | [], ρ, M, D, D', m, h => by rw [wpSs] at h ⊢; exact m.nx _ _ h
  | s :: ss, ρ, M, D, D', m, h => by
    rw [wpSs] at h ⊢
    exact wpS_mono Γ s ρ M { D with nx := fun ρ1 M1 => wpSs Γ ss ρ1 M1 D } { D' with nx := fun ρ1 M1 => wpSs Γ ss ρ1 M1 D' } ⟨fun ρ1 M1 => wpSs_mono Γ ss ρ1 M1 D D' m, m.rt, m.bk, m.ct⟩ h
end
end Vc
/-! The operations of the small language are those of the layer. -/
namespace Vc
open PySem PySem.Spec PyProof.Rows L2
variable [KF]
section
variable {X : Cx} [XK X] {pins : List (Addr × Obj)} {σ : L2.St} {H : Hp} {s : Shared} {M : Mp}
theorem lst_obj {a : Addr} {vs : List V} (I : Inv X pins σ H s) (h : Rd H a (.lst vs)) : ∃ (its : List Value) (n : Nat), Vals vs its ∧ vs.length ≤ sizeLine ∧ s.heap.get? a = some { cls := .type "list", data := .seq its.toArray n } := by
  have o : ObjOk X.prog X.w H s.heap a (.lst vs) := h.ok I.hok
  obtain ⟨z, its, n, r, e⟩ := o
  exact ⟨its, n, r, z, e⟩
theorem own_lst {d : D} {x : V} {xs : List D} (rm : RelM M H) (h : Rep M H d x) (e : ownL M d = some xs) : ∃ a vs, x = .ref a ∧ Rd H a (.lst vs) ∧ Reps M H xs vs := by
  cases d with
  | lst ys =>
    cases (show some ys = some xs from e)
    rw [Rep] at h
    obtain ⟨a, vs, e, _, h1, h2⟩ := h
    exact ⟨a, vs, e, h1, h2⟩
  | ref a =>
    have e : (match M a with | some (.lst xs) => some xs | _ => none) = some xs := e
    split at e
    · next ys hm =>
      cases e
      obtain ⟨vs, h1, h2⟩ := rm a _ hm
      exact ⟨a, vs, by rw [Rep] at h; exact h, .inl h1, h2⟩
    · cases e
  | _ => cases e
theorem look_ref_cases (M : Mp) (a : Addr) : (∃ xs, M a = some (.lst xs) ∧ look M (.ref a) = .lst xs) ∨ (∃ t kvs, M a = some (.dct t kvs) ∧ look M (.ref a) = .dct t kvs) ∨ look M (.ref a) = .ref a := by
  rw [look]
  cases hm : M a with
  | none => exact .inr (.inr rfl)
  | some o =>
    cases o with
    | lst xs => exact .inl ⟨xs, rfl, rfl⟩
    | dct t kvs => exact .inr (.inl ⟨t, kvs, rfl, rfl⟩)
    | ins c f => exact .inr (.inr rfl)
/-- a list, frozen or not -/
theorem look_lst {d : D} {x : V} {xs : List D} (rm : RelM M H) (h : Rep M H d x) (e : look M d = .lst xs) : ∃ a vs, x = .ref a ∧ SqL KF.K H a vs ∧ Reps M H xs vs := by
  cases d with
  | lst ys =>
    have e' : D.lst ys = .lst xs := e
    cases e'
    exact h.lst_at
  | klst ys =>
    have e' : D.lst ys = .lst xs := e
    cases e'
    exact h.klst_at
  | ref a =>
    rcases look_ref_cases M a with ⟨ys, hm, q⟩ | ⟨t, kvs, hm, q⟩ | q
    · rw [q] at e; cases e
      obtain ⟨vs, h1, h2⟩ := rm a _ hm
      exact ⟨a, vs, by rw [Rep] at h; exact h, .inl (.inl h1), h2⟩
    · rw [q] at e; cases e
    · rw [q] at e; cases e
  | _ => cases e
theorem look_tup {d : D} {x : V} {xs : List D} (rm : RelM M H) (h : Rep M H d x) (e : look M d = .tup xs) : ∃ a vs, x = .ref a ∧ SqT KF.K H a vs ∧ Reps M H xs vs := by
  cases d with
  | tup ys =>
    have e' : D.tup ys = .tup xs := e
    cases e'
    exact h.tup_at
  | ktp ys =>
    have e' : D.tup ys = .tup xs := e
    cases e'
    exact h.ktp_at
  | ref a =>
    rcases look_ref_cases M a with ⟨ys, hm, q⟩ | ⟨t, kvs, hm, q⟩ | q <;> (rw [q] at e; cases e)
  | _ => cases e
/-- a dict, frozen or not -/
theorem look_dct {d : D} {x : V} {t : Bool} {kvs : List (D × D)} (rm : RelM M H) (h : Rep M H d x) (e : look M d = .dct t kvs) :
    ∃ a, x = .ref a ∧ ((t = false ∧ ∃ l, Rd H a (.dK l) ∧ RepK M H kvs l) ∨ (t = true ∧ ∃ l, Rd H a (.dT l) ∧ RepT M H kvs l)) := by
  cases d with
  | dct t' ys =>
    have e' : D.dct t' ys = .dct t kvs := e
    cases e'
    cases t with
    | false =>
      rw [Rep] at h
      obtain ⟨a, l, e, _, h1, h2⟩ := h
      exact ⟨a, e, .inl ⟨rfl, l, h1, h2⟩⟩
    | true =>
      rw [Rep] at h
      obtain ⟨a, l, e, _, h1, h2⟩ := h
      exact ⟨a, e, .inr ⟨rfl, l, h1, h2⟩⟩
  | ref a =>
    rcases look_ref_cases M a with ⟨ys, hm, q⟩ | ⟨t', ys, hm, q⟩ | q
    · rw [q] at e; cases e
    · rw [q] at e; cases e
      refine ⟨a, by rw [Rep] at h; exact h, ?_⟩
      cases t with
      | false =>
        obtain ⟨l, h1, h2⟩ := rm a _ hm
        exact .inl ⟨rfl, l, .inl h1, h2⟩
      | true =>
        obtain ⟨l, h1, h2⟩ := rm a _ hm
        exact .inr ⟨rfl, l, .inl h1, h2⟩
    · rw [q] at e; cases e
  | _ => cases e
mutual
theorem rep_dp : ∀ (d : D) (v : V) (p : PyData), Rep M H d v → d.py = some p → Dp KF.K H v p
  | .non, v, p, h, e => by rw [Rep] at h; rw [D.py] at e; cases h; cases e; exact .non
  | .bl b, v, p, h, e => by rw [Rep] at h; rw [D.py] at e; cases h; cases e; exact .bl _
  | .int i, v, p, h, e => by rw [Rep] at h; rw [D.py] at e; cases h; cases e; exact .int _
  | .str x, v, p, h, e => by rw [Rep] at h; rw [D.py] at e; cases h; cases e; exact .str _
  | .lst xs, v, p, h, e => by
    rw [D.py] at e
    split at e
    · next l q =>
      cases e
      obtain ⟨a, vs, rfl, h1, h2⟩ := h.lst_at
      exact .lst h1 (reps_dp xs vs l h2 q)
    · cases e
  | .tup xs, v, p, h, e => by
    rw [D.py] at e
    split at e
    · next l q =>
      cases e
      obtain ⟨a, vs, rfl, h1, h2⟩ := h.tup_at
      exact .tup h1 (reps_dp xs vs l h2 q)
    · cases e
  | .ktp xs, v, p, h, e => by
    rw [D.py] at e
    split at e
    · next l q =>
      cases e
      obtain ⟨a, vs, rfl, h1, h2⟩ := h.ktp_at
      exact .tup h1 (reps_dp xs vs l h2 q)
    · cases e
  | .klst xs, v, p, h, e => by
    rw [D.py] at e
    split at e
    · next l q =>
      cases e
      obtain ⟨a, vs, rfl, h1, h2⟩ := h.klst_at
      exact .lst h1 (reps_dp xs vs l h2 q)
    · cases e
  | .dct _ _, v, p, h, e => by rw [D.py] at e; cases e
  | .ref _, v, p, h, e => by rw [D.py] at e; cases e
theorem reps_dp : ∀ (ds : List D) (vs : List V) (l : List PyData), Reps M H ds vs → pys ds = some l → DpAll KF.K H vs l
  | [], vs, l, h, e => by rw [Reps] at h; rw [pys] at e; cases h; cases e; exact .nil
  | d :: ds, vs, l, h, e => by
    rw [Reps] at h
    obtain ⟨v, r, rfl, h1, h2⟩ := h
    rw [pys] at e
    split at e
    · next p l q1 q2 => cases e; exact .cons (rep_dp d v p h1 q1) (reps_dp ds r l h2 q2)
    · cases e
end
theorem look_dp {d : D} {x : V} {p : PyData} (rm : RelM M H) (h : Rep M H d x) (e : (look M d).py = some p) : Dp KF.K H x p := by
  cases hd : look M d with
  | lst xs =>
    rw [hd] at e
    obtain ⟨a, vs, rfl, h1, h2⟩ := look_lst rm h hd
    rw [D.py] at e
    split at e
    · next l q => cases e; exact .lst h1 (reps_dp xs vs l h2 q)
    · cases e
  | tup xs =>
    rw [hd] at e
    obtain ⟨a, vs, rfl, h1, h2⟩ := look_tup rm h hd
    rw [D.py] at e
    split at e
    · next l q => cases e; exact .tup h1 (reps_dp xs vs l h2 q)
    · cases e
  | dct t kvs => rw [hd, D.py] at e; cases e
  | ref a => rw [hd, D.py] at e; cases e
  | _ =>
    rw [hd] at e
    refine rep_dp d x p h ?_
    cases d with
    | ref a => rcases look_ref_cases M a with ⟨ys, hm, q⟩ | ⟨t', ys, hm, q⟩ | q <;> (rw [q] at hd; cases hd)
    | ktp xs => cases (show D.tup xs = _ from hd)
    | klst xs => cases (show D.lst xs = _ from hd)
    | _ => exact (congrArg D.py (show _ = _ from hd)).trans e
section
variable {X : Cx} [XK X]
theorem look_dpX {d : D} {x : V} {p : PyData} (rm : RelM M H) (h : Rep M H d x) (e : (look M d).py = some p) : Dp X.K H x p := by rw [XK.e (X := X)]; exact look_dp rm h e
theorem rep_dpX {d : D} {x : V} {p : PyData} (h : Rep M H d x) (e : d.py = some p) : Dp X.K H x p := by rw [XK.e (X := X)]; exact rep_dp d x p h e
theorem reps_dpX {ds : List D} {vs : List V} {l : List PyData} (h : Reps M H ds vs) (e : pys ds = some l) : DpAll X.K H vs l := by rw [XK.e (X := X)]; exact reps_dp ds vs l h e
theorem look_lstX {d : D} {x : V} {xs : List D} (rm : RelM M H) (h : Rep M H d x) (e : look M d = .lst xs) : ∃ a vs, x = .ref a ∧ SqL X.K H a vs ∧ Reps M H xs vs := by rw [XK.e (X := X)]; exact look_lst rm h e
theorem look_tupX {d : D} {x : V} {xs : List D} (rm : RelM M H) (h : Rep M H d x) (e : look M d = .tup xs) : ∃ a vs, x = .ref a ∧ SqT X.K H a vs ∧ Reps M H xs vs := by rw [XK.e (X := X)]; exact look_tup rm h e
end
/-- keys -/
theorem keyD_rep {d : D} {x : V} {k : Key} (h : Rep M H d x) (e : keyD d = some k) : x = kV k := by
  cases d with
  | int i => rw [Rep] at h; cases e; exact h
  | str y => rw [Rep] at h; cases e; exact h
  | _ => cases e
theorem keysD_rep : ∀ {ds : List D} {vs : List V} {ks : List Key}, Reps M H ds vs → keysD ds = some ks → vs = ks.map kV
  | [], _, _, h, e => by rw [Reps] at h; cases h; cases e; rfl
  | d :: ds, _, _, h, e => by
    rw [Reps] at h
    obtain ⟨v, r, rfl, h1, h2⟩ := h
    rw [keysD] at e
    split at e
    · next k ks q1 q2 => cases e; rw [List.map_cons, ← keyD_rep h1 q1, ← keysD_rep h2 q2]
    · cases e
theorem tkeyD_rep {d : D} {x : V} {k : List Key} (h : Rep M H d x) (e : tkeyD d = some k) : ∃ b, x = .ref b ∧ H b = some (.tup (k.map kV)) := by
  cases d with
  | tup ds =>
    rw [Rep] at h
    obtain ⟨a, vs, rfl, _, h1, h2⟩ := h
    exact ⟨a, rfl, by rw [h1, keysD_rep h2 e]⟩
  | _ => cases e
theorem lookK_rep {x : D} {k : Key} (e : keyD x = some k) : ∀ {kvs : List (D × D)} {l : List (Key × V)}, RepK M H kvs l → match lookK kvs x with | some d => ∃ v, valV l k = some v ∧ Rep M H d v | none => valV l k = none
  | [], l, h => by rw [RepK] at h; subst h; rfl
  | (y, d) :: r, l, h => by
    rw [RepK] at h
    obtain ⟨q, v, t, rfl, h1, h2, h3⟩ := h
    rw [lookK, h1, e]
    by_cases c : q = k
    · subst c
      simp only [decide_true, if_true]
      exact ⟨v, valV_pos rfl, h2⟩
    · simp only [c, decide_false, Bool.false_eq_true, if_false]
      have ih := lookK_rep e h3
      rw [valV_neg (p := (q, v)) c]
      exact ih
theorem lookT_rep {x : D} {k : List Key} (e : tkeyD x = some k) : ∀ {kvs : List (D × D)} {l : List (List Key × V)}, RepT M H kvs l → match lookT kvs x with | some d => ∃ v, valV l k = some v ∧ Rep M H d v | none => valV l k = none
  | [], l, h => by rw [RepT] at h; subst h; rfl
  | (y, d) :: r, l, h => by
    rw [RepT] at h
    obtain ⟨q, v, t, rfl, h1, h2, h3⟩ := h
    rw [lookT, h1, e]
    by_cases c : q = k
    · subst c
      simp only [decide_true, if_true]
      exact ⟨v, valV_pos rfl, h2⟩
    · simp only [c, decide_false, Bool.false_eq_true, if_false]
      have ih := lookT_rep e h3
      rw [valV_neg (p := (q, v)) c]
      exact ih
/-- what a dict, frozen or not, holds -/
theorem dget_of {d y : D} {x yv : V} {t : Bool} {kvs : List (D × D)} (rm : RelM M H) (h : Rep M H d x) (hy : Rep M H y yv) (e : look M d = .dct t kvs) (ok : okK t y) :
    ∃ a r, x = .ref a ∧ DGet H a yv r ∧ match getK t kvs y with | some z => ∃ v, r = some v ∧ Rep M H z v | none => r = none := by
  obtain ⟨a, rfl, h1⟩ := look_dct rm h e
  rcases h1 with ⟨rfl, l, h1, h2⟩ | ⟨rfl, l, h1, h2⟩
  · unfold okK at ok
    simp only [Bool.false_eq_true, if_false] at ok
    obtain ⟨k, hk⟩ := Option.isSome_iff_exists.mp ok
    refine ⟨a, valV l k, rfl, .inl ⟨l, k, h1, keyD_rep hy hk, rfl⟩, ?_⟩
    have z := lookK_rep hk h2
    unfold getK
    simpa using z
  · unfold okK at ok
    simp only [if_true] at ok
    obtain ⟨k, hk⟩ := Option.isSome_iff_exists.mp ok
    obtain ⟨b, rfl, hb⟩ := tkeyD_rep hy hk
    refine ⟨a, valV l k, rfl, .inr ⟨l, k, b, h1, rfl, hb, rfl⟩, ?_⟩
    have z := lookT_rep hk h2
    unfold getK
    simpa using z
end
/-- a two-place operation on data -/
def liftR (r : D → D → Mp → KD → Prop) : R2 := fun x y H Q => ∃ M d e, Rep M H d x ∧ Rep M H e y ∧ RelM M H ∧ r d e M fun d' M' => ∀ v H', Kp M H M' H' → RelM M' H' → Rep M' H' d' v → Q v H'
def cmpR (op : CmpOp) (d e : D) (M : Mp) (K : KD) : Prop := cmpD op d e M fun b => K (.bl b) M
theorem rint {M : Mp} {H : Hp} {i : Int} : Rep M H (.int i) (.int i) := by rw [Rep]
theorem rbl {M : Mp} {H : Hp} {i : Bool} : Rep M H (.bl i) (.bl i) := by rw [Rep]
theorem rstr {M : Mp} {H : Hp} {i : Str} : Rep M H (.str i) (.str i) := by rw [Rep]
theorem rnon {M : Mp} {H : Hp} : Rep M H .non .non := by rw [Rep]
theorem rref {M : Mp} {H : Hp} {a : Addr} : Rep M H (.ref a) (.ref a) := by rw [Rep]
section
variable {X : Cx} [XK X]
/-- a new frozen list, tuple -/
theorem new_lst {M : Mp} {H : Hp} {xs : List D} {vs : List V} {p : Addr} (rm : RelM M H) (n : H p = none) (h : Reps M H xs vs) : Kp M H M (upd H p (.lst vs)) ∧ RelM M (upd H p (.lst vs)) ∧ Rep M (upd H p (.lst vs)) (.lst xs) (.ref p) := by
  have k : Kp M H M (upd H p (.lst vs)) := Kp.laid n (rm.dom n)
  refine ⟨k, rm.laid n, ?_⟩
  rw [Rep]
  exact ⟨p, vs, rfl, rm.dom n, .inl upd_same, Reps.mono k _ _ h⟩
theorem new_tup {M : Mp} {H : Hp} {xs : List D} {vs : List V} {p : Addr} (rm : RelM M H) (n : H p = none) (h : Reps M H xs vs) : Kp M H M (upd H p (.tup vs)) ∧ RelM M (upd H p (.tup vs)) ∧ Rep M (upd H p (.tup vs)) (.tup xs) (.ref p) := by
  have k : Kp M H M (upd H p (.tup vs)) := Kp.laid n (rm.dom n)
  refine ⟨k, rm.laid n, ?_⟩
  rw [Rep]
  exact ⟨p, vs, rfl, rm.dom n, upd_same, Reps.mono k _ _ h⟩
theorem reps_nil_v {M : Mp} {H : Hp} {xs : List D} (h : Reps M H xs []) : xs = [] := by
  cases xs with
  | nil => rfl
  | cons d r => rw [Reps] at h; obtain ⟨v, t, e, _⟩ := h; cases e
theorem sop_bin {op : Operator} : OpR X (binaryOp op) (liftR (binD op)) := by
  intro pins s σ H x y v u Q I rx ry ⟨M, d, e, hd, he, rm, h⟩
  unfold binD at h
  split at h
  · rw [Rep] at hd he; subst hd he
    exact op_add pins s σ H _ _ v u Q I rx ry ⟨_, _, rfl, rfl, h _ _ Kp.refl rm rint⟩
  · rw [Rep] at hd he; subst hd he
    exact op_sub pins s σ H _ _ v u Q I rx ry ⟨_, _, rfl, rfl, h _ _ Kp.refl rm rint⟩
  · rw [Rep] at hd he; subst hd he
    rcases h.1 with c | c
    · exact op_mul pins s σ H _ _ v u Q I rx ry ⟨_, _, rfl, rfl, c, h.2 _ _ Kp.refl rm rint⟩
    · exact op_mulW pins s σ H _ _ v u Q I rx ry ⟨_, _, rfl, rfl, c, h.2 _ _ Kp.refl rm rint⟩
  · rw [Rep] at hd he; subst hd he
    rcases h.1 with c | c
    · exact op_fdiv pins s σ H _ _ v u Q I rx ry ⟨_, _, rfl, rfl, c, h.2 _ _ Kp.refl rm rint⟩
    · exact op_fdivW pins s σ H _ _ v u Q I rx ry ⟨_, _, rfl, rfl, c, h.2 _ _ Kp.refl rm rint⟩
  · rw [Rep] at hd he; subst hd he
    exact op_mod pins s σ H _ _ v u Q I rx ry ⟨_, _, rfl, rfl, h.1, h.2 _ _ Kp.refl rm rint⟩
  · rw [Rep] at hd he; subst hd he
    exact op_pow pins s σ H _ _ v u Q I rx ry ⟨_, _, rfl, rfl, h.1, h.2 _ _ Kp.refl rm rint⟩
  · rw [Rep] at hd he; subst hd he
    exact op_shl pins s σ H _ _ v u Q I rx ry ⟨_, _, rfl, rfl, h.1, h.2 _ _ Kp.refl rm rint⟩
  · rw [Rep] at hd he; subst hd he
    exact op_shr pins s σ H _ _ v u Q I rx ry ⟨_, _, rfl, rfl, h.1, h.2 _ _ Kp.refl rm rint⟩
  · rw [Rep] at hd he; subst hd he
    exact op_xor pins s σ H _ _ v u Q I rx ry ⟨_, _, rfl, rfl, h _ _ Kp.refl rm rint⟩
  · rw [Rep] at hd he; subst hd he
    exact op_and pins s σ H _ _ v u Q I rx ry ⟨_, _, rfl, rfl, h _ _ Kp.refl rm rint⟩
  · rw [Rep] at hd he; subst hd he
    exact op_or pins s σ H _ _ v u Q I rx ry ⟨_, _, rfl, rfl, h _ _ Kp.refl rm rint⟩
  · rw [Rep] at hd he; subst hd he
    exact op_add_str pins s σ H _ _ v u Q I rx ry ⟨_, _, rfl, rfl, h.1, h.2 _ _ Kp.refl rm rstr⟩
  · obtain ⟨a, vs, rfl, ha, ra⟩ := look_tupX (X := X) rm hd rfl
    obtain ⟨b, ws, rfl, hb, rb⟩ := look_tupX (X := X) rm he rfl
    refine op_catA pins s σ H _ _ v u Q I rx ry ⟨a, b, vs, ws, rfl, rfl, ha, hb, by rw [← ra.length, ← rb.length]; exact h.1, fun e0 => ?_, fun _ e0 => ?_, fun _ _ p n => ?_⟩
    · subst e0
      have := reps_nil_v ra; subst this
      exact h.2 _ _ Kp.refl rm (by rw [List.nil_append]; exact he)
    · subst e0
      have := reps_nil_v rb; subst this
      exact h.2 _ _ Kp.refl rm (by rw [List.append_nil]; exact hd)
    · obtain ⟨k, r, q⟩ := new_tup rm n (ra.append rb)
      exact h.2 _ _ k r q
  · obtain ⟨xs, ys, e1, e2, hz, h⟩ := h
    obtain ⟨a, vs, rfl, ha, ra⟩ := own_lst rm hd e1
    obtain ⟨b, ws, rfl, hb, rb⟩ := own_lst rm he e2
    cases rx
    cases ry
    obtain ⟨its, n, r1, _, g1⟩ := lst_obj I ha
    obtain ⟨its2, n2, r2, _, g2⟩ := lst_obj I hb
    have l1 := r1.length
    have l2 := r2.length
    have l3 := ra.length
    have l4 := rb.length
    refine PySem.P.add_list g1 g2 ?_ (by rw [List.size_toArray, List.size_toArray]; omega)
    rw [show its.toArray ++ its2.toArray = (its ++ its2).toArray by simp]
    have nn := I.hok.fresh (Nat.le_refl s.heap.objs.size)
    obtain ⟨k, r, q⟩ := new_lst rm nn (ra.append rb)
    exact ⟨.ref _, _, I.lnew (t' := s.toks) (r1.append r2) (by rw [List.length_append]; omega), rfl, h _ _ k r q⟩
  · exact h.elim
theorem sop_eq (hu : X.A.units + 65 < cLine) : OpR X (compareOp .Eq) (liftR fun d e M K => eqD d e M fun b => K (.bl b) M) := by
  intro pins s σ H x y v u Q I rx ry ⟨M, d, e, hd, he, rm, h⟩
  replace h : eqD d e M _ := h
  unfold eqD at h
  split at h
  · rw [Rep] at hd he; subst hd he
    exact op_eq pins s σ H _ _ v u Q I rx ry ⟨rfl, by simpa using h _ _ Kp.refl rm rbl⟩
  · rw [Rep] at hd he; subst hd he
    exact op_eq pins s σ H _ _ v u Q I rx ry ⟨rfl, by simpa using h _ _ Kp.refl rm rbl⟩
  · rw [Rep] at hd he; subst hd he
    exact op_eq pins s σ H _ _ v u Q I rx ry ⟨rfl, by simpa using h _ _ Kp.refl rm rbl⟩
  · obtain ⟨p, q, h1, h2, h3, h4, h5⟩ := h
    exact op_eqD (by omega) pins s σ H _ _ v u Q I rx ry ⟨p, q, look_dpX (X := X) rm hd h1, look_dpX (X := X) rm he h2, h3, h4, h5 _ _ Kp.refl rm rbl⟩
theorem sop_ne (hu : X.A.units + 65 < cLine) : OpR X (compareOp .NotEq) (liftR fun d e M K => eqD d e M fun b => K (.bl (!b)) M) := by
  intro pins s σ H x y v u Q I rx ry ⟨M, d, e, hd, he, rm, h⟩
  replace h : eqD d e M _ := h
  unfold eqD at h
  split at h
  · rw [Rep] at hd he; subst hd he
    exact op_ne pins s σ H _ _ v u Q I rx ry ⟨rfl, by simpa using h _ _ Kp.refl rm rbl⟩
  · rw [Rep] at hd he; subst hd he
    exact op_ne pins s σ H _ _ v u Q I rx ry ⟨rfl, by simpa using h _ _ Kp.refl rm rbl⟩
  · rw [Rep] at hd he; subst hd he
    exact op_ne pins s σ H _ _ v u Q I rx ry ⟨rfl, by simpa using h _ _ Kp.refl rm rbl⟩
  · obtain ⟨p, q, h1, h2, h3, h4, h5⟩ := h
    exact op_neD (by omega) pins s σ H _ _ v u Q I rx ry ⟨p, q, look_dpX (X := X) rm hd h1, look_dpX (X := X) rm he h2, h3, h4, h5 _ _ Kp.refl rm rbl⟩
end
end Vc
/-! Comparisons, truth, subscripts, slices, isinstance, built-in functions. -/
namespace Vc
open PySem PySem.Spec PyProof.Rows L2
variable [KF]
section
variable {X : Cx} [XK X]
theorem look_reads {pins : List (Addr × Obj)} {σ : L2.St} {H : Hp} {s : Shared} {M : Mp} {d : D} {x : V} {u : Value} {p : PyData} (I : Inv X pins σ H s) (rm : RelM M H) (h : Rep M H d x) (e : (look M d).py = some p) (r : RelV x u) : ∃ as, Reads s.heap u p as :=
  Dp.reads I p x u (look_dpX (X := X) rm h e) r
theorem sop_lt (hu : X.A.units + 65 < cLine) : OpR X (compareOp .Lt) (liftR fun d e M K => ltD d e M fun b => K (.bl b) M) := by
  intro pins s σ H x y v u Q I rx ry ⟨M, d, e, hd, he, rm, h⟩
  replace h : ltD d e M _ := h
  unfold ltD at h
  split at h
  · rw [Rep] at hd he; subst hd he
    exact op_lt pins s σ H _ _ v u Q I rx ry ⟨_, _, rfl, rfl, h _ _ Kp.refl rm rbl⟩
  · obtain ⟨p, q, h1, h2, h3, h4, h5, h6⟩ := h
    obtain ⟨as, r1⟩ := look_reads I rm hd h1 rx
    obtain ⟨bs, r2⟩ := look_reads I rm he h2 ry
    exact PySem.W.lt_data r1 r2 h3 h4 (by omega) ⟨.bl _, H, I, rfl, h6 _ _ Kp.refl rm rbl⟩
theorem alike_symm {p q : PyData} (h : PySem.W.alike p q = true) : PySem.W.alike q p = true := by rw [PySem.W.alike_comm]; exact h
theorem sop_gt (hu : X.A.units + 65 < cLine) : OpR X (compareOp .Gt) (liftR fun d e M K => ltD e d M fun b => K (.bl b) M) := by
  intro pins s σ H x y v u Q I rx ry ⟨M, d, e, hd, he, rm, h⟩
  replace h : ltD e d M _ := h
  unfold ltD at h
  split at h
  · rw [Rep] at hd he; subst hd he
    exact op_gt pins s σ H _ _ v u Q I rx ry ⟨_, _, rfl, rfl, h _ _ Kp.refl rm rbl⟩
  · obtain ⟨p, q, h1, h2, h3, h4, h5, h6⟩ := h
    obtain ⟨as, r1⟩ := look_reads I rm he h1 ry
    obtain ⟨bs, r2⟩ := look_reads I rm hd h2 rx
    exact PySem.W.gt_data r2 r1 (alike_symm h3) (PySem.W.ne_none_both h3 h4) (by have := Nat.min_le_right q.depth p.depth; omega) ⟨.bl _, H, I, rfl, h6 _ _ Kp.refl rm rbl⟩
theorem sop_le (hu : X.A.units + 65 < cLine) : OpR X (compareOp .LtE) (liftR fun d e M K => leD d e M fun b => K (.bl b) M) := by
  intro pins s σ H x y v u Q I rx ry ⟨M, d, e, hd, he, rm, h⟩
  replace h : leD d e M _ := h
  unfold leD at h
  split at h
  · rw [Rep] at hd he; subst hd he
    exact op_le pins s σ H _ _ v u Q I rx ry ⟨_, _, rfl, rfl, h _ _ Kp.refl rm rbl⟩
  · obtain ⟨p, q, h1, h2, h3, h4, h5, h6⟩ := h
    obtain ⟨as, r1⟩ := look_reads I rm hd h1 rx
    obtain ⟨bs, r2⟩ := look_reads I rm he h2 ry
    exact PySem.W.le_data r1 r2 h3 h4 (by omega) ⟨.bl _, H, I, rfl, h6 _ _ Kp.refl rm rbl⟩
theorem sop_ge (hu : X.A.units + 65 < cLine) : OpR X (compareOp .GtE) (liftR fun d e M K => leD e d M fun b => K (.bl b) M) := by
  intro pins s σ H x y v u Q I rx ry ⟨M, d, e, hd, he, rm, h⟩
  replace h : leD e d M _ := h
  unfold leD at h
  split at h
  · rw [Rep] at hd he; subst hd he
    exact op_ge pins s σ H _ _ v u Q I rx ry ⟨_, _, rfl, rfl, h _ _ Kp.refl rm rbl⟩
  · obtain ⟨p, q, h1, h2, h3, h4, h5, h6⟩ := h
    obtain ⟨as, r1⟩ := look_reads I rm he h1 ry
    obtain ⟨bs, r2⟩ := look_reads I rm hd h2 rx
    exact PySem.W.ge_data r2 r1 (alike_symm h3) (PySem.W.ne_none_both h3 h4) (by have := Nat.min_le_right q.depth p.depth; omega) ⟨.bl _, H, I, rfl, h6 _ _ Kp.refl rm rbl⟩
theorem shaped_list {qs : List PyData} (h : SeqAt.shaped (.list qs) = true) : PyData.canLayAll0 qs = true := by
  have := SeqAt.canLay_of_shaped h
  simpa [PyData.canLay0] using this
theorem shaped_tuple {qs : List PyData} (h : SeqAt.shaped (.tuple qs) = true) : PyData.canLayAll0 qs = true := by
  have := SeqAt.canLay_of_shaped h
  simpa [PyData.canLay0] using this
theorem sop_in (hu : X.A.units + 65 < cLine) : OpR X (compareOp .In) (liftR fun d e M K => inD d e M fun b => K (.bl b) M) := by
  intro pins s σ H x y v u Q I rx ry ⟨M, d, e, hd, he, rm, h⟩
  replace h : inD d e M _ := h
  unfold inD at h
  split at h
  · next a b hl =>
    have e' : e = .str b := by
      cases e with
      | ref a => rcases look_ref_cases M a with ⟨ys, hm, q⟩ | ⟨t', ys, hm, q⟩ | q <;> (rw [q] at hl; cases hl)
      | _ => first | exact hl | cases hl
    subst e'
    rw [Rep] at hd he; subst hd he
    exact op_in_str pins s σ H _ _ v u Q I rx ry ⟨_, _, rfl, rfl, h _ _ Kp.refl rm rbl⟩
  · next hl =>
    obtain ⟨a, r, rfl, g, q⟩ := dget_of rm he hd hl h.1
    cases (show u = Value.ref a from ry)
    refine d_in (by omega) I g rx fun s' I' => ⟨.bl r.isSome, H, I', rfl, ?_⟩
    have z := h.2 (.bl r.isSome) H Kp.refl rm
    refine z ?_
    split at q
    · next z' e2 => obtain ⟨v', rfl, _⟩ := q; rw [e2]; exact rbl
    · next e2 => rw [q, e2]; exact rbl
  · next hl =>
    obtain ⟨p, qs, h1, h2, h3, h4, h5⟩ := h
    obtain ⟨b, ws, rfl, hb, rb⟩ := look_lstX (X := X) rm he hl
    obtain ⟨as, r1⟩ := Dp.reads I p x v (rep_dpX (X := X) hd h1) rx
    obtain ⟨bs, r2⟩ := Dp.reads I (.list qs) _ u (.lst hb (reps_dpX (X := X) rb h2)) ry
    exact SeqAt.in_list_reads r2 r1 (shaped_list h4) (SeqAt.canLay_of_shaped h3) (room_in_shaped h3 hu) ⟨.bl _, H, I, rfl, h5 _ _ Kp.refl rm rbl⟩
  · next hl =>
    obtain ⟨p, qs, h1, h2, h3, h4, h5⟩ := h
    obtain ⟨b, ws, rfl, hb, rb⟩ := look_tupX (X := X) rm he hl
    obtain ⟨as, r1⟩ := Dp.reads I p x v (rep_dpX (X := X) hd h1) rx
    obtain ⟨bs, r2⟩ := Dp.reads I (.tuple qs) _ u (.tup hb (reps_dpX (X := X) rb h2)) ry
    exact SeqAt.in_tuple_reads r2 r1 (shaped_tuple h4) (SeqAt.canLay_of_shaped h3) (room_in_shaped h3 hu) ⟨.bl _, H, I, rfl, h5 _ _ Kp.refl rm rbl⟩
  · exact h.elim
theorem sop_notin (hu : X.A.units + 65 < cLine) : OpR X (compareOp .NotIn) (liftR fun d e M K => inD d e M fun b => K (.bl (!b)) M) := by
  intro pins s σ H x y v u Q I rx ry ⟨M, d, e, hd, he, rm, h⟩
  replace h : inD d e M _ := h
  unfold inD at h
  split at h
  · next a b hl =>
    have e' : e = .str b := by
      cases e with
      | ref a => rcases look_ref_cases M a with ⟨ys, hm, q⟩ | ⟨t', ys, hm, q⟩ | q <;> (rw [q] at hl; cases hl)
      | _ => first | exact hl | cases hl
    subst e'
    rw [Rep] at hd he; subst hd he
    exact L2.op_notin_str pins s σ H _ _ v u Q I rx ry ⟨_, _, rfl, rfl, h _ _ Kp.refl rm rbl⟩
  · next hl =>
    obtain ⟨a, r, rfl, g, q⟩ := dget_of rm he hd hl h.1
    cases (show u = Value.ref a from ry)
    refine d_notIn (by omega) I g rx fun s' I' => ⟨.bl (!r.isSome), H, I', rfl, ?_⟩
    have z := h.2 (.bl (!r.isSome)) H Kp.refl rm
    refine z ?_
    split at q
    · next z' e2 => obtain ⟨v', rfl, _⟩ := q; rw [e2]; exact rbl
    · next e2 => rw [q, e2]; exact rbl
  · next hl =>
    obtain ⟨p, qs, h1, h2, h3, h4, h5⟩ := h
    obtain ⟨b, ws, rfl, hb, rb⟩ := look_lstX (X := X) rm he hl
    obtain ⟨as, r1⟩ := Dp.reads I p x v (rep_dpX (X := X) hd h1) rx
    obtain ⟨bs, r2⟩ := Dp.reads I (.list qs) _ u (.lst hb (reps_dpX (X := X) rb h2)) ry
    exact SeqAt.notIn_list_reads r2 r1 (shaped_list h4) (SeqAt.canLay_of_shaped h3) (room_in_shaped h3 hu) ⟨.bl _, H, I, rfl, h5 _ _ Kp.refl rm rbl⟩
  · next hl =>
    obtain ⟨p, qs, h1, h2, h3, h4, h5⟩ := h
    obtain ⟨b, ws, rfl, hb, rb⟩ := look_tupX (X := X) rm he hl
    obtain ⟨as, r1⟩ := Dp.reads I p x v (rep_dpX (X := X) hd h1) rx
    obtain ⟨bs, r2⟩ := Dp.reads I (.tuple qs) _ u (.tup hb (reps_dpX (X := X) rb h2)) ry
    exact SeqAt.notIn_tuple_reads r2 r1 (shaped_tuple h4) (SeqAt.canLay_of_shaped h3) (room_in_shaped h3 hu) ⟨.bl _, H, I, rfl, h5 _ _ Kp.refl rm rbl⟩
  · exact h.elim
theorem sop_cmp {op : CmpOp} (hu : X.A.units + 65 < cLine) : OpR X (compareOp op) (liftR (cmpR op)) := by
  cases op with
  | Eq => exact sop_eq hu
  | NotEq => exact sop_ne hu
  | Lt => exact sop_lt hu
  | LtE => exact sop_le hu
  | Gt => exact sop_gt hu
  | GtE => exact sop_ge hu
  | In => exact sop_in hu
  | NotIn => exact sop_notin hu
  | Is => intro pins s σ H x y v u Q I rx ry ⟨M, d, e, hd, he, rm, h⟩; exact (show False from h).elim
  | IsNot => intro pins s σ H x y v u Q I rx ry ⟨M, d, e, hd, he, rm, h⟩; exact (show False from h).elim
theorem Reps.isEmpty {M : Mp} {H : Hp} : ∀ {ds : List D} {vs : List V}, Reps M H ds vs → vs.isEmpty = ds.isEmpty
  | [], _, h => by rw [Reps] at h; subst h; rfl
  | _ :: _, _, h => by rw [Reps] at h; obtain ⟨_, _, rfl, _⟩ := h; rfl
/-- truth -/
theorem stru {pins : List (Addr × Obj)} {s : Shared} {σ : L2.St} {H : Hp} {x : V} {v : Value} {M : Mp} {d : D} {K : Bool → Prop} {Q : Bool → Hp → Prop} (I : Inv X pins σ H s) (rx : RelV x v) (hd : Rep M H d x) (rm : RelM M H) (h : truD d M K) (hq : ∀ b, K b → Q b H) :
    wpAny (model X.prog X.w) X.A (truthy v) (TP X pins σ Q) X.xe s := by
  unfold truD at h
  split at h
  · next hl =>
    have e' : d = .non := by
      cases d with
      | ref a => rcases look_ref_cases M a with ⟨ys, hm, q⟩ | ⟨t', ys, hm, q⟩ | q <;> (rw [q] at hl; cases hl)
      | _ => first | exact hl | cases hl
    subst e'; rw [Rep] at hd; subst hd
    exact tru_ok pins s σ H _ v Q I rx ⟨_, rfl, hq _ h⟩
  · next b hl =>
    have e' : d = .bl b := by
      cases d with
      | ref a => rcases look_ref_cases M a with ⟨ys, hm, q⟩ | ⟨t', ys, hm, q⟩ | q <;> (rw [q] at hl; cases hl)
      | _ => first | exact hl | cases hl
    subst e'; rw [Rep] at hd; subst hd
    exact tru_ok pins s σ H _ v Q I rx ⟨_, rfl, hq _ h⟩
  · next b hl =>
    have e' : d = .int b := by
      cases d with
      | ref a => rcases look_ref_cases M a with ⟨ys, hm, q⟩ | ⟨t', ys, hm, q⟩ | q <;> (rw [q] at hl; cases hl)
      | _ => first | exact hl | cases hl
    subst e'; rw [Rep] at hd; subst hd
    exact tru_ok pins s σ H _ v Q I rx ⟨_, rfl, hq _ h⟩
  · next b hl =>
    have e' : d = .str b := by
      cases d with
      | ref a => rcases look_ref_cases M a with ⟨ys, hm, q⟩ | ⟨t', ys, hm, q⟩ | q <;> (rw [q] at hl; cases hl)
      | _ => first | exact hl | cases hl
    subst e'; rw [Rep] at hd; subst hd
    exact tru_ok pins s σ H _ v Q I rx ⟨_, ⟨h.1, rfl⟩, hq _ h.2⟩
  · next hl =>
    obtain ⟨a, vs, rfl, ha, ra⟩ := look_lstX (X := X) rm hd hl
    refine tru_ok pins s σ H _ v Q I rx ⟨_, .inl ⟨vs, ha, rfl⟩, ?_⟩
    rw [ra.isEmpty]
    exact hq _ h
  · next hl =>
    obtain ⟨a, vs, rfl, ha, ra⟩ := look_tupX (X := X) rm hd hl
    refine tru_ok pins s σ H _ v Q I rx ⟨_, .inr (.inl ⟨vs, ha, rfl⟩), ?_⟩
    rw [ra.isEmpty]
    exact hq _ h
  · next kvs hl =>
    obtain ⟨a, rfl, h1⟩ := look_dct rm hd hl
    rcases h1 with ⟨_, l, h1, h2⟩ | ⟨e, _⟩
    · cases (show v = Value.ref a from rx)
      refine d_truth I h1 fun s' I' => ⟨H, I', ?_⟩
      rw [show l.isEmpty = kvs.isEmpty from by
        cases kvs with
        | nil => rw [RepK] at h2; subst h2; rfl
        | cons p r => obtain ⟨p1, p2⟩ := p; rw [RepK] at h2; obtain ⟨_, _, _, rfl, _⟩ := h2; rfl]
      exact hq _ h
    · cases e
  · exact h.elim
/-- subscripts -/
theorem atI_rep {M : Mp} {H : Hp} {xs : List D} {vs : List V} {i : Int} {d : D} (r : Reps M H xs vs) (e : atI xs i = some d) : ∃ v, atI vs i = some v ∧ Rep M H d v := by
  unfold atI at e ⊢
  rw [← r.length]
  cases hj : ixN xs.length i with
  | none => rw [hj] at e; cases e
  | some j =>
    rw [hj] at e
    exact r.get e
theorem sop_sub (hu : X.A.units + 65 < cLine) : IxR X (liftR subD) := by
  intro value slice pins s σ H x y v u Q I rx ry ⟨M, d, e, hd, he, rm, h⟩ hs
  unfold subD at h
  split at h
  · next hl =>
    obtain ⟨i, z, rfl, h2, h3⟩ := h
    obtain ⟨a, vs, rfl, ha, ra⟩ := look_lstX (X := X) rm hd hl
    rw [Rep] at he; subst he
    obtain ⟨w, e1, r1⟩ := atI_rep ra h2
    exact ix_list value slice pins s σ H _ _ v u Q I rx ry ⟨a, vs, i, w, rfl, rfl, ha, e1, h3 _ _ Kp.refl rm r1⟩ hs
  · next hl =>
    obtain ⟨i, z, rfl, h2, h3⟩ := h
    obtain ⟨a, vs, rfl, ha, ra⟩ := look_tupX (X := X) rm hd hl
    rw [Rep] at he; subst he
    obtain ⟨w, e1, r1⟩ := atI_rep ra h2
    exact ix_tup value slice pins s σ H _ _ v u Q I rx ry ⟨a, vs, i, w, rfl, rfl, ha, e1, h3 _ _ Kp.refl rm r1⟩ hs
  · next z hl =>
    obtain ⟨i, c, rfl, h2, h3, h4⟩ := h
    have e' : d = .str z := by
      cases d with
      | ref a => rcases look_ref_cases M a with ⟨ys, hm, q⟩ | ⟨t', ys, hm, q⟩ | q <;> (rw [q] at hl; cases hl)
      | _ => first | exact hl | cases hl
    subst e'; rw [Rep] at hd; rw [Rep] at he; subst hd he
    exact ix_str value slice pins s σ H _ _ v u Q I rx ry ⟨z, i, c, rfl, rfl, h2, h3, h4 _ _ Kp.refl rm rstr⟩ hs
  · next t kvs hl =>
    obtain ⟨z, ok, h2, h3⟩ := h
    obtain ⟨a, r, rfl, g, q⟩ := dget_of rm hd he hl ok
    rw [h2] at q
    obtain ⟨w, rfl, rw'⟩ := q
    cases (show v = Value.ref a from rx)
    have hT := dict_typeIs I g
    unfold subscriptTail
    refine wpAny_bind ?_
    rw [getitemInPython_of_ne hT.not_modules]
    refine wpAny_bind (wpAny_specialOf hT PySem.F.slot_dict_getitem.lookup ?_)
    have fin : wpAny (model X.prog X.w) X.A (subscripted slice false (.ref a) u) (fun r s₃ => wpAny (model X.prog X.w) X.A (letTemporaryGo value (.ref a) r >>= fun _ => pure r) (EP X pins σ Q) X.xe s₃) X.xe s := by
      rw [hs]
      refine wpAny_operating (wpAny_mono (d_getItem (by omega) I g ry fun w' s3 I3 rw2 => (⟨w, H, I3, rw2, h3 _ _ Kp.refl rm rw'⟩ : EP X pins σ Q w' s3)) (fun r s3 h3 => wpAny_bind (wpAny_letTemporaryGo (wpAny_pure h3))) fun _ _ x => x)
    first
      | exact wpAny_pure (wpAny_bind fin)
      | exact wpAny_bind (wpAny_pure (wpAny_bind fin))
      | exact wpAny_bind fin
  · exact h.elim
/-- slices -/
def liftS (M : Mp) (d : D) (lo hi : Option Int) (K : KD) : Prop := slcD d lo hi M K
theorem cut_rep {M : Mp} {H : Hp} {xs : List D} {vs : List V} (r : Reps M H xs vs) (lo hi : Option Int) : Reps M H (cutD xs lo hi) (cutV vs lo hi) := by
  unfold cutD cutV
  rw [← r.length]
  exact (r.drop _).take _
theorem sop_slc : SlR X (fun x lo hi H Q => ∃ M d, Rep M H d x ∧ RelM M H ∧ slcD d lo hi M fun d' M' => ∀ v H', Kp M H M' H' → RelM M' H' → Rep M' H' d' v → Q v H') := by
  intro pins s σ H x v vl vu lo hi sl Q I rx hs pl pu ⟨M, d, hd, rm, h⟩
  unfold slcD at h
  split at h
  · next hl =>
    obtain ⟨a, vs, rfl, ha, ra⟩ := look_lstX (X := X) rm hd hl
    refine sl_list pins s σ H _ v vl vu lo hi sl Q I rx hs pl pu ⟨a, vs, rfl, ha, fun p n => ?_⟩
    obtain ⟨k, r, q⟩ := new_lst rm n (cut_rep ra lo hi)
    exact h _ _ k r q
  · split at h
    · next xs _ =>
      obtain ⟨a, vs, rfl, ha, ra⟩ := look_tupX (X := X) rm hd (show look M (.tup xs) = .tup xs from rfl)
      refine sl_tupA pins s σ H _ v vl vu lo hi sl Q I rx hs pl pu ⟨a, vs, rfl, ha, fun e => ?_, fun e p n => ?_⟩
      · have hw : cutD xs lo hi = xs := by
          unfold cutD
          rw [ra.length, e.1, e.2, List.drop_zero, Nat.sub_zero]
          exact List.take_of_length_le (by rw [ra.length]; exact Nat.le_refl _)
        rw [hw] at h
        exact h _ _ Kp.refl rm hd
      · obtain ⟨k, r, q⟩ := new_tup rm n (cut_rep ra lo hi)
        exact h _ _ k r q
    · exact h.elim
/-- isinstance -/
theorem kit_tab (t ty : String) (h1 : t ∈ ["NoneType", "bool", "int", "str", "list", "tuple", "dict"]) (h2 : ["int", "str", "bool", "tuple", "list", "dict"].contains ty = true) : kitB t ty = some (t == ty || (t == "bool" && ty == "int")) := by
  have h2 : ty ∈ ["int", "str", "bool", "tuple", "list", "dict"] := by simpa using h2
  have all : (["NoneType", "bool", "int", "str", "list", "tuple", "dict"].all fun t => ["int", "str", "bool", "tuple", "list", "dict"].all fun ty => kitB t ty == some (t == ty || (t == "bool" && ty == "int"))) = true := by decide +kernel
  exact beq_iff_eq.mp (List.all_eq_true.mp (List.all_eq_true.mp all t h1) ty h2)
theorem look_no_ktp (M : Mp) (d : D) (xs : List D) : look M d ≠ .ktp xs ∧ look M d ≠ .klst xs := by
  cases d with
  | ref a => rcases look_ref_cases M a with ⟨ys, hm, q⟩ | ⟨t', ys, hm, q⟩ | q <;> (rw [q]; constructor <;> (intro z; cases z))
  | _ => constructor <;> (intro z; cases z)
theorem tyD_kit {pins : List (Addr × Obj)} {s : Shared} {σ : L2.St} {M : Mp} {H : Hp} {d : D} {x : V} {u : Value} {t : String} (I : Inv X pins σ H s) (rx : RelV x u) (rm : RelM M H) (h : Rep M H d x) (e : tyD d M = some t) :
    (∃ P : Heap → Prop, PySem.W.KitX X.K u (.type t) P ∧ P s.heap ∧ u ≠ .builtin "__main__.__loader__#opaque") ∧ t ∈ ["NoneType", "bool", "int", "str", "list", "tuple", "dict"] := by
  unfold tyD at e
  split at e
  · next hl =>
    cases e
    cases d with
    | ref a => rcases look_ref_cases M a with ⟨ys, hm, q⟩ | ⟨t', ys, hm, q⟩ | q <;> (rw [q] at hl; cases hl)
    | non => rw [Rep] at h; subst h; exact ⟨kit_of I rx (.base .non), by simp⟩
    | _ => cases hl
  · next hl =>
    cases e
    cases d with
    | ref a => rcases look_ref_cases M a with ⟨ys, hm, q⟩ | ⟨t', ys, hm, q⟩ | q <;> (rw [q] at hl; cases hl)
    | bl b => rw [Rep] at h; subst h; exact ⟨kit_of I rx (.base (.bl _)), by simp⟩
    | _ => cases hl
  · next hl =>
    cases e
    cases d with
    | ref a => rcases look_ref_cases M a with ⟨ys, hm, q⟩ | ⟨t', ys, hm, q⟩ | q <;> (rw [q] at hl; cases hl)
    | int b => rw [Rep] at h; subst h; exact ⟨kit_of I rx (.base (.int _)), by simp⟩
    | _ => cases hl
  · next hl =>
    cases e
    cases d with
    | ref a => rcases look_ref_cases M a with ⟨ys, hm, q⟩ | ⟨t', ys, hm, q⟩ | q <;> (rw [q] at hl; cases hl)
    | str b => rw [Rep] at h; subst h; exact ⟨kit_of I rx (.base (.str _)), by simp⟩
    | _ => cases hl
  · next hl =>
    cases e
    obtain ⟨a, vs, rfl, ha, ra⟩ := look_lstX (X := X) rm h hl
    cases (show u = Value.ref a from rx)
    obtain ⟨its, rv, pl, hz⟩ := I.list ha
    obtain ⟨o, e1, e2, _⟩ := pl.isList
    exact ⟨⟨_, PySem.W.kitx_list, ⟨o, e1, e2⟩, fun z => nomatch z⟩, by simp⟩
  · next hl =>
    cases e
    obtain ⟨a, vs, rfl, ha, ra⟩ := look_tupX (X := X) rm h hl
    cases (show u = Value.ref a from rx)
    obtain ⟨its, rv, pl, hz⟩ := I.tuple ha
    obtain ⟨o, e1, e2, _⟩ := pl
    exact ⟨⟨_, PySem.W.kitx_tuple, ⟨o, e1, e2⟩, fun z => nomatch z⟩, by simp⟩
  · next hl => exact absurd hl (look_no_ktp M d _).1
  · next hl => exact absurd hl (look_no_ktp M d _).2
  · next hl =>
    cases e
    obtain ⟨a, rfl, h1⟩ := look_dct rm h hl
    rcases h1 with ⟨_, l, h1, h2⟩ | ⟨_, l, h1, h2⟩
    · rcases h1 with h1 | ⟨o, h1⟩
      · exact ⟨kit_of I rx (.base (.dK h1)), by simp⟩
      · exact ⟨kit_of I rx (.fDict h1), by simp⟩
    · cases (show u = Value.ref a from rx)
      obtain ⟨_, _, _, _, o, es, ep, h1, h2, _⟩ := (show ObjOk X.prog X.w H s.heap a (.dT l) from h1.ok I.hok)
      exact ⟨⟨_, PySem.W.kitx_dict, ⟨o, h1, h2.1⟩, fun z => nomatch z⟩, by simp⟩
  · cases e
theorem sop_isi {ty : String} : CallR X (.builtin "isinstance") (fun xs H Q => ∃ x M d, xs = [x, .ty ty] ∧ Rep M H d x ∧ RelM M H ∧ isiD d ty M fun b => Q (.bl b) H) := by
  intro pins s σ H xs us Q I r ⟨x, M, d, e, hd, rm, h⟩
  subst e
  obtain ⟨u1, u2, rfl, r1, r2⟩ := vals2 r
  cases (show u2 = Value.type ty from r2)
  unfold isiD at h
  split at h
  · next t ht =>
    obtain ⟨⟨P, Z, p, hx⟩, hm⟩ := tyD_kit I r1 rm hd ht
    exact PySem.W.kia_one Z I.kIn p (kit_ty (kit_tab t ty hm h.1)) hx fun tk => ⟨.bl _, H, I.tok tk, rfl, h.2⟩
  · exact h.elim
end
end Vc
/-! Built-in functions. -/
namespace Vc
open PySem PySem.Spec PyProof.Rows L2
variable [KF]
/-- a call by data -/
def liftC (r : List D → Mp → KD → Prop) : List V → Hp → VK → Prop := fun xs H Q => ∃ M ds, Reps M H ds xs ∧ RelM M H ∧ r ds M fun d' M' => ∀ v H', Kp M H M' H' → RelM M' H' → Rep M' H' d' v → Q v H'
section
variable {X : Cx} [XK X]
theorem reps1 {M : Mp} {H : Hp} {d : D} {xs : List V} (h : Reps M H [d] xs) : ∃ v, xs = [v] ∧ Rep M H d v := by
  rw [Reps] at h
  obtain ⟨v, r, rfl, h1, h2⟩ := h
  rw [Reps] at h2; subst h2
  exact ⟨v, rfl, h1⟩
theorem intsD_map : ∀ {ds : List D} {ns : List Int}, intsD ds = some ns → ds = ns.map D.int
  | [], ns, h => by cases h; rfl
  | d :: ds, ns, h => by
    cases d with
    | int i =>
      rw [intsD] at h
      split at h
      · next l e => cases h; rw [List.map_cons, ← intsD_map e]
      · cases h
    | _ => cases h
theorem reps_ints_inv {M : Mp} {H : Hp} : ∀ {ns : List Int} {vs : List V}, Reps M H (ns.map D.int) vs → vs = ns.map V.int
  | [], _, h => by rw [List.map_nil, Reps] at h; subst h; rfl
  | n :: ns, _, h => by
    rw [List.map_cons, Reps] at h
    obtain ⟨v, r, rfl, h1, h2⟩ := h
    rw [Rep] at h1; subst h1
    rw [reps_ints_inv h2]; rfl
theorem repK_len {M : Mp} {H : Hp} : ∀ {kvs : List (D × D)} {l : List (Key × V)}, RepK M H kvs l → l.length = kvs.length
  | [], _, h => by rw [RepK] at h; subst h; rfl
  | (_, _) :: _, _, h => by rw [RepK] at h; obtain ⟨_, _, _, rfl, _, _, h⟩ := h; simp [repK_len h]
theorem repT_len {M : Mp} {H : Hp} : ∀ {kvs : List (D × D)} {l : List (List Key × V)}, RepT M H kvs l → l.length = kvs.length
  | [], _, h => by rw [RepT] at h; subst h; rfl
  | (_, _) :: _, _, h => by rw [RepT] at h; obtain ⟨_, _, _, rfl, _, _, h⟩ := h; simp [repT_len h]
theorem best_max : ∀ (n : Int) (ns : List Int), best .max n ns ∈ n :: ns ∧ ∀ y ∈ n :: ns, y ≤ best .max n ns
  | n, [] => by simp [best]
  | n, m :: r => by
    rw [best]
    have ih := best_max (if n < m then m else n) r
    by_cases c : n < m
    · simp only [c, if_true] at ih ⊢
      refine ⟨?_, fun y hy => ?_⟩
      · rcases List.mem_cons.mp ih.1 with e | e
        · rw [e]; simp
        · exact List.mem_cons_of_mem _ (List.mem_cons_of_mem _ e)
      · rcases List.mem_cons.mp hy with e | e
        · have := ih.2 m List.mem_cons_self; omega
        · exact ih.2 y e
    · simp only [c, if_false] at ih ⊢
      refine ⟨?_, fun y hy => ?_⟩
      · rcases List.mem_cons.mp ih.1 with e | e
        · rw [e]; simp
        · exact List.mem_cons_of_mem _ (List.mem_cons_of_mem _ e)
      · rcases List.mem_cons.mp hy with e | e
        · rw [e]; exact ih.2 n List.mem_cons_self
        · rcases List.mem_cons.mp e with e | e
          · have := ih.2 n List.mem_cons_self; omega
          · exact ih.2 y (List.mem_cons_of_mem _ e)
theorem best_min : ∀ (n : Int) (ns : List Int), best .min n ns ∈ n :: ns ∧ ∀ y ∈ n :: ns, best .min n ns ≤ y
  | n, [] => by simp [best]
  | n, m :: r => by
    rw [best]
    have ih := best_min (if m < n then m else n) r
    by_cases c : m < n
    · simp only [c, if_true] at ih ⊢
      refine ⟨?_, fun y hy => ?_⟩
      · rcases List.mem_cons.mp ih.1 with e | e
        · rw [e]; simp
        · exact List.mem_cons_of_mem _ (List.mem_cons_of_mem _ e)
      · rcases List.mem_cons.mp hy with e | e
        · have := ih.2 m List.mem_cons_self; omega
        · exact ih.2 y e
    · simp only [c, if_false] at ih ⊢
      refine ⟨?_, fun y hy => ?_⟩
      · rcases List.mem_cons.mp ih.1 with e | e
        · rw [e]; simp
        · exact List.mem_cons_of_mem _ (List.mem_cons_of_mem _ e)
      · rcases List.mem_cons.mp hy with e | e
        · rw [e]; exact ih.2 n List.mem_cons_self
        · rcases List.mem_cons.mp e with e | e
          · have := ih.2 n List.mem_cons_self; omega
          · exact ih.2 y (List.mem_cons_of_mem _ e)
theorem reps2 {M : Mp} {H : Hp} {d e : D} {xs : List V} (h : Reps M H [d, e] xs) : ∃ v u, xs = [v, u] ∧ Rep M H d v ∧ Rep M H e u := by
  rw [Reps] at h
  obtain ⟨v, r, rfl, h1, h2⟩ := h
  obtain ⟨u, rfl, h3⟩ := reps1 h2
  exact ⟨v, u, rfl, h1, h3⟩
theorem reps3 {M : Mp} {H : Hp} {d e f : D} {xs : List V} (h : Reps M H [d, e, f] xs) : ∃ v u w, xs = [v, u, w] ∧ Rep M H d v ∧ Rep M H e u ∧ Rep M H f w := by
  rw [Reps] at h
  obtain ⟨v, r, rfl, h1, h2⟩ := h
  obtain ⟨u, w, rfl, h3, h4⟩ := reps2 h2
  exact ⟨v, u, w, rfl, h1, h3, h4⟩
/-- the number of entries, whatever the dict is -/
theorem len_any {pins : List (Addr × Obj)} {s : Shared} {σ : L2.St} {H : Hp} {Q : VK} {a : Addr} {n : Nat} (I : Inv X pins σ H s) (h : (∃ l, Rd H a (.dK l) ∧ l.length = n) ∨ (∃ l, Rd H a (.dT l) ∧ l.length = n)) (q : Q (.int (n : Nat)) H) :
    wpAny (model X.prog X.w) X.A (call (.builtin "len") [.ref a]) (EP X pins σ Q) X.xe s := by
  have hs : sizeLine = 16777216 := sizeLine_eq
  rcases h with ⟨l, h, rfl⟩ | ⟨l, h, rfl⟩
  · exact d_len I h fun t s' I' => ⟨.int l.length, H, I', ⟨t, rfl⟩, q⟩
  · obtain ⟨z, hd, ys, rel, dd⟩ := dt_rd I.hok h
    have hl : l.length = ys.length := Paired.length rel
    refine call_len_dictH hd dd (by omega) ?_
    rw [← hl]
    exact ⟨.int ((l.length : Nat) : Int), H, I.tok _, ⟨_, rfl⟩, q⟩
theorem bi_len : CallR X (.builtin "len") (liftC (biD "len")) := by
  intro pins s σ H xs us Q I r ⟨M, ds, hds, rm, h⟩
  obtain ⟨d, n, rfl, h1, h2⟩ : ∃ d n, ds = [d] ∧ (match look M d with | .lst xs => n = xs.length | .tup xs => n = xs.length | .dct _ kvs => n = kvs.length | .str x => x.length ≤ sizeLine ∧ n = x.length | _ => False) ∧ _ := h
  obtain ⟨x, rfl, hd⟩ := reps1 hds
  have q := fun v => h2 v H Kp.refl rm
  split at h1
  · next hl =>
    obtain ⟨a, vs, rfl, ha, ra⟩ := look_lstX (X := X) rm hd hl
    subst h1
    exact call_len_seq pins s σ H _ us Q I r ⟨a, vs, rfl, .inl ha, q _ (by rw [ra.length]; exact rint)⟩
  · next hl =>
    obtain ⟨a, vs, rfl, ha, ra⟩ := look_tupX (X := X) rm hd hl
    subst h1
    exact call_len_seq pins s σ H _ us Q I r ⟨a, vs, rfl, .inr (ha), q _ (by rw [ra.length]; exact rint)⟩
  · next hl =>
    obtain ⟨a, rfl, h3⟩ := look_dct rm hd hl
    subst h1
    obtain ⟨u, rfl, rx⟩ := vals1 r
    obtain rfl : u = .ref a := rx
    refine len_any I ?_ (q _ rint)
    rcases h3 with ⟨_, l, h3, h4⟩ | ⟨_, l, h3, h4⟩
    · exact .inl ⟨l, h3, repK_len h4⟩
    · exact .inr ⟨l, h3, repT_len h4⟩
  · next y hl =>
    have e' : d = .str y := by
      cases d with
      | ref a => rcases look_ref_cases M a with ⟨ys, hm, q⟩ | ⟨t', ys, hm, q⟩ | q <;> (rw [q] at hl; cases hl)
      | _ => first | exact hl | cases hl
    subst e'; rw [Rep] at hd; subst hd
    obtain ⟨h1, rfl⟩ := h1
    exact call_len_str pins s σ H _ us Q I r ⟨y, rfl, h1, q _ rint⟩
  · exact h1.elim
theorem bi_int : CallR X (.type "int") (liftC (biD "int")) := by
  intro pins s σ H xs us Q I r ⟨M, ds, hds, rm, h⟩
  obtain ⟨d, rfl, h1⟩ : ∃ d, ds = [d] ∧ _ := h
  obtain ⟨x, rfl, hd⟩ := reps1 hds
  split at h1
  · rw [Rep] at hd; subst hd
    exact call_int1 pins s σ H _ us Q I r (.inl ⟨_, rfl, h1 _ _ Kp.refl rm rint⟩)
  · rw [Rep] at hd; subst hd
    exact call_int1 pins s σ H _ us Q I r (.inr ⟨_, rfl, h1 _ _ Kp.refl rm rint⟩)
  · exact h1.elim
theorem bi_str : CallR X (.type "str") (liftC (biD "str")) := by
  intro pins s σ H xs us Q I r ⟨M, ds, hds, rm, h⟩
  obtain ⟨d, rfl, h1⟩ : ∃ d, ds = [d] ∧ _ := h
  obtain ⟨x, rfl, hd⟩ := reps1 hds
  split at h1
  · rw [Rep] at hd; subst hd
    exact call_str_int pins s σ H _ us Q I r ⟨_, rfl, h1.1, h1.2 _ _ Kp.refl rm rstr⟩
  · exact h1.elim
theorem bi_tuple : CallR X (.type "tuple") (liftC (biD "tuple")) := by
  intro pins s σ H xs us Q I r ⟨M, ds, hds, rm, h⟩
  obtain ⟨d, rfl, h1⟩ : ∃ d, ds = [d] ∧ _ := h
  obtain ⟨x, rfl, hd⟩ := reps1 hds
  split at h1
  · next hl =>
    obtain ⟨a, vs, rfl, ha, ra⟩ := look_lstX (X := X) rm hd hl
    refine call_tuple_of pins s σ H _ us Q I r ⟨a, vs, rfl, .inl ⟨ha, fun p n => ?_⟩⟩
    obtain ⟨k, r, q⟩ := new_tup rm n ra
    exact h1 _ _ k r q
  · next hl =>
    obtain ⟨a, vs, rfl, ha, ra⟩ := look_tupX (X := X) rm hd hl
    exact call_tuple_of pins s σ H _ us Q I r ⟨a, vs, rfl, .inr ⟨ha, h1 _ _ Kp.refl rm hd⟩⟩
  · exact h1.elim
theorem keys_repK {M : Mp} {H : Hp} : ∀ {kvs : List (D × D)} {l : List (Key × V)}, RepK M H kvs l → Reps M H (keysOf kvs) (l.map fun kv => kV kv.1)
  | [], _, h => by rw [RepK] at h; subst h; exact .nil
  | (k, d) :: r, _, h => by
    rw [RepK] at h
    obtain ⟨q, v, t, rfl, h1, h2, h3⟩ := h
    refine Reps.cons ?_ (keys_repK h3)
    cases k with
    | int i => cases h1; exact rint
    | str i => cases h1; exact rstr
    | _ => cases h1
theorem keysD_reps {M : Mp} {H : Hp} : ∀ {ds : List D} {ks : List Key}, keysD ds = some ks → Reps M H ds (ks.map kV)
  | [], _, e => by cases e; exact .nil
  | d :: ds, _, e => by
    rw [keysD] at e
    split at e
    · next k ks q1 q2 =>
      cases e
      refine Reps.cons ?_ (keysD_reps q2)
      cases d with
      | int i => cases q1; exact rint
      | str i => cases q1; exact rstr
      | _ => cases q1
    · cases e
theorem keys_repT {M : Mp} {H : Hp} (rm : RelM M H) : ∀ {kvs : List (D × D)} {l : List (List Key × V)} {bs : List Addr}, RepT M H kvs l → IsKeys H l bs → Reps M H (keysOf kvs) (bs.map V.ref)
  | [], _, bs, h, b => by rw [RepT] at h; subst h; cases b; exact .nil
  | (k, d) :: r, _, bs, h, b => by
    rw [RepT] at h
    obtain ⟨q, v, t, rfl, h1, h2, h3⟩ := h
    cases b with
    | cons b1 b2 =>
      refine Reps.cons ?_ (keys_repT rm h3 b2)
      cases k with
      | tup ds =>
        rw [Rep]
        refine ⟨_, _, rfl, ?_, b1, keysD_reps h1⟩
        cases e : M _ with
        | none => rfl
        | some o =>
          have z := rm _ o e
          match o, z with
          | .lst xs, ⟨vs, h, _⟩ => rw [b1] at h; cases h
          | .dct false _, ⟨vs, h, _⟩ => rw [b1] at h; cases h
          | .dct true _, ⟨vs, h, _⟩ => rw [b1] at h; cases h
          | .ins _ _, h => exact h.elim
      | _ => cases h1
theorem bi_list (hc : X.calm = true) : CallR X (.type "list") (liftC (biD "list")) := by
  intro pins s σ H xs us Q I r ⟨M, ds, hds, rm, h⟩
  obtain ⟨d, zs, rfl, h1, h2⟩ : ∃ d zs, ds = [d] ∧ allOf d M = some zs ∧ _ := h
  obtain ⟨x, rfl, hd⟩ := reps1 hds
  unfold allOf at h1
  split at h1
  · next hl =>
    cases h1
    obtain ⟨a, vs, rfl, ha, ra⟩ := look_lstX (X := X) rm hd hl
    refine call_list_of pins s σ H _ us Q I r ⟨a, vs, rfl, .inl ha, fun p n => ?_⟩
    obtain ⟨k, r, q⟩ := new_lst rm n ra
    exact h2 _ _ k r q
  · next hl =>
    cases h1
    obtain ⟨a, vs, rfl, ha, ra⟩ := look_tupX (X := X) rm hd hl
    refine call_list_of pins s σ H _ us Q I r ⟨a, vs, rfl, .inr (ha), fun p n => ?_⟩
    obtain ⟨k, r, q⟩ := new_lst rm n ra
    exact h2 _ _ k r q
  · next hl =>
    cases h1
    obtain ⟨a, rfl, h3⟩ := look_dct rm hd hl
    rcases h3 with ⟨_, l, h3, h4⟩ | ⟨_, l, h3, h4⟩
    · refine call_listD hc pins s σ H _ us Q I r ⟨a, l, rfl, h3, fun p n => ?_⟩
      obtain ⟨k, r, q⟩ := new_lst rm n (keys_repK h4)
      exact h2 _ _ k r q
    · refine call_list_dT hc pins s σ H _ us Q I r ⟨a, l, rfl, h3, fun p bs n hb => ?_⟩
      obtain ⟨k, r, q⟩ := new_lst rm n (keys_repT rm h4 hb)
      exact h2 _ _ k r q
  · cases h1
theorem bi_abs : CallR X (.builtin "abs") (liftC (biD "abs")) := by
  intro pins s σ H xs us Q I r ⟨M, ds, hds, rm, h⟩
  obtain ⟨i, rfl, h1⟩ : ∃ i, ds = [.int i] ∧ _ := h
  obtain ⟨x, rfl, hd⟩ := reps1 hds
  rw [Rep] at hd; subst hd
  exact call_abs pins s σ H _ us Q I r ⟨i, rfl, h1 _ _ Kp.refl rm rint⟩
theorem nulti (i j : Int) : nuLt (.int i) (.int j) = some (decide (i < j)) := rfl
theorem bi_max (hc : X.calm = true) : CallR X (.builtin "max") (liftC (biD "max")) := by
  intro pins s σ H xs us Q I r ⟨M, ds, hds, rm, h⟩
  change pickD .max ds M (fun d' M' => ∀ v H', Kp M H M' H' → RelM M' H' → Rep M' H' d' v → Q v H') at h
  unfold pickD at h
  split at h
  · exact h.elim
  · obtain ⟨zs, n, ns, h1, h2, h3⟩ := h
    obtain ⟨x, rfl, hd⟩ := reps1 hds
    obtain ⟨a, vs, rfl, h4, ra⟩ := look_lstX (X := X) rm hd h1
    have e := intsD_map h2; subst e
    have e := reps_ints_inv ra; subst e
    refine cr_max hc pins s σ H _ us Q I r ⟨a, n :: ns, rfl, h4, by simp, fun m hm hle => ?_⟩
    obtain ⟨b1, b2⟩ := best_max n ns
    have e : m = best .max n ns := by have := hle _ b1; have := b2 _ hm; omega
    rw [e]
    exact h3 _ _ Kp.refl rm rint
  · obtain ⟨v, u, rfl, h1, h2⟩ := reps2 hds
    rw [Rep] at h1 h2; subst h1 h2
    refine call_max2 hc pins s σ H _ us Q I r ⟨_, _, rfl, ?_⟩
    exact h _ _ Kp.refl rm rint
  · next i j k =>
    obtain ⟨v, u, w, rfl, h1, h2, h3⟩ := reps3 hds
    rw [Rep] at h1 h2 h3; subst h1 h2 h3
    refine call_max3Nu hc pins s σ H _ us Q I r ⟨_, _, _, .int (best .max i [j, k]), rfl, ?_, h _ _ Kp.refl rm rint⟩
    unfold nuMax3 nuMax2
    rw [nulti, Option.map_some, Option.bind_some, best, best, best]
    by_cases c : i < j
    · simp only [c, decide_true, if_true, nulti, Option.map_some, decide_eq_true_eq]
      split <;> rfl
    · simp only [c, decide_false, if_false, Bool.false_eq_true, nulti, Option.map_some, decide_eq_true_eq]
      split <;> rfl
  · exact h.elim
theorem bi_min (hc : X.calm = true) : CallR X (.builtin "min") (liftC (biD "min")) := by
  intro pins s σ H xs us Q I r ⟨M, ds, hds, rm, h⟩
  change pickD .min ds M (fun d' M' => ∀ v H', Kp M H M' H' → RelM M' H' → Rep M' H' d' v → Q v H') at h
  unfold pickD at h
  split at h
  · exact h.elim
  · obtain ⟨zs, n, ns, h1, h2, h3⟩ := h
    obtain ⟨x, rfl, hd⟩ := reps1 hds
    obtain ⟨a, vs, rfl, h4, ra⟩ := look_lstX (X := X) rm hd h1
    have e := intsD_map h2; subst e
    have e := reps_ints_inv ra; subst e
    refine cr_min hc pins s σ H _ us Q I r ⟨a, n :: ns, rfl, h4, by simp, fun m hm hle => ?_⟩
    obtain ⟨b1, b2⟩ := best_min n ns
    have e : m = best .min n ns := by have := hle _ b1; have := b2 _ hm; omega
    rw [e]
    exact h3 _ _ Kp.refl rm rint
  · obtain ⟨v, u, rfl, h1, h2⟩ := reps2 hds
    rw [Rep] at h1 h2; subst h1 h2
    refine call_min2 hc pins s σ H _ us Q I r ⟨_, _, rfl, ?_⟩
    exact h _ _ Kp.refl rm rint
  · next i j k =>
    obtain ⟨v, u, w, rfl, h1, h2, h3⟩ := reps3 hds
    rw [Rep] at h1 h2 h3; subst h1 h2 h3
    refine call_min3Nu hc pins s σ H _ us Q I r ⟨_, _, _, .int (best .min i [j, k]), rfl, ?_, h _ _ Kp.refl rm rint⟩
    unfold nuMin3 nuMin2
    rw [nulti, Option.map_some, Option.bind_some, best, best, best]
    by_cases c : j < i
    · simp only [c, decide_true, if_true, nulti, Option.map_some, decide_eq_true_eq]
      split <;> rfl
    · simp only [c, decide_false, if_false, Bool.false_eq_true, nulti, Option.map_some, decide_eq_true_eq]
      split <;> rfl
  · exact h.elim
theorem bi_sum (hc : X.calm = true) : CallR X (.builtin "sum") (liftC (biD "sum")) := by
  intro pins s σ H xs us Q I r ⟨M, ds, hds, rm, h⟩
  obtain ⟨d, zs, ns, rfl, h1, h2, h3⟩ : ∃ d zs ns, ds = [d] ∧ look M d = .lst zs ∧ intsD zs = some ns ∧ _ := h
  obtain ⟨x, rfl, hd⟩ := reps1 hds
  obtain ⟨a, vs, rfl, h4, ra⟩ := look_lstX (X := X) rm hd h1
  have e := intsD_map h2; subst e
  have e := reps_ints_inv ra; subst e
  exact cr_sum hc pins s σ H _ us Q I r ⟨a, ns, rfl, h4, h3 _ _ Kp.refl rm rint⟩
/-! sorted -/
def StandsV (M : Mp) (H : Hp) (u : Value) (d : D) : Prop := ∃ v, RelV v u ∧ Rep M H d v
theorem stands_of {M : Mp} {H : Hp} : ∀ {xs : List D} {vs : List V} {us : List Value}, Reps M H xs vs → Vals vs us → PySem.W.EachIs (StandsV M H) us xs
  | [], _, _, h, r => by rw [Reps] at h; subst h; cases r; exact .nil
  | d :: ds, _, _, h, r => by
    rw [Reps] at h
    obtain ⟨v, t, rfl, h1, h2⟩ := h
    cases r with
    | cons r1 r2 => exact .cons ⟨v, r1, h1⟩ (stands_of h2 r2)
theorem stands_to {M : Mp} {H : Hp} : ∀ {xs : List D} {us : List Value}, PySem.W.EachIs (StandsV M H) us xs → ∃ vs, Vals vs us ∧ Reps M H xs vs
  | _, _, .nil => ⟨[], .nil, .nil⟩
  | _, _, .cons ⟨v, h1, h2⟩ t => by
    obtain ⟨vs, a, b⟩ := stands_to t
    exact ⟨v :: vs, .cons h1 a, .cons h2 b⟩
theorem stands_reads {pins : List (Addr × Obj)} {s : Shared} {σ : L2.St} {M : Mp} {H : Hp} (I : Inv X pins σ H s) : ∀ {xs : List D} {us : List Value}, PySem.W.EachIs (StandsV M H) us xs → (∀ x ∈ xs, x.py.isSome = true) → PySem.W.EachIs (fun v b => ∃ as, Reads s.heap v (pyD b) as) us xs
  | _, _, .nil, _ => .nil
  | x :: _, _, .cons ⟨v, h1, h2⟩ t, hp => by
    refine .cons ?_ (stands_reads I t fun y hy => hp y (List.mem_cons_of_mem _ hy))
    obtain ⟨p, e⟩ := Option.isSome_iff_exists.mp (hp x List.mem_cons_self)
    have e2 : pyD x = p := by unfold pyD; rw [e]; rfl
    rw [e2]
    exact Dp.reads I p v _ (rep_dpX (X := X) h2 e) h1
theorem bi_sorted (hu : X.A.units + 65 < cLine) : CallR X (.builtin "sorted") (liftC (biD "sorted")) := by
  intro pins s σ H xs us Q I r ⟨M, ds, hds, rm, h⟩
  obtain ⟨d, zs, rfl, h1, hp, ⟨h2, h3, h4, h5⟩, h6⟩ : ∃ d zs, ds = [d] ∧ look M d = .lst zs ∧ (∀ x ∈ zs, x.py.isSome = true) ∧ sortable (zs.map pyD) ∧ _ := h
  obtain ⟨x, rfl, hd⟩ := reps1 hds
  obtain ⟨a, vs, rfl, h7, ra⟩ := look_lstX (X := X) rm hd h1
  obtain ⟨u, rfl, rx⟩ := vals1 r
  obtain rfl : u = .ref a := rx
  obtain ⟨its, rv, pl, hz⟩ := I.list (a := a) (xs := vs) h7
  have st := stands_of ra rv
  rw [List.length_map] at h5
  refine PySem.W.sorted_data pl.isList st (stands_reads I st hp) (fun p hp q hq => h2 p hp q hq) h3 h5 (fun b hb => ?_) fun out hlen e => ?_
  · have := h4 _ (List.mem_map.mpr ⟨b, hb, rfl⟩)
    omega
  · obtain ⟨ws, w1, w2⟩ := stands_to e
    obtain ⟨ep, he'⟩ := PyProof.Rows.sortedAll_at s.heap its out.toArray
    have n : H (s.heap.objs.size + 1) = none := I.hok.fresh (Nat.le_succ _)
    obtain ⟨k, r2, q2⟩ := new_lst rm n w2
    refine ⟨.ref _, upd H (s.heap.objs.size + 1) (.lst ws), I.laid (t' := s.toks) (fun _ _ => PyProof.Rows.sortedAll_old) (Nat.le_succ _) ⟨?_, out, ep, w1, he'⟩, rfl, h6 _ _ k r2 q2⟩
    rw [w1.length, hlen]; exact h5
end
end Vc
/-! The check: an expression of the text is the one of the small language; then its rule. -/
namespace Vc
open PySem PySem.Spec PyProof.Rows L2
def nameOk (x : Str) : Bool := !(x == ("__debug__" : Str)) && !(x == ("__classdict__" : Str))
def visB (sc : Scope) (x : Str) : Bool := match sc.names.lookup x with | some .local => true | some .cell => true | some .free => true | _ => false
def globB (sc : Scope) (x : Str) : Bool := match sc.names.lookup x with | some .globalImplicit => true | _ => false
def locB (sc : Scope) (top : Bool) (x : Str) : Bool := match sc.names.lookup x with | some .local => true | some .cell => top | _ => false
def constB : Const → D → Bool
  | .none, .non => true
  | .bool b, .bl c => b == c
  | .int i, .int j => i == j
  | .str x, .str y => x == y
  | _, _ => false
def notStar : Expr → Bool
  | .Starred _ _ => false
  | _ => true
def notSlice : Expr → Bool
  | .Slice _ _ _ _ => false
  | _ => true
def notSetD : Expr → Bool
  | .Set _ _ _ => false
  | _ => true
def baseOk : Expr → Bool
  | .Call _ [] [] _ => false
  | _ => true
def plainT : Expr → Bool
  | .UnaryOp _ _ _ => false
  | .BoolOp _ _ _ => false
  | .IfExp _ _ _ _ => false
  | .Compare _ _ _ _ => false
  | _ => true
def isNoneE : Expr → Bool
  | .Constant .none _ _ => true
  | _ => false
/-- functions and types by name, how they are called -/
def fnNames : List String := ["len", "abs", "min", "max", "sum", "sorted"]
def tyNames : List String := ["int", "str", "tuple", "list"]
def isNameOf (f : String) : Expr → Bool
  | .Name x _ => x == Str.ofString f
  | _ => false
def nameStr : Expr → Str
  | .Name x _ => x
  | _ => ""
def mthOk (T m : String) (n : Nat) : Bool := (T == "list" && ["append", "extend", "index"].contains m && n == 1) || (T == "dict" && m == "get" && (n == 1 || n == 2))
mutual
def tgNs : Tg → List Nat
  | .n i => [i]
  | .t l => tgsNs l
def tgsNs : List Tg → List Nat
  | [] => []
  | t :: ts => tgNs t ++ tgsNs ts
end
def keysB : List Str → List (Option Expr) → Bool
  | [], l => l.isEmpty
  | k :: ks, l => match l with | some (.Constant (.str x) _ _) :: r => x == k && keysB ks r | _ => false
mutual
def chkE (N : List Str) (B : List String) (sc : Scope) : Ex → Expr → Bool
  | .v i, e => match e with | .Name x _ => decide (N[i]? = some x) && visB sc x && nameOk x | _ => false
  | .k c, e => match e with | .Constant d _ _ => constB d c | _ => false
  | .g y, e => match e with | .Name x _ => x == y && globB sc x && nameOk x | _ => false
  | .bin op a b, e => match e with | .BinOp l o r _ => decide (o = op) && chkE N B sc a l && chkE N B sc b r | _ => false
  | .neg a, e => match e with | .UnaryOp .USub x _ => chkE N B sc a x | _ => false
  | .cmp op a b, e => match e with | .Compare l [o] [r] _ => decide (o = op) && !behindInMarks o r && chkE N B sc a l && chkE N B sc b r | _ => false
  | .chain o p a b c, e => match e with | .Compare l [o', p'] [r, t] _ => decide (o' = o) && decide (p' = p) && !lastMarks [o', p'] [r, t] && chkE N B sc a l && chkE N B sc b r && chkE N B sc c t | _ => false
  | .isN yes a, e => match e with | .Compare l [o] [r] _ => decide (o = if yes then .Is else .IsNot) && isNoneE r && chkE N B sc a l | _ => false
  | .and es, e => match e with | .BoolOp .And l _ => !l.isEmpty && chkEs N B sc es l | _ => false
  | .or es, e => match e with | .BoolOp .Or l _ => !l.isEmpty && chkEs N B sc es l | _ => false
  | .not a, e => match e with | .UnaryOp .Not x _ => chkE N B sc a x | _ => false
  | .ite t a b, e => match e with | .IfExp c x y _ => chkT N B sc t c && chkE N B sc a x && chkE N B sc b y | _ => false
  | .tup es, e => match e with | .Tuple l _ _ => chkEs N B sc es l | _ => false
  | .lst es, e => match e with | .List l _ => chkEs N B sc es l | _ => false
  | .lstM es, e => match e with | .List l _ => chkEs N B sc es l | _ => false
  | .dctM _, e => match e with | .Dict [] [] _ => true | _ => false
  | .sub a i, e => match e with | .Subscript x y _ => notSlice y && chkE N B sc a x && chkE N B sc i y | _ => false
  | .slc a lo hi, e => match e with | .Subscript x (.Slice l h none _) _ => chkE N B sc a x && chkO N B sc lo l && chkO N B sc hi h | _ => false
  | .isi a ty, e => match e with | .Call f [x, y] [] _ => isNameOf "isinstance" f && B.contains "isinstance" && globB sc (nameStr f) && notStar x && chkE N B sc a x && isNameOf ty y && B.contains ty && globB sc (nameStr y) && notStar y && ["int", "str", "bool", "tuple", "list", "dict"].contains ty | _ => false
  | .bi n es, e => match e with | .Call f (x :: l) [] _ => isNameOf n f && B.contains n && globB sc (nameStr f) && (fnNames.contains n || tyNames.contains n) && chkEs N B sc es (x :: l) | _ => false
  | .call n es, e => match e with | .Call f l [] _ => (match f with | .Name x _ => x == n && globB sc x && nameOk x | _ => false) && chkEs N B sc es l | _ => false
  | .mth T m o es, e => match e with | .Call f (x :: l) [] p => (match f with | .Attribute q a ap => a == Str.ofString m && baseOk q && chkE N B sc o q && ap.endLine == p.line | _ => false) && mthOk T m (x :: l).length && chkEs N B sc es (x :: l) | _ => false
  | .comp _ own tg it ifs el, e => match e with
    | .ListComp y [⟨t, i, c, 0⟩] s _ => notSetD i && chkI N B sc it i && blkC N sc s (own.map fun j => (N.getD j "", j)) && ((tgNs tg).all fun j => own.contains j) && chkG N (relS s sc) false tg t && chkTo N B (relS s sc) ifs c && chkE N B (relS s sc) el y
    | _ => false
  | .comp2 _ own own1 tg it ifs tg1 it1 ifs1 el, e => match e with
    | .ListComp y [⟨t, i, c, 0⟩, ⟨t1, i1, c1, 0⟩] s _ => notSetD i && notSetD i1 && chkI N B sc it i && blkC N sc s (own.map fun j => (N.getD j "", j)) && ((tgNs tg).all fun j => own.contains j) && ((tgNs tg1).all fun j => own1.contains j) && (own1.all fun j => own.contains j) && chkG N (relS s sc) false tg t && chkTo N B (relS s sc) ifs c && chkI N B (relS s sc) it1 i1 && chkG N (relS s sc) false tg1 t1 && chkTo N B (relS s sc) ifs1 c1 && chkE N B (relS s sc) el y
    | _ => false
  | .bf n es, e => match e with | .Call f (x :: l) [] _ => (match f with | .Name y _ => y == n && globB sc y && nameOk y | _ => false) && chkEs N B sc es (x :: l) | _ => false
  | .disp ks es, e => match e with | .Dict keys values _ => keysB ks keys && decide ks.Nodup && !keys.isEmpty && decide (keys.length = values.length) && decide (keys.length ≤ 15) && chkEs N B sc es values | _ => false
  | .lkeys a, e => match e with | .Call f [.Call (.Attribute q m ap) [] [] p2] [] _ => isNameOf "list" f && B.contains "list" && globB sc (nameStr f) && m == Str.ofString "keys" && baseOk q && ap.endLine == p2.line && chkE N B sc a q | _ => false
  | .callK n es ks kes, e => match e with | .Call f l kws _ => (match f with | .Name x _ => x == n && globB sc x && nameOk x | _ => false) && chkEs N B sc es l && chkKs N B sc kes ks kws | _ => false
def chkKs (N : List Str) (B : List String) (sc : Scope) : List Ex → List Str → List Keyword → Bool
  | [], ks, kws => ks.isEmpty && kws.isEmpty
  | e :: es, ks, kws => match ks, kws with
    | k :: ks, kw :: kws => decide (kw.arg = some k) && chkE N B sc e kw.value && chkKs N B sc es ks kws
    | _, _ => false
def chkEs (N : List Str) (B : List String) (sc : Scope) : List Ex → List Expr → Bool
  | [], l => l.isEmpty
  | e :: es, l => match l with | x :: r => notStar x && chkE N B sc e x && chkEs N B sc es r | _ => false
def chkO (N : List Str) (B : List String) (sc : Scope) : Option Ex → Option Expr → Bool
  | none, o => o.isNone
  | some e, o => match o with | some x => chkE N B sc e x | _ => false
def chkT (N : List Str) (B : List String) (sc : Scope) : Tx → Expr → Bool
  | .e a, e => plainT e && chkE N B sc a e
  | .not t, e => match e with | .UnaryOp .Not x _ => chkT N B sc t x | _ => false
  | .and ts, e => match e with | .BoolOp .And l _ => !l.isEmpty && chkTs N B sc ts l | _ => false
  | .or ts, e => match e with | .BoolOp .Or l _ => !l.isEmpty && chkTs N B sc ts l | _ => false
  | .cmp op a b, e => match e with | .Compare l [o] [r] _ => decide (o = op) && !behindInMarks o r && chkE N B sc a l && chkE N B sc b r | _ => false
  | .chain o p a b c, e => match e with | .Compare l [o', p'] [r, t] _ => decide (o' = o) && decide (p' = p) && !lastMarks [o', p'] [r, t] && chkE N B sc a l && chkE N B sc b r && chkE N B sc c t | _ => false
  | .isN yes a, e => match e with | .Compare l [o] [r] _ => decide (o = if yes then .Is else .IsNot) && isNoneE r && chkE N B sc a l | _ => false
def chkTs (N : List Str) (B : List String) (sc : Scope) : List Tx → List Expr → Bool
  | [], l => l.isEmpty
  | e :: es, l => match l with | x :: r => chkT N B sc e x && chkTs N B sc es r | _ => false
def chkTo (N : List Str) (B : List String) (sc : Scope) : Option Tx → List Expr → Bool
  | none, l => l.isEmpty
  | some t, l => match l with | [x] => chkT N B sc t x | _ => false
def chkG (N : List Str) (sc : Scope) (top : Bool) : Tg → Expr → Bool
  | .n i, e => match e with | .Name x _ => decide (N[i]? = some x) && locB sc top x | _ => false
  | .t l, e => match e with | .Tuple es _ _ => chkGs N sc top l es | _ => false
def chkGs (N : List Str) (sc : Scope) (top : Bool) : List Tg → List Expr → Bool
  | [], l => l.isEmpty
  | t :: ts, l => match l with | x :: r => notStar x && chkG N sc top t x && chkGs N sc top ts r | _ => false
def chkI (N : List Str) (B : List String) (sc : Scope) : Ix → Expr → Bool
  | .s a, e => chkE N B sc a e
  | .rng es, e => match e with | .Call f l [] _ => isNameOf "range" f && B.contains "range" && globB sc (nameStr f) && (l.length == 1 || l.length == 2) && chkEs N B sc es l | _ => false
end
variable [KF]
/-- a contract of data is a promise of the layer -/
def spOf (n : Nat) (sp : CSp) : Sp := fun vs H Q _ => vs.length = n ∧ ∃ M ds, Reps M H ds vs ∧ RelM M H ∧ runC sp ds M fun d M' => ∀ v H', Kp M H M' H' → RelM M' H' → Rep M' H' d v → Q v H'
/-- where one stands, as the small language wants it -/
structure Std (X : Cx) (N : List Str) (B : List String) (sc : Scope) (top : Bool) (k : Nat) (Γ : Gam) : Prop where
  scope : X.env.scope = sc
  hN : X.N = N
  nd : N.Nodup
  calm : X.calm = true
  room : Room k X.A
  blt : ∀ f ∈ B, X.mg (Str.ofString f) = none
  fnc : top = true → ∀ x, X.fn x = true
  con : ∀ x d, Γ.con x = some d → ∃ u v, X.mg x = some u ∧ RelV v u ∧ ∀ M H, Rep M H d v
  bf : ∀ x id, Γ.bf x = some id → X.mg x = some (.builtin id)
  kw : ∀ x j ks n sp, Γ.kw x j = some ks → Γ.fn x = some (n, sp) → ∃ f fd ps, FnOk X.prog X.w X.K X.mg X.base CX0 k f fd ps (spOf n sp) ∧ X.mg x = some (.ref f) ∧ PySem.W.keepIn X.K (.ref f) = true ∧ KBinds X.K fd ps ks (· ++ ·) (· ++ ·)
  fn : ∀ x n sp, Γ.fn x = some (n, sp) → ∃ f fd ps, FnOk X.prog X.w X.K X.mg X.base CX0 k f fd ps (spOf n sp) ∧ X.mg x = some (.ref f) ∧ PySem.W.keepIn X.K (.ref f) = true ∧ Binds X.K fd ps []
theorem Std.hu {X : Cx} {N : List Str} {B : List String} {sc : Scope} {top : Bool} {k : Nat} {Γ : Gam} (G : Std X N B sc top k Γ) : X.A.units + 65 < cLine := by have := G.room.un; omega
theorem Std.blk {X : Cx} {N : List Str} {B : List String} {sc : Scope} {top : Bool} {k : Nat} {Γ : Gam} (G : Std X N B sc top k Γ) (s : Shared) (H : Hp) (scope : Scope) (cl : List (Str × Addr)) (C : Addr) (fp : List Addr) :
    Std (X.blk s H scope (compEnvC scope cl C X.env) fp) N B (relS scope sc) false k Γ where
  scope := by rw [← G.scope]; rfl
  hN := G.hN
  nd := G.nd
  calm := G.calm
  room := G.room
  blt := G.blt
  fnc := fun h => by cases h
  con := G.con
  bf := G.bf
  kw := G.kw
  fn := G.fn
/-! ### the liftings -/
def EnvR (M : Mp) (H : Hp) (ρ : Env') (σ : L2.St) : Prop := ρ.length = σ.length ∧ ∀ (i : Nat) (d : D), ρ[i]? = some (some d) → ∃ v, σ[i]? = some (some v) ∧ Rep M H d v
theorem EnvR.mono {M M' : Mp} {H H' : Hp} {ρ : Env'} {σ : L2.St} (k : Kp M H M' H') (e : EnvR M H ρ σ) : EnvR M' H' ρ σ := ⟨e.1, fun i d h => let ⟨v, a, b⟩ := e.2 i d h; ⟨v, a, Rep.mono k _ _ b⟩⟩
theorem EnvR.set {M : Mp} {H : Hp} {ρ : Env'} {σ : L2.St} (e : EnvR M H ρ σ) {i : Nat} {d : D} {v : V} (r : Rep M H d v) : EnvR M H (ρ.set i (some d)) (σ.set i (some v)) := by
  refine ⟨by simp [e.1], fun j x h => ?_⟩
  by_cases c : i = j
  · subst c
    have hi : i < ρ.length := by
      have := (List.getElem?_eq_some_iff.mp h).1
      simpa using this
    rw [List.getElem?_set_self hi] at h
    cases h
    exact ⟨v, List.getElem?_set_self (by rw [← e.1]; exact hi), r⟩
  · rw [List.getElem?_set_ne c] at h ⊢
    exact e.2 j x h
theorem EnvR.wipe {M : Mp} {H : Hp} {ρ : Env'} {σ : L2.St} (e : EnvR M H ρ σ) : ∀ vs : List Nat, EnvR M H (wipeD ρ vs) (L2.wipe σ vs)
  | [] => e
  | i :: vs => by
    have ih := EnvR.wipe e vs
    refine ⟨by simp [wipeD, L2.wipe, ih.1], fun j x h => ?_⟩
    rw [wipeD] at h
    rw [L2.wipe]
    by_cases c : i = j
    · subst c
      have hi : i < (wipeD ρ vs).length := by
        have := (List.getElem?_eq_some_iff.mp h).1
        simpa using this
      rw [List.getElem?_set_self hi] at h
      cases h
    · rw [List.getElem?_set_ne c] at h ⊢
      exact ih.2 j x h
/-- what a value of the small language is, behind a step -/
def VKD (M : Mp) (H : Hp) (Q : VK) : KD := fun d M' => ∀ v H', Kp M H M' H' → RelM M' H' → Rep M' H' d v → Q v H'
def liftE (w : Env' → Mp → KD → Prop) : TE := fun σ H Q => ∃ ρ M, EnvR M H ρ σ ∧ RelM M H ∧ w ρ M (VKD M H Q)
def liftT (w : Env' → Mp → (Bool → Mp → Prop) → Prop) : TT := fun σ H Q => ∃ ρ M, EnvR M H ρ σ ∧ RelM M H ∧ w ρ M fun c M' => ∀ H', Kp M H M' H' → RelM M' H' → Q c H'
def liftA (w : Env' → Mp → (List D → Mp → Prop) → Prop) : TA := fun σ H Q => ∃ ρ M, EnvR M H ρ σ ∧ RelM M H ∧ w ρ M fun ds M' => ∀ vs H', Kp M H M' H' → RelM M' H' → Reps M' H' ds vs → Q vs H'
def liftO (w : Env' → Mp → (Option Int → Mp → Prop) → Prop) : TO := fun σ H Q => ∃ ρ M, EnvR M H ρ σ ∧ RelM M H ∧ w ρ M fun i M' => ∀ H', Kp M H M' H' → RelM M' H' → Q i H'
/-- nothing is changed but at the places ns -/
def Off (ns : List Nat) (σ σ' : L2.St) : Prop := σ'.length = σ.length ∧ ∀ j : Nat, j ∉ ns → σ'[j]? = σ[j]?
theorem Off.refl {ns : List Nat} {σ : L2.St} : Off ns σ σ := ⟨rfl, fun _ _ => rfl⟩
theorem Off.trans {ns ms : List Nat} {σ σ1 σ2 : L2.St} (a : Off ns σ σ1) (b : Off ms σ1 σ2) : Off (ns ++ ms) σ σ2 := ⟨b.1.trans a.1, fun j h => by
  rw [List.mem_append, not_or] at h
  exact (b.2 j h.2).trans (a.2 j h.1)⟩
def liftG (ns : List Nat) (w : D → Env' → Mp → (Env' → Prop) → Prop) : TG := fun v σ H Q => ∃ d ρ M, Rep M H d v ∧ EnvR M H ρ σ ∧ RelM M H ∧ w d ρ M fun ρ' => ∀ σ', EnvR M H ρ' σ' → Off ns σ σ' → Q σ' H
def liftGs (ns : List Nat) (w : List D → Env' → Mp → (Env' → Prop) → Prop) : TGs := fun vs σ H Q => ∃ ds ρ M, Reps M H ds vs ∧ EnvR M H ρ σ ∧ RelM M H ∧ w ds ρ M fun ρ' => ∀ σ', EnvR M H ρ' σ' → Off ns σ σ' → Q σ' H
/-- what an iterable yields -/
structure Yields (K : PySem.W.Frag) (J : It) (xs : List D) (inv : Mp → Prop) (M0 : Mp) (H0 : Hp) : Prop where
  stop : ∀ M H, Kp M0 H0 M H → RelM M H → inv M → J.stop xs.length H
  go : ∀ i d M H, xs[i]? = some d → Kp M0 H0 M H → RelM M H → inv M → J.go i H ∧ ∀ x H', J.yld i H x H' → Kp M H M H' ∧ RelM M H' ∧ Rep M H' d x
def liftI (K : PySem.W.Frag) (w : Env' → Mp → (List D → (Mp → Prop) → Mp → Prop) → Prop) : TI := fun σ H R => ∃ ρ M, EnvR M H ρ σ ∧ RelM M H ∧ w ρ M fun xs inv M' => ∀ J H', Kp M H M' H' → RelM M' H' → Yields K J xs inv M' H' → R J H'
section
variable {X : Cx} [XK X]
theorem PE.imp {e : Expr} {t t' : TE} (h : PE X e t) (m : ∀ σ H Q, t' σ H Q → t σ H Q) : PE X e t' := ⟨fun pins s σ H Q I q => h.run pins s σ H Q I (m _ _ _ q)⟩
theorem PT.imp {e : Expr} {t t' : TT} (h : PT X e t) (m : ∀ σ H Q, t' σ H Q → t σ H Q) : PT X e t' := ⟨fun pins s σ H Q I q => h.run pins s σ H Q I (m _ _ _ q)⟩
theorem PW.imp {e : Expr} {t t' : TT} (h : PW X e t) (m : ∀ σ H Q, t' σ H Q → t σ H Q) : PW X e t' := ⟨fun wh pins s σ H Q I q => h.run wh pins s σ H Q I (m _ _ _ q)⟩
theorem PA.imp {e : List Expr} {t t' : TA} (h : PA X e t) (m : ∀ σ H Q, t' σ H Q → t σ H Q) : PA X e t' := ⟨fun pos pins s σ H Q I q => h.run pos pins s σ H Q I (m _ _ _ q)⟩
theorem PO.imp {e : Option Expr} {t t' : TO} (h : PO X e t) (m : ∀ σ H Q, t' σ H Q → t σ H Q) : PO X e t' := ⟨fun pins s σ H Q I q => h.run pins s σ H Q I (m _ _ _ q)⟩
theorem PG.imp {e : Expr} {t t' : TG} (h : PG X e t) (m : ∀ v σ H Q, t' v σ H Q → t v σ H Q) : PG X e t' := ⟨fun pins s σ H v u Q I r q => h.run pins s σ H v u Q I r (m _ _ _ _ q)⟩
theorem PGs.imp {e : List Expr} {t t' : TGs} (h : PGs X e t) (m : ∀ v σ H Q, t' v σ H Q → t v σ H Q) : PGs X e t' := ⟨fun pins s σ H v u Q I r q => h.run pins s σ H v u Q I r (m _ _ _ _ q)⟩
/-- one, then what is asked of it -/
theorem lift1 {Γ : Gam} {a : Ex} {k : D → Mp → KD → Prop} {σ : L2.St} {H : Hp} {Q : VK} (h : liftE (fun ρ M Q => wpE Γ a ρ M fun x M1 => k x M1 Q) σ H Q) (r : V → Hp → Prop) (hk : ∀ M d v H1, Rep M H1 d v → RelM M H1 → k d M (VKD M H1 Q) → r v H1)
    (km : ∀ d M K K', (∀ x M, K x M → K' x M) → k d M K → k d M K') : liftE (wpE Γ a) σ H r := by
  obtain ⟨ρ, M, e, rm, h⟩ := h
  refine ⟨ρ, M, e, rm, wpE_mono Γ a ρ M _ _ (fun d M1 q v H1 kp r1 rp => hk M1 d v H1 rp r1 (km _ _ _ _ (fun x M2 q2 v2 H2 k2 => q2 v2 H2 (kp.trans k2)) q)) h⟩
/-- two in a row -/
theorem lift2 {Γ : Gam} {a b : Ex} {k : D → D → Mp → KD → Prop} {σ : L2.St} {H : Hp} {Q : VK} (h : liftE (fun ρ M Q => wpE Γ a ρ M fun x M1 => wpE Γ b ρ M1 fun y M2 => k x y M2 Q) σ H Q)
    (km : ∀ d e M K K', (∀ x M, K x M → K' x M) → k d e M K → k d e M K') : tOp (liftR k) (liftE (wpE Γ a)) (liftE (wpE Γ b)) σ H Q := by
  obtain ⟨ρ, M, e, rm, h⟩ := h
  refine ⟨ρ, M, e, rm, wpE_mono Γ a ρ M _ _ (fun x M1 q v H1 kp r1 rp => ?_) h⟩
  refine ⟨ρ, M1, e.mono kp, r1, wpE_mono Γ b ρ M1 _ _ (fun y M2 q2 u H2 kp2 r2 rp2 => ?_) q⟩
  exact ⟨M2, x, y, Rep.mono kp2 _ _ rp, rp2, r2, km _ _ _ _ _ (fun z M3 q3 v3 H3 k3 => q3 v3 H3 ((kp.trans kp2).trans k3)) q2⟩
end
end Vc
/-! Each construct by its parts. -/
namespace Vc
open PySem PySem.Spec PyProof.Rows L2
variable [KF]
section
variable {X : Cx} [XK X] {N : List Str} {B : List String} {sc : Scope} {top : Bool} {k : Nat} {Γ : Gam}
theorem visB_ok {x : Str} (h : visB sc x = true) : Vis sc x := by
  unfold visB at h
  split at h
  · exact .inl (by assumption)
  · exact .inr (.inl (by assumption))
  · exact .inr (.inr (by assumption))
  · cases h
theorem globB_ok {x : Str} (G : Std X N B sc top k Γ) (h : globB sc x = true) : Gl X x := by
  unfold globB at h
  unfold Gl Env.kindOf
  rw [G.scope]
  split at h
  · assumption
  · cases h
theorem nameOk_ok {x : Str} (h : nameOk x = true) : (x == ("__debug__" : Str)) = false ∧ (x == ("__classdict__" : Str)) = false := by
  unfold nameOk at h
  simpa using h
theorem snd_v {i : Nat} {x : Str} {pos : Pos} (G : Std X N B sc top k Γ) (h : N[i]? = some x) (hv : visB sc x = true) (hn : nameOk x = true) : PE X (.Name x pos) (liftE (wpE Γ (.v i))) := by
  obtain ⟨n1, n2⟩ := nameOk_ok hn
  refine PE.imp (pe_var (i := i) (by rw [G.hN]; exact h) (by rw [G.scope]; exact visB_ok hv) n1 n2) fun σ H Q ⟨ρ, M, er, rm, q⟩ => ?_
  rw [wpE] at q
  obtain ⟨d, hd, q⟩ := q
  obtain ⟨v, e, rp⟩ := er.2 i d hd
  exact ⟨v, e, q v H Kp.refl rm rp⟩
theorem snd_k {c : Const} {d : D} {j : Nat} {pos : Pos} (h : constB c d = true) : PE X (.Constant c j pos) (liftE (wpE Γ (.k d))) := by
  have go : ∀ v, (∀ M H, Rep M H d v) → ∀ σ H Q, liftE (wpE Γ (.k d)) σ H Q → tC v σ H Q := fun v hr σ H Q ⟨ρ, M, er, rm, q⟩ => by
    rw [wpE] at q
    exact q v H Kp.refl rm (hr M H)
  unfold constB at h
  split at h
  · exact PE.imp pe_non (go _ fun _ _ => rnon)
  · rw [beq_iff_eq] at h; subst h
    exact PE.imp pe_bl (go _ fun _ _ => rbl)
  · rw [beq_iff_eq] at h; subst h
    exact PE.imp pe_int (go _ fun _ _ => rint)
  · rw [beq_iff_eq] at h; subst h
    exact PE.imp pe_str (go _ fun _ _ => rstr)
  · cases h
theorem snd_g {x : Str} {pos : Pos} (G : Std X N B sc top k Γ) (hg : globB sc x = true) (hn : nameOk x = true) : PE X (.Name x pos) (liftE (wpE Γ (.g x))) := by
  obtain ⟨n1, n2⟩ := nameOk_ok hn
  refine ⟨fun pins s σ H Q I ⟨ρ, M, er, rm, q⟩ => ?_⟩
  rw [wpE] at q
  obtain ⟨d, hd, q⟩ := q
  obtain ⟨u, v, hm, r, rp⟩ := G.con x d hd
  exact (pe_glob (pos := pos) (globB_ok G hg) hm r n1).run pins s σ H Q I (q v H Kp.refl rm (rp M H))
theorem snd_bin {op : Operator} {a b : Expr} {p q : Ex} {pos : Pos} (ha : PE X a (liftE (wpE Γ p))) (hb : PE X b (liftE (wpE Γ q))) : PE X (.BinOp a op b pos) (liftE (wpE Γ (.bin op p q))) := by
  refine PE.imp (pe_op sop_bin ha hb) fun σ H Q h => ?_
  refine lift2 (k := binD op) ?_ fun _ _ _ _ _ m => binD_mono m
  obtain ⟨ρ, M, er, rm, h⟩ := h
  rw [wpE] at h
  exact ⟨ρ, M, er, rm, h⟩
theorem snd_neg {a : Expr} {p : Ex} {pos : Pos} (ha : PE X a (liftE (wpE Γ p))) : PE X (.UnaryOp .USub a pos) (liftE (wpE Γ (.neg p))) := by
  refine PE.imp (pe_un un_neg ha) fun σ H Q ⟨ρ, M, er, rm, h⟩ => ?_
  rw [wpE] at h
  refine ⟨ρ, M, er, rm, wpE_mono Γ p ρ M _ _ (fun d M1 ⟨i, e, q⟩ v H1 kp r1 rp => ?_) h⟩
  subst e
  rw [Rep] at rp; subst rp
  exact ⟨i, rfl, q _ _ kp r1 rint⟩
theorem cmpR_mono {op : CmpOp} (d e : D) (M : Mp) (K K' : KD) (m : ∀ x M, K x M → K' x M) (h : cmpR op d e M K) : cmpR op d e M K' := cmpD_mono (fun b => m _ _) h
theorem snd_cmp {op : CmpOp} {a b : Expr} {p q : Ex} {pos : Pos} (G : Std X N B sc top k Γ) (hm : behindInMarks op b = false) (ha : PE X a (liftE (wpE Γ p))) (hb : PE X b (liftE (wpE Γ q))) : PE X (.Compare a [op] [b] pos) (liftE (wpE Γ (.cmp op p q))) := by
  refine PE.imp (pe_cmpR (sop_cmp G.hu) ha hb hm) fun σ H Q h => ?_
  refine lift2 (k := cmpR op) ?_ cmpR_mono
  obtain ⟨ρ, M, er, rm, h⟩ := h
  rw [wpE] at h
  exact ⟨ρ, M, er, rm, h⟩
theorem tcmp {op : CmpOp} {p q : Ex} {σ : L2.St} {H : Hp} {Q : Bool → Hp → Prop} {ρ : Env'} {M : Mp} (er : EnvR M H ρ σ) (rm : RelM M H) (h : wpE Γ p ρ M fun x M1 => wpE Γ q ρ M1 fun y M2 => cmpD op x y M2 fun c => ∀ H', Kp M H M2 H' → RelM M2 H' → Q c H') :
    tTest (tOp (liftR (cmpR op)) (liftE (wpE Γ p)) (liftE (wpE Γ q))) σ H Q := by
  refine lift2 (k := cmpR op) (Q := fun x H' => ∃ k, x = .bl k ∧ Q k H') ⟨ρ, M, er, rm, ?_⟩ cmpR_mono
  refine wpE_mono Γ p ρ M _ _ (fun x M1 => wpE_mono Γ q ρ M1 _ _ fun y M2 => cmpD_mono fun c z v H' kp r1 rp => ?_) h
  rw [Rep] at rp
  exact ⟨c, rp, z H' kp r1⟩
theorem snd_tcmp {op : CmpOp} {a b : Expr} {p q : Ex} {pos : Pos} (G : Std X N B sc top k Γ) (hm : behindInMarks op b = false) (ha : PE X a (liftE (wpE Γ p))) (hb : PE X b (liftE (wpE Γ q))) : PT X (.Compare a [op] [b] pos) (liftT (wpT Γ (.cmp op p q))) := by
  refine PT.imp (pt_cmpR (sop_cmp G.hu) ha hb hm) fun σ H Q ⟨ρ, M, er, rm, h⟩ => ?_
  rw [wpT] at h
  exact tcmp er rm h
theorem tchain {o o' : CmpOp} {p q r : Ex} {σ : L2.St} {H : Hp} {Q : VK} {ρ : Env'} {M : Mp} (er : EnvR M H ρ σ) (rm : RelM M H)
    (h : wpE Γ p ρ M fun x M1 => wpE Γ q ρ M1 fun y M2 => cmpD o x y M2 fun k => if k = true then wpE Γ r ρ M2 fun z M3 => cmpD o' y z M3 fun k2 => ∀ H', Kp M H M3 H' → RelM M3 H' → Q (.bl k2) H' else ∀ H', Kp M H M2 H' → RelM M2 H' → Q (.bl false) H') :
    tChain (liftR (cmpR o)) (liftR (cmpR o')) (liftE (wpE Γ p)) (liftE (wpE Γ q)) (liftE (wpE Γ r)) σ H Q := by
  refine ⟨ρ, M, er, rm, wpE_mono Γ p ρ M _ _ (fun x M1 h v H1 kp r1 rp => ?_) h⟩
  refine ⟨ρ, M1, er.mono kp, r1, wpE_mono Γ q ρ M1 _ _ (fun y M2 h u H2 kp2 r2 rp2 => ?_) h⟩
  refine ⟨M2, x, y, Rep.mono kp2 _ _ rp, rp2, r2, cmpD_mono (fun c h z H3 kp3 r3 rp3 => ?_) h⟩
  rw [Rep] at rp3; subst rp3
  refine ⟨c, rfl, ?_⟩
  have k3 := (kp.trans kp2).trans kp3
  cases c with
  | false =>
    rw [if_neg Bool.false_ne_true] at h ⊢
    exact h H3 k3 r3
  | true =>
    rw [if_pos rfl] at h ⊢
    refine ⟨ρ, M2, er.mono k3, r3, wpE_mono Γ r ρ M2 _ _ (fun z M4 h w H4 kp4 r4 rp4 => ?_) h⟩
    refine ⟨M4, y, z, Rep.mono (kp3.trans kp4) _ _ rp2, rp4, r4, cmpD_mono (fun c2 h w2 H5 kp5 r5 rp5 => ?_) h⟩
    rw [Rep] at rp5; subst rp5
    exact h H5 ((k3.trans kp4).trans kp5) r5
theorem snd_chain {o o' : CmpOp} {a b c : Expr} {p q r : Ex} {pos : Pos} (G : Std X N B sc top k Γ) (hm : lastMarks [o, o'] [b, c] = false) (ha : PE X a (liftE (wpE Γ p))) (hb : PE X b (liftE (wpE Γ q))) (hc : PE X c (liftE (wpE Γ r))) :
    PE X (.Compare a [o, o'] [b, c] pos) (liftE (wpE Γ (.chain o o' p q r))) := by
  refine PE.imp (pe_chain (sop_cmp G.hu) (sop_cmp G.hu) ha hb hc hm) fun σ H Q ⟨ρ, M, er, rm, h⟩ => ?_
  rw [wpE] at h
  refine tchain er rm (wpE_mono Γ p ρ M _ _ (fun x M1 => wpE_mono Γ q ρ M1 _ _ fun y M2 => cmpD_mono fun k h => ?_) h)
  cases k with
  | false => rw [if_neg Bool.false_ne_true] at h ⊢; exact fun H' kp r1 => h _ _ kp r1 rbl
  | true => rw [if_pos rfl] at h ⊢; exact wpE_mono Γ r ρ M2 _ _ (fun z M3 => cmpD_mono fun k2 h H' kp r1 => h _ _ kp r1 rbl) h
theorem snd_tchain {o o' : CmpOp} {a b c : Expr} {p q r : Ex} {pos : Pos} (G : Std X N B sc top k Γ) (hm : lastMarks [o, o'] [b, c] = false) (ha : PE X a (liftE (wpE Γ p))) (hb : PE X b (liftE (wpE Γ q))) (hc : PE X c (liftE (wpE Γ r))) :
    PT X (.Compare a [o, o'] [b, c] pos) (liftT (wpT Γ (.chain o o' p q r))) := by
  refine PT.imp (pt_chain (sop_cmp G.hu) (sop_cmp G.hu) ha hb hc hm) fun σ H Q ⟨ρ, M, er, rm, h⟩ => ?_
  rw [wpT] at h
  refine tchain (Q := fun x H' => ∃ k, x = .bl k ∧ Q k H') er rm (wpE_mono Γ p ρ M _ _ (fun x M1 => wpE_mono Γ q ρ M1 _ _ fun y M2 => cmpD_mono fun k h => ?_) h)
  cases k with
  | false => rw [if_neg Bool.false_ne_true] at h ⊢; exact fun H' kp r1 => ⟨_, rfl, h _ kp r1⟩
  | true => rw [if_pos rfl] at h ⊢; exact wpE_mono Γ r ρ M2 _ _ (fun z M3 => cmpD_mono fun k2 h H' kp r1 => ⟨_, rfl, h _ kp r1⟩) h
theorem isNone_rep {M : Mp} {H : Hp} {d : D} {v : V} (h : Rep M H d v) : decide (v = .non) = isNone d := by
  cases d with
  | dct t kvs => cases t <;> (rw [Rep] at h; obtain ⟨a, l, rfl, _⟩ := h; rfl)
  | lst xs => rw [Rep] at h; obtain ⟨a, l, rfl, _⟩ := h; rfl
  | tup xs => rw [Rep] at h; obtain ⟨a, l, rfl, _⟩ := h; rfl
  | ktp xs => rw [Rep] at h; obtain ⟨a, l, rfl, _⟩ := h; rfl
  | klst xs => rw [Rep] at h; obtain ⟨a, l, rfl, _⟩ := h; rfl
  | _ => rw [Rep] at h; subst h; rfl
theorem isNoneE_ok {e : Expr} (h : isNoneE e = true) : ∃ j pos, e = .Constant .none j pos := by
  unfold isNoneE at h
  split at h
  · exact ⟨_, _, rfl⟩
  · cases h
theorem pc_none {yes : Bool} {a b : Expr} {p : Ex} (hb : isNoneE b = true) (ha : PE X a (liftE (wpE Γ p))) : PC X (if yes then .Is else .IsNot) a b (fun σ H Q => ∃ ρ M, EnvR M H ρ σ ∧ RelM M H ∧ wpE Γ p ρ M fun x M1 => ∀ H', Kp M H M1 H' → RelM M1 H' → Q (.bl (if yes then isNone x else !isNone x)) H') := by
  obtain ⟨j, pos, rfl⟩ := isNoneE_ok hb
  have go : ∀ {op : CmpOp} {t t' : TE}, PC X op a (.Constant .none j pos) t → (∀ σ H Q, t' σ H Q → t σ H Q) → PC X op a (.Constant .none j pos) t' := fun h m => ⟨fun pins s σ H Q I q => h.run pins s σ H Q I (m _ _ _ q)⟩
  cases yes with
  | true =>
    refine go (pc_isN ha) fun σ H Q ⟨ρ, M, er, rm, h⟩ => ⟨ρ, M, er, rm, wpE_mono Γ p ρ M _ _ (fun x M1 q v H1 kp r1 rp => ?_) h⟩
    show Q (.bl (decide (v = .non))) H1
    rw [isNone_rep rp]
    exact q H1 kp r1
  | false =>
    refine go (pc_notN ha) fun σ H Q ⟨ρ, M, er, rm, h⟩ => ⟨ρ, M, er, rm, wpE_mono Γ p ρ M _ _ (fun x M1 q v H1 kp r1 rp => ?_) h⟩
    show Q (.bl (!decide (v = .non))) H1
    rw [isNone_rep rp]
    exact q H1 kp r1
theorem marks_none {yes : Bool} {b : Expr} : behindInMarks (if yes then .Is else .IsNot) b = false := by
  cases yes <;> exact nomark b
theorem snd_isN {yes : Bool} {a b : Expr} {p : Ex} {pos : Pos} (hb : isNoneE b = true) (ha : PE X a (liftE (wpE Γ p))) : PE X (.Compare a [if yes then .Is else .IsNot] [b] pos) (liftE (wpE Γ (.isN yes p))) := by
  refine PE.imp (pe_cmp (pc_none hb ha) marks_none) fun σ H Q ⟨ρ, M, er, rm, h⟩ => ?_
  rw [wpE] at h
  exact ⟨ρ, M, er, rm, wpE_mono Γ p ρ M _ _ (fun x M1 q H' kp r1 => q _ _ kp r1 rbl) h⟩
theorem snd_tisN {yes : Bool} {a b : Expr} {p : Ex} {pos : Pos} (hb : isNoneE b = true) (ha : PE X a (liftE (wpE Γ p))) : PT X (.Compare a [if yes then .Is else .IsNot] [b] pos) (liftT (wpT Γ (.isN yes p))) := by
  refine PT.imp (pt_cmp (pc_none hb ha) marks_none) fun σ H Q ⟨ρ, M, er, rm, h⟩ => ?_
  rw [wpT] at h
  exact ⟨ρ, M, er, rm, wpE_mono Γ p ρ M _ _ (fun x M1 q H' kp r1 => ⟨_, rfl, q _ kp r1⟩) h⟩
theorem snd_not {a : Expr} {p : Ex} {pos : Pos} (ha : PE X a (liftE (wpE Γ p))) : PE X (.UnaryOp .Not a pos) (liftE (wpE Γ (.not p))) := by
  refine ⟨fun pins s σ H Q I ⟨ρ, M, er, rm, h⟩ => ?_⟩
  rw [wpE] at h
  refine UnaryOp_ (thn (ha.run pins s σ H (fun x H1 => ∃ d M1, Rep M1 H1 d x ∧ RelM M1 H1 ∧ Kp M H M1 H1 ∧ truD d M1 fun c => VKD M H Q (.bl (!c)) M1) I ⟨ρ, M, er, rm, wpE_mono Γ p ρ M _ _ (fun x M1 q v H1 kp r1 rp => ⟨x, M1, rp, r1, kp, q⟩) h⟩) fun v s1 ⟨x, H1, I1, r1, d, M1, rp, rm1, kp, q⟩ => ?_)
  refine not_of (thn (stru I1 r1 rp rm1 q fun b z => (show (fun b H2 => Q (.bl (!b)) H2) b H1 from z _ _ kp rm1 rbl)) fun c s2 ⟨H2, I2, q2⟩ => ⟨.bl (!c), H2, I2, rfl, q2⟩)
theorem snd_te {a : Expr} {p : Ex} (hp : plainT a = true) (ha : PE X a (liftE (wpE Γ p))) : PT X a (liftT (wpT Γ (.e p))) := by
  refine ⟨fun pins s σ H Q I ⟨ρ, M, er, rm, h⟩ => ?_⟩
  rw [wpT] at h
  have he : ∀ whole, isTrue a X.env whole = (do let v ← whole; standAt a.pos; holding [v] (truthy v)) := by
    intro wh
    cases a <;> first | rfl | cases hp
  refine isTrue_plain (thn (ha.run pins s σ H (fun x H1 => ∃ d M1, Rep M1 H1 d x ∧ RelM M1 H1 ∧ Kp M H M1 H1 ∧ truD d M1 fun c => ∀ H', Kp M H M1 H' → RelM M1 H' → Q c H') I ⟨ρ, M, er, rm, wpE_mono Γ p ρ M _ _ (fun x M1 q v H1 kp r1 rp => ⟨x, M1, rp, r1, kp, q⟩) h⟩) fun v s1 ⟨x, H1, I1, r1, d, M1, rp, rm1, kp, q⟩ => ?_) (he _)
  exact stru I1 r1 rp rm1 q fun b z => z _ kp rm1
theorem snd_tnot {a : Expr} {t : Tx} {pos : Pos} (ha : PT X a (liftT (wpT Γ t))) : PT X (.UnaryOp .Not a pos) (liftT (wpT Γ (.not t))) := by
  refine PT.imp (pt_not ha) fun σ H Q ⟨ρ, M, er, rm, h⟩ => ?_
  rw [wpT] at h
  exact ⟨ρ, M, er, rm, h⟩
theorem snd_ite {c a b : Expr} {t : Tx} {p q : Ex} {pos : Pos} (hc : PT X c (liftT (wpT Γ t))) (ha : PE X a (liftE (wpE Γ p))) (hb : PE X b (liftE (wpE Γ q))) : PE X (.IfExp c a b pos) (liftE (wpE Γ (.ite t p q))) := by
  refine PE.imp (pe_ifExp hc ha hb) fun σ H Q ⟨ρ, M, er, rm, h⟩ => ?_
  rw [wpE] at h
  refine ⟨ρ, M, er, rm, wpT_mono Γ t ρ M _ _ (fun c M1 h H1 kp r1 => ?_) h⟩
  cases c with
  | true => rw [if_pos rfl] at h ⊢; exact ⟨ρ, M1, er.mono kp, r1, wpE_mono Γ p ρ M1 _ _ (fun x M2 q v H2 k2 => q v H2 (kp.trans k2)) h⟩
  | false => rw [if_neg Bool.false_ne_true] at h ⊢; exact ⟨ρ, M1, er.mono kp, r1, wpE_mono Γ q ρ M1 _ _ (fun x M2 q v H2 k2 => q v H2 (kp.trans k2)) h⟩
theorem snd_tup {es : List Expr} {ps : List Ex} {j : Nat} {pos : Pos} (ha : PA X es (liftA (wpEs Γ ps))) : PE X (.Tuple es j pos) (liftE (wpE Γ (.tup ps))) := by
  refine PE.imp (pe_tup ha) fun σ H Q ⟨ρ, M, er, rm, h⟩ => ?_
  rw [wpE] at h
  refine ⟨ρ, M, er, rm, wpEs_mono Γ ps ρ M _ _ (fun ds M1 q vs H1 kp r1 rp => ⟨by rw [← rp.length]; exact q.1, fun p n => ?_⟩) h⟩
  obtain ⟨k2, r2, q2⟩ := new_tup r1 n rp
  exact q.2 _ _ (kp.trans k2) r2 q2
theorem snd_lst {es : List Expr} {ps : List Ex} {pos : Pos} (ha : PA X es (liftA (wpEs Γ ps))) : PE X (.List es pos) (liftE (wpE Γ (.lst ps))) := by
  refine PE.imp (pe_lst ha) fun σ H Q ⟨ρ, M, er, rm, h⟩ => ?_
  rw [wpE] at h
  refine ⟨ρ, M, er, rm, wpEs_mono Γ ps ρ M _ _ (fun ds M1 q vs H1 kp r1 rp => ⟨by rw [← rp.length]; exact q.1, fun p n => ?_⟩) h⟩
  obtain ⟨k2, r2, q2⟩ := new_lst r1 n rp
  exact q.2 _ _ (kp.trans k2) r2 q2
theorem snd_lstM {es : List Expr} {ps : List Ex} {pos : Pos} (ha : PA X es (liftA (wpEs Γ ps))) : PE X (.List es pos) (liftE (wpE Γ (.lstM ps))) := by
  refine PE.imp (pe_lst ha) fun σ H Q ⟨ρ, M, er, rm, h⟩ => ?_
  rw [wpE] at h
  refine ⟨ρ, M, er, rm, wpEs_mono Γ ps ρ M _ _ (fun ds M1 q vs H1 kp r1 rp => ⟨by rw [← rp.length]; exact q.1, fun p n => ?_⟩) h⟩
  exact q.2 p (r1.dom n) _ _ (kp.trans (Kp.laidM n)) (r1.laidL n rp) rref
theorem snd_dctM {t : Bool} {pos : Pos} : PE X (.Dict [] [] pos) (liftE (wpE Γ (.dctM t))) := by
  cases t with
  | false =>
    refine PE.imp pe_dnewK fun σ H Q ⟨ρ, M, er, rm, h⟩ p n => ?_
    rw [wpE] at h
    exact h p (rm.dom n) _ _ (Kp.laidM n) (rm.put (Kp.laidM n) ⟨[], upd_same, by rw [RepK]⟩) rref
  | true =>
    refine PE.imp pe_dnewT fun σ H Q ⟨ρ, M, er, rm, h⟩ p n => ?_
    rw [wpE] at h
    exact h p (rm.dom n) _ _ (Kp.laidM n) (rm.put (Kp.laidM n) ⟨[], upd_same, by rw [RepT]⟩) rref
theorem snd_sub {a b : Expr} {p q : Ex} {pos : Pos} (G : Std X N B sc top k Γ) (hs : notSlice b = true) (ha : PE X a (liftE (wpE Γ p))) (hb : PE X b (liftE (wpE Γ q))) : PE X (.Subscript a b pos) (liftE (wpE Γ (.sub p q))) := by
  have px : PlainIx b := fun o i => by cases b <;> first | rfl | cases hs
  refine PE.imp (pe_ix (sop_sub G.hu) ha hb px) fun σ H Q h => ?_
  refine lift2 (k := subD) ?_ fun _ _ _ _ _ m => subD_mono m
  obtain ⟨ρ, M, er, rm, h⟩ := h
  rw [wpE] at h
  exact ⟨ρ, M, er, rm, h⟩
theorem snd_oN : PO X none (liftO (wpO Γ none)) := by
  refine PO.imp po_none fun σ H Q ⟨ρ, M, er, rm, h⟩ => ?_
  rw [wpO] at h
  exact h H Kp.refl rm
theorem snd_oS {a : Expr} {p : Ex} (ha : PE X a (liftE (wpE Γ p))) : PO X (some a) (liftO (wpO Γ (some p))) := by
  refine PO.imp (po_some ha) fun σ H Q ⟨ρ, M, er, rm, h⟩ => ?_
  rw [wpO] at h
  refine ⟨ρ, M, er, rm, wpE_mono Γ p ρ M _ _ (fun d M1 ⟨i, e, q⟩ v H1 kp r1 rp => ?_) h⟩
  subst e
  rw [Rep] at rp
  exact ⟨i, rp, q H1 kp r1⟩
theorem snd_slc {a : Expr} {lo hi : Option Expr} {p : Ex} {l h : Option Ex} {pos p2 : Pos} (ha : PE X a (liftE (wpE Γ p))) (hl : PO X lo (liftO (wpO Γ l))) (hh : PO X hi (liftO (wpO Γ h))) : PE X (.Subscript a (.Slice lo hi none p2) pos) (liftE (wpE Γ (.slc p l h))) := by
  refine PE.imp (pe_slice sop_slc ha hl hh) fun σ H Q ⟨ρ, M, er, rm, q⟩ => ?_
  rw [wpE] at q
  refine ⟨ρ, M, er, rm, wpE_mono Γ p ρ M _ _ (fun d M1 q v H1 kp r1 rp => ?_) q⟩
  refine ⟨ρ, M1, er.mono kp, r1, wpO_mono Γ l ρ M1 _ _ (fun i M2 q H2 kp2 r2 => ?_) q⟩
  refine ⟨ρ, M2, er.mono (kp.trans kp2), r2, wpO_mono Γ h ρ M2 _ _ (fun j M3 q H3 kp3 r3 => ?_) q⟩
  exact ⟨M3, d, Rep.mono (kp2.trans kp3) _ _ rp, r3, slcD_mono (fun x M4 q v H4 k4 => q v H4 (((kp.trans kp2).trans kp3).trans k4)) q⟩
/-! arguments -/
theorem star_ok {e : Expr} {es : List Expr} {env : Env} (h : notStar e = true) : starEach (e :: es) env = (false, eval e env) :: starEach es env := by
  cases e <;> first | rfl | cases h
theorem snd_a0 : PA X [] (liftA (wpEs Γ [])) := by
  refine PA.imp pa_nil fun σ H Q ⟨ρ, M, er, rm, h⟩ => ?_
  rw [wpEs] at h
  exact h [] H Kp.refl rm .nil
theorem snd_aS {e : Expr} {es : List Expr} {p : Ex} {ps : List Ex} (hs : notStar e = true) (he : PE X e (liftE (wpE Γ p))) (hr : PA X es (liftA (wpEs Γ ps))) : PA X (e :: es) (liftA (wpEs Γ (p :: ps))) := by
  refine PA.imp (pa_cons he hr (star_ok hs)) fun σ H Q ⟨ρ, M, er, rm, h⟩ => ?_
  rw [wpEs] at h
  refine ⟨ρ, M, er, rm, wpE_mono Γ p ρ M _ _ (fun d M1 q v H1 kp r1 rp => ?_) h⟩
  refine ⟨ρ, M1, er.mono kp, r1, wpEs_mono Γ ps ρ M1 _ _ (fun ds M2 q vs H2 kp2 r2 rp2 => ?_) q⟩
  exact q _ _ (kp.trans kp2) r2 (.cons (Rep.mono kp2 _ _ rp) rp2)
/-- no star among them -/
def noStars : List Expr → Bool
  | [] => true
  | e :: es => notStar e && noStars es
theorem stars_any {pos : Pos} {env : Env} : ∀ {es : List Expr}, noStars es = true → (backTo pos (starEach es env)).any (·.1) = false
  | [], _ => rfl
  | e :: es, h => by
    rw [noStars, Bool.and_eq_true] at h
    rw [star_ok h.1]
    show (false || (backTo pos (starEach es env)).any (·.1)) = false
    rw [stars_any h.2]; rfl
theorem isName_ok {f : String} {e : Expr} (h : isNameOf f e = true) : ∃ p, e = .Name (Str.ofString f) p := by
  unfold isNameOf at h
  split at h
  · rw [beq_iff_eq] at h; subst h; exact ⟨_, rfl⟩
  · cases h
/-- a call by data -/
theorem liftC_of {n : String} {ps : List Ex} {σ : L2.St} {H : Hp} {Q : VK} (h : liftE (wpE Γ (.bi n ps)) σ H Q) : tCB (liftC (biD n)) (liftA (wpEs Γ ps)) σ H Q := by
  obtain ⟨ρ, M, er, rm, h⟩ := h
  rw [wpE] at h
  exact ⟨ρ, M, er, rm, wpEs_mono Γ ps ρ M _ _ (fun ds M1 q vs H1 kp r1 rp => ⟨M1, ds, rp, r1, biD_mono (fun x M2 q v H2 k2 => q v H2 (kp.trans k2)) q⟩) h⟩
theorem snd_fn {n : String} {e : Expr} {es : List Expr} {ps : List Ex} {p pos : Pos} (G : Std X N B sc top k Γ) (hb : B.contains n = true) (hg : globB sc (Str.ofString n) = true) (hv : bootBuiltins (Str.ofString n) = some (.builtin n)) (hc : CallR X (.builtin n) (liftC (biD n)))
    (hs : noStars (e :: es) = true) (hn : Str.ofString n ≠ "__name__") (hd : (Str.ofString n == ("__debug__" : Str)) = false) (ha : PA X (e :: es) (liftA (wpEs Γ ps))) : PE X (.Call (.Name (Str.ofString n) p) (e :: es) [] pos) (liftE (wpE Γ (.bi n ps))) := by
  rw [noStars, Bool.and_eq_true] at hs
  exact PE.imp (pe_callB hc (globB_ok G hg) (G.blt n (by simpa using hb)) hv ha hn hd (star_ok hs.1) (stars_any hs.2)) fun σ H Q h => liftC_of h
theorem snd_ty {n : String} {e : Expr} {es : List Expr} {ps : List Ex} {p pos : Pos} (G : Std X N B sc top k Γ) (hb : B.contains n = true) (hg : globB sc (Str.ofString n) = true) (hv : bootBuiltins (Str.ofString n) = some (.type n)) (hc : CallR X (.type n) (liftC (biD n)))
    (hs : noStars (e :: es) = true) (hn : Str.ofString n ≠ "__name__") (hd : (Str.ofString n == ("__debug__" : Str)) = false) (ha : PA X (e :: es) (liftA (wpEs Γ ps))) : PE X (.Call (.Name (Str.ofString n) p) (e :: es) [] pos) (liftE (wpE Γ (.bi n ps))) := by
  rw [noStars, Bool.and_eq_true] at hs
  exact PE.imp (pe_callTy hc (globB_ok G hg) (G.blt n (by simpa using hb)) hv ha hn hd (star_ok hs.1) (stars_any hs.2)) fun σ H Q h => liftC_of h
theorem snd_bi {n : String} {f e : Expr} {es : List Expr} {ps : List Ex} {pos : Pos} (G : Std X N B sc top k Γ) (hf : isNameOf n f = true) (hb : B.contains n = true) (hg : globB sc (nameStr f) = true) (hk : (fnNames.contains n || tyNames.contains n) = true) (hs : noStars (e :: es) = true)
    (ha : PA X (e :: es) (liftA (wpEs Γ ps))) : PE X (.Call f (e :: es) [] pos) (liftE (wpE Γ (.bi n ps))) := by
  obtain ⟨p, rfl⟩ := isName_ok hf
  have hg : globB sc (Str.ofString n) = true := hg
  have hk : n ∈ fnNames ∨ n ∈ tyNames := by simpa using hk
  rcases hk with hk | hk
  · simp only [fnNames, List.mem_cons, List.not_mem_nil, or_false] at hk
    rcases hk with rfl | rfl | rfl | rfl | rfl | rfl
    · exact snd_fn G hb hg (by decide +kernel) bi_len hs (by decide) (by decide) ha
    · exact snd_fn G hb hg (by decide +kernel) bi_abs hs (by decide) (by decide) ha
    · exact snd_fn G hb hg (by decide +kernel) (bi_min G.calm) hs (by decide) (by decide) ha
    · exact snd_fn G hb hg (by decide +kernel) (bi_max G.calm) hs (by decide) (by decide) ha
    · exact snd_fn G hb hg (by decide +kernel) (bi_sum G.calm) hs (by decide) (by decide) ha
    · exact snd_fn G hb hg (by decide +kernel) (bi_sorted G.hu) hs (by decide) (by decide) ha
  · simp only [tyNames, List.mem_cons, List.not_mem_nil, or_false] at hk
    rcases hk with rfl | rfl | rfl | rfl
    · exact snd_ty G hb hg (by decide +kernel) bi_int hs (by decide) (by decide) ha
    · exact snd_ty G hb hg (by decide +kernel) bi_str hs (by decide) (by decide) ha
    · exact snd_ty G hb hg (by decide +kernel) bi_tuple hs (by decide) (by decide) ha
    · exact snd_ty G hb hg (by decide +kernel) (bi_list G.calm) hs (by decide) (by decide) ha
theorem boot_tys {ty : String} (h : ["int", "str", "bool", "tuple", "list", "dict"].contains ty = true) : bootBuiltins (Str.ofString ty) = some (.type ty) ∧ Str.ofString ty ≠ "__name__" ∧ (Str.ofString ty == ("__debug__" : Str)) = false := by
  have h : ty ∈ ["int", "str", "bool", "tuple", "list", "dict"] := by simpa using h
  simp only [List.mem_cons, List.not_mem_nil, or_false] at h
  rcases h with rfl | rfl | rfl | rfl | rfl | rfl <;> exact ⟨by decide +kernel, by decide, by decide⟩
theorem snd_isi {ty : String} {f a y : Expr} {p : Ex} {pos : Pos} (G : Std X N B sc top k Γ) (hf : isNameOf "isinstance" f = true) (hb : B.contains "isinstance" = true) (hg : globB sc (nameStr f) = true) (hs : notStar a = true) (ha : PE X a (liftE (wpE Γ p)))
    (hy : isNameOf ty y = true) (hby : B.contains ty = true) (hgy : globB sc (nameStr y) = true) (hsy : notStar y = true) (ht : ["int", "str", "bool", "tuple", "list", "dict"].contains ty = true) : PE X (.Call f [a, y] [] pos) (liftE (wpE Γ (.isi p ty))) := by
  obtain ⟨q, rfl⟩ := isName_ok hf
  obtain ⟨q2, rfl⟩ := isName_ok hy
  obtain ⟨t1, t2, t3⟩ := boot_tys ht
  have pt : PE X (.Name (Str.ofString ty) q2) (tC (.ty ty)) := pe_bltn (globB_ok G hgy) (G.blt ty (by simpa using hby)) t1 rfl t2 t3
  refine PE.imp (pe_callB (sop_isi (ty := ty)) (globB_ok G hg) (G.blt "isinstance" (by simpa using hb)) (by decide +kernel) (pa_cons ha (pa_cons pt pa_nil (star_ok hsy)) (star_ok hs)) (by decide) (by decide) (star_ok hs) (stars_any (by rw [noStars, hsy]; rfl))) fun σ H Q ⟨ρ, M, er, rm, h⟩ => ?_
  rw [wpE] at h
  refine ⟨ρ, M, er, rm, wpE_mono Γ p ρ M _ _ (fun d M1 q v H1 kp r1 rp => ?_) h⟩
  exact ⟨v, M1, d, rfl, rp, r1, isiD_mono (fun b z => z _ _ kp r1 rbl) q⟩
theorem wpEs_len {Γ : Gam} : ∀ {es : List Ex} {ρ : Env'} {M : Mp} {Q : List D → Mp → Prop}, wpEs Γ es ρ M Q → wpEs Γ es ρ M fun ds M1 => ds.length = es.length ∧ Q ds M1
  | [], ρ, M, Q, h => by rw [wpEs] at h ⊢; exact ⟨rfl, h⟩
  | e :: es, ρ, M, Q, h => by
    rw [wpEs] at h ⊢
    refine wpE_mono Γ e ρ M _ _ (fun d M1 q => ?_) h
    exact wpEs_mono Γ es ρ M1 _ _ (fun ds M2 z => ⟨by simp [z.1], z.2⟩) (wpEs_len q)
/-- a call of a def of the text -/
theorem call_of {sp : CSp} {ps : List Ex} {σ : L2.St} {H : Hp} {Q : VK} {ρ : Env'} {M : Mp} (er : EnvR M H ρ σ) (rm : RelM M H) (h : wpEs Γ ps ρ M fun ds M1 => runC sp ds M1 (VKD M H Q)) :
    liftA (wpEs Γ ps) σ H fun vs H1 => spOf ps.length sp (vs ++ []) H1 Q E0 := by
  refine ⟨ρ, M, er, rm, wpEs_mono Γ ps ρ M _ _ (fun ds M1 q vs H1 kp r1 rp => ?_) (wpEs_len h)⟩
  show spOf ps.length sp (vs ++ []) H1 Q E0
  rw [List.append_nil]
  exact ⟨by rw [← rp.length]; exact q.1, M1, ds, rp, r1, q.2.mono fun d M2 z v H2 k2 => z v H2 (kp.trans k2)⟩
theorem snd_call {f : Str} {es : List Expr} {ps : List Ex} {p pos : Pos} (G : Std X N B sc top k Γ) (hg : globB sc f = true) (hn : nameOk f = true) (hs : noStars es = true) (hl : ps.length = es.length) (ha : PA X es (liftA (wpEs Γ ps))) : PE X (.Call (.Name f p) es [] pos) (liftE (wpE Γ (.call f ps))) := by
  obtain ⟨n1, n2⟩ := nameOk_ok hn
  refine ⟨fun pins s σ H Q I ⟨ρ, M, er, rm, h⟩ => ?_⟩
  rw [wpE] at h
  obtain ⟨sp, e, h⟩ := h
  obtain ⟨fa, fd, ns, F, hm, hk, hb⟩ := G.fn f _ sp e
  cases es with
  | nil =>
    have e0 : ps = [] := List.eq_nil_of_length_eq_zero hl
    subst e0
    rw [wpEs] at h
    exact (pe_call0 (p := p) (pos := pos) F G.room (globB_ok G hg) hm hk hb .nil pass0 n1).run pins s σ H Q I ⟨rfl, M, [], .nil, rm, h⟩
  | cons e es =>
    rw [noStars, Bool.and_eq_true] at hs
    exact (pe_call F G.room (globB_ok G hg) hm hk hb .nil pass0 ha n1 (star_ok hs.1) (stars_any hs.2)).run pins s σ H Q I (call_of er rm h)
/-! methods of built-in types -/
theorem base_ok {o : Expr} {m : Str} {env : Env} {w : Sem Value} (h : baseOk o = true) : attributeBase o m env w = w := by
  cases o with
  | Call f a kw pos =>
    cases a with
    | cons x y => first | rfl | (cases f <;> rfl)
    | nil =>
      cases kw with
      | cons x y => first | rfl | (cases f <;> rfl)
      | nil => cases h
  | _ => rfl
theorem few_ok {e : Expr} {es : List Expr} {pos : Pos} {env : Env} (hs : noStars (e :: es) = true) (hl : (e :: es).length < 20) :
    ((backTo pos (starEach (e :: es) env)).all (fun x => !x.1) && (backToKw pos (keywordEach [] env)).all (fun x => x.1.isSome) && decide ((e :: es).length + ([] : List Keyword).length + (if ([] : List Keyword).isEmpty then 0 else 1) < 30)) = true := by
  have h1 : (backTo pos (starEach (e :: es) env)).all (fun x => !x.1) = true := by
    have := stars_any (pos := pos) (env := env) hs
    rw [List.all_eq_true]
    intro x hx
    have := List.any_eq_false.mp this x hx
    simpa using this
  rw [h1]
  simp only [keywordEach, backToKw, List.map_nil, List.all_nil, Bool.true_and, List.length_nil, List.isEmpty_nil, if_true, decide_eq_true_eq]
  omega
theorem ty_list {T : String} {d : D} {x : V} {M : Mp} {H : Hp} (rm : RelM M H) (h : Rep M H d x) (t : isTyD T d M) : (T = "list" ∧ ∃ xs, look M d = .lst xs) ∨ (T = "dict" ∧ ∃ t kvs, look M d = .dct t kvs) ∨ (T = "str" ∧ ∃ y, look M d = .str y) := by
  unfold isTyD at t
  split at t
  · next hl => exact .inl ⟨t, _, hl⟩
  · next hl => exact .inr (.inl ⟨t, _, _, hl⟩)
  · next hl => exact .inr (.inr ⟨t, _, hl⟩)
  · exact t.elim
/-- a method by data -/
def liftM (id : String) : V → List V → Hp → VK → Prop := fun x xs H Q => ∃ M d ds, Rep M H d x ∧ Reps M H ds xs ∧ RelM M H ∧ mthD id d ds M fun d' M' => ∀ v H', Kp M H M' H' → RelM M' H' → Rep M' H' d' v → Q v H'
theorem mt_app : MtR X "list.append" (liftM "list.append") := by
  intro pins s σ H x xs v us Q I rx rs ⟨M, d, ds, hd, hds, rm, h⟩
  obtain ⟨a, ys, z, rfl, rfl, hm, hz, q⟩ : ∃ a ys z, d = .ref a ∧ ds = [z] ∧ M a = some (.lst ys) ∧ ys.length < sizeLine ∧ _ := h
  obtain ⟨w, rfl, hw⟩ := reps1 hds
  rw [Rep] at hd; subst hd
  obtain ⟨vs, h1, h2⟩ := rm a _ hm
  refine mt_append pins s σ H _ _ v us Q I rx rs ⟨a, vs, w, rfl, rfl, h1, by rw [← h2.length]; exact hz, ?_⟩
  exact q _ _ (Kp.wrote hm) (rm.wroteL hm (h2.append (.cons hw .nil))) rnon
theorem mt_ext : MtR X "list.extend" (liftM "list.extend") := by
  intro pins s σ H x xs v us Q I rx rs ⟨M, d, ds, hd, hds, rm, h⟩
  obtain ⟨a, ys, z, zs, rfl, rfl, hm, hl, hz, q⟩ : ∃ a ys z zs, d = .ref a ∧ ds = [z] ∧ M a = some (.lst ys) ∧ ownL M z = some zs ∧ ys.length + zs.length ≤ sizeLine ∧ _ := h
  obtain ⟨w, rfl, hw⟩ := reps1 hds
  rw [Rep] at hd; subst hd
  obtain ⟨vs, h1, h2⟩ := rm a _ hm
  obtain ⟨b, ws, rfl, h3, h4⟩ := own_lst rm hw hl
  have l1 := h2.length
  have l2 := h4.length
  obtain ⟨its2, n2, r2, z2, e2⟩ := lst_obj I h3
  cases rx
  obtain ⟨u, rfl, ru⟩ := rs.one
  cases ru
  obtain ⟨z, its, n, r, hl, e⟩ := I.lstM h1
  have l3 := r2.length
  have k1 : its.toArray.size + its2.toArray.size ≤ sizeLine := by simp only [List.size_toArray]; omega
  have k2 : ¬ (!its.toArray.isEmpty && Builtin.List.listTooLong (its.toArray.size + its2.toArray.size)) = true := by
    rw [notLongL k1, Bool.and_false]; decide
  refine call_meets PySem.F.slot_list_extend ⟨_, e, rfl⟩ PySem.F.entry_list_extend (PySem.F.args_list_extend_2 _ _) (AutoSeq1.list_extend_list_list_0 a its.toArray n b its2.toArray n2 k2 (by simp only [List.size_toArray]; omega) (by omega)) ⟨e, e2, ?_⟩
  exact ⟨.non, _, I.lset (its' := its ++ its2) h1 e (by simp) (r.append r2) (by rw [List.length_append]; omega), rfl, q _ _ (Kp.wrote hm) (rm.wroteL hm (h2.append h4)) rnon⟩
end
end Vc
/-! Methods, and/or, targets, what is walked, comprehensions. -/
namespace Vc
open PySem PySem.Spec PyProof.Rows L2
variable [KF]
section
variable {X : Cx} [XK X] {N : List Str} {B : List String} {sc : Scope} {top : Bool} {k : Nat} {Γ : Gam}
theorem mt_idx (hu : X.A.units + 65 < cLine) : MtR X "list.index" (liftM "list.index") := by
  intro pins s σ H x xs v us Q I rx rs ⟨M, d, ds, hd, hds, rm, h⟩
  obtain ⟨zs, qs, y, p, j, z, rfl, hl, hq, hp, s1, s2, hj, he, hm, q⟩ : ∃ zs qs y p j z, ds = [y] ∧ look M d = .lst zs ∧ pys zs = some qs ∧ y.py = some p ∧ SeqAt.shaped (.list qs) = true ∧ SeqAt.shaped p = true ∧ qs[j]? = some z ∧ PyData.eqv z p = true ∧ (∀ m z', m < j → qs[m]? = some z' → PyData.eqv z' p = false) ∧ _ := h
  obtain ⟨w, rfl, hw⟩ := reps1 hds
  have hpy : (look M d).py = some (.list qs) := by rw [hl, D.py, hq]
  obtain ⟨a, vs, rfl, _, _⟩ := look_lstX (X := X) rm hd hl
  exact mt_indexD hu pins s σ H _ _ v us Q I rx rs ⟨a, w, p, qs, j, z, rfl, rfl, look_dpX (X := X) rm hd hpy, rep_dpX (X := X) hw hp, s1, s2, hj, he, hm, q _ _ Kp.refl rm rint⟩
/-- lists' methods -/
theorem snd_lm {m : String} {o e : Expr} {es : List Expr} {p : Ex} {ps : List Ex} {apos cpos : Pos} (slot : Slot "list" (Str.ofString m) ("list" ++ "." ++ m)) (hty : typeOf (.builtin ("list" ++ "." ++ m)) = pure (.type "method_descriptor")) (hm : MtR X ("list" ++ "." ++ m) (liftM ("list" ++ "." ++ m)))
    (ho : PE X o (liftE (wpE Γ p))) (hb : baseOk o = true) (hl : (apos.endLine == cpos.line) = true) (hs : noStars (e :: es) = true) (hn : (e :: es).length < 20) (ha : PA X (e :: es) (liftA (wpEs Γ ps))) :
    PE X (.Call (.Attribute o (Str.ofString m) apos) (e :: es) [] cpos) (liftE (wpE Γ (.mth "list" m p ps))) := by
  have hs' := hs
  rw [noStars, Bool.and_eq_true] at hs'
  refine PE.imp (pe_bm PySem.F.plainAttrs_list slot hty hm ho ha (base_ok hb) (few_ok hs hn) hl (star_ok hs'.1) (stars_any hs'.2)) fun σ H Q ⟨ρ, M, er, rm, h⟩ => ?_
  rw [wpE] at h
  refine ⟨ρ, M, er, rm, wpE_mono Γ p ρ M _ _ (fun d M1 ⟨t, q⟩ v H1 kp r1 rp => ?_) h⟩
  rcases ty_list r1 rp t with ⟨_, xs, hl⟩ | ⟨z, _⟩ | ⟨z, _⟩
  · obtain ⟨a, vs, rfl, h3, h4⟩ := look_lstX (X := X) r1 rp hl
    refine ⟨.inl ⟨rfl, vs, h3⟩, ρ, M1, er.mono kp, r1, wpEs_mono Γ ps ρ M1 _ _ (fun ds M2 q vs H2 kp2 r2 rp2 => ?_) q⟩
    exact ⟨M2, d, ds, Rep.mono kp2 _ _ rp, rp2, r2, mthD_mono (fun x M3 q v H3 k3 => q v H3 ((kp.trans kp2).trans k3)) q⟩
  · exact absurd z (by decide)
  · exact absurd z (by decide)
theorem isD_of {t : Bool} {kvs : List (D × D)} {d : D} {x : V} {M : Mp} {H : Hp} (rm : RelM M H) (h : Rep M H d x) (e : look M d = .dct t kvs) : ∃ a, x = .ref a ∧ IsD H a := by
  obtain ⟨a, rfl, h1⟩ := look_dct rm h e
  rcases h1 with ⟨rfl, l, h1, _⟩ | ⟨rfl, l, h1, _⟩
  · exact ⟨a, rfl, .inl ⟨l, h1⟩⟩
  · exact ⟨a, rfl, .inr ⟨l, h1⟩⟩
theorem wpEs1 {p : Ex} {ρ : Env'} {M : Mp} {Q : List D → Mp → Prop} (h : wpEs Γ [p] ρ M Q) : wpE Γ p ρ M fun d M1 => Q [d] M1 := by
  rw [wpEs] at h
  exact wpE_mono Γ p ρ M _ _ (fun d M1 q => by rw [wpEs] at q; exact q) h
theorem wpEs2 {p r : Ex} {ρ : Env'} {M : Mp} {Q : List D → Mp → Prop} (h : wpEs Γ [p, r] ρ M Q) : wpE Γ p ρ M fun d M1 => wpE Γ r ρ M1 fun e M2 => Q [d, e] M2 := by
  rw [wpEs] at h
  exact wpE_mono Γ p ρ M _ _ (fun d M1 q => wpEs1 q) h
theorem dct_look {T : String} {d : D} {x : V} {M : Mp} {H : Hp} (rm : RelM M H) (h : Rep M H d x) (hT : T = "dict") (t : isTyD T d M) : ∃ t kvs, look M d = .dct t kvs := by
  rcases ty_list rm h t with ⟨z, _⟩ | ⟨_, t, kvs, e⟩ | ⟨z, _⟩
  · exact absurd (hT.symm.trans z) (by decide)
  · exact ⟨t, kvs, e⟩
  · exact absurd (hT.symm.trans z) (by decide)
theorem snd_dg1 {o e : Expr} {p r : Ex} {apos cpos : Pos} (G : Std X N B sc top k Γ) (ho : PE X o (liftE (wpE Γ p))) (he : PE X e (liftE (wpE Γ r))) (hb : baseOk o = true) (hl : (apos.endLine == cpos.line) = true) (hs : notStar e = true) :
    PE X (.Call (.Attribute o "get" apos) [e] [] cpos) (liftE (wpE Γ (.mth "dict" "get" p [r]))) := by
  have hs1 : noStars [e] = true := by rw [noStars, hs]; rfl
  refine PE.imp (pe_dget1 (by have := G.hu; omega) ho he ⟨base_ok hb, few_ok hs1 (by show 1 < 20; decide), hl, by rw [star_ok hs]; rfl⟩) fun σ H Q ⟨ρ, M, er, rm, h⟩ => ?_
  rw [wpE] at h
  refine ⟨ρ, M, er, rm, wpE_mono Γ p ρ M _ _ (fun d M1 ⟨t, q⟩ v H1 kp r1 rp => ?_) h⟩
  obtain ⟨t0, kv0, hlk⟩ := dct_look r1 rp rfl t
  obtain ⟨a, rfl, hd⟩ := isD_of r1 rp hlk
  refine ⟨a, rfl, hd, ρ, M1, er.mono kp, r1, wpE_mono Γ r ρ M1 _ _ (fun y M2 q w H2 kp2 r2 rp2 => ?_) (wpEs1 q)⟩
  obtain ⟨t, kvs, hlk, q⟩ : ∃ t kvs, look M2 d = .dct t kvs ∧ _ := q
  obtain ⟨a', ov, ea, dg, z⟩ := dget_of r2 (Rep.mono kp2 _ _ rp) rp2 hlk (by
    rcases q with ⟨k, e, ok, _⟩ | ⟨k, d', e, _⟩
    · cases e; exact ok
    · cases e)
  cases ea
  refine ⟨ov, dg, ?_⟩
  rcases q with ⟨k, e, ok, q⟩ | ⟨k, d', e, _⟩
  · cases e
    revert z q
    cases getK t kvs y with
    | some c => exact fun ⟨u, e, rp3⟩ q => by subst e; exact q _ _ (kp.trans kp2) r2 rp3
    | none => exact fun e q => by cases (show ov = none from e); exact q _ _ (kp.trans kp2) r2 rnon
  · cases e
theorem snd_dg2 {o e f : Expr} {p r s : Ex} {apos cpos : Pos} (G : Std X N B sc top k Γ) (ho : PE X o (liftE (wpE Γ p))) (he : PE X e (liftE (wpE Γ r))) (hf : PE X f (liftE (wpE Γ s))) (hb : baseOk o = true) (hl : (apos.endLine == cpos.line) = true) (hs : notStar e = true) (hs2 : notStar f = true) :
    PE X (.Call (.Attribute o "get" apos) [e, f] [] cpos) (liftE (wpE Γ (.mth "dict" "get" p [r, s]))) := by
  have hs1 : noStars [e, f] = true := by rw [noStars, noStars, hs, hs2]; rfl
  refine PE.imp (pe_dget2 (by have := G.hu; omega) ho he hf ⟨base_ok hb, few_ok hs1 (by show 2 < 20; decide), hl, by rw [star_ok hs, star_ok hs2]; rfl⟩) fun σ H Q ⟨ρ, M, er, rm, h⟩ => ?_
  rw [wpE] at h
  refine ⟨ρ, M, er, rm, wpE_mono Γ p ρ M _ _ (fun d M1 ⟨t, q⟩ v H1 kp r1 rp => ?_) h⟩
  obtain ⟨t0, kv0, hlk⟩ := dct_look r1 rp rfl t
  obtain ⟨a, rfl, hd⟩ := isD_of r1 rp hlk
  refine ⟨a, rfl, hd, ρ, M1, er.mono kp, r1, wpE_mono Γ r ρ M1 _ _ (fun y M2 q w H2 kp2 r2 rp2 => ?_) (wpEs2 q)⟩
  refine ⟨ρ, M2, er.mono (kp.trans kp2), r2, wpE_mono Γ s ρ M2 _ _ (fun z M3 q w3 H3 kp3 r3 rp3 => ?_) q⟩
  obtain ⟨t, kvs, hlk, q⟩ : ∃ t kvs, look M3 d = .dct t kvs ∧ _ := q
  obtain ⟨a', ov, ea, dg, zz⟩ := dget_of r3 (Rep.mono (kp2.trans kp3) _ _ rp) (Rep.mono kp3 _ _ rp2) hlk (by
    rcases q with ⟨k, e, _⟩ | ⟨k, d', e, ok, _⟩
    · cases e
    · cases e; exact ok)
  cases ea
  refine ⟨ov, dg, ?_⟩
  rcases q with ⟨k, e, _⟩ | ⟨k, d', e, ok, q⟩
  · cases e
  · cases e
    revert zz q
    cases getK t kvs y with
    | some c => exact fun ⟨u, e, rp4⟩ q => by subst e; exact q _ _ ((kp.trans kp2).trans kp3) r3 rp4
    | none => exact fun e q => by cases (show ov = none from e); exact q _ _ ((kp.trans kp2).trans kp3) r3 rp3
/-! and, or -/
def PEs (X : Cx) (Γ : Gam) : List Expr → List Ex → Prop
  | [], [] => True
  | e :: es, p :: ps => PE X e (liftE (wpE Γ p)) ∧ PEs X Γ es ps
  | _, _ => False
def PTx (X : Cx) (Γ : Gam) : List Expr → List Tx → Prop
  | [], [] => True
  | e :: es, p :: ps => PT X e (liftT (wpT Γ p)) ∧ PTx X Γ es ps
  | _, _ => False
theorem PEs.pa : ∀ {es : List Expr} {ps : List Ex}, noStars es = true → PEs X Γ es ps → PA X es (liftA (wpEs Γ ps))
  | [], [], _, _ => snd_a0
  | e :: es, p :: ps, hs, h => by
    rw [noStars, Bool.and_eq_true] at hs
    exact snd_aS hs.1 h.1 (PEs.pa hs.2 h.2)
  | [], _ :: _, _, h => h.elim
  | _ :: _, [], _, h => h.elim
theorem PEs.len : ∀ {es : List Expr} {ps : List Ex}, PEs X Γ es ps → ps.length = es.length
  | [], [], _ => rfl
  | e :: es, p :: ps, h => congrArg (· + 1) (PEs.len h.2)
  | [], _ :: _, h => h.elim
  | _ :: _, [], h => h.elim
theorem rbl_of {M : Mp} {H : Hp} {c : Bool} {v : V} (h : Rep M H (.bl c) v) : v = .bl c := by rw [Rep] at h; exact h
theorem snd_andV {pos : Pos} : ∀ {es : List Expr} {ps : List Ex}, es ≠ [] → PEs X Γ es ps → PE X (.BoolOp .And es pos) (liftE (wpAnd Γ ps))
  | [], _, n, _ => absurd rfl n
  | _ :: _, [], _, h => h.elim
  | [e], [p], _, h => by
    refine PE.imp (pe_one h.1) fun σ H Q ⟨ρ, M, er, rm, q⟩ => ?_
    rw [wpAnd] at q
    exact ⟨ρ, M, er, rm, q⟩
  | [_], _ :: _ :: _, _, h => h.2.elim
  | _ :: _ :: _, [_], _, h => h.2.elim
  | e :: f :: es, p :: r :: ps, _, h => by
    refine PE.imp (pe_and h.1 (snd_andV (by simp) h.2)) fun σ H Q ⟨ρ, M, er, rm, q⟩ => ?_
    rw [wpAnd] at q
    refine ⟨ρ, M, er, rm, wpE_mono Γ p ρ M _ _ (fun d M1 ⟨c, e, q⟩ v H1 kp r1 rp => ?_) q⟩
    subst e
    refine ⟨c, rbl_of rp, ?_⟩
    cases c with
    | true =>
      rw [if_pos rfl] at q ⊢
      exact ⟨ρ, M1, er.mono kp, r1, wpAnd_mono Γ _ ρ M1 _ _ (fun d M2 z v H2 k2 => z v H2 (kp.trans k2)) q⟩
    | false =>
      rw [if_neg (by decide)] at q ⊢
      exact q _ _ kp r1 rbl
theorem snd_orV {pos : Pos} : ∀ {es : List Expr} {ps : List Ex}, es ≠ [] → PEs X Γ es ps → PE X (.BoolOp .Or es pos) (liftE (wpOr Γ ps))
  | [], _, n, _ => absurd rfl n
  | _ :: _, [], _, h => h.elim
  | [e], [p], _, h => by
    refine PE.imp (pe_one h.1) fun σ H Q ⟨ρ, M, er, rm, q⟩ => ?_
    rw [wpOr] at q
    exact ⟨ρ, M, er, rm, q⟩
  | [_], _ :: _ :: _, _, h => h.2.elim
  | _ :: _ :: _, [_], _, h => h.2.elim
  | e :: f :: es, p :: r :: ps, _, h => by
    refine PE.imp (pe_or h.1 (snd_orV (by simp) h.2)) fun σ H Q ⟨ρ, M, er, rm, q⟩ => ?_
    rw [wpOr] at q
    refine ⟨ρ, M, er, rm, wpE_mono Γ p ρ M _ _ (fun d M1 ⟨c, e, q⟩ v H1 kp r1 rp => ?_) q⟩
    subst e
    refine ⟨c, rbl_of rp, ?_⟩
    cases c with
    | true =>
      rw [if_pos rfl] at q ⊢
      exact q _ _ kp r1 rbl
    | false =>
      rw [if_neg (by decide)] at q ⊢
      exact ⟨ρ, M1, er.mono kp, r1, wpOr_mono Γ _ ρ M1 _ _ (fun d M2 z v H2 k2 => z v H2 (kp.trans k2)) q⟩
theorem snd_andT {pos : Pos} : ∀ {es : List Expr} {ps : List Tx}, es ≠ [] → PTx X Γ es ps → PW X (.BoolOp .And es pos) (liftT (wpTAnd Γ ps))
  | [], _, n, _ => absurd rfl n
  | _ :: _, [], _, h => h.elim
  | [e], [p], _, h => by
    refine PW.imp (pw_and1 h.1) fun σ H Q ⟨ρ, M, er, rm, q⟩ => ?_
    rw [wpTAnd] at q
    exact ⟨ρ, M, er, rm, q⟩
  | [_], _ :: _ :: _, _, h => h.2.elim
  | _ :: _ :: _, [_], _, h => h.2.elim
  | e :: f :: es, p :: r :: ps, _, h => by
    refine PW.imp (pw_and h.1 (snd_andT (by simp) h.2)) fun σ H Q ⟨ρ, M, er, rm, q⟩ => ?_
    rw [wpTAnd] at q
    refine ⟨ρ, M, er, rm, wpT_mono Γ p ρ M _ _ (fun c M1 q H1 kp r1 => ?_) q⟩
    cases c with
    | true =>
      rw [if_pos rfl] at q ⊢
      exact ⟨ρ, M1, er.mono kp, r1, wpTAnd_mono Γ _ ρ M1 _ _ (fun d M2 z H2 k2 => z H2 (kp.trans k2)) q⟩
    | false =>
      rw [if_neg (by decide)] at q ⊢
      exact q _ kp r1
theorem snd_orT {pos : Pos} : ∀ {es : List Expr} {ps : List Tx}, es ≠ [] → PTx X Γ es ps → PW X (.BoolOp .Or es pos) (liftT (wpTOr Γ ps))
  | [], _, n, _ => absurd rfl n
  | _ :: _, [], _, h => h.elim
  | [e], [p], _, h => by
    refine PW.imp (pw_or1 h.1) fun σ H Q ⟨ρ, M, er, rm, q⟩ => ?_
    rw [wpTOr] at q
    exact ⟨ρ, M, er, rm, q⟩
  | [_], _ :: _ :: _, _, h => h.2.elim
  | _ :: _ :: _, [_], _, h => h.2.elim
  | e :: f :: es, p :: r :: ps, _, h => by
    refine PW.imp (pw_or h.1 (snd_orT (by simp) h.2)) fun σ H Q ⟨ρ, M, er, rm, q⟩ => ?_
    rw [wpTOr] at q
    refine ⟨ρ, M, er, rm, wpT_mono Γ p ρ M _ _ (fun c M1 q H1 kp r1 => ?_) q⟩
    cases c with
    | true =>
      rw [if_pos rfl] at q ⊢
      exact q _ kp r1
    | false =>
      rw [if_neg (by decide)] at q ⊢
      exact ⟨ρ, M1, er.mono kp, r1, wpTOr_mono Γ _ ρ M1 _ _ (fun d M2 z H2 k2 => z H2 (kp.trans k2)) q⟩
/-! targets -/
theorem locB_ok {x : Str} (G : Std X N B sc top k Γ) (h : locB sc top x = true) : Loc X.env.scope x ∧ (X.fn x = true ∨ X.env.scope.names.lookup x = some .local) := by
  rw [G.scope]
  unfold locB at h
  split at h
  · next e => exact ⟨.inl e, .inr e⟩
  · next e => exact ⟨.inr e, .inl (G.fnc h x)⟩
  · cases h
theorem off_set {ns : List Nat} {σ : L2.St} {i : Nat} {v : Option V} (h : i ∈ ns) : Off ns σ (σ.set i v) := ⟨List.length_set, fun j hj => List.getElem?_set_ne (fun z => hj (by subst z; exact h))⟩
theorem snd_gn {i : Nat} {x : Str} {pos : Pos} (G : Std X N B sc top k Γ) (hN : N[i]? = some x) (hl : locB sc top x = true) : PG X (.Name x pos) (liftG (tgNs (.n i)) (wpG (.n i))) := by
  obtain ⟨h1, h2⟩ := locB_ok G hl
  refine PG.imp (pg_name (i := i) (by rw [G.hN]; exact G.nd) (by rw [G.hN]; exact hN) h1 h2) fun v σ H Q ⟨d, ρ, M, rp, er, rm, q⟩ => ?_
  rw [wpG] at q
  exact q _ (er.set rp) (off_set (by simp [tgNs]))
theorem snd_gs0 : PGs X [] (liftGs (tgsNs []) (wpGs [])) := by
  refine PGs.imp pgs_nil fun vs σ H Q ⟨ds, ρ, M, rp, er, rm, q⟩ => ?_
  cases ds with
  | nil => rw [wpGs] at q; rw [Reps] at rp; exact ⟨rp, q _ er .refl⟩
  | cons d ds => simp [wpGs] at q
theorem asg_ok {e : Expr} {es : List Expr} {env : Env} (h : notStar e = true) : (assignEach (e :: es) env).map (·.2) = assign e env :: (assignEach es env).map (·.2) := by
  cases e <;> first | rfl | cases h
theorem snd_gsS {e : Expr} {es : List Expr} {t : Tg} {ts : List Tg} (hs : notStar e = true) (h1 : PG X e (liftG (tgNs t) (wpG t))) (h2 : PGs X es (liftGs (tgsNs ts) (wpGs ts))) : PGs X (e :: es) (liftGs (tgsNs (t :: ts)) (wpGs (t :: ts))) := by
  refine PGs.imp (pgs_cons h1 h2 (asg_ok hs)) fun vs σ H Q ⟨ds, ρ, M, rp, er, rm, q⟩ => ?_
  cases ds with
  | nil => simp [wpGs] at q
  | cons d ds =>
    rw [wpGs] at q
    rw [Reps] at rp
    obtain ⟨v, r, rfl, rp1, rp2⟩ := rp
    refine ⟨v, r, rfl, d, ρ, M, rp1, er, rm, wpG_mono t d ρ M _ _ (fun ρ1 q σ1 er1 o1 => ?_) q⟩
    refine ⟨ds, ρ1, M, rp2, er1, rm, wpGs_mono ts ds ρ1 M _ _ (fun ρ2 q σ2 er2 o2 => ?_) q⟩
    exact q σ2 er2 (o1.trans o2)
def asgStars (es : List Expr) (env : Env) : Prop := (assignEach es env).findIdx? (·.1) = none
theorem asg_no {env : Env} : ∀ {es : List Expr}, noStars es = true → (assignEach es env).length = es.length ∧ ∀ x ∈ assignEach es env, x.1 = false
  | [], _ => ⟨rfl, fun x h => nomatch h⟩
  | e :: es, h => by
    rw [noStars, Bool.and_eq_true] at h
    obtain ⟨h1, h2⟩ := asg_no h.2 (env := env)
    have e1 : assignEach (e :: es) env = (false, assign e env) :: assignEach es env := by
      cases e <;> first | rfl | (exact absurd h.1 (by intro z; cases z))
    rw [e1]
    refine ⟨by simp [h1], fun x hx => ?_⟩
    rcases List.mem_cons.mp hx with rfl | hx
    · rfl
    · exact h2 x hx
theorem asg_find {es : List Expr} {env : Env} (h : noStars es = true) : (assignEach es env).findIdx? (·.1) = none := by
  rw [List.findIdx?_eq_none_iff]
  exact fun x hx => by rw [(asg_no h).2 x hx]
theorem snd_gt {es : List Expr} {ts : List Tg} {j : Nat} {pos : Pos} (G : Std X N B sc top k Γ) (hs : noStars es = true) (hl : ts.length = es.length) (h : PGs X es (liftGs (tgsNs ts) (wpGs ts))) : PG X (.Tuple es j pos) (liftG (tgNs (.t ts)) (wpG (.t ts))) := by
  refine PG.imp (pg_tup (n := es.length) G.calm h (asg_no hs).1 (asg_find hs)) fun v σ H Q ⟨d, ρ, M, rp, er, rm, q⟩ => ?_
  cases d with
  | tup xs =>
    rw [wpG] at q
    obtain ⟨a, vs, rfl, h1, h2⟩ := rp.tup_at
    rw [← XK.e (X := X)] at h1
    exact ⟨a, vs, rfl, h1, by rw [← h2.length, ← hl, q.1], xs, ρ, M, h2, er, rm, wpGs_mono ts xs ρ M _ _ (fun ρ1 q => q) q.2⟩
  | ktp xs =>
    rw [wpG] at q
    obtain ⟨a, vs, rfl, h1, h2⟩ := rp.ktp_at
    rw [← XK.e (X := X)] at h1
    exact ⟨a, vs, rfl, h1, by rw [← h2.length, ← hl, q.1], xs, ρ, M, h2, er, rm, wpGs_mono ts xs ρ M _ _ (fun ρ1 q => q) q.2⟩
  | _ => simp [wpG] at q
mutual
theorem sndG (X : Cx) [XK X] (G : Std X N B sc top k Γ) : ∀ (t : Tg) (e : Expr), chkG N sc top t e = true → PG X e (liftG (tgNs t) (wpG t))
  | .n i, e, h => by
    unfold chkG at h
    split at h
    · simp only [Bool.and_eq_true, decide_eq_true_eq] at h
      exact snd_gn G h.1 h.2
    · cases h
  | .t l, e, h => by
    unfold chkG at h
    split at h
    · obtain ⟨h1, h2, h3⟩ := sndGs X G l _ h
      exact snd_gt G h2 h3 h1
    · cases h
theorem sndGs (X : Cx) [XK X] (G : Std X N B sc top k Γ) : ∀ (ts : List Tg) (es : List Expr), chkGs N sc top ts es = true → PGs X es (liftGs (tgsNs ts) (wpGs ts)) ∧ noStars es = true ∧ ts.length = es.length
  | [], es, h => by
    rw [chkGs, List.isEmpty_iff] at h
    subst h
    exact ⟨snd_gs0, rfl, rfl⟩
  | t :: ts, es, h => by
    unfold chkGs at h
    split at h
    · simp only [Bool.and_eq_true] at h
      obtain ⟨h1, h2, h3⟩ := sndGs X G ts _ h.2
      refine ⟨snd_gsS h.1.1 (sndG X G t _ h.1.2) h1, ?_, congrArg (· + 1) h3⟩
      rw [noStars, h.1.1, h2]; rfl
    · cases h
end
/-! what is walked -/
theorem rel_notup {M : Mp} {H : Hp} {a : Addr} {vs : List V} (rm : RelM M H) (h : H a = some (.tup vs)) : M a = none := by
  cases e : M a with
  | none => rfl
  | some o =>
    have q := rm a o e
    match o, q with
    | .lst xs, ⟨_, q, _⟩ => rw [h] at q; cases q
    | .dct false _, ⟨_, q, _⟩ => rw [h] at q; cases q
    | .dct true _, ⟨_, q, _⟩ => rw [h] at q; cases q
    | .ins _ _, q => exact q.elim
theorem Kp.locked {M : Mp} {H : Hp} {a : Addr} {u : HO} {od : Obj} (h : H a = some u) (n : M a = none) (d : isDct u) : Kp M H M (upd H a (.frz od u)) := fun b x e m => by
  by_cases q : b = a
  · subst q; rw [h] at e; cases e
    exact ⟨.inr ⟨d, od, upd_same⟩, m⟩
  · exact ⟨.inl (by rw [upd_ne q]; exact e), m⟩
theorem RelM.locked {M : Mp} {H : Hp} {a : Addr} {u : HO} {od : Obj} (r : RelM M H) (h : H a = some u) (n : M a = none) (d : isDct u) : RelM M (upd H a (.frz od u)) := fun b o e =>
  (r b o e).mono (Kp.locked h n d) fun x hx => by
    have q : b ≠ a := fun z => by subst z; rw [n] at e; cases e
    rw [upd_ne q]; exact hx
theorem repK_get {M : Mp} {H : Hp} : ∀ {kvs : List (D × D)} {l : List (Key × V)} {i : Nat} {d : D}, RepK M H kvs l → (keysOf kvs)[i]? = some d → ∃ k v, l[i]? = some (k, v) ∧ keyD d = some k
  | [], _, _, _, _, e => by simp [keysOf] at e
  | (k, c) :: r, l, 0, d, h, e => by
    rw [RepK] at h
    obtain ⟨q, v, t, rfl, h1, _, _⟩ := h
    simp only [keysOf, List.map_cons, List.getElem?_cons_zero, Option.some.injEq] at e
    subst e
    exact ⟨q, v, rfl, h1⟩
  | (k, c) :: r, l, i + 1, d, h, e => by
    rw [RepK] at h
    obtain ⟨q, v, t, rfl, _, _, h2⟩ := h
    obtain ⟨k', v', e1, e2⟩ := repK_get (i := i) (d := d) h2 (by simpa [keysOf] using e)
    exact ⟨k', v', by simpa using e1, e2⟩
theorem repT_get {M : Mp} {H : Hp} : ∀ {kvs : List (D × D)} {l : List (List Key × V)} {i : Nat} {d : D}, RepT M H kvs l → (keysOf kvs)[i]? = some d → ∃ k v, l[i]? = some (k, v) ∧ tkeyD d = some k
  | [], _, _, _, _, e => by simp [keysOf] at e
  | (k, c) :: r, l, 0, d, h, e => by
    rw [RepT] at h
    obtain ⟨q, v, t, rfl, h1, _, _⟩ := h
    simp only [keysOf, List.map_cons, List.getElem?_cons_zero, Option.some.injEq] at e
    subst e
    exact ⟨q, v, rfl, h1⟩
  | (k, c) :: r, l, i + 1, d, h, e => by
    rw [RepT] at h
    obtain ⟨q, v, t, rfl, _, _, h2⟩ := h
    obtain ⟨k', v', e1, e2⟩ := repT_get (i := i) (d := d) h2 (by simpa [keysOf] using e)
    exact ⟨k', v', by simpa using e1, e2⟩
theorem keyD_to {M : Mp} {H : Hp} {d : D} {k : Key} (e : keyD d = some k) : Rep M H d (kV k) := by
  unfold keyD at e
  split at e
  · cases e; exact rint
  · cases e; exact rstr
  · cases e
theorem tkeyD_to {M : Mp} {H : Hp} {d : D} {k : List Key} {b : Addr} (rm : RelM M H) (e : tkeyD d = some k) (h : H b = some (.tup (k.map kV))) : Rep M H d (.ref b) := by
  unfold tkeyD at e
  split at e
  · rw [Rep]; exact ⟨b, _, rfl, rel_notup rm h, h, keysD_reps e⟩
  · cases e
theorem Yields.list {K : PySem.W.Frag} {a : Addr} {vs : List V} {xs : List D} {M : Mp} {H : Hp} (n : M a = none) (h : Rd H a (.lst vs)) (r : Reps M H xs vs) : Yields K (Itl K a) xs (fun _ => True) M H where
  stop M1 H1 k r1 _ := ⟨vs, .inl (k.rd n h).1, Nat.le_of_eq r.length.symm⟩
  go i d M1 H1 e k r1 _ := by
    obtain ⟨v, e1, rp⟩ := (Reps.mono k _ _ r).get e
    have q : SqL K H1 a vs := .inl (k.rd n h).1
    refine ⟨⟨vs, v, q, e1⟩, fun x H2 ⟨e2, z⟩ => ?_⟩
    subst e2
    have := z vs q
    rw [e1] at this; cases this
    exact ⟨.refl, r1, rp⟩
theorem Yields.listM {K : PySem.W.Frag} {a : Addr} {xs : List D} {M : Mp} {H : Hp} : Yields K (Itl K a) xs (fun M => M a = some (.lst xs)) M H where
  stop M1 H1 k r1 m := by
    obtain ⟨vs, h, r⟩ := r1.list m
    exact ⟨vs, .inl (.inl h), Nat.le_of_eq r.length.symm⟩
  go i d M1 H1 e k r1 m := by
    obtain ⟨vs, h, r⟩ := r1.list m
    obtain ⟨v, e1, rp⟩ := r.get e
    have q : SqL K H1 a vs := .inl (.inl h)
    refine ⟨⟨vs, v, q, e1⟩, fun x H2 ⟨e2, z⟩ => ?_⟩
    subst e2
    have := z vs q
    rw [e1] at this; cases this
    exact ⟨.refl, r1, rp⟩
theorem Yields.tuple {K : PySem.W.Frag} {a : Addr} {vs : List V} {xs : List D} {M : Mp} {H : Hp} (n : M a = none) (h : H a = some (.tup vs)) (r : Reps M H xs vs) : Yields K (Itt K a) xs (fun _ => True) M H where
  stop M1 H1 k r1 _ := ⟨vs, .inl (.inl (k.tup h n).1), Nat.le_of_eq r.length.symm⟩
  go i d M1 H1 e k r1 _ := by
    obtain ⟨v, e1, rp⟩ := (Reps.mono k _ _ r).get e
    have q : SqT K H1 a vs := .inl (.inl (k.tup h n).1)
    refine ⟨⟨vs, v, q, e1⟩, fun x H2 ⟨e2, z⟩ => ?_⟩
    subst e2
    have := z vs q
    rw [e1] at this; cases this
    exact ⟨.refl, r1, rp⟩
theorem Yields.ktp {a : Addr} {vs : List V} {xs : List D} {M : Mp} {H : Hp} (h : KT a vs) (r : Reps M H xs vs) : Yields X.K (Itt X.K a) xs (fun _ => True) M H where
  stop M1 H1 k r1 _ := ⟨vs, by rw [XK.e (X := X)]; exact h.seq, Nat.le_of_eq r.length.symm⟩
  go i d M1 H1 e k r1 _ := by
    obtain ⟨v, e1, rp⟩ := (Reps.mono k _ _ r).get e
    have q : SqT X.K H1 a vs := by rw [XK.e (X := X)]; exact h.seq
    refine ⟨⟨vs, v, q, e1⟩, fun x H2 ⟨e2, z⟩ => ?_⟩
    subst e2
    have := z vs q
    rw [e1] at this; cases this
    exact ⟨.refl, r1, rp⟩
theorem Yields.klst {a : Addr} {vs : List V} {xs : List D} {M : Mp} {H : Hp} (h : KL a vs) (r : Reps M H xs vs) : Yields X.K (Itl X.K a) xs (fun _ => True) M H where
  stop M1 H1 k r1 _ := ⟨vs, by rw [XK.e (X := X)]; exact h.seq, Nat.le_of_eq r.length.symm⟩
  go i d M1 H1 e k r1 _ := by
    obtain ⟨v, e1, rp⟩ := (Reps.mono k _ _ r).get e
    have q : SqL X.K H1 a vs := by rw [XK.e (X := X)]; exact h.seq
    refine ⟨⟨vs, v, q, e1⟩, fun x H2 ⟨e2, z⟩ => ?_⟩
    subst e2
    have := z vs q
    rw [e1] at this; cases this
    exact ⟨.refl, r1, rp⟩
theorem frz_kept {M M' : Mp} {H H' : Hp} {a : Addr} {od : Obj} {u : HO} (k : Kp M H M' H') (n : M a = none) (h : H a = some (.frz od u)) : H' a = some (.frz od u) := by
  obtain ⟨h1, _⟩ := k a _ h n
  rcases h1 with h1 | ⟨d, _⟩
  · exact h1
  · exact d.elim
theorem Yields.keysK {K : PySem.W.Frag} {a : Addr} {od : Obj} {l : List (Key × V)} {kvs : List (D × D)} {M : Mp} {H : Hp} (n : M a = none) (h : H a = some (.frz od (.dK l))) (r : RepK M H kvs l) : Yields K (Itk a od l) (keysOf kvs) (fun _ => True) M H where
  stop M1 H1 k r1 _ := ⟨frz_kept k n h, by rw [keysOf, List.length_map, repK_len r]; exact Nat.le_refl _⟩
  go i d M1 H1 e k r1 _ := by
    obtain ⟨q, v, e1, e2⟩ := repK_get r e
    refine ⟨⟨frz_kept k n h, (List.getElem?_eq_some_iff.mp e1).1⟩, fun x H2 ⟨z, q', v', z1, z2⟩ => ?_⟩
    subst z
    rw [e1] at z1; cases z1
    subst z2
    exact ⟨.refl, r1, keyD_to e2⟩
theorem Yields.keysT {K : PySem.W.Frag} {a : Addr} {od : Obj} {l : List (List Key × V)} {kvs : List (D × D)} {M : Mp} {H : Hp} (n : M a = none) (h : H a = some (.frz od (.dT l))) (r : RepT M H kvs l) : Yields K (Itkt a od l) (keysOf kvs) (fun _ => True) M H where
  stop M1 H1 k r1 _ := ⟨frz_kept k n h, by rw [keysOf, List.length_map, repT_len r]; exact Nat.le_refl _⟩
  go i d M1 H1 e k r1 _ := by
    obtain ⟨q, v, e1, e2⟩ := repT_get r e
    refine ⟨⟨frz_kept k n h, (List.getElem?_eq_some_iff.mp e1).1⟩, fun x H2 ⟨z, q', v', b, z1, z2, z3⟩ => ?_⟩
    subst z
    rw [e1] at z1; cases z1
    subst z2
    exact ⟨.refl, r1, tkeyD_to r1 e2 z3⟩
theorem rangeD_one (lo hi : Int) : rangeD lo hi 1 = (List.range (hi - lo).toNat).map fun (i : Nat) => D.int (lo + (i : Int)) := by
  unfold rangeD
  rw [if_pos (by decide)]
  have e : (hi - lo + 1 - 1) / 1 = hi - lo := by rw [Int.ediv_one]; omega
  rw [e]
  simp only [Int.mul_one]
theorem Yields.range {K : PySem.W.Frag} {lo hi : Int} {M : Mp} {H : Hp} : Yields K (Itr lo (hi - lo).toNat) (rangeD lo hi 1) (fun _ => True) M H where
  stop M1 H1 k r1 _ := by rw [rangeD_one, List.length_map, List.length_range]; exact Nat.le_refl _
  go i d M1 H1 e k r1 _ := by
    rw [rangeD_one, List.getElem?_map] at e
    have hi : i < (hi - lo).toNat := by
      by_cases c : i < (hi - lo).toNat
      · exact c
      · rw [List.getElem?_eq_none (by rw [List.length_range]; omega)] at e; cases e
    rw [List.getElem?_range hi] at e
    cases e
    exact ⟨hi, fun x H2 ⟨z1, z2⟩ => by subst z1 z2; exact ⟨.refl, r1, rint⟩⟩
theorem snd_it {tg e : Expr} {p : Ex} (G : Std X N B sc top k Γ) (he : PE X e (liftE (wpE Γ p))) : PI X tg e (liftI X.K (wpI Γ (.s p))) := by
  refine ⟨fun pins s σ H R I ⟨ρ, M, er, rm, h⟩ => ?_⟩
  rw [wpI] at h
  refine thn (he.run pins s σ H (fun v H1 => ∃ M1 d, Kp M H M1 H1 ∧ RelM M1 H1 ∧ Rep M1 H1 d v ∧ _) I ⟨ρ, M, er, rm, wpE_mono Γ p ρ M _ _ (fun d M1 q v H1 kp r1 rp => ⟨M1, d, kp, r1, rp, q⟩) h⟩) fun u s1 ⟨x, H1, I1, rx, M1, d, kp, r1, rp, q⟩ => ?_
  cases d with
  | lst xs =>
    rw [Rep] at rp
    obtain ⟨a, vs, rfl, n, h1, h2⟩ := rp
    cases rx
    obtain ⟨its, rv, pl, hz⟩ := I1.list (.inl h1 : SqL X.K H1 a vs)
    exact wpAny_pyIter_list pl.isList (pi_one (tk := s1.toks) I1 _ (turn_list a _) ⟨_, Heap.get?_push_size _ rfl, rfl, rfl⟩ (q _ _ kp r1 (.list n h1 h2)))
  | tup xs =>
    rw [Rep] at rp
    obtain ⟨a, vs, rfl, n, h1, h2⟩ := rp
    cases rx
    obtain ⟨its, rv, pl, hz⟩ := I1.tuple (.inl (.inl h1) : SqT X.K H1 a vs)
    exact wpAny_pyIter_tuple (show s1.heap.IsTuple a its.toArray from pl) (pi_one (tk := s1.toks) I1 _ (turn_tuple a _) ⟨_, Heap.get?_push_size _ rfl, rfl, rfl⟩ (q _ _ kp r1 (.tuple n h1 h2)))
  | ktp xs =>
    rw [Rep] at rp
    obtain ⟨a, vs', rfl, h1', h2'⟩ := rp
    cases rx
    have h1 : SqT X.K H1 a vs' := by rw [XK.e (X := X)]; exact h1'.seq
    obtain ⟨its, rv, pl, hz⟩ := I1.tuple h1
    exact wpAny_pyIter_tuple (show s1.heap.IsTuple a its.toArray from pl) (pi_one (tk := s1.toks) I1 _ (turn_tuple a _) ⟨_, Heap.get?_push_size _ rfl, rfl, rfl⟩ (q _ _ kp r1 (.ktp h1' h2')))
  | klst xs =>
    rw [Rep] at rp
    obtain ⟨a, vs, rfl, h1', h2⟩ := rp
    cases rx
    have h1 : SqL X.K H1 a vs := by rw [XK.e (X := X)]; exact h1'.seq
    obtain ⟨its, rv, pl, hz⟩ := I1.list h1
    exact wpAny_pyIter_list pl.isList (pi_one (tk := s1.toks) I1 _ (turn_list a _) ⟨_, Heap.get?_push_size _ rfl, rfl, rfl⟩ (q _ _ kp r1 (.klst h1' h2)))
  | dct t kvs =>
    have q : ∀ J H', Kp M H M1 H' → RelM M1 H' → Yields X.K J (keysOf kvs) (fun _ => True) M1 H' → R J H' := q
    cases t with
    | false =>
      rw [Rep] at rp
      obtain ⟨a, l, rfl, n, h1, h2⟩ := rp
      cases rx
      obtain ⟨H2, od, I2, h3, kp2, r2⟩ : ∃ H2 od, Inv X pins σ H2 s1 ∧ H2 a = some (.frz od (.dK l)) ∧ Kp M1 H1 M1 H2 ∧ RelM M1 H2 := by
        rcases h1 with h1 | ⟨od, h1⟩
        · obtain ⟨od, I2⟩ := I1.lock h1 trivial
          exact ⟨_, od, I2, upd_same, Kp.locked h1 n trivial, r1.locked h1 n trivial⟩
        · exact ⟨H1, od, I1, h1, .refl, r1⟩
      obtain ⟨hs, hgd, hx, es, ep, vs, hdt, hsz, kv, hm⟩ := I2.frzK h3
      refine iter_keys hs hgd hx hdt (pi_one (tk := s1.toks) I2 _ (turn_keys _ hdt) ⟨_, Heap.get?_push_size _ rfl, rfl, ?_⟩ (q _ _ (kp.trans kp2) r2 (.keysK n h3 (RepK.mono kp2 _ _ h2))))
      rw [hsz] <;> rfl
    | true =>
      rw [Rep] at rp
      obtain ⟨a, l, rfl, n, h1, h2⟩ := rp
      cases rx
      obtain ⟨H2, od, I2, h3, kp2, r2⟩ : ∃ H2 od, Inv X pins σ H2 s1 ∧ H2 a = some (.frz od (.dT l)) ∧ Kp M1 H1 M1 H2 ∧ RelM M1 H2 := by
        rcases h1 with h1 | ⟨od, h1⟩
        · obtain ⟨od, I2⟩ := I1.lock h1 trivial
          exact ⟨_, od, I2, upd_same, Kp.locked h1 n trivial, r1.locked h1 n trivial⟩
        · exact ⟨H1, od, I1, h1, .refl, r1⟩
      obtain ⟨hs, hgd, hx, es, ep, hdt, hsz, ent⟩ := I2.frzT h3
      refine iter_keys hs hgd hx hdt (pi_one (tk := s1.toks) I2 _ (turn_keysT _ hdt) ⟨_, Heap.get?_push_size _ rfl, rfl, ?_⟩ (q _ _ (kp.trans kp2) r2 (.keysT n h3 (RepT.mono kp2 _ _ h2))))
      rw [hsz] <;> rfl
  | ref a =>
    rw [Rep] at rp
    subst rp
    cases rx
    cases e : M1 a with
    | none => simp only [e] at q
    | some o =>
      cases o with
      | lst xs =>
        simp only [e] at q
        obtain ⟨vs, h1, h2⟩ := r1.list e
        obtain ⟨its, rv, pl, hz⟩ := I1.list (.inl (.inl h1) : SqL X.K H1 a vs)
        exact wpAny_pyIter_list pl.isList (pi_one (tk := s1.toks) I1 _ (turn_list a _) ⟨_, Heap.get?_push_size _ rfl, rfl, rfl⟩ (q _ _ kp r1 .listM))
      | _ => simp only [e] at q
  | _ => exact q.elim
theorem snd_rng {tg f : Expr} {es : List Expr} {ps : List Ex} {pos : Pos} (G : Std X N B sc top k Γ) (hf : isNameOf "range" f = true) (hb : B.contains "range" = true) (hg : globB sc (nameStr f) = true) (hl : es.length = 1 ∨ es.length = 2) (hs : noStars es = true) (ha : PA X es (liftA (wpEs Γ ps))) (hn : ps.length = es.length) :
    PI X tg (.Call f es [] pos) (liftI X.K (wpI Γ (.rng ps))) := by
  obtain ⟨q, rfl⟩ := isName_ok hf
  have hm := G.blt "range" (by simpa using hb)
  have gg := globB_ok G hg
  have imp : ∀ {e : Expr} {t t' : TI}, PI X tg e t → (∀ σ H R, t' σ H R → t σ H R) → PI X tg e t' := fun h m => ⟨fun pins s σ H R I q => h.run pins s σ H R I (m _ _ _ q)⟩
  rcases hl with hl | hl
  · obtain ⟨a, rfl⟩ := List.length_eq_one_iff.mp hl
    have h1 : notStar a = true := by rw [noStars, noStars, Bool.and_true] at hs; exact hs
    refine imp (pi_range1 gg hm ha (star_ok h1)) fun σ H R ⟨ρ, M, er, rm, h⟩ => ?_
    rw [wpI] at h
    refine ⟨ρ, M, er, rm, wpEs_mono Γ ps ρ M _ _ (fun ds M1 ⟨z, q⟩ vs H1 kp r1 rp => ?_) (wpEs_len h)⟩
    match ds, z, q, rp with
    | [.int j], _, q, rp =>
      obtain ⟨v, rfl, rv⟩ := reps1 rp
      rw [Rep] at rv; subst rv
      refine ⟨j, rfl, q.1.1, q.1.2, ?_⟩
      have := q.2 (Itr 0 j.toNat) H1 kp r1 (by have z := Yields.range (K := X.K) (lo := 0) (hi := j) (M := M1) (H := H1); rw [Int.sub_zero] at z; exact z)
      exact this
    | [.int i, .int j], z, _, _ => rw [hn] at z; simp at z
  · obtain ⟨a, b, rfl⟩ : ∃ a b, es = [a, b] := by
      match es, hl with
      | [a, b], _ => exact ⟨a, b, rfl⟩
    have h1 : notStar a = true ∧ notStar b = true := by simpa [noStars] using hs
    refine imp (pi_range2 gg hm ha (by rw [star_ok h1.1, star_ok h1.2]; rfl) (by rw [star_ok h1.2]; rfl)) fun σ H R ⟨ρ, M, er, rm, h⟩ => ?_
    rw [wpI] at h
    refine ⟨ρ, M, er, rm, wpEs_mono Γ ps ρ M _ _ (fun ds M1 ⟨z, q⟩ vs H1 kp r1 rp => ?_) (wpEs_len h)⟩
    match ds, z, q, rp with
    | [.int j], z, _, _ => rw [hn] at z; simp at z
    | [.int i, .int j], _, q, rp =>
      obtain ⟨v, u, rfl, rv, ru⟩ := reps2 rp
      rw [Rep] at rv ru; subst rv ru
      exact ⟨i, j, rfl, q.1, q.2 _ H1 kp r1 .range⟩
/-! math, displays, keys, keywords -/
theorem cb_lcm : CallR X (.builtin "math.lcm") (liftC (bfD "math.lcm")) := by
  intro pins s σ H xs us Q I r ⟨M, ds, hds, rm, h⟩
  obtain ⟨a, b, rfl, ha, hb, q⟩ : ∃ a b : Int, ds = [.int a, .int b] ∧ a.natAbs < 2 ^ 60 ∧ b.natAbs < 2 ^ 60 ∧ _ := h
  obtain ⟨x, y, rfl, hx, hy⟩ := reps2 hds
  rw [Rep] at hx hy; subst hx hy
  obtain ⟨t, u, rfl⟩ := Vals.int2 r
  have e1 : Nat.lcm 1 a.natAbs = a.natAbs := by simp
  refine PySem.W.mg_lcm (by omega) (by omega) ?_ ⟨.int _, H, I.tok _, ⟨_, rfl⟩, ?_⟩
  · rw [e1]
    show (Nat.lcm a.natAbs b.natAbs).log2 < _
    by_cases c : Nat.lcm a.natAbs b.natAbs = 0
    · rw [c]; decide
    · refine Nat.lt_of_lt_of_le ((Nat.log2_lt c).mpr (show _ < 2 ^ 128 from ?_)) (by decide)
      have h1 : Nat.lcm a.natAbs b.natAbs ≤ a.natAbs * b.natAbs := by
        unfold Nat.lcm; exact Nat.div_le_self _ _
      have h2 : a.natAbs * b.natAbs ≤ 2 ^ 60 * 2 ^ 60 := Nat.mul_le_mul (by omega) (by omega)
      exact Nat.lt_of_le_of_lt (Nat.le_trans h1 h2) (by decide)
  · rw [e1]; exact q _ _ .refl rm rint
theorem cb_gcd : CallR X (.builtin "math.gcd") (liftC (bfD "math.gcd")) := by
  intro pins s σ H xs us Q I r ⟨M, ds, hds, rm, h⟩
  obtain ⟨a, b, rfl, q⟩ : ∃ a b : Int, ds = [.int a, .int b] ∧ _ := h
  obtain ⟨x, y, rfl, hx, hy⟩ := reps2 hds
  rw [Rep] at hx hy; subst hx hy
  exact cr_gcd pins s σ H _ us Q I r ⟨a, b, rfl, q _ _ .refl rm rint⟩
theorem snd_bf {n : Str} {e : Expr} {es : List Expr} {ps : List Ex} {p pos : Pos} (G : Std X N B sc top k Γ) (hg : globB sc n = true) (hn : nameOk n = true) (hs : noStars (e :: es) = true) (ha : PA X (e :: es) (liftA (wpEs Γ ps))) : PE X (.Call (.Name n p) (e :: es) [] pos) (liftE (wpE Γ (.bf n ps))) := by
  obtain ⟨n1, n2⟩ := nameOk_ok hn
  rw [noStars, Bool.and_eq_true] at hs
  refine ⟨fun pins s σ H Q I ⟨ρ, M, er, rm, h⟩ => ?_⟩
  rw [wpE] at h
  obtain ⟨id, hid, hids, h⟩ := h
  have go : CallR X (.builtin id) (liftC (bfD id)) → wpAny (model X.prog X.w) X.A (eval (.Call (.Name n p) (e :: es) [] pos) X.env) (EP X pins σ Q) X.xe s := fun hc => by
    refine (pe_callBfun hc (globB_ok G hg) (G.bf n id hid) ha n1 (star_ok hs.1) (stars_any hs.2)).run pins s σ H Q I ?_
    exact ⟨ρ, M, er, rm, wpEs_mono Γ ps ρ M _ _ (fun ds M1 q vs H1 kp r1 rp => ⟨M1, ds, rp, r1, bfD_mono (fun x M2 q v H2 k2 => q v H2 (kp.trans k2)) q⟩) h⟩
  rcases hids with rfl | rfl
  · exact go cb_lcm
  · exact go cb_gcd
def trsOf (Γ : Gam) : List Str → List Ex → List (TE × TE)
  | k :: ks, p :: ps => (tC (.str k), liftE (wpE Γ p)) :: trsOf Γ ks ps
  | _, _ => []
def zipV : List Str → List V → List (Key × V)
  | k :: ks, v :: vs => (.inr k, v) :: zipV ks vs
  | _, _ => []
theorem pairs_of {σ : L2.St} : ∀ {ks : List Str} {ps : List Ex} {ρ : Env'} {M : Mp} {H : Hp} {Q : List (V × V) → Hp → Prop}, ks.length = ps.length → EnvR M H ρ σ → RelM M H → wpEs Γ ps ρ M (fun ds M1 => ∀ vs H', Kp M H M1 H' → RelM M1 H' → Reps M1 H' ds vs → Q ((zipV ks vs).map fun kv => (kV kv.1, kv.2)) H') → tPairs (trsOf Γ ks ps) σ H Q
  | [], [], ρ, M, H, Q, _, er, rm, h => by
    rw [wpEs] at h
    exact h [] H .refl rm .nil
  | k :: ks, p :: ps, ρ, M, H, Q, hl, er, rm, h => by
    rw [wpEs] at h
    show tPairs ((tC (.str k), liftE (wpE Γ p)) :: trsOf Γ ks ps) σ H Q
    refine ⟨ρ, M, er, rm, wpE_mono Γ p ρ M _ _ (fun d M1 q v H1 kp r1 rp => ?_) h⟩
    refine pairs_of (by simpa using hl) (er.mono kp) r1 (wpEs_mono Γ ps ρ M1 _ _ (fun ds M2 q vs H2 k2 r2 rp2 => ?_) q)
    exact q (v :: vs) H2 (kp.trans k2) r2 (.cons (Rep.mono k2 _ _ rp) rp2)
  | [], _ :: _, _, _, _, _, hl, _, _, _ => by simp at hl
  | _ :: _, [], _, _, _, _, hl, _, _, _ => by simp at hl
theorem zipV_len : ∀ {ks : List Str} {vs : List V}, (zipV ks vs).length ≤ ks.length
  | [], _ => by simp [zipV]
  | _ :: _, [] => by simp [zipV]
  | k :: ks, v :: vs => by simp only [zipV, List.length_cons]; have := zipV_len (ks := ks) (vs := vs); omega
theorem zipV_keys : ∀ {ks : List Str} {vs : List V} {k : Key} {v : V}, (k, v) ∈ zipV ks vs → ∃ x ∈ ks, k = .inr x
  | [], _, _, _, h => by simp [zipV] at h
  | _ :: _, [], _, _, h => by simp [zipV] at h
  | k :: ks, v :: vs, _, _, h => by
    simp only [zipV, List.mem_cons] at h
    rcases h with h | h
    · cases h; exact ⟨k, by simp, rfl⟩
    · obtain ⟨x, h1, h2⟩ := zipV_keys h; exact ⟨x, by simp [h1], h2⟩
theorem merge_new : ∀ {ks : List Str} {vs : List V} {acc : List (Key × V)}, ks.Nodup → (∀ kv ∈ acc, ∀ x ∈ ks, kv.1 ≠ .inr x) → mergeK acc (zipV ks vs) = acc ++ zipV ks vs
  | [], _, acc, _, _ => by simp [zipV, mergeK]
  | _ :: _, [], acc, _, _ => by simp [zipV, mergeK]
  | k :: ks, v :: vs, acc, nd, h => by
    have e : putK acc (.inr k) v = acc ++ [(.inr k, v)] := by
      unfold putK
      rw [if_neg]
      simp only [List.any_eq_true, decide_eq_true_eq, not_exists, not_and]
      exact fun kv hm z => h kv hm k (by simp) z
    show mergeK (putK acc (.inr k) v) (zipV ks vs) = _
    rw [e, merge_new (List.nodup_cons.mp nd).2]
    · simp [zipV]
    · intro kv hm x hx z
      rcases List.mem_append.mp hm with hm | hm
      · exact h kv hm x (by simp [hx]) z
      · simp at hm
        subst hm
        cases z
        exact (List.nodup_cons.mp nd).1 hx
theorem zip_rep {M : Mp} {H : Hp} : ∀ {ks : List Str} {ds : List D} {vs : List V}, Reps M H ds vs → RepK M H (zipK ks ds) (zipV ks vs)
  | [], _, _, _ => by rw [zipK, zipV, RepK] <;> simp
  | _ :: _, [], _, h => by rw [Reps] at h; subst h; rw [zipK, zipV, RepK] <;> simp
  | k :: ks, d :: ds, _, h => by
    rw [Reps] at h
    obtain ⟨v, r, rfl, h1, h2⟩ := h
    rw [zipK, zipV, RepK]
    exact ⟨.inr k, v, _, rfl, rfl, h1, zip_rep h2⟩
theorem keysB_len : ∀ {ks : List Str} {keys : List (Option Expr)}, keysB ks keys = true → ks.length = keys.length ∧ keys.all (·.isSome) = true
  | [], keys, h => by rw [keysB, List.isEmpty_iff] at h; subst h; exact ⟨rfl, rfl⟩
  | k :: ks, keys, h => by
    unfold keysB at h
    split at h
    · rw [Bool.and_eq_true] at h
      obtain ⟨h1, h2⟩ := keysB_len h.2
      exact ⟨congrArg (· + 1) h1, by simp only [List.all_cons, h2]; rfl⟩
    · cases h
theorem pps_of {pos : Pos} : ∀ {ks : List Str} {keys : List (Option Expr)} {values : List Expr} {ps : List Ex}, keysB ks keys = true → keys.length = values.length → PEs X Γ values ps → PPs X pos keys values (trsOf Γ ks ps)
  | [], keys, values, ps, h, hl, hp => by
    rw [keysB, List.isEmpty_iff] at h
    subst h
    have : values = [] := List.eq_nil_of_length_eq_zero hl.symm
    subst this
    cases ps with
    | nil => exact pps_nil
    | cons => exact hp.elim
  | k :: ks, keys, values, ps, h, hl, hp => by
    unfold keysB at h
    split at h
    · rw [Bool.and_eq_true, beq_iff_eq] at h
      obtain ⟨rfl, h2⟩ := h
      match values, ps, hl, hp with
      | v :: values, p :: ps, hl, hp => exact pps_cons pe_str hp.1 (pps_of h2 (by simpa using hl) hp.2)
      | _ :: _, [], _, hp => exact hp.elim
      | [], _, hl, _ => simp at hl
    · cases h
theorem snd_disp {ks : List Str} {keys : List (Option Expr)} {values : List Expr} {ps : List Ex} {pos : Pos} (h1 : keysB ks keys = true) (h2 : ks.Nodup) (h3 : keys ≠ []) (h4 : keys.length = values.length) (h5 : keys.length ≤ 15) (hp : PEs X Γ values ps) :
    PE X (.Dict keys values pos) (liftE (wpE Γ (.disp ks ps))) := by
  obtain ⟨l1, l2⟩ := keysB_len h1
  refine PE.imp (pe_disp (pps_of h1 h4 hp) l2 h4 h3 h5) fun σ H Q ⟨ρ, M, er, rm, h⟩ p n => ?_
  rw [wpE] at h
  have kB : Kp M H (mu M p (.dct false [])) (upd H p (.dK [])) := Kp.laidM n
  have rB : RelM (mu M p (.dct false [])) (upd H p (.dK [])) := rm.put kB ⟨[], upd_same, by rw [RepK]⟩
  refine pairs_of (by rw [l1, h4, hp.len]) (er.mono kB) rB (wpEs_mono Γ ps ρ _ _ _ (fun ds M1 ⟨e, q⟩ vs H1 kp r1 rp => ?_) (h p (rm.dom n)))
  obtain ⟨l, e1, e2⟩ := r1 p _ e
  rw [RepK] at e2; subst e2
  refine ⟨e1, zipV ks vs, rfl, by have := zipV_len (ks := ks) (vs := vs); omega, ?_⟩
  rw [merge_new h2 (by simp)]
  exact q _ _ ((kB.trans kp).trans (Kp.wrote e)) (r1.put (Kp.wrote e) ⟨_, upd_same, RepK.mono (Kp.wrote e) _ _ (zip_rep rp)⟩) rref
/-! keywords -/
def PKs (X : Cx) (Γ : Gam) : List Keyword → List Str → List Ex → Prop
  | [], [], [] => True
  | kw :: kws, k :: ks, p :: ps => kw.arg = some k ∧ PE X kw.value (liftE (wpE Γ p)) ∧ PKs X Γ kws ks ps
  | _, _, _ => False
theorem PKs.pk : ∀ {kws : List Keyword} {ks : List Str} {ps : List Ex}, PKs X Γ kws ks ps → PK X kws (liftA (wpEs Γ ps)) ∧ ks.length = ps.length
  | [], [], [], _ => by
    refine ⟨⟨fun pos pins s σ H Q I ⟨ρ, M, er, rm, h⟩ => ?_⟩, rfl⟩
    rw [wpEs] at h
    exact (pk_nil (X := X)).run pos pins s σ H Q I (h [] H .refl rm .nil)
  | ⟨a, e, ps'⟩ :: kws, k :: ks, p :: ps, h => by
    obtain ⟨h0, h1, h2⟩ := h
    obtain ⟨h3, h4⟩ := PKs.pk h2
    refine ⟨⟨fun pos pins s σ H Q I ⟨ρ, M, er, rm, h⟩ => ?_⟩, congrArg (· + 1) h4⟩
    refine (pk_cons (nm := a) (kpos := ps') h1 h3).run pos pins s σ H Q I ?_
    rw [wpEs] at h
    refine ⟨ρ, M, er, rm, wpE_mono Γ p ρ M _ _ (fun d M1 q v H1 kp r1 rp => ?_) h⟩
    refine ⟨ρ, M1, er.mono kp, r1, wpEs_mono Γ ps ρ M1 _ _ (fun ds M2 q vs H2 kp2 r2 rp2 => ?_) q⟩
    exact q _ _ (kp.trans kp2) r2 (.cons (Rep.mono kp2 _ _ rp) rp2)
  | [], _ :: _, _, h => h.elim
  | [], [], _ :: _, h => h.elim
  | _ :: _, [], _, h => h.elim
  | _ :: _, _ :: _, [], h => h.elim
theorem PKs.names {pos : Pos} {env : Env} : ∀ {kws : List Keyword} {ks : List Str} {ps : List Ex}, PKs X Γ kws ks ps → (backToKw pos (keywordEach kws env)).all (·.1.isSome) = true ∧ (backToKw pos (keywordEach kws env)).filterMap (·.1) = ks ∧ (backToKw pos (keywordEach kws env)).any (·.1.isNone) = false
  | [], [], [], _ => ⟨rfl, rfl, rfl⟩
  | ⟨a, e, ps'⟩ :: kws, k :: ks, p :: ps, h => by
    obtain ⟨h0, h1, h2⟩ := h
    cases h0
    obtain ⟨z1, z2, z3⟩ := PKs.names (pos := pos) (env := env) h2
    unfold backToKw at z1 z2 z3 ⊢
    simp only [keywordEach, List.map_cons, List.all_cons, List.filterMap_cons, List.any_cons, z1, z2, z3]
    refine ⟨?_, ?_, ?_⟩ <;> first | rfl | trivial | simp
  | [], _ :: _, _, h => h.elim
  | [], [], _ :: _, h => h.elim
  | _ :: _, [], _, h => h.elim
  | _ :: _, _ :: _, [], h => h.elim
theorem snd_callK {f : Str} {es : List Expr} {kws : List Keyword} {ps qs : List Ex} {ks : List Str} {p pos : Pos} (G : Std X N B sc top k Γ) (hg : globB sc f = true) (hn : nameOk f = true) (hs : noStars es = true) (hp : PEs X Γ es ps) (hk : PKs X Γ kws ks qs) :
    PE X (.Call (.Name f p) es kws pos) (liftE (wpE Γ (.callK f ps ks qs))) := by
  obtain ⟨n1, n2⟩ := nameOk_ok hn
  obtain ⟨z1, z2, z3⟩ := hk.names (pos := pos) (env := X.env)
  obtain ⟨pk, lk⟩ := hk.pk
  refine ⟨fun pins s σ H Q I ⟨ρ, M, er, rm, h⟩ => ?_⟩
  rw [wpE] at h
  obtain ⟨sp, e, ek, h⟩ := h
  obtain ⟨fa, fd, ns, F, hm, hkp, hb⟩ := G.kw f _ ks _ sp ek e
  have fin : ∀ {σ : L2.St} {H1 : Hp} {ds : List D} {M1 : Mp} {vs : List V}, EnvR M1 H1 ρ σ → Kp M H M1 H1 → RelM M1 H1 → Reps M1 H1 ds vs → ds.length = ps.length → wpEs Γ qs ρ M1 (fun zs M2 => runC sp (ds ++ zs) M2 (VKD M H Q)) → liftA (wpEs Γ qs) σ H1 fun zs H2 => spOf (ps.length + qs.length) sp (vs ++ zs) H2 Q E0 := fun {σ H1 ds M1 vs} er1 kp r1 rp hl q => by
    refine ⟨ρ, M1, er1, r1, wpEs_mono Γ qs ρ M1 _ _ (fun zs M2 ⟨l2, q⟩ ws H2 kp2 r2 rp2 => ?_) (wpEs_len q)⟩
    exact ⟨by rw [List.length_append, ← rp.length, ← rp2.length, hl, l2], M2, ds ++ zs, (Reps.mono kp2 _ _ rp).append rp2, r2, q.mono fun d M3 z v H3 k3 => z v H3 ((kp.trans kp2).trans k3)⟩
  cases es with
  | nil =>
    have e0 : ps = [] := List.eq_nil_of_length_eq_zero hp.len
    subst e0
    rw [wpEs] at h
    refine wpAny_Call_Name_kw (ld_glob I (globB_ok G hg) hm ?_ n1)
    refine PySem.W.callWith_KW0 (h₀ := X.base) I.ok.mod.kin hkp z1 (thn (pk.run pos pins s σ H _ I (fin (ds := []) (vs := []) er .refl rm .nil rfl h)) fun ws s2 ⟨zs, H2, I2, rz, q2⟩ => ⟨I2.kIn, ?_⟩) (by rw [z3]; rfl)
    rw [z2]
    exact run_fnk F G.room hb pass0 I2 .nil rz q2
  | cons e es =>
    have hs' := hs
    rw [noStars, Bool.and_eq_true] at hs'
    refine (pe_callK F G.room (globB_ok G hg) hm hkp hb pass0 (hp.pa hs) pk z1 z2 n1 (star_ok hs'.1) (by rw [stars_any hs, z3]; rfl)).run pins s σ H Q I ?_
    exact ⟨ρ, M, er, rm, wpEs_mono Γ ps ρ M _ _ (fun ds M1 ⟨hl, q⟩ vs H1 kp r1 rp => fin (er.mono kp) kp r1 rp hl q) (wpEs_len h)⟩
/-! list(d.keys()) -/
theorem view_list {pins : List (Addr × Obj)} {s : Shared} {σ : L2.St} {H : Hp} {Q : VK} {a r : Addr} {M : Mp} {kvs : List (D × D)} {l : List (List Key × V)} (hc : X.calm = true) (I : Inv X pins σ H s) (rm : RelM M H) (hd : Rd H a (.dT l)) (rt : RepT M H kvs l) (hv : PySem.W.KdlKeysView s.heap r a)
    (q : ∀ v H', Kp M H M H' → RelM M H' → Rep M H' (.lst (keysOf kvs)) v → Q v H') : wpAny (model X.prog X.w) X.A (call (.type "list") [.ref r]) (EP X pins σ Q) X.xe s := by
  obtain ⟨z, hs, ks, pr, o, es, ep, ho, hx, hdt, he, hn⟩ := (show ObjOk X.prog X.w H s.heap a (.dT l) from hd.ok I.hok)
  have l1 := size_of_entries he
  have l2 := Paired.length pr
  refine PySem.W.kdl_call PySem.KdlSrc.rawKeys (I.ok.hd hc) ⟨hv, ⟨o, ho, hx, hdt⟩⟩ (by omega) fun h' tk acc' c' kp e it => ?_
  have ea : acc'.toList = ks.map fun x => Value.ref x.2.1 := by
    have hl : acc'.toList.length = ks.length := by rw [Array.length_toList, it.1]; exact l1
    refine List.ext_getElem? fun j => ?_
    by_cases hj : j < ks.length
    · have hv' : acc'.toList[j]? = some acc'.toList[j] := List.getElem?_eq_getElem (by omega)
      obtain ⟨hi, hk⟩ := it.2 j acc'.toList[j] (by rw [← Array.getElem?_toList]; exact hv')
      have qe := entry_at he j
      rw [List.getElem?_eq_getElem hj] at qe
      have e2 : es[j] = entryOfKey (tupleKind (mixKind X.prog X.w)) ks[j] := by
        have z : es[j]? = some es[j] := Array.getElem?_eq_getElem hi
        exact Option.some.inj (z.symm.trans qe)
      rw [hv', hk, e2, List.getElem?_map, List.getElem?_eq_getElem hj]
      rfl
    · rw [List.getElem?_eq_none (by omega), List.getElem?_eq_none (by rw [List.length_map]; omega)]
  have eb : acc'.toList = (ks.map fun x => x.2.1).map Value.ref := by rw [ea, List.map_map]; rfl
  have rv : Vals ((ks.map fun x => x.2.1).map V.ref) acc'.toList := by rw [eb]; exact vals_refs _
  have hz : ((ks.map fun x => x.2.1).map V.ref).length ≤ sizeLine := by rw [List.length_map, List.length_map]; omega
  have nf := I.hok.fresh (Nat.le_refl s.heap.objs.size)
  obtain ⟨k2, r2, q2⟩ := new_lst rm nf (keys_repT rm rt (isKeys_of pr))
  exact ⟨.ref s.heap.objs.size, _, I.laid (t' := tk) (o := .lst ((ks.map fun x => x.2.1).map V.ref)) kp (Nat.le_refl _) ⟨hz, acc'.toList, c', rv, by rw [Array.toArray_toList]; exact e⟩, rfl, q _ _ k2 r2 q2⟩
theorem snd_lkeys {o f : Expr} {p : Ex} {ap p2 pos : Pos} (G : Std X N B sc top k Γ) (hf : isNameOf "list" f = true) (hb : B.contains "list" = true) (hg : globB sc (nameStr f) = true) (hbo : baseOk o = true) (hl : (ap.endLine == p2.line) = true) (ho : PE X o (liftE (wpE Γ p))) :
    PE X (.Call f [.Call (.Attribute o "keys" ap) [] [] p2] [] pos) (liftE (wpE Γ (.lkeys p))) := by
  obtain ⟨fp, rfl⟩ := isName_ok hf
  refine ⟨fun pins s σ H Q I ⟨ρ, M, er, rm, h⟩ => ?_⟩
  rw [wpE] at h
  refine Call_ (ld_blt I (globB_ok G hg) (G.blt "list" (by simpa using hb)) (show bootBuiltins (Str.ofString "list") = some (.type "list") by decide +kernel) (PyProof.Rows.callWith_type1 ?_ rfl rfl) (by decide) (by decide))
  show wpAny _ _ (spliced ((false, eval (.Call (.Attribute o "keys" ap) [] [] p2) X.env) :: [])) _ _ s
  refine Calls.spliced_cons ?_
  refine wpAny_Call_method (T := "dict") (id := "dict.keys") (base_ok hbo) rfl hl F.plainAttrs_dict F.slot_dict_keys F.type_dict_keys (thn (ho.run pins s σ H (fun v H1 => ∃ M1 d, Kp M H M1 H1 ∧ RelM M1 H1 ∧ Rep M1 H1 d v ∧ _) I ⟨ρ, M, er, rm, wpE_mono Γ p ρ M _ _ (fun d M1 q v H1 kp r1 rp => ⟨M1, d, kp, r1, rp, q⟩) h⟩) fun u s1 ⟨x, H1, I1, rx, M1, d, kp, r1, rp, kvs, hlk, q⟩ => ?_)
  obtain ⟨a, rfl, h1⟩ := look_dct r1 rp hlk
  rcases h1 with ⟨z, _⟩ | ⟨_, l, h1, h2⟩
  · cases z
  obtain rfl : u = Value.ref a := rx
  obtain ⟨t1, t2, t3⟩ := isD_at I1 (.inr ⟨l, h1⟩ : IsD H1 a)
  refine ⟨t1, t2, ?_⟩
  obtain ⟨z, hs, ks, pr, o', es, ep, ho', hx, hdt, he, hn⟩ := (show ObjOk X.prog X.w H1 s1.heap a (.dT l) from h1.ok I1.hok)
  have I2 : Inv X pins σ H1 { s1 with heap := s1.heap.push { cls := .type "dict_keys", data := .fields #[.ref a] } } := I1.kept (t' := s1.toks) fun b ob q => Heap.get?_push_of_some _ q
  show wpAny _ _ (callWith p2 (.builtin "dict.keys") [.ref a] [] []) _ X.xe s1
  refine method_meetsIn F.slot_dict_keys F.entry_dict_keys rfl (PySem.evalArgs_none ⟨rfl, t1, F.args_dict_keys_1 _, _, meets_dict_keys_raw a hs, ⟨es, ep, o', ho', hx, hdt⟩, ?_⟩)
  refine Calls.spliced_nil ?_
  exact view_list G.calm I2 r1 h1 h2 ⟨_, Heap.get?_push_size _ rfl, rfl, rfl⟩ fun v H' k2 r2 rp2 => q v H' (kp.trans k2) r2 rp2
end
end Vc
/-! Comprehensions; then the whole: what the check passes runs as the small language tells. -/
namespace Vc
open PySem PySem.Spec PyProof.Rows L2
variable [KF]
section
variable {X : Cx} [XK X] {N : List Str} {B : List String} {sc : Scope} {top : Bool} {k : Nat} {Γ : Gam}
theorem wipe_get {σ : L2.St} {j : Nat} : ∀ {vs : List Nat}, (L2.wipe σ vs)[j]? = if j ∈ vs then (σ[j]?.map fun _ => none) else σ[j]?
  | [] => by simp [L2.wipe]
  | i :: vs => by
    rw [L2.wipe]
    by_cases c : i = j
    · subst c
      by_cases hl : i < σ.length
      · rw [List.getElem?_set_self (by rw [L2.wipe_length]; exact hl), if_pos (by simp), List.getElem?_eq_getElem hl]; rfl
      · rw [List.getElem?_eq_none (by rw [List.length_set, L2.wipe_length]; omega), if_pos (by simp), List.getElem?_eq_none (by omega)]; rfl
    · rw [List.getElem?_set_ne c, wipe_get (vs := vs)]
      simp only [List.mem_cons, Ne.symm c, false_or, show ¬ j = i from fun z => c z.symm]
theorem wipe_off {σ σ' : L2.St} {ns vs : List Nat} (h : Off ns (L2.wipe σ vs) σ') (hs : ∀ j ∈ ns, j ∈ vs) : L2.wipe σ' vs = L2.wipe σ vs := by
  refine List.ext_getElem? fun j => ?_
  by_cases c : j ∈ vs
  · rw [wipe_get, if_pos c, wipe_get, if_pos c]
    have hl : σ'.length = σ.length := by rw [h.1, L2.wipe_length]
    by_cases q : j < σ.length
    · rw [List.getElem?_eq_getElem q, List.getElem?_eq_getElem (by omega)]; rfl
    · rw [List.getElem?_eq_none (by omega), List.getElem?_eq_none (by omega)]
  · rw [wipe_get, if_neg c, h.2 j (fun z => c (hs j z))]
theorem RelM.free (r : RelM M H) {p : Addr} {xs : List D} (e : M p = some (.lst xs)) : Kp M H (mdel M p) H ∧ RelM (mdel M p) H := by
  have kp : Kp M H (mdel M p) H := fun a u h n => ⟨.inl h, by unfold mdel; split <;> first | rfl | exact n⟩
  refine ⟨kp, fun a o h => ?_⟩
  have q : a ≠ p := fun z => by subst z; rw [mdel_same] at h; cases h
  rw [mdel_ne q] at h
  exact (r a o h).mono kp fun u h => h
theorem tests_imp {ifs : List Expr} {t t' : TT} (h : PTs X ifs t) (m : ∀ σ H Q, t' σ H Q → t σ H Q) : PTs X ifs t' := ⟨fun pins s σ H Q I q => h.run pins s σ H Q I (m _ _ _ q)⟩
theorem Yields.weak {K : PySem.W.Frag} {J : It} {xs : List D} {inv : Mp → Prop} {M M' : Mp} {H H' : Hp} (y : Yields K J xs inv M H) (k : Kp M H M' H') : Yields K J xs inv M' H' where
  stop M1 H1 k1 := y.stop M1 H1 (k.trans k1)
  go i d M1 H1 e k1 := y.go i d M1 H1 e (k.trans k1)
theorem comp_imp {K : PySem.W.Frag} {mt : Bool} {own : List Nat} {t : Tg} {it : Ix} {fs : Option Tx} {el : Ex} {σ : L2.St} {H : Hp} {Q : VK} (ho : ∀ j ∈ tgNs t, j ∈ own) (h : liftE (wpE Γ (.comp mt own t it fs el)) σ H Q) :
    tLc (liftI K (wpI Γ it)) (liftG (tgNs t) (wpG t)) (liftT (wpTo Γ fs)) (liftE (wpE Γ el)) own σ H Q := by
  obtain ⟨ρ, M, er, rm, h⟩ := h
  rw [wpE] at h
  refine ⟨ρ, M, er, rm, wpI_mono Γ it ρ M _ _ (fun xs inv M1 q J H1 kp r1 y Da nD => ?_) h⟩
  have q := q Da (r1.dom nD)
  have er1 := er.mono kp
  have kB : Kp M1 H1 (mu M1 Da (.lst [])) (upd H1 Da (.lst [])) := Kp.laidM nD
  have rB : RelM (mu M1 Da (.lst [])) (upd H1 Da (.lst [])) := r1.laidL nD .nil
  refine ⟨fun i m H2 => ∃ M2 acc rest, i + rest.length = xs.length ∧ m = rest.length ∧ rest = xs.drop i ∧ Kp (mu M1 Da (.lst [])) (upd H1 Da (.lst [])) M2 H2 ∧ RelM M2 H2 ∧ M2 Da = some (.lst acc) ∧
    compL (fun x M2 K => wpG t x (wipeD ρ own) M2 fun ρ1 => wpTo Γ fs ρ1 M2 fun c M3 => if c = true then wpE Γ el ρ1 M3 fun d M4 => K (some d) M4 else K none M3) inv Da rest acc M2 fun ds M2 => if mt = true then VKD M H Q (.ref Da) M2 else VKD M H Q (.lst ds) (mdel M2 Da), ⟨xs.length, _, [], xs, by simp, rfl, by simp, .refl, rB, mu_same, q⟩, ?_⟩
  rintro i m H2 ⟨M2, acc, rest, hl, rfl, hr, k2, r2, hD, c⟩
  have kM : Kp M1 H1 M2 H2 := kB.trans k2
  cases rest with
  | nil =>
    rw [compL] at c
    have e : i = xs.length := by simpa using hl
    subst e
    refine .inl ⟨y.stop M2 H2 kM r2 c.1, ?_⟩
    obtain ⟨vs, h1, h2⟩ := r2.list hD
    obtain ⟨k3, r3⟩ := r2.free hD
    have c2 := c.2
    cases mt with
    | true => exact c2 (.ref Da) H2 (kp.trans kM) r2 rref
    | false =>
    refine c2 (.ref Da) H2 ((kp.trans kM).trans k3) r3 ?_
    rw [Rep]
    exact ⟨Da, vs, rfl, mdel_same, .inl h1, Reps.mono k3 _ _ h2⟩
  | cons x rest =>
    rw [compL] at c
    obtain ⟨ci, c⟩ := c
    have hx : xs[i]? = some x := by
      have := congrArg (fun l : List D => l[0]?) hr
      simpa using this.symm
    have hr' : rest = xs.drop (i + 1) := by
      have := congrArg List.tail hr
      simpa using this
    obtain ⟨g1, g2⟩ := y.go i x M2 H2 hx kM r2 ci
    refine .inr ⟨g1, fun H' => ∃ m', m' < (x :: rest).length ∧ _, fun H' h => h, fun v H3 yv => ?_⟩
    obtain ⟨k3, r3, rp⟩ := g2 v H3 yv
    refine ⟨x, wipeD ρ own, M2, rp, (er1.mono (kM.trans k3)).wipe own, r3, wpG_mono t x _ M2 _ _ (fun ρ1 q σ2 er2 off => ⟨wipe_off off ho, ?_⟩) c⟩
    refine ⟨ρ1, M2, er2, r3, wpTo_mono Γ fs ρ1 M2 _ _ (fun b M3 q H4 k4 r4 => ?_) q⟩
    cases b with
    | true =>
      rw [if_pos rfl] at q ⊢
      refine ⟨ρ1, M3, er2.mono k4, r4, wpE_mono Γ el ρ1 M3 _ _ (fun d M4 ⟨hD4, hz, q⟩ w H5 k5 r5 rp5 => ?_) q⟩
      obtain ⟨vs, h1, h2⟩ := r5.list hD4
      refine ⟨vs, h1, by rw [← h2.length]; exact hz, rest.length, by simp, mu M4 Da (.lst (acc ++ [d])), acc ++ [d], rest, by simp at hl ⊢; omega, rfl, hr', ?_, r5.wroteL hD4 (h2.append (.cons rp5 .nil)), mu_same, q⟩
      exact (((k2.trans k3).trans k4).trans k5).trans (Kp.wrote hD4)
    | false =>
      rw [if_neg (by decide)] at q ⊢
      exact ⟨rest.length, by simp, M3, acc, rest, by simp at hl ⊢; omega, rfl, hr', (k2.trans k3).trans k4, r4, q.1, q.2⟩
theorem drop_head {xs rest : List D} {x : D} {i : Nat} (hr : x :: rest = xs.drop i) : xs[i]? = some x ∧ rest = xs.drop (i + 1) := by
  constructor
  · have := congrArg (fun l : List D => l[0]?) hr
    simpa using this.symm
  · have := congrArg List.tail hr
    simpa using this
theorem comp2_imp {K : PySem.W.Frag} {mt : Bool} {own own1 : List Nat} {t t1 : Tg} {it it1 : Ix} {fs fs1 : Option Tx} {el : Ex} {σ : L2.St} {H : Hp} {Q : VK} (ho : ∀ j ∈ tgNs t, j ∈ own) (ho1 : ∀ j ∈ tgNs t1, j ∈ own1) (h : liftE (wpE Γ (.comp2 mt own own1 t it fs t1 it1 fs1 el)) σ H Q) :
    tLc2 (liftI K (wpI Γ it)) (liftG (tgNs t) (wpG t)) (liftT (wpTo Γ fs)) (liftI K (wpI Γ it1)) (liftG (tgNs t1) (wpG t1)) (liftT (wpTo Γ fs1)) (liftE (wpE Γ el)) own own1 σ H Q := by
  obtain ⟨ρ, M, er, rm, h⟩ := h
  rw [wpE] at h
  refine ⟨ρ, M, er, rm, wpI_mono Γ it ρ M _ _ (fun xs inv M1 q J H1 kp r1 y Da nD => ?_) h⟩
  have q := q Da (r1.dom nD)
  have er1 := er.mono kp
  have kB : Kp M1 H1 (mu M1 Da (.lst [])) (upd H1 Da (.lst [])) := Kp.laidM nD
  have rB : RelM (mu M1 Da (.lst [])) (upd H1 Da (.lst [])) := r1.laidL nD .nil
  refine ⟨fun i m H2 => ∃ M2 acc rest, i + rest.length = xs.length ∧ m = rest.length ∧ rest = xs.drop i ∧ Kp (mu M1 Da (.lst [])) (upd H1 Da (.lst [])) M2 H2 ∧ RelM M2 H2 ∧ M2 Da = some (.lst acc) ∧
    outL (fun x acc M2 K => wpG t x (wipeD ρ own) M2 fun ρ1 => wpTo Γ fs ρ1 M2 fun c M3 => if c = true then wpI Γ it1 ρ1 M3 fun ys inv1 M4 => M4 Da = some (.lst acc) ∧ compL (fun y M5 K' => wpG t1 y (wipeD ρ1 own1) M5 fun ρ2 => wpTo Γ fs1 ρ2 M5 fun c M6 => if c = true then wpE Γ el ρ2 M6 fun d M7 => K' (some d) M7 else K' none M6) inv1 Da ys acc M4 K else M3 Da = some (.lst acc) ∧ K acc M3) inv rest acc M2 fun ds M2 => if mt = true then VKD M H Q (.ref Da) M2 else VKD M H Q (.lst ds) (mdel M2 Da), ⟨xs.length, _, [], xs, by simp, rfl, by simp, .refl, rB, mu_same, q⟩, ?_⟩
  rintro i m H2 ⟨M2, acc, rest, hl, rfl, hr, k2, r2, hD, c⟩
  have kM : Kp M1 H1 M2 H2 := kB.trans k2
  cases rest with
  | nil =>
    rw [outL] at c
    have e : i = xs.length := by simpa using hl
    subst e
    refine .inl ⟨y.stop M2 H2 kM r2 c.1, ?_⟩
    obtain ⟨vs, h1, h2⟩ := r2.list hD
    obtain ⟨k3, r3⟩ := r2.free hD
    have c2 := c.2
    cases mt with
    | true => exact c2 (.ref Da) H2 (kp.trans kM) r2 rref
    | false =>
    refine c2 (.ref Da) H2 ((kp.trans kM).trans k3) r3 ?_
    rw [Rep]
    exact ⟨Da, vs, rfl, mdel_same, .inl h1, Reps.mono k3 _ _ h2⟩
  | cons x rest =>
    rw [outL] at c
    obtain ⟨ci, c⟩ := c
    obtain ⟨hx, hr'⟩ := drop_head hr
    obtain ⟨g1, g2⟩ := y.go i x M2 H2 hx kM r2 ci
    refine .inr ⟨g1, fun H' => ∃ m', m' < (x :: rest).length ∧ _, fun H' h => h, fun v H3 yv => ?_⟩
    obtain ⟨k3, r3, rp⟩ := g2 v H3 yv
    refine ⟨x, wipeD ρ own, M2, rp, (er1.mono (kM.trans k3)).wipe own, r3, wpG_mono t x _ M2 _ _ (fun ρ1 q σ2 er2 off => ⟨wipe_off off ho, ?_⟩) c⟩
    refine ⟨ρ1, M2, er2, r3, wpTo_mono Γ fs ρ1 M2 _ _ (fun b M3 q H4 k4 r4 => ?_) q⟩
    have hl' : i + 1 + rest.length = xs.length := by simp at hl; omega
    cases b with
    | false =>
      simp only [Bool.false_eq_true, if_false] at q ⊢
      exact ⟨rest.length, by simp, M3, acc, rest, hl', rfl, hr', (k2.trans k3).trans k4, r4, q.1, q.2⟩
    | true =>
      simp only [if_true] at q ⊢
      refine ⟨ρ1, M3, er2.mono k4, r4, wpI_mono Γ it1 ρ1 M3 _ _ (fun ys inv1 M4 q J1 H5 k5 r5 y1 => ?_) q⟩
      obtain ⟨hD4, q⟩ := q
      have er5 := er2.mono (k4.trans k5)
      refine ⟨fun j k H6 => ∃ M5 acc rest1, j + rest1.length = ys.length ∧ k = rest1.length ∧ rest1 = ys.drop j ∧ Kp M4 H5 M5 H6 ∧ RelM M5 H6 ∧ M5 Da = some (.lst acc) ∧ compL (fun y M5 K' => wpG t1 y (wipeD ρ1 own1) M5 fun ρ2 => wpTo Γ fs1 ρ2 M5 fun c M6 => if c = true then wpE Γ el ρ2 M6 fun d M7 => K' (some d) M7 else K' none M6) inv1 Da rest1 acc M5 fun acc1 M1 => outL (fun x acc M2 K => wpG t x (wipeD ρ own) M2 fun ρ1 => wpTo Γ fs ρ1 M2 fun c M3 => if c = true then wpI Γ it1 ρ1 M3 fun ys inv1 M4 => M4 Da = some (.lst acc) ∧ compL (fun y M5 K' => wpG t1 y (wipeD ρ1 own1) M5 fun ρ2 => wpTo Γ fs1 ρ2 M5 fun c M6 => if c = true then wpE Γ el ρ2 M6 fun d M7 => K' (some d) M7 else K' none M6) inv1 Da ys acc M4 K else M3 Da = some (.lst acc) ∧ K acc M3) inv rest acc1 M1 fun ds M2 => if mt = true then VKD M H Q (.ref Da) M2 else VKD M H Q (.lst ds) (mdel M2 Da), ⟨ys.length, M4, acc, ys, by simp, rfl, by simp, .refl, r5, hD4, q⟩, ?_⟩
      rintro j k H6 ⟨M5, acc5, rest1, hl1, rfl, hr1, k6, r6, hD5, c⟩
      cases rest1 with
      | nil =>
        rw [compL] at c
        have e : j = ys.length := by simpa using hl1
        subst e
        exact .inl ⟨y1.stop M5 H6 k6 r6 c.1, rest.length, by simp, M5, acc5, rest, hl', rfl, hr', (((k2.trans k3).trans k4).trans k5).trans k6, r6, hD5, c.2⟩
      | cons z rest1 =>
        rw [compL] at c
        obtain ⟨ci, c⟩ := c
        obtain ⟨hz, hr1'⟩ := drop_head hr1
        obtain ⟨g1, g2⟩ := y1.go j z M5 H6 hz k6 r6 ci
        refine .inr ⟨g1, fun H' => ∃ k', k' < (z :: rest1).length ∧ _, fun H' h => h, fun v H7 yv => ?_⟩
        obtain ⟨k7, r7, rp7⟩ := g2 v H7 yv
        refine ⟨z, wipeD ρ1 own1, M5, rp7, (er5.mono (k6.trans k7)).wipe own1, r7, wpG_mono t1 z _ M5 _ _ (fun ρ2 q σ3 er3 off => ⟨wipe_off off ho1, ?_⟩) c⟩
        refine ⟨ρ2, M5, er3, r7, wpTo_mono Γ fs1 ρ2 M5 _ _ (fun b M6 q H8 k8 r8 => ?_) q⟩
        have hl1' : j + 1 + rest1.length = ys.length := by simp at hl1; omega
        cases b with
        | false =>
          simp only [Bool.false_eq_true, if_false] at q ⊢
          exact ⟨rest1.length, by simp, M6, acc5, rest1, hl1', rfl, hr1', (k6.trans k7).trans k8, r8, q.1, q.2⟩
        | true =>
          simp only [if_true] at q ⊢
          refine ⟨ρ2, M6, er3.mono k8, r8, wpE_mono Γ el ρ2 M6 _ _ (fun d M7 ⟨hD7, hzz, q⟩ w H9 k9 r9 rp9 => ?_) q⟩
          obtain ⟨vs, h1, h2⟩ := r9.list hD7
          exact ⟨vs, h1, by rw [← h2.length]; exact hzz, rest1.length, by simp, mu M7 Da (.lst (acc5 ++ [d])), acc5 ++ [d], rest1, hl1', rfl, hr1', (((k6.trans k7).trans k8).trans k9).trans (Kp.wrote hD7), r9.wroteL hD7 (h2.append (.cons rp9 .nil)), mu_same, q⟩
theorem snd_comp2 {elt tg iter tg1 iter1 : Expr} {ifs ifs1 : List Expr} {scope : Scope} {mt : Bool} {own own1 : List Nat} {pos : Pos} {t t1 : Tg} {it it1 : Ix} {fs fs1 : Option Tx} {el : Ex} (G : Std X N B sc top k Γ) (hns : notSetD iter = true) (hns1 : notSetD iter1 = true) (hi : PI X tg iter (liftI X.K (wpI Γ it)))
    (hb : blkC N sc scope (own.map fun j => (N.getD j "", j)) = true) (ho : ∀ j ∈ tgNs t, j ∈ own) (ho1 : ∀ j ∈ tgNs t1, j ∈ own1) (hoo : ∀ j ∈ own1, j ∈ own)
    (hg : ∀ (s : Shared) (H : Hp) (C : Addr) (cl : List (Str × Addr)) (fp : List Addr), PG (X.blk s H scope (compEnvC scope cl C X.env) fp) tg (liftG (tgNs t) (wpG t)))
    (ht : ∀ (s : Shared) (H : Hp) (C : Addr) (cl : List (Str × Addr)) (fp : List Addr), PTs (X.blk s H scope (compEnvC scope cl C X.env) fp) ifs (liftT (wpTo Γ fs)))
    (hi1 : ∀ (s : Shared) (H : Hp) (C : Addr) (cl : List (Str × Addr)) (fp : List Addr), PI (X.blk s H scope (compEnvC scope cl C X.env) fp) tg1 iter1 (liftI X.K (wpI Γ it1)))
    (hg1 : ∀ (s : Shared) (H : Hp) (C : Addr) (cl : List (Str × Addr)) (fp : List Addr), PG (X.blk s H scope (compEnvC scope cl C X.env) fp) tg1 (liftG (tgNs t1) (wpG t1)))
    (ht1 : ∀ (s : Shared) (H : Hp) (C : Addr) (cl : List (Str × Addr)) (fp : List Addr), PTs (X.blk s H scope (compEnvC scope cl C X.env) fp) ifs1 (liftT (wpTo Γ fs1)))
    (he : ∀ (s : Shared) (H : Hp) (C : Addr) (cl : List (Str × Addr)) (fp : List Addr), PE (X.blk s H scope (compEnvC scope cl C X.env) fp) elt (liftE (wpE Γ el))) :
    PE X (.ListComp elt [⟨tg, iter, ifs, 0⟩, ⟨tg1, iter1, ifs1, 0⟩] scope pos) (liftE (wpE Γ (.comp2 mt own own1 t it fs t1 it1 fs1 el))) := by
  have ok : BlkOk X.N X.env.scope scope (own.map fun j => (N.getD j "", j)) := by rw [G.hN, G.scope]; exact blkOk_by hb
  have e2 : (own.map fun j => (N.getD j "", j)).map (·.2) = own := by rw [List.map_map]; exact List.map_id _
  refine PE.imp (pe_lc2 G.calm (by rw [G.hN]; exact G.nd) hi ok (vs1 := own1) (by rw [e2]; exact hoo) hg ht hi1 hg1 ht1 he (by intro x; cases iter <;> first | rfl | cases hns) (by intro env x; cases iter1 <;> first | rfl | cases hns1)) fun σ H Q h => ?_
  rw [e2]
  exact comp2_imp ho ho1 h
theorem snd_comp {elt tg iter : Expr} {ifs : List Expr} {scope : Scope} {mt : Bool} {own : List Nat} {pos : Pos} {t : Tg} {it : Ix} {fs : Option Tx} {el : Ex} (G : Std X N B sc top k Γ) (hns : notSetD iter = true) (hi : PI X tg iter (liftI X.K (wpI Γ it)))
    (hb : blkC N sc scope (own.map fun j => (N.getD j "", j)) = true) (ho : ∀ j ∈ tgNs t, j ∈ own)
    (hg : ∀ (s : Shared) (H : Hp) (C : Addr) (cl : List (Str × Addr)) (fp : List Addr), PG (X.blk s H scope (compEnvC scope cl C X.env) fp) tg (liftG (tgNs t) (wpG t)))
    (ht : ∀ (s : Shared) (H : Hp) (C : Addr) (cl : List (Str × Addr)) (fp : List Addr), PTs (X.blk s H scope (compEnvC scope cl C X.env) fp) ifs (liftT (wpTo Γ fs)))
    (he : ∀ (s : Shared) (H : Hp) (C : Addr) (cl : List (Str × Addr)) (fp : List Addr), PE (X.blk s H scope (compEnvC scope cl C X.env) fp) elt (liftE (wpE Γ el))) :
    PE X (.ListComp elt [⟨tg, iter, ifs, 0⟩] scope pos) (liftE (wpE Γ (.comp mt own t it fs el))) := by
  have ok : BlkOk X.N X.env.scope scope (own.map fun j => (N.getD j "", j)) := by rw [G.hN, G.scope]; exact blkOk_by hb
  have e2 : (own.map fun j => (N.getD j "", j)).map (·.2) = own := by rw [List.map_map]; exact List.map_id _
  refine PE.imp (pe_lc G.calm (by rw [G.hN]; exact G.nd) hi ok hg ht he (by intro x; cases iter <;> first | rfl | cases hns)) fun σ H Q h => ?_
  rw [e2]
  exact comp_imp ho h
end
section
variable {N : List Str} {B : List String} {k : Nat} {Γ : Gam}
theorem notStars_of {sc : Scope} : ∀ {es : List Expr} {ps : List Ex}, chkEs N B sc ps es = true → noStars es = true
  | es, [], h => by rw [chkEs, List.isEmpty_iff] at h; subst h; rfl
  | es, p :: ps, h => by
    unfold chkEs at h
    split at h
    · simp only [Bool.and_eq_true] at h
      rw [noStars, h.1.1, notStars_of (ps := ps) h.2]; rfl
    · cases h
theorem str_eq {x : Str} {m : String} (h : (x == Str.ofString m) = true) : x = Str.ofString m := by rw [beq_iff_eq] at h; exact h
mutual
theorem sndE : ∀ (p : Ex) (X : Cx) [XK X] (sc : Scope) (top : Bool) (e : Expr), Std X N B sc top k Γ → chkE N B sc p e = true → PE X e (liftE (wpE Γ p))
  | .v i, X, _, sc, top, e, G, h => by
    unfold chkE at h
    split at h
    · simp only [Bool.and_eq_true, decide_eq_true_eq] at h
      exact snd_v G h.1.1 h.1.2 h.2
    · cases h
  | .k c, X, _, sc, top, e, G, h => by
    unfold chkE at h
    split at h
    · exact snd_k h
    · cases h
  | .g y, X, _, sc, top, e, G, h => by
    unfold chkE at h
    split at h
    · simp only [Bool.and_eq_true, beq_iff_eq] at h
      obtain ⟨⟨rfl, h1⟩, h2⟩ := h
      exact snd_g G h1 h2
    · cases h
  | .bin op a b, X, _, sc, top, e, G, h => by
    unfold chkE at h
    split at h
    · simp only [Bool.and_eq_true, decide_eq_true_eq] at h
      obtain ⟨⟨rfl, h1⟩, h2⟩ := h
      exact snd_bin (sndE a X sc top _ G h1) (sndE b X sc top _ G h2)
    · cases h
  | .neg a, X, _, sc, top, e, G, h => by
    unfold chkE at h
    split at h
    · exact snd_neg (sndE a X sc top _ G h)
    · cases h
  | .cmp op a b, X, _, sc, top, e, G, h => by
    unfold chkE at h
    split at h
    · simp only [Bool.and_eq_true, decide_eq_true_eq, Bool.not_eq_true'] at h
      obtain ⟨⟨⟨rfl, hm⟩, h1⟩, h2⟩ := h
      exact snd_cmp G hm (sndE a X sc top _ G h1) (sndE b X sc top _ G h2)
    · cases h
  | .chain o p a b c, X, _, sc, top, e, G, h => by
    unfold chkE at h
    split at h
    · simp only [Bool.and_eq_true, decide_eq_true_eq, Bool.not_eq_true'] at h
      obtain ⟨⟨⟨⟨⟨rfl, rfl⟩, hm⟩, h1⟩, h2⟩, h3⟩ := h
      exact snd_chain G hm (sndE a X sc top _ G h1) (sndE b X sc top _ G h2) (sndE c X sc top _ G h3)
    · cases h
  | .isN yes a, X, _, sc, top, e, G, h => by
    unfold chkE at h
    split at h
    · simp only [Bool.and_eq_true, decide_eq_true_eq] at h
      obtain ⟨⟨rfl, h1⟩, h2⟩ := h
      exact snd_isN h1 (sndE a X sc top _ G h2)
    · cases h
  | .and es, X, _, sc, top, e, G, h => by
    unfold chkE at h
    split at h
    · simp only [Bool.and_eq_true, Bool.not_eq_true'] at h
      refine PE.imp (snd_andV (fun z => by rw [z] at h; cases h.1) (sndEs es X sc top _ G h.2)) fun σ H Q ⟨ρ, M, er, rm, q⟩ => ?_
      rw [wpE] at q
      exact ⟨ρ, M, er, rm, q⟩
    · cases h
  | .or es, X, _, sc, top, e, G, h => by
    unfold chkE at h
    split at h
    · simp only [Bool.and_eq_true, Bool.not_eq_true'] at h
      refine PE.imp (snd_orV (fun z => by rw [z] at h; cases h.1) (sndEs es X sc top _ G h.2)) fun σ H Q ⟨ρ, M, er, rm, q⟩ => ?_
      rw [wpE] at q
      exact ⟨ρ, M, er, rm, q⟩
    · cases h
  | .not a, X, _, sc, top, e, G, h => by
    unfold chkE at h
    split at h
    · exact snd_not (sndE a X sc top _ G h)
    · cases h
  | .ite t a b, X, _, sc, top, e, G, h => by
    unfold chkE at h
    split at h
    · simp only [Bool.and_eq_true] at h
      exact snd_ite (sndT t X sc top _ G h.1.1) (sndE a X sc top _ G h.1.2) (sndE b X sc top _ G h.2)
    · cases h
  | .tup es, X, _, sc, top, e, G, h => by
    unfold chkE at h
    split at h
    · exact snd_tup ((sndEs es X sc top _ G h).pa (notStars_of h))
    · cases h
  | .lst es, X, _, sc, top, e, G, h => by
    unfold chkE at h
    split at h
    · exact snd_lst ((sndEs es X sc top _ G h).pa (notStars_of h))
    · cases h
  | .lstM es, X, _, sc, top, e, G, h => by
    unfold chkE at h
    split at h
    · exact snd_lstM ((sndEs es X sc top _ G h).pa (notStars_of h))
    · cases h
  | .dctM t, X, _, sc, top, e, G, h => by
    unfold chkE at h
    split at h
    · exact snd_dctM
    · cases h
  | .sub a i, X, _, sc, top, e, G, h => by
    unfold chkE at h
    split at h
    · simp only [Bool.and_eq_true] at h
      exact snd_sub G h.1.1 (sndE a X sc top _ G h.1.2) (sndE i X sc top _ G h.2)
    · cases h
  | .slc a lo hi, X, _, sc, top, e, G, h => by
    unfold chkE at h
    split at h
    · simp only [Bool.and_eq_true] at h
      exact snd_slc (sndE a X sc top _ G h.1.1) (sndO lo X sc top _ G h.1.2) (sndO hi X sc top _ G h.2)
    · cases h
  | .isi a ty, X, _, sc, top, e, G, h => by
    unfold chkE at h
    split at h
    · simp only [Bool.and_eq_true] at h
      obtain ⟨⟨⟨⟨⟨⟨⟨⟨⟨h1, h2⟩, h3⟩, h4⟩, h5⟩, h6⟩, h7⟩, h8⟩, h9⟩, h10⟩ := h
      exact snd_isi G h1 h2 h3 h4 (sndE a X sc top _ G h5) h6 h7 h8 h9 h10
    · cases h
  | .bi n es, X, _, sc, top, e, G, h => by
    unfold chkE at h
    split at h
    · simp only [Bool.and_eq_true] at h
      obtain ⟨⟨⟨⟨h1, h2⟩, h3⟩, h4⟩, h5⟩ := h
      exact snd_bi G h1 h2 h3 h4 (notStars_of h5) ((sndEs es X sc top _ G h5).pa (notStars_of h5))
    · cases h
  | .call n es, X, _, sc, top, e, G, h => by
    unfold chkE at h
    split at h
    · next f l pos =>
      simp only [Bool.and_eq_true] at h
      obtain ⟨h1, h2⟩ := h
      have hp := sndEs es X sc top _ G h2
      split at h1
      · simp only [Bool.and_eq_true, beq_iff_eq] at h1
        obtain ⟨⟨rfl, h3⟩, h4⟩ := h1
        exact snd_call G h3 h4 (notStars_of h2) hp.len (hp.pa (notStars_of h2))
      · cases h1
    · cases h
  | .mth T m o es, X, _, sc, top, e, G, h => by
    unfold chkE at h
    split at h
    · next f x l pos =>
      simp only [Bool.and_eq_true] at h
      obtain ⟨⟨h1, h2⟩, h3⟩ := h
      have hp := sndEs es X sc top _ G h3
      have hs := notStars_of h3
      split at h1
      · next q a ap =>
        simp only [Bool.and_eq_true, beq_iff_eq] at h1
        obtain ⟨⟨⟨rfl, h4⟩, h5⟩, h6⟩ := h1
        have ho := sndE o X sc top _ G h5
        have hl : (ap.endLine == pos.line) = true := by rw [beq_iff_eq]; exact h6
        unfold mthOk at h2
        simp only [Bool.or_eq_true, Bool.and_eq_true, beq_iff_eq] at h2
        rcases h2 with ⟨⟨rfl, hm⟩, hn⟩ | ⟨⟨rfl, rfl⟩, hn⟩
        · have hm : m ∈ ["append", "extend", "index"] := by simpa using hm
          simp only [List.mem_cons, List.not_mem_nil, or_false] at hm
          have hn : (x :: l).length < 20 := by omega
          rcases hm with rfl | rfl | rfl
          · exact snd_lm PySem.F.slot_list_append PySem.F.type_list_append mt_app ho h4 hl hs hn (hp.pa hs)
          · exact snd_lm PySem.F.slot_list_extend PySem.F.type_list_extend mt_ext ho h4 hl hs hn (hp.pa hs)
          · exact snd_lm PySem.F.slot_list_index PySem.F.type_list_index (mt_idx G.hu) ho h4 hl hs hn (hp.pa hs)
        · rcases hn with hn | hn
          · obtain rfl : l = [] := List.eq_nil_of_length_eq_zero (by simpa using hn)
            match es, hp with
            | [r], hp =>
              rw [noStars, Bool.and_eq_true] at hs
              exact snd_dg1 G ho hp.1 h4 hl hs.1
            | _ :: _ :: _, hp => exact hp.2.elim
          · obtain ⟨y, rfl⟩ := List.length_eq_one_iff.mp (show l.length = 1 by simpa using hn)
            match es, hp with
            | [r, s], hp =>
              simp only [noStars, Bool.and_eq_true, Bool.and_true] at hs
              exact snd_dg2 G ho hp.1 hp.2.1 h4 hl hs.1 hs.2
            | [_], hp => exact hp.2.elim
            | _ :: _ :: _ :: _, hp => exact hp.2.2.elim
      · cases h1
    · cases h
  | .comp mt own tg it ifs el, X, _, sc, top, e, G, h => by
    unfold chkE at h
    split at h
    · simp only [Bool.and_eq_true] at h
      obtain ⟨⟨⟨⟨⟨⟨h1, h2⟩, h3⟩, h4⟩, h5⟩, h6⟩, h7⟩ := h
      refine snd_comp G h1 (sndI it X sc top _ _ G h2) h3 (fun j hj => ?_) (fun s H C cl fp => sndG _ (G.blk s H _ cl C fp) tg _ h5) (fun s H C cl fp => sndTo ifs _ _ false _ (G.blk s H _ cl C fp) h6) (fun s H C cl fp => sndE el _ _ false _ (G.blk s H _ cl C fp) h7)
      simpa using (List.all_eq_true.mp h4) j hj
    · cases h
  | .comp2 mt own own1 tg it ifs tg1 it1 ifs1 el, X, _, sc, top, e, G, h => by
    unfold chkE at h
    split at h
    · simp only [Bool.and_eq_true] at h
      obtain ⟨⟨⟨⟨⟨⟨⟨⟨⟨⟨⟨⟨h1, h2⟩, h3⟩, h4⟩, h5⟩, h6⟩, h7⟩, h8⟩, h9⟩, h10⟩, h11⟩, h12⟩, h13⟩ := h
      exact snd_comp2 G h1 h2 (sndI it X sc top _ _ G h3) h4 (fun j hj => by simpa using (List.all_eq_true.mp h5) j hj) (fun j hj => by simpa using (List.all_eq_true.mp h6) j hj) (fun j hj => by simpa using (List.all_eq_true.mp h7) j hj)
        (fun s H C cl fp => sndG _ (G.blk s H _ cl C fp) tg _ h8) (fun s H C cl fp => sndTo ifs _ _ false _ (G.blk s H _ cl C fp) h9) (fun s H C cl fp => sndI it1 _ _ false _ _ (G.blk s H _ cl C fp) h10) (fun s H C cl fp => sndG _ (G.blk s H _ cl C fp) tg1 _ h11) (fun s H C cl fp => sndTo ifs1 _ _ false _ (G.blk s H _ cl C fp) h12) (fun s H C cl fp => sndE el _ _ false _ (G.blk s H _ cl C fp) h13)
    · cases h
  | .bf n es, X, _, sc, top, e, G, h => by
    unfold chkE at h
    split at h
    · simp only [Bool.and_eq_true] at h
      obtain ⟨h1, h2⟩ := h
      split at h1
      · simp only [Bool.and_eq_true, beq_iff_eq] at h1
        obtain ⟨⟨rfl, h3⟩, h4⟩ := h1
        exact snd_bf G h3 h4 (notStars_of h2) ((sndEs es X sc top _ G h2).pa (notStars_of h2))
      · cases h1
    · cases h
  | .disp ks es, X, _, sc, top, e, G, h => by
    unfold chkE at h
    split at h
    · simp only [Bool.and_eq_true, decide_eq_true_eq, Bool.not_eq_true'] at h
      obtain ⟨⟨⟨⟨⟨h1, h2⟩, h3⟩, h4⟩, h5⟩, h6⟩ := h
      exact snd_disp h1 h2 (fun z => by rw [z] at h3; cases h3) h4 h5 (sndEs es X sc top _ G h6)
    · cases h
  | .lkeys a, X, _, sc, top, e, G, h => by
    unfold chkE at h
    split at h
    · simp only [Bool.and_eq_true, beq_iff_eq] at h
      obtain ⟨⟨⟨⟨⟨⟨h1, h2⟩, h3⟩, rfl⟩, h5⟩, h6⟩, h7⟩ := h
      exact snd_lkeys G h1 h2 h3 h5 (by rw [beq_iff_eq]; exact h6) (sndE a X sc top _ G h7)
    · cases h
  | .callK n es ks kes, X, _, sc, top, e, G, h => by
    unfold chkE at h
    split at h
    · next f l kws pos =>
      simp only [Bool.and_eq_true] at h
      obtain ⟨⟨h1, h2⟩, h3⟩ := h
      split at h1
      · simp only [Bool.and_eq_true, beq_iff_eq] at h1
        obtain ⟨⟨rfl, h4⟩, h5⟩ := h1
        exact snd_callK G h4 h5 (notStars_of h2) (sndEs es X sc top _ G h2) (sndKs kes ks X sc top kws G h3)
      · cases h1
    · cases h
theorem sndKs : ∀ (ps : List Ex) (ks : List Str) (X : Cx) [XK X] (sc : Scope) (top : Bool) (kws : List Keyword), Std X N B sc top k Γ → chkKs N B sc ps ks kws = true → PKs X Γ kws ks ps
  | [], ks, X, _, sc, top, kws, G, h => by
    rw [chkKs, Bool.and_eq_true, List.isEmpty_iff, List.isEmpty_iff] at h
    obtain ⟨rfl, rfl⟩ := h
    exact True.intro
  | p :: ps, ks, X, _, sc, top, kws, G, h => by
    unfold chkKs at h
    split at h
    · simp only [Bool.and_eq_true, decide_eq_true_eq] at h
      exact ⟨h.1.1, sndE p X sc top _ G h.1.2, sndKs ps _ X sc top _ G h.2⟩
    · cases h
theorem sndEs : ∀ (ps : List Ex) (X : Cx) [XK X] (sc : Scope) (top : Bool) (es : List Expr), Std X N B sc top k Γ → chkEs N B sc ps es = true → PEs X Γ es ps
  | [], X, _, sc, top, es, G, h => by
    rw [chkEs, List.isEmpty_iff] at h; subst h; exact True.intro
  | p :: ps, X, _, sc, top, es, G, h => by
    unfold chkEs at h
    split at h
    · simp only [Bool.and_eq_true] at h
      exact ⟨sndE p X sc top _ G h.1.2, sndEs ps X sc top _ G h.2⟩
    · cases h
theorem sndO : ∀ (p : Option Ex) (X : Cx) [XK X] (sc : Scope) (top : Bool) (e : Option Expr), Std X N B sc top k Γ → chkO N B sc p e = true → PO X e (liftO (wpO Γ p))
  | none, X, _, sc, top, e, G, h => by
    rw [chkO, Option.isNone_iff_eq_none] at h; subst h; exact snd_oN
  | some p, X, _, sc, top, e, G, h => by
    unfold chkO at h
    split at h
    · exact snd_oS (sndE p X sc top _ G h)
    · cases h
theorem sndT : ∀ (p : Tx) (X : Cx) [XK X] (sc : Scope) (top : Bool) (e : Expr), Std X N B sc top k Γ → chkT N B sc p e = true → PT X e (liftT (wpT Γ p))
  | .e a, X, _, sc, top, e, G, h => by
    rw [chkT, Bool.and_eq_true] at h
    exact snd_te h.1 (sndE a X sc top _ G h.2)
  | .not t, X, _, sc, top, e, G, h => by
    unfold chkT at h
    split at h
    · exact snd_tnot (sndT t X sc top _ G h)
    · cases h
  | .and ts, X, _, sc, top, e, G, h => by
    unfold chkT at h
    split at h
    · simp only [Bool.and_eq_true, Bool.not_eq_true'] at h
      refine PT.imp (snd_andT (fun z => by rw [z] at h; cases h.1) (sndTs ts X sc top _ G h.2)).pt fun σ H Q ⟨ρ, M, er, rm, q⟩ => ?_
      rw [wpT] at q
      exact ⟨ρ, M, er, rm, q⟩
    · cases h
  | .or ts, X, _, sc, top, e, G, h => by
    unfold chkT at h
    split at h
    · simp only [Bool.and_eq_true, Bool.not_eq_true'] at h
      refine PT.imp (snd_orT (fun z => by rw [z] at h; cases h.1) (sndTs ts X sc top _ G h.2)).pt fun σ H Q ⟨ρ, M, er, rm, q⟩ => ?_
      rw [wpT] at q
      exact ⟨ρ, M, er, rm, q⟩
    · cases h
  | .cmp op a b, X, _, sc, top, e, G, h => by
    unfold chkT at h
    split at h
    · simp only [Bool.and_eq_true, decide_eq_true_eq, Bool.not_eq_true'] at h
      obtain ⟨⟨⟨rfl, hm⟩, h1⟩, h2⟩ := h
      exact snd_tcmp G hm (sndE a X sc top _ G h1) (sndE b X sc top _ G h2)
    · cases h
  | .chain o p a b c, X, _, sc, top, e, G, h => by
    unfold chkT at h
    split at h
    · simp only [Bool.and_eq_true, decide_eq_true_eq, Bool.not_eq_true'] at h
      obtain ⟨⟨⟨⟨⟨rfl, rfl⟩, hm⟩, h1⟩, h2⟩, h3⟩ := h
      exact snd_tchain G hm (sndE a X sc top _ G h1) (sndE b X sc top _ G h2) (sndE c X sc top _ G h3)
    · cases h
  | .isN yes a, X, _, sc, top, e, G, h => by
    unfold chkT at h
    split at h
    · simp only [Bool.and_eq_true, decide_eq_true_eq] at h
      obtain ⟨⟨rfl, h1⟩, h2⟩ := h
      exact snd_tisN h1 (sndE a X sc top _ G h2)
    · cases h
theorem sndTs : ∀ (ps : List Tx) (X : Cx) [XK X] (sc : Scope) (top : Bool) (es : List Expr), Std X N B sc top k Γ → chkTs N B sc ps es = true → PTx X Γ es ps
  | [], X, _, sc, top, es, G, h => by
    rw [chkTs, List.isEmpty_iff] at h; subst h; exact True.intro
  | p :: ps, X, _, sc, top, es, G, h => by
    unfold chkTs at h
    split at h
    · simp only [Bool.and_eq_true] at h
      exact ⟨sndT p X sc top _ G h.1, sndTs ps X sc top _ G h.2⟩
    · cases h
theorem sndTo : ∀ (p : Option Tx) (X : Cx) [XK X] (sc : Scope) (top : Bool) (es : List Expr), Std X N B sc top k Γ → chkTo N B sc p es = true → PTs X es (liftT (wpTo Γ p))
  | none, X, _, sc, top, es, G, h => by
    rw [chkTo, List.isEmpty_iff] at h; subst h
    refine tests_imp pts_nil fun σ H Q ⟨ρ, M, er, rm, q⟩ => ?_
    rw [wpTo] at q
    exact q H .refl rm
  | some p, X, _, sc, top, es, G, h => by
    unfold chkTo at h
    split at h
    · refine tests_imp (pts_one (sndT p X sc top _ G h)) fun σ H Q ⟨ρ, M, er, rm, q⟩ => ?_
      rw [wpTo] at q
      exact ⟨ρ, M, er, rm, q⟩
    · cases h
theorem sndI : ∀ (p : Ix) (X : Cx) [XK X] (sc : Scope) (top : Bool) (tg e : Expr), Std X N B sc top k Γ → chkI N B sc p e = true → PI X tg e (liftI X.K (wpI Γ p))
  | .s a, X, _, sc, top, tg, e, G, h => by
    rw [chkI] at h
    exact snd_it G (sndE a X sc top _ G h)
  | .rng es, X, _, sc, top, tg, e, G, h => by
    unfold chkI at h
    split at h
    · simp only [Bool.and_eq_true, Bool.or_eq_true, beq_iff_eq] at h
      obtain ⟨⟨⟨⟨h1, h2⟩, h3⟩, h4⟩, h5⟩ := h
      have hp := sndEs es X sc top _ G h5
      exact snd_rng G h1 h2 h3 h4 (notStars_of h5) (hp.pa (notStars_of h5)) hp.len
    · cases h
end
end
end Vc
/-! Statements. -/
namespace Vc
open PySem PySem.Spec PyProof.Rows L2
def notComp : Expr → Bool
  | .ListComp _ _ _ _ => false
  | .SetComp _ _ _ _ => false
  | .DictComp _ _ _ _ _ => false
  | _ => true
def funB (sc : Scope) : Bool := match sc.kind with | .function => true | _ => false
/-- a ListComp that takes its name's place -/
def lcB (sc : Scope) (x : Str) (p : Pos) : Expr → Bool
  | .ListComp _ _ scope pos => decide (sc.names.lookup x = some .local) && p.line == pos.line && !(scope.names.any fun (n, k) => n == x && (k == .local || k == .cell))
  | _ => false
def isTup : Expr → Bool
  | .Tuple _ _ _ => true
  | .List _ _ => true
  | _ => false
/-- a tuple of constants: stored in sequence -/
def foldB : Expr → Bool
  | .Tuple vs _ _ => vs.all (foldedForSure 8)
  | _ => false
def parNames (N : List Str) (sc : Scope) (l : Nat) : List Nat → List Expr → Bool
  | [], es => es.isEmpty
  | i :: is, es => match es with | .Name x p :: r => decide (N[i]? = some x) && decide (sc.names.lookup x = some .local) && p.line == l && parNames N sc l is r | _ => false
def parB (N : List Str) (sc : Scope) (is : List Nat) (ts vs : List Expr) : Bool :=
  (is.length == 2 || is.length == 3) && decide is.Nodup && funB sc && parNames N sc ((ts.head?.map (·.pos.line)).getD 0) is ts && vs.length == is.length && !vs.all (foldedForSure 8) && !vs.all (constantsAlone 8)
mutual
def chkS (N : List Str) (B : List String) (sc : Scope) (top : Bool) : Sm → Stmt → Bool
  | .asg t e, st => match st with
    | .Assign [tg] val pos => chkE N B sc e val && (match t with
      | .n i => match tg with
        | .Name x p => decide (N[i]? = some x) && locB sc top x && funB sc && (notComp val || lcB sc x p val)
        | _ => false
      | .t l => chkG N sc top (.t l) tg && notComp val && (!isTup val || foldB val))
    | _ => false
  | .par is es, st => match st with
    | .Assign [.Tuple ts _ _] (.Tuple vs _ _) pos => parB N sc is ts vs && chkEs N B sc es vs
    | _ => false
  | .set o i e, st => match st with
    | .Assign [.Subscript x y _] val pos => notComp val && notSlice y && chkE N B sc o x && chkE N B sc i y && chkE N B sc e val
    | _ => false
  | .aug i op e, st => match st with
    | .AugAssign (.Name x _) o val pos => decide (o = op) && (decide (op = .Add) || decide (op = .Sub)) && decide (N[i]? = some x) && locB sc top x && chkE N B sc e val
    | _ => false
  | .augS _ _ _ _, _ => false
  | .ex e, st => match st with
    | .Expr val pos => notComp val && chkE N B sc e val
    | _ => false
  | .ret e, st => match st with
    | .Return (some val) pos => chkE N B sc e val
    | _ => false
  | .retN, st => match st with
    | .Return none pos => true
    | _ => false
  | .ite t a b, st => match st with
    | .If c x y pos => chkT N B sc t c && chkSs N B sc top a x && chkSs N B sc top b y
    | _ => false
  | .for_ tg it body, st => match st with
    | .For t i b [] pos => notSetD i && chkG N sc top tg t && chkI N B sc it i && chkSs N B sc top body b
    | _ => false
  | .while_ t body, st => match st with
    | .While c b [] pos => chkT N B sc t c && chkSs N B sc top body b
    | _ => false
  | .brk, st => match st with | .Break _ => true | _ => false
  | .cont, st => match st with | .Continue _ => true | _ => false
  | .pass, st => match st with | .Pass _ => true | .Expr (.Constant (.str _) _ _) _ => true | _ => false
  | .frz _, _ => false
def chkSs (N : List Str) (B : List String) (sc : Scope) (top : Bool) : List Sm → List Stmt → Bool
  | [], l => l.isEmpty
  | .frz _ :: ss, l => chkSs N B sc top ss l
  | s :: ss, l => match l with | x :: r => chkS N B sc top s x && chkSs N B sc top ss r | _ => false
end
variable [KF]
def liftEnd (M : Mp) (H : Hp) (D : Ends) : EndD where
  nx ρ M' := ∀ σ' H', Kp M H M' H' → RelM M' H' → EnvR M' H' ρ σ' → D.nx σ' H'
  rt := VKD M H D.rt
  bk ρ M' := ∀ σ' H', Kp M H M' H' → RelM M' H' → EnvR M' H' ρ σ' → D.bk σ' H'
  ct ρ M' := ∀ σ' H', Kp M H M' H' → RelM M' H' → EnvR M' H' ρ σ' → D.ct σ' H'
theorem liftEnd_le {M M' : Mp} {H H' : Hp} {D : Ends} (k : Kp M H M' H') : (liftEnd M H D).Le (liftEnd M' H' D) where
  nx ρ M1 q σ1 H1 k1 := q σ1 H1 (k.trans k1)
  rt d M1 q v H1 k1 := q v H1 (k.trans k1)
  bk ρ M1 q σ1 H1 k1 := q σ1 H1 (k.trans k1)
  ct ρ M1 q σ1 H1 k1 := q σ1 H1 (k.trans k1)
def liftSt (w : Env' → Mp → EndD → Prop) : TS := fun D σ H => ∃ ρ M, EnvR M H ρ σ ∧ RelM M H ∧ w ρ M (liftEnd M H D)
section
variable {X : Cx} [XK X] {N : List Str} {B : List String} {sc : Scope} {top : Bool} {k : Nat} {Γ : Gam}
theorem PS.imp {st : Stmt} {t t' : TS} (h : PS X st t) (m : ∀ D σ H, t' D σ H → t D σ H) : PS X st t' := ⟨fun pins s σ H D I q => h.run pins s σ H D I (m _ _ _ q)⟩
theorem PSs.imp {st : List Stmt} {t t' : TS} (h : PSs X st t) (m : ∀ D σ H, t' D σ H → t D σ H) : PSs X st t' := ⟨fun pins s σ H D I q => h.run pins s σ H D I (m _ _ _ q)⟩
theorem sw_not {e : Expr} {t : Option Expr} {l : Nat} {env : Env} (h : notComp e = true) : swapsWith e t l env = pure false := by
  cases e <;> first | rfl | cases h
theorem funB_ok (G : Std X N B sc top k Γ) (h : funB sc = true) : X.env.scope.kind = .function := by
  rw [G.scope]
  unfold funB at h
  split at h
  · assumption
  · cases h
theorem asg_imp {te : TE} {t : Tg} {e : Ex} (hte : ∀ σ H Q, liftE (wpE Γ e) σ H Q → te σ H Q) {D : Ends} {σ : L2.St} {H : Hp} (h : liftSt (wpS Γ (.asg t e)) D σ H) : tAsg te (liftG (tgNs t) (wpG t)) D σ H := by
  obtain ⟨ρ, M, er, rm, h⟩ := h
  rw [wpS] at h
  refine hte _ _ _ ⟨ρ, M, er, rm, wpE_mono Γ e ρ M _ _ (fun d M1 q v H1 kp r1 rp => ?_) h⟩
  exact ⟨d, ρ, M1, rp, er.mono kp, r1, wpG_mono t d ρ M1 _ _ (fun ρ1 q σ1 er1 _ => q σ1 H1 kp r1 er1) q⟩
theorem snd_asgN {i : Nat} {x : Str} {e : Expr} {p : Ex} {pos pos' : Pos} (G : Std X N B sc top k Γ) (hN : N[i]? = some x) (hl : locB sc top x = true) (hc : notComp e = true) (he : PE X e (liftE (wpE Γ p))) : PS X (.Assign [.Name x pos'] e pos) (liftSt (wpS Γ (.asg (.n i) p))) := by
  obtain ⟨h1, h2⟩ := locB_ok G hl
  refine PS.imp (ps_set (i := i) (by rw [G.hN]; exact G.nd) (by rw [G.hN]; exact hN) h1 he (sw_not hc) h2) fun D σ H h => ?_
  obtain ⟨ρ, M, er, rm, h⟩ := h
  rw [wpS] at h
  refine ⟨ρ, M, er, rm, wpE_mono Γ p ρ M _ _ (fun d M1 q v H1 kp r1 rp => ?_) h⟩
  rw [wpG] at q
  exact q _ H1 kp r1 ((er.mono kp).set rp)
theorem snd_asgC {i : Nat} {x : Str} {e : Expr} {mt : Bool} {own : List Nat} {tg : Tg} {it : Ix} {fs : Option Tx} {el : Ex} {pos pos' : Pos} (G : Std X N B sc top k Γ) (hN : N[i]? = some x) (hk : funB sc = true) (hl : lcB sc x pos' e = true)
    (h : chkE N B sc (.comp mt own tg it fs el) e = true) : PS X (.Assign [.Name x pos'] e pos) (liftSt (wpS Γ (.asg (.n i) (.comp mt own tg it fs el)))) := by
  unfold chkE at h
  split at h
  · next y t ix c s pos2 =>
    simp only [Bool.and_eq_true] at h
    obtain ⟨⟨⟨⟨⟨⟨h1, h2⟩, h3⟩, h4⟩, h5⟩, h6⟩, h7⟩ := h
    have hl : (decide (sc.names.lookup x = some .local) && pos'.line == pos2.line && !(s.names.any fun (n, k) => n == x && (k == .local || k == .cell))) = true := hl
    simp only [Bool.and_eq_true, decide_eq_true_eq, Bool.not_eq_true'] at hl
    obtain ⟨⟨l1, l2⟩, l3⟩ := hl
    have l1' : X.env.scope.names.lookup x = some .local := by rw [G.scope]; exact l1
    have ho : ∀ j ∈ tgNs tg, j ∈ own := fun j hj => by simpa using (List.all_eq_true.mp h4) j hj
    have ok : BlkOk X.N X.env.scope s (own.map fun j => (N.getD j "", j)) := by rw [G.hN, G.scope]; exact blkOk_by h3
    have e2 : (own.map fun j => (N.getD j "", j)).map (·.2) = own := by rw [List.map_map]; exact List.map_id _
    have r := ps_setLc (py := pos') (spos := pos) (i := i) G.calm (by rw [G.hN]; exact G.nd) (by rw [G.hN]; exact hN) l1' (sw_true (funB_ok G hk) l1' l2 l3) (sndI it X sc top _ _ G h2) ok (fun s H C cl fp => sndG _ (G.blk s H _ cl C fp) tg _ h5) (fun s H C cl fp => sndTo fs _ _ false _ (G.blk s H _ cl C fp) h6) (fun s H C cl fp => sndE el _ _ false _ (G.blk s H _ cl C fp) h7) (by intro x; cases ix <;> first | rfl | cases h1)
    rw [e2] at r
    refine PS.imp r fun D σ H h => ?_
    obtain ⟨ρ, M, er, rm, h⟩ := h
    rw [wpS] at h
    refine comp_imp ho ⟨ρ, M, er, rm, wpE_mono Γ _ ρ M _ _ (fun d M1 q v H1 kp r1 rp => ?_) h⟩
    rw [wpG] at q
    exact q _ H1 kp r1 ((er.mono kp).set rp)
  · cases h
theorem fold_ok {e : Expr} {env : Env} {x : Value} (h : notSetD e = true) : foldedSetIterable e env x = pure x := by cases e <;> first | rfl | cases h
theorem snd_asgC2 {i : Nat} {x : Str} {e : Expr} {mt : Bool} {own own1 : List Nat} {tg tg1 : Tg} {it it1 : Ix} {fs fs1 : Option Tx} {el : Ex} {pos pos' : Pos} (G : Std X N B sc top k Γ) (hN : N[i]? = some x) (hk : funB sc = true) (hl : lcB sc x pos' e = true)
    (h : chkE N B sc (.comp2 mt own own1 tg it fs tg1 it1 fs1 el) e = true) : PS X (.Assign [.Name x pos'] e pos) (liftSt (wpS Γ (.asg (.n i) (.comp2 mt own own1 tg it fs tg1 it1 fs1 el)))) := by
  unfold chkE at h
  split at h
  · next y t ix c t1 ix1 c1 s pos2 =>
    simp only [Bool.and_eq_true] at h
    obtain ⟨⟨⟨⟨⟨⟨⟨⟨⟨⟨⟨⟨h1, h2⟩, h3⟩, h4⟩, h5⟩, h6⟩, h7⟩, h8⟩, h9⟩, h10⟩, h11⟩, h12⟩, h13⟩ := h
    have hl : (decide (sc.names.lookup x = some .local) && pos'.line == pos2.line && !(s.names.any fun (n, k) => n == x && (k == .local || k == .cell))) = true := hl
    simp only [Bool.and_eq_true, decide_eq_true_eq, Bool.not_eq_true'] at hl
    obtain ⟨⟨l1, l2⟩, l3⟩ := hl
    have l1' : X.env.scope.names.lookup x = some .local := by rw [G.scope]; exact l1
    have ho : ∀ j ∈ tgNs tg, j ∈ own := fun j hj => by simpa using (List.all_eq_true.mp h5) j hj
    have ho1 : ∀ j ∈ tgNs tg1, j ∈ own1 := fun j hj => by simpa using (List.all_eq_true.mp h6) j hj
    have hoo : ∀ j ∈ own1, j ∈ own := fun j hj => by simpa using (List.all_eq_true.mp h7) j hj
    have ok : BlkOk X.N X.env.scope s (own.map fun j => (N.getD j "", j)) := by rw [G.hN, G.scope]; exact blkOk_by h4
    have e2 : (own.map fun j => (N.getD j "", j)).map (·.2) = own := by rw [List.map_map]; exact List.map_id _
    have p1 : ∀ (s' : Shared) (H : Hp) (C : Addr) (cl : List (Str × Addr)) (fp : List Addr), PI (X.blk s' H s (compEnvC s cl C X.env) fp) t1 ix1 (liftI X.K (wpI Γ it1)) := fun s' H C cl fp => sndI it1 _ _ false _ _ (G.blk s' H _ cl C fp) h10
    have r := ps_setLc2 (vs1 := own1) (py := pos') (spos := pos) (i := i) G.calm (by rw [G.hN]; exact G.nd) (by rw [G.hN]; exact hN) l1' (sw_true (funB_ok G hk) l1' l2 l3) (sndI it X sc top _ _ G h3) ok (by rw [e2]; exact hoo) (fun s H C cl fp => sndG _ (G.blk s H _ cl C fp) tg _ h8) (fun s H C cl fp => sndTo fs _ _ false _ (G.blk s H _ cl C fp) h9)
      p1 (fun s H C cl fp => sndG _ (G.blk s H _ cl C fp) tg1 _ h11) (fun s H C cl fp => sndTo fs1 _ _ false _ (G.blk s H _ cl C fp) h12) (fun s H C cl fp => sndE el _ _ false _ (G.blk s H _ cl C fp) h13) (fun _ => fold_ok h1) (fun _ _ => fold_ok h2)
    rw [e2] at r
    refine PS.imp r fun D σ H h => ?_
    obtain ⟨ρ, M, er, rm, h⟩ := h
    rw [wpS] at h
    refine comp2_imp ho ho1 ⟨ρ, M, er, rm, wpE_mono Γ _ ρ M _ _ (fun d M1 q v H1 kp r1 rp => ?_) h⟩
    rw [wpG] at q
    exact q _ H1 kp r1 ((er.mono kp).set rp)
  · cases h
theorem chk_lc {e : Ex} {x : Str} {p : Pos} {val : Expr} (hl : lcB sc x p val = true) (h : chkE N B sc e val = true) : (∃ mt own tg it fs el, e = .comp mt own tg it fs el) ∨ ∃ mt own own1 tg it fs tg1 it1 fs1 el, e = .comp2 mt own own1 tg it fs tg1 it1 fs1 el := by
  unfold lcB at hl
  split at hl
  · unfold chkE at h
    split at h <;> first | (exact .inl ⟨_, _, _, _, _, _, rfl⟩) | (exact .inr ⟨_, _, _, _, _, _, _, _, _, _, rfl⟩) | (exact absurd h (by simp)) | skip
    all_goals first | cases h | (split at h <;> cases h)
  · cases hl
theorem sw_none {ts : List Expr} {val : Expr} {j : Nat} {pos : Pos} {env : Env} (h : (!isTup val || foldB val) = true) : swappedStores [.Tuple ts j pos] val env = pure none := by
  cases val with
  | Tuple vs a b =>
    have hf : vs.all (foldedForSure 8) = true := h
    unfold swappedStores
    dsimp only
    rw [hf]
    split
    · rfl
    · simp only [if_true]
      split
      · rfl
      · split
        · rfl
        · rfl
  | _ => first | rfl | (exact absurd h (by simp [isTup, foldB]))
theorem snd_asgT {tl : List Tg} {tg e : Expr} {p : Ex} {pos : Pos} (G : Std X N B sc top k Γ) (hg : chkG N sc top (.t tl) tg = true) (hc : notComp e = true) (hw : (!isTup e || foldB e) = true) (he : PE X e (liftE (wpE Γ p))) : PS X (.Assign [tg] e pos) (liftSt (wpS Γ (.asg (.t tl) p))) := by
  have pg := sndG X G (.t tl) tg hg
  unfold chkG at hg
  split at hg
  · exact PS.imp (ps_asg he pg (by rw [swapsWithSole]; exact sw_not hc) (sw_none hw) rfl) fun D σ H h => asg_imp (fun _ _ _ q => q) h
  · cases hg
theorem any_star {es : List Expr} {f : Expr → Bool} (hf : ∀ e, notStar e = true → f e = false) (h : noStars es = true) : es.any f = false := by
  induction es with
  | nil => rfl
  | cons e es ih =>
    rw [noStars, Bool.and_eq_true] at h
    rw [List.any_cons, hf e h.1, ih h.2]; rfl
theorem block_fun (G : Std X N B sc top k Γ) (h : funB sc = true) : X.env.blockKind = .function := by
  unfold Env.blockKind; rw [funB_ok G h]; rfl
theorem swp2 {x y : Str} {px py pt p2 : Pos} {a b : Expr} {j j2 : Nat} {env : Env} (hb : env.blockKind = .function) (hx : env.kindOf x = some .local) (hy : env.kindOf y = some .local) (hl : (py.line == px.line) = true) (hxy : x ≠ y) (hs : noStars [a, b] = true)
    (h1 : [a, b].all (foldedForSure 8) = false) (h2 : [a, b].all (constantsAlone 8) = false) : swappedStores [.Tuple [.Name x px, .Name y py] j pt] (.Tuple [a, b] j2 p2) env = pure (some [x, y]) := by
  unfold swappedStores
  dsimp only
  rw [any_star (fun e he => by cases e <;> first | rfl | cases he) hs, h1, h2, hb]
  have hl' : py.line = px.line := by simpa using hl
  have e : ([x, y] : List Str).eraseDups = [x, y] := by simp [List.eraseDups_cons, hxy.symm]
  simp [hx, hy, hl', Expr.pos, e]
theorem swp3 {x y z : Str} {px py pz pt p2 : Pos} {a b c : Expr} {j j2 : Nat} {env : Env} (hb : env.blockKind = .function) (hx : env.kindOf x = some .local) (hy : env.kindOf y = some .local) (hz : env.kindOf z = some .local) (hl : (py.line == px.line) = true) (hl2 : (pz.line == px.line) = true)
    (hxy : x ≠ y) (hxz : x ≠ z) (hyz : y ≠ z) (hs : noStars [a, b, c] = true) (h1 : [a, b, c].all (foldedForSure 8) = false) (h2 : [a, b, c].all (constantsAlone 8) = false) :
    swappedStores [.Tuple [.Name x px, .Name y py, .Name z pz] j pt] (.Tuple [a, b, c] j2 p2) env = pure (some [x, y, z]) := by
  unfold swappedStores
  dsimp only
  rw [any_star (fun e he => by cases e <;> first | rfl | cases he) hs, h1, h2, hb]
  have hl' : py.line = px.line := by simpa using hl
  have hl2' : pz.line = px.line := by simpa using hl2
  have e : ([x, y, z] : List Str).eraseDups = [x, y, z] := by simp [List.eraseDups_cons, hxy.symm, hxz.symm, hyz.symm]
  simp [hx, hy, hz, hl', hl2', Expr.pos, e]
theorem snd_par {is : List Nat} {ts vs : List Expr} {ps : List Ex} {j j2 : Nat} {pt p2 pos : Pos} (G : Std X N B sc top k Γ) (h : parB N sc is ts vs = true) (hs : noStars vs = true) (hn : ps.length = vs.length) (ha : PA X vs (liftA (wpEs Γ ps))) : PS X (.Assign [.Tuple ts j pt] (.Tuple vs j2 p2) pos) (liftSt (wpS Γ (.par is ps))) := by
  unfold parB at h
  simp only [Bool.and_eq_true, Bool.or_eq_true, beq_iff_eq, decide_eq_true_eq, Bool.not_eq_true'] at h
  obtain ⟨⟨⟨⟨⟨⟨h1, h2⟩, h3⟩, h4⟩, h5⟩, h6⟩, h7⟩ := h
  have hb := block_fun G h3
  have ndX : X.N.Nodup := by rw [G.hN]; exact G.nd
  have ne : ∀ {a b : Nat} {x y : Str}, a ≠ b → N[a]? = some x → N[b]? = some y → x ≠ y := fun {a b x y} hab ha hb z => by
    subst z
    obtain ⟨l1, e1⟩ := List.getElem?_eq_some_iff.mp ha
    obtain ⟨l2, e2⟩ := List.getElem?_eq_some_iff.mp hb
    exact hab ((List.getElem?_inj l1 G.nd).mp (ha.trans hb.symm))
  rcases h1 with h1 | h1
  · match is, ts, vs, h1, h2, h4, h5, h6, h7, hs, hn, ha with
    | [i, l], ts, vs, _, h2, h4, h5, h6, h7, hs, hn, ha =>
      unfold parNames at h4
      split at h4
      · unfold parNames at h4
        split at h4
        · simp only [parNames, Bool.and_eq_true, decide_eq_true_eq, List.isEmpty_iff] at h4
          obtain ⟨⟨⟨i1, i2⟩, i3⟩, ⟨⟨l1, l2⟩, l3⟩, rfl⟩ := h4
          match vs, h5 with
          | [a, b], _ =>
            have hil : i ≠ l := by simpa using h2
            refine PS.imp (ps_par G.calm ndX (by rw [G.hN]; exact i1) (by rw [G.hN]; exact l1) hil (by rw [G.scope]; exact i2) (by rw [G.scope]; exact l2) ha
              (swp2 hb (by unfold Env.kindOf; rw [G.scope]; exact i2) (by unfold Env.kindOf; rw [G.scope]; exact l2) l3 (ne hil i1 l1) hs h6 h7) (by rw [swapsWithSole]; exact sw_not rfl)) fun D σ H ⟨ρ, M, er, rm, q⟩ => ?_
            rw [wpS] at q
            refine ⟨ρ, M, er, rm, wpEs_mono Γ ps ρ M _ _ (fun ds M1 ⟨z, q⟩ vs H1 kp r1 rp => ?_) (wpEs_len q)⟩
            match ds, z.trans hn, q, rp with
            | [d, e], _, q, rp =>
              obtain ⟨v, u, rfl, rv, ru⟩ := reps2 rp
              exact ⟨v, u, rfl, q _ H1 kp r1 (((er.mono kp).set rv).set ru)⟩
        · simp at h4
      · cases h4
  · match is, ts, vs, h1, h2, h4, h5, h6, h7, hs, hn, ha with
    | [i, l, m], ts, vs, _, h2, h4, h5, h6, h7, hs, hn, ha =>
      unfold parNames at h4
      split at h4
      · unfold parNames at h4
        split at h4
        · unfold parNames at h4
          split at h4
          · simp only [parNames, Bool.and_eq_true, decide_eq_true_eq, List.isEmpty_iff] at h4
            obtain ⟨⟨⟨i1, i2⟩, i3⟩, ⟨⟨l1, l2⟩, l3⟩, ⟨⟨m1, m2⟩, m3⟩, rfl⟩ := h4
            match vs, h5 with
            | [a, b, c], _ =>
              have hil : i ≠ l ∧ i ≠ m ∧ l ≠ m := by simp at h2; exact ⟨h2.1.1, h2.1.2, h2.2⟩
              refine PS.imp (ps_par3 G.calm ndX (by rw [G.hN]; exact i1) (by rw [G.hN]; exact l1) (by rw [G.hN]; exact m1) hil.1 hil.2.1 hil.2.2 (by rw [G.scope]; exact i2) (by rw [G.scope]; exact l2) (by rw [G.scope]; exact m2) ha
                (swp3 hb (by unfold Env.kindOf; rw [G.scope]; exact i2) (by unfold Env.kindOf; rw [G.scope]; exact l2) (by unfold Env.kindOf; rw [G.scope]; exact m2) l3 m3 (ne hil.1 i1 l1) (ne hil.2.1 i1 m1) (ne hil.2.2 l1 m1) hs h6 h7) (by rw [swapsWithSole]; exact sw_not rfl)) fun D σ H ⟨ρ, M, er, rm, q⟩ => ?_
              rw [wpS] at q
              refine ⟨ρ, M, er, rm, wpEs_mono Γ ps ρ M _ _ (fun ds M1 ⟨z, q⟩ vs H1 kp r1 rp => ?_) (wpEs_len q)⟩
              match ds, z.trans hn, q, rp with
              | [d, e, f], _, q, rp =>
                obtain ⟨v, u, w, rfl, rv, ru, rw'⟩ := reps3 rp
                exact ⟨v, u, w, rfl, q _ H1 kp r1 ((((er.mono kp).set rv).set ru).set rw')⟩
          · simp at h4
        · simp at h4
      · cases h4
/-! o[i] = v -/
theorem sameK_ok {x : D} {k : Key} (e : keyD x = some k) {y : D} {q : Key} (h : keyD y = some q) : sameK false y x = decide (q = k) := by unfold sameK; simp only [Bool.false_eq_true, if_false, h, e]
theorem sameT_ok {x : D} {k : List Key} (e : tkeyD x = some k) {y : D} {q : List Key} (h : tkeyD y = some q) : sameK true y x = decide (q = k) := by unfold sameK; simp only [if_true, h, e]
theorem repK_any {M : Mp} {H : Hp} {x : D} {k : Key} (e : keyD x = some k) : ∀ {kvs : List (D × D)} {l : List (Key × V)}, RepK M H kvs l → (kvs.any fun kv => sameK false kv.1 x) = (l.any fun kv => decide (kv.1 = k))
  | [], _, h => by rw [RepK] at h; subst h; rfl
  | (y, c) :: r, l, h => by
    rw [RepK] at h
    obtain ⟨q, w, t, rfl, h1, h2, h3⟩ := h
    rw [List.any_cons, List.any_cons, repK_any e h3, sameK_ok e h1]
theorem repT_any {M : Mp} {H : Hp} {x : D} {k : List Key} (e : tkeyD x = some k) : ∀ {kvs : List (D × D)} {l : List (List Key × V)}, RepT M H kvs l → (kvs.any fun kv => sameK true kv.1 x) = (l.any fun kv => decide (kv.1 = k))
  | [], _, h => by rw [RepT] at h; subst h; rfl
  | (y, c) :: r, l, h => by
    rw [RepT] at h
    obtain ⟨q, w, t, rfl, h1, h2, h3⟩ := h
    rw [List.any_cons, List.any_cons, repT_any e h3, sameT_ok e h1]
theorem repK_map {M : Mp} {H : Hp} {x d : D} {v : V} {k : Key} (e : keyD x = some k) (hd : Rep M H d v) : ∀ {kvs : List (D × D)} {l : List (Key × V)}, RepK M H kvs l → RepK M H (kvs.map fun kv => if sameK false kv.1 x = true then (kv.1, d) else kv) (l.map fun kv => if kv.1 = k then (kv.1, v) else kv)
  | [], _, h => by rw [RepK] at h; subst h; rw [List.map_nil, List.map_nil, RepK]
  | (y, c) :: r, l, h => by
    rw [RepK] at h
    obtain ⟨q, w, t, rfl, h1, h2, h3⟩ := h
    have ih := repK_map e hd h3
    rw [List.map_cons, List.map_cons]
    simp only [sameK_ok e h1, decide_eq_true_eq]
    by_cases c1 : q = k
    · rw [if_pos c1, if_pos c1, RepK]; exact ⟨q, v, _, rfl, h1, hd, ih⟩
    · rw [if_neg c1, if_neg c1, RepK]; exact ⟨q, w, _, rfl, h1, h2, ih⟩
theorem repT_map {M : Mp} {H : Hp} {x d : D} {v : V} {k : List Key} (e : tkeyD x = some k) (hd : Rep M H d v) : ∀ {kvs : List (D × D)} {l : List (List Key × V)}, RepT M H kvs l → RepT M H (kvs.map fun kv => if sameK true kv.1 x = true then (kv.1, d) else kv) (l.map fun kv => if kv.1 = k then (kv.1, v) else kv)
  | [], _, h => by rw [RepT] at h; subst h; rw [List.map_nil, List.map_nil, RepT]
  | (y, c) :: r, l, h => by
    rw [RepT] at h
    obtain ⟨q, w, t, rfl, h1, h2, h3⟩ := h
    have ih := repT_map e hd h3
    rw [List.map_cons, List.map_cons]
    simp only [sameT_ok e h1, decide_eq_true_eq]
    by_cases c1 : q = k
    · rw [if_pos c1, if_pos c1, RepT]; exact ⟨q, v, _, rfl, h1, hd, ih⟩
    · rw [if_neg c1, if_neg c1, RepT]; exact ⟨q, w, _, rfl, h1, h2, ih⟩
theorem repK_end {M : Mp} {H : Hp} {x d : D} {v : V} {k : Key} (e : keyD x = some k) (hd : Rep M H d v) : ∀ {kvs : List (D × D)} {l : List (Key × V)}, RepK M H kvs l → RepK M H (kvs ++ [(x, d)]) (l ++ [(k, v)])
  | [], _, h => by
    rw [RepK] at h; subst h
    show RepK M H [(x, d)] [(k, v)]
    rw [RepK]; exact ⟨k, v, [], rfl, e, hd, by rw [RepK]⟩
  | (y, c) :: r, l, h => by
    rw [RepK] at h
    obtain ⟨q, w, t, rfl, h1, h2, h3⟩ := h
    rw [List.cons_append, List.cons_append, RepK]
    exact ⟨q, w, _, rfl, h1, h2, repK_end e hd h3⟩
theorem repT_end {M : Mp} {H : Hp} {x d : D} {v : V} {k : List Key} (e : tkeyD x = some k) (hd : Rep M H d v) : ∀ {kvs : List (D × D)} {l : List (List Key × V)}, RepT M H kvs l → RepT M H (kvs ++ [(x, d)]) (l ++ [(k, v)])
  | [], _, h => by
    rw [RepT] at h; subst h
    show RepT M H [(x, d)] [(k, v)]
    rw [RepT]; exact ⟨k, v, [], rfl, e, hd, by rw [RepT]⟩
  | (y, c) :: r, l, h => by
    rw [RepT] at h
    obtain ⟨q, w, t, rfl, h1, h2, h3⟩ := h
    rw [List.cons_append, List.cons_append, RepT]
    exact ⟨q, w, _, rfl, h1, h2, repT_end e hd h3⟩
theorem putK_rep {M : Mp} {H : Hp} {x d : D} {v : V} {k : Key} (e : keyD x = some k) (hd : Rep M H d v) {kvs : List (D × D)} {l : List (Key × V)} (h : RepK M H kvs l) : RepK M H (putD false kvs x d) (putK l k v) := by
  unfold putD putK
  rw [repK_any e h]
  split
  · exact repK_map e hd h
  · exact repK_end e hd h
theorem putT_rep {M : Mp} {H : Hp} {x d : D} {v : V} {k : List Key} (e : tkeyD x = some k) (hd : Rep M H d v) {kvs : List (D × D)} {l : List (List Key × V)} (h : RepT M H kvs l) : RepT M H (putD true kvs x d) (putK l k v) := by
  unfold putD putK
  rw [repT_any e h]
  split
  · exact repT_map e hd h
  · exact repT_end e hd h
def liftO3 : TSet := fun o i v H Q => ∃ M x y d, Rep M H x o ∧ Rep M H y i ∧ Rep M H d v ∧ RelM M H ∧ setD x y d M fun M' => ∀ H', Kp M H M' H' → RelM M' H' → Q H'
theorem sset (hu : X.A.units + 65 < cLine) : PSet X liftO3 := by
  intro pins s σ H o i v ov iv u Q I ro ri rv ⟨M, x, y, d, hx, hy, hd, rm, h⟩
  cases x with
  | ref a =>
    rw [Rep] at hx; subst hx
    cases e : M a with
    | none => simp [setD, e] at h
    | some q =>
      cases q with
      | lst xs =>
        simp only [setD, e] at h
        obtain ⟨k, j, rfl, hj, q⟩ := h
        rw [Rep] at hy; subst hy
        obtain ⟨vs, h1, h2⟩ := rm.list e
        refine set_list pins s σ H _ _ v ov iv u Q I ro ri rv ⟨a, vs, k, j, rfl, rfl, h1, by rw [← h2.length]; exact hj, ?_⟩
        exact q _ (Kp.wrote e) (rm.wroteL e (h2.set j hd))
      | dct t kvs =>
        simp only [setD, e] at h
        obtain ⟨ok, hz, q⟩ := h
        cases t with
        | false =>
          obtain ⟨l, h1, h2⟩ := rm a _ e
          obtain ⟨k, hk⟩ := Option.isSome_iff_exists.mp (show (keyD y).isSome = true from ok)
          refine set_dict (by omega) pins s σ H _ _ v ov iv u Q I ro ri rv ⟨a, _, rfl, .inl ⟨l, k, h1, keyD_rep hy hk, by rw [repK_len h2]; exact hz, rfl⟩, ?_⟩
          exact q _ (Kp.wrote e) (rm.put (Kp.wrote e) ⟨_, upd_same, RepK.mono (Kp.wrote e) _ _ (putK_rep hk hd h2)⟩)
        | true =>
          obtain ⟨l, h1, h2⟩ := rm a _ e
          obtain ⟨k, hk⟩ := Option.isSome_iff_exists.mp (show (tkeyD y).isSome = true from ok)
          obtain ⟨b, rfl, hb⟩ := tkeyD_rep hy hk
          refine set_dict (by omega) pins s σ H _ _ v ov iv u Q I ro ri rv ⟨a, _, rfl, .inr ⟨l, k, b, h1, rfl, hb, by rw [repT_len h2]; exact hz, rfl⟩, ?_⟩
          exact q _ (Kp.wrote e) (rm.put (Kp.wrote e) ⟨_, upd_same, RepT.mono (Kp.wrote e) _ _ (putT_rep hk hd h2)⟩)
      | ins _ _ => simp [setD, e] at h
  | _ => exact h.elim
theorem snd_set {o i e : Expr} {p q r : Ex} {pos' pos : Pos} (G : Std X N B sc top k Γ) (hc : notComp e = true) (ho : PE X o (liftE (wpE Γ p))) (hi : PE X i (liftE (wpE Γ q))) (he : PE X e (liftE (wpE Γ r))) : PS X (.Assign [.Subscript o i pos'] e pos) (liftSt (wpS Γ (.set p q r))) := by
  refine ⟨fun pins s σ H D I ⟨ρ, M, er, rm, h⟩ => ?_⟩
  rw [wpS] at h
  refine wpAny_Assign_Subscript (thn (he.run pins s σ H (fun v H1 => ∃ M1 d, Kp M H M1 H1 ∧ RelM M1 H1 ∧ Rep M1 H1 d v ∧ _) I ⟨ρ, M, er, rm, wpE_mono Γ r ρ M _ _ (fun d M1 q v H1 kp r1 rp => ⟨M1, d, kp, r1, rp, q⟩) h⟩) fun u s1 ⟨x, H1, I1, rx, M1, d, kp, r1, rp, h⟩ => ?_) (sw_not hc)
  refine thn (ho.run pins s1 σ H1 (fun v H2 => ∃ M2 d2, Kp M1 H1 M2 H2 ∧ RelM M2 H2 ∧ Rep M2 H2 d2 v ∧ _) I1 ⟨ρ, M1, er.mono kp, r1, wpE_mono Γ p ρ M1 _ _ (fun d M2 q v H1 kp r1 rp => ⟨M2, d, kp, r1, rp, q⟩) h⟩) fun u2 s2 ⟨x2, H2, I2, rx2, M2, d2, kp2, r2, rp2, h⟩ => ?_
  refine thn (hi.run pins s2 σ H2 (fun v H3 => ∃ M3 d3, Kp M2 H2 M3 H3 ∧ RelM M3 H3 ∧ Rep M3 H3 d3 v ∧ _) I2 ⟨ρ, M2, er.mono (kp.trans kp2), r2, wpE_mono Γ q ρ M2 _ _ (fun d M2 q v H1 kp r1 rp => ⟨M2, d, kp, r1, rp, q⟩) h⟩) fun u3 s3 ⟨x3, H3, I3, rx3, M3, d3, kp3, r3, rp3, h⟩ => ?_
  have k3 := (kp.trans kp2).trans kp3
  refine thn (sset G.hu pins s3 σ H3 x2 x3 x u2 u3 u _ I3 rx2 rx3 rx ⟨M3, d2, d3, d, Rep.mono kp3 _ _ rp2, rp3, Rep.mono (kp2.trans kp3) _ _ rp, r3, setD_mono (fun M4 q H4 k4 r4 => ?_) h⟩) fun _ s4 ⟨H4, I4, q⟩ => ⟨σ, H4, I4, q⟩
  exact q σ H4 (k3.trans k4) r4 (er.mono (k3.trans k4))
theorem snd_aug {i : Nat} {x : Str} {op : Operator} {e : Expr} {p : Ex} {pos' pos : Pos} (G : Std X N B sc top k Γ) (hop : op = .Add ∨ op = .Sub) (hN : N[i]? = some x) (hl : locB sc top x = true) (he : PE X e (liftE (wpE Γ p))) : PS X (.AugAssign (.Name x pos') op e pos) (liftSt (wpS Γ (.aug i op p))) := by
  obtain ⟨h1, h2⟩ := locB_ok G hl
  have go : ∀ {f : Int → Int → Int}, PIp X op (ipI f) → (∀ a b M K, binD op (.int a) (.int b) M K → K (.int (f a b)) M) → PS X (.AugAssign (.Name x pos') op e pos) (liftSt (wpS Γ (.aug i op p))) := fun {f} hp hf => by
    refine PS.imp (ps_aug (i := i) (by rw [G.hN]; exact G.nd) (by rw [G.hN]; exact hN) h1 he hp h2) fun D σ H ⟨ρ, M, er, rm, h⟩ => ?_
    rw [wpS] at h
    obtain ⟨y, hy, h⟩ := h
    obtain ⟨v, e1, rp⟩ := er.2 i y hy
    refine ⟨v, e1, ρ, M, er, rm, wpE_mono Γ p ρ M _ _ (fun d M1 ⟨⟨a, b, ea, eb⟩, q⟩ u H1 kp r1 rp2 => ?_) h⟩
    subst ea eb
    rw [Rep] at rp rp2
    exact ⟨a, b, rp, rp2, hf _ _ _ _ q _ H1 kp r1 ((er.mono kp).set rint)⟩
  rcases hop with rfl | rfl
  · exact go ip_add fun _ _ _ _ q => q
  · exact go ip_sub fun _ _ _ _ q => q
theorem snd_for {t it : Expr} {b : List Stmt} {tg : Tg} {ix : Ix} {body : List Sm} {pos : Pos} (G : Std X N B sc top k Γ) (hp : PassesOwn (model X.prog X.w) X.A X.env X.xe) (hns : notSetD it = true) (hi : PI X t it (liftI X.K (wpI Γ ix))) (hg : PG X t (liftG (tgNs tg) (wpG tg)))
    (hb : PSs X b (liftSt (wpSs Γ body))) : PS X (.For t it b [] pos) (liftSt (wpS Γ (.for_ tg ix body))) := by
  refine PS.imp (ps_for hp G.calm hi hg hb (by intro x; cases it <;> first | rfl | cases hns)) fun D σ H ⟨ρ, M, er, rm, h⟩ => ?_
  rw [wpS] at h
  refine ⟨ρ, M, er, rm, wpI_mono Γ ix ρ M _ _ (fun xs inv M1 q J H1 kp r1 y => ?_) h⟩
  refine ⟨fun i m σ2 H2 => ∃ ρ2 M2 rest, i + rest.length = xs.length ∧ m = rest.length ∧ rest = xs.drop i ∧ Kp M1 H1 M2 H2 ∧ RelM M2 H2 ∧ EnvR M2 H2 ρ2 σ2 ∧
    forL (fun x ρ1 M2 N => wpG tg x ρ1 M2 fun ρ2 => wpSs Γ body ρ2 M2 ⟨N, (liftEnd M H D).rt, (liftEnd M H D).nx, N⟩) inv (liftEnd M H D).nx rest ρ2 M2, ⟨xs.length, ρ, M1, xs, by simp, rfl, by simp, .refl, r1, er.mono kp, q⟩, ?_⟩
  rintro i m σ2 H2 ⟨ρ2, M2, rest, hl, rfl, hr, k2, r2, er2, c⟩
  cases rest with
  | nil =>
    rw [forL] at c
    have e : i = xs.length := by simpa using hl
    subst e
    exact .inl ⟨y.stop M2 H2 k2 r2 c.1, c.2 σ2 H2 (kp.trans k2) r2 er2⟩
  | cons x rest =>
    rw [forL] at c
    obtain ⟨ci, c⟩ := c
    have hx : xs[i]? = some x := by
      have := congrArg (fun l : List Vc.D => l[0]?) hr
      simpa using this.symm
    have hr' : rest = xs.drop (i + 1) := by
      have := congrArg List.tail hr
      simpa using this
    obtain ⟨g1, g2⟩ := y.go i x M2 H2 hx k2 r2 ci
    refine .inr ⟨g1, fun σ' H' => ∃ m', m' < (x :: rest).length ∧ _, fun σ' H' h => h, fun v H3 yv => ?_⟩
    obtain ⟨k3, r3, rp⟩ := g2 v H3 yv
    refine ⟨x, ρ2, M2, rp, er2.mono k3, r3, wpG_mono tg x _ M2 _ _ (fun ρ3 q σ3 er3 _ => ?_) c⟩
    have k03 := (kp.trans k2).trans k3
    refine ⟨ρ3, M2, er3, r3, wpSs_mono Γ body ρ3 M2 _ _ ⟨?_, ?_, ?_, ?_⟩ q⟩
    · exact fun ρ4 M4 q σ4 H4 k4 r4 er4 => ⟨rest.length, by simp, ρ4, M4, rest, by simp at hl ⊢; omega, rfl, hr', (k2.trans k3).trans k4, r4, er4, q⟩
    · exact fun d M4 q v H4 k4 => q v H4 (k03.trans k4)
    · exact fun ρ4 M4 q σ4 H4 k4 => q σ4 H4 (k03.trans k4)
    · exact fun ρ4 M4 q σ4 H4 k4 r4 er4 => ⟨rest.length, by simp, ρ4, M4, rest, by simp at hl ⊢; omega, rfl, hr', (k2.trans k3).trans k4, r4, er4, q⟩
theorem snd_while {c : Expr} {b : List Stmt} {t : Tx} {body : List Sm} {pos : Pos} (hp : PassesOwn (model X.prog X.w) X.A X.env X.xe) (hc : PT X c (liftT (wpT Γ t))) (hb : PSs X b (liftSt (wpSs Γ body))) : PS X (.While c b [] pos) (liftSt (wpS Γ (.while_ t body))) := by
  refine PS.imp (ps_while hp hc hb) fun D σ H ⟨ρ, M, er, rm, h⟩ => ?_
  rw [wpS] at h
  obtain ⟨n, h⟩ := h
  refine ⟨fun m σ2 H2 => ∃ ρ2 M2, Kp M H M2 H2 ∧ RelM M2 H2 ∧ EnvR M2 H2 ρ2 σ2 ∧ whileL (wpT Γ t) (fun ρ1 M1 N => wpSs Γ body ρ1 M1 ⟨N, (liftEnd M H D).rt, (liftEnd M H D).nx, N⟩) (liftEnd M H D).nx m ρ2 M2, ⟨n, ρ, M, .refl, rm, er, h⟩, ?_⟩
  rintro m σ2 H2 ⟨ρ2, M2, k2, r2, er2, q⟩
  cases m with
  | zero => rw [whileL] at q; exact q.elim
  | succ m =>
    rw [whileL] at q
    refine ⟨ρ2, M2, er2, r2, wpT_mono Γ t ρ2 M2 _ _ (fun b M3 q H3 k3 r3 => ?_) q⟩
    have k03 := k2.trans k3
    cases b with
    | true =>
      simp only [if_true] at q ⊢
      refine ⟨fun σ' H' => ∃ m', m' < m + 1 ∧ _, fun σ' H' h => h, ρ2, M3, er2.mono k3, r3, wpSs_mono Γ body ρ2 M3 _ _ ⟨?_, ?_, ?_, ?_⟩ q⟩
      · exact fun ρ4 M4 q σ4 H4 k4 r4 er4 => ⟨m, by omega, ρ4, M4, k03.trans k4, r4, er4, q⟩
      · exact fun d M4 q v H4 k4 => q v H4 (k03.trans k4)
      · exact fun ρ4 M4 q σ4 H4 k4 => q σ4 H4 (k03.trans k4)
      · exact fun ρ4 M4 q σ4 H4 k4 r4 er4 => ⟨m, by omega, ρ4, M4, k03.trans k4, r4, er4, q⟩
    | false =>
      simp only [Bool.false_eq_true, if_false] at q ⊢
      exact q σ2 H3 k03 r3 (er2.mono k3)
theorem RelM.free' {M : Mp} {H : Hp} (r : RelM M H) {p : Addr} : Kp M H (mdel M p) H ∧ RelM (mdel M p) H := by
  have kp : Kp M H (mdel M p) H := fun a u h n => ⟨.inl h, by unfold mdel; split <;> first | rfl | exact n⟩
  refine ⟨kp, fun a o h => ?_⟩
  have q : a ≠ p := fun z => by subst z; rw [mdel_same] at h; cases h
  rw [mdel_ne q] at h
  exact (r a o h).mono kp fun u h => h
theorem frz_ok {i : Nat} {ss : List Sm} {D : Ends} {σ : L2.St} {H : Hp} (h : liftSt (wpSs Γ (.frz i :: ss)) D σ H) : liftSt (wpSs Γ ss) D σ H := by
  obtain ⟨ρ, M, er, rm, h⟩ := h
  rw [wpSs, wpS] at h
  obtain ⟨a, ha, h⟩ := h
  obtain ⟨kp, rm'⟩ := rm.free' (p := a)
  obtain ⟨v, hv, rv⟩ := er.2 i _ ha
  rw [Rep] at rv; subst rv
  have go : ∀ d, Rep (mdel M a) H d (.ref a) → EnvR (mdel M a) H (ρ.set i (some d)) σ := fun d rd => by
    have := (er.mono kp).set (i := i) rd
    have e : σ.set i (some (.ref a)) = σ := by
      obtain ⟨l, e⟩ := List.getElem?_eq_some_iff.mp hv
      rw [← e]; exact List.set_getElem_self l
    rwa [e] at this
  cases e : M a with
  | none => simp only [e] at h
  | some o =>
    cases o with
    | lst xs =>
      simp only [e] at h
      obtain ⟨vs, h1, h2⟩ := rm.list e
      exact ⟨_, _, go (.lst xs) (by rw [Rep]; exact ⟨a, vs, rfl, mdel_same, .inl h1, Reps.mono kp _ _ h2⟩), rm', wpSs_mono Γ ss _ _ _ _ (liftEnd_le kp) h⟩
    | dct t kvs =>
      simp only [e] at h
      cases t with
      | false =>
        obtain ⟨vs, h1, h2⟩ := rm a _ e
        exact ⟨_, _, go (.dct false kvs) (by rw [Rep]; exact ⟨a, vs, rfl, mdel_same, .inl h1, RepK.mono kp _ _ h2⟩), rm', wpSs_mono Γ ss _ _ _ _ (liftEnd_le kp) h⟩
      | true =>
        obtain ⟨vs, h1, h2⟩ := rm a _ e
        exact ⟨_, _, go (.dct true kvs) (by rw [Rep]; exact ⟨a, vs, rfl, mdel_same, .inl h1, RepT.mono kp _ _ h2⟩), rm', wpSs_mono Γ ss _ _ _ _ (liftEnd_le kp) h⟩
    | ins _ _ => simp only [e] at h
theorem seq_ok {s : Sm} {ss : List Sm} {st : Stmt} {r : List Stmt} (h1 : PS X st (liftSt (wpS Γ s))) (h2 : PSs X r (liftSt (wpSs Γ ss))) : PSs X (st :: r) (liftSt (wpSs Γ (s :: ss))) := by
  refine PSs.imp (pss_cons h1 h2) fun D σ H ⟨ρ, M, er, rm, h⟩ => ?_
  rw [wpSs] at h
  exact ⟨ρ, M, er, rm, wpS_mono Γ s ρ M { liftEnd M H D with nx := fun ρ1 M1 => wpSs Γ ss ρ1 M1 (liftEnd M H D) } (liftEnd M H { D with nx := liftSt (wpSs Γ ss) D }) ⟨fun ρ1 M1 q σ1 H1 k1 r1 er1 => ⟨ρ1, M1, er1, r1, wpSs_mono Γ ss ρ1 M1 _ _ (liftEnd_le k1) q⟩, fun _ _ q => q, fun _ _ q => q, fun _ _ q => q⟩ h⟩
mutual
theorem sndS (hp : PassesOwn (model X.prog X.w) X.A X.env X.xe) (G : Std X N B sc top k Γ) : ∀ (s : Sm) (st : Stmt), chkS N B sc top s st = true → PS X st (liftSt (wpS Γ s))
  | .asg t e, st, h => by
    unfold chkS at h
    split at h
    · simp only [Bool.and_eq_true] at h
      obtain ⟨h1, h2⟩ := h
      split at h2
      · split at h2
        · simp only [Bool.and_eq_true, decide_eq_true_eq, Bool.or_eq_true] at h2
          obtain ⟨⟨⟨h3, h4⟩, h5⟩, h6⟩ := h2
          rcases h6 with h6 | h6
          · exact snd_asgN G h3 h4 h6 (sndE e X sc top _ G h1)
          · rcases chk_lc h6 h1 with ⟨mt, own, tg, it, fs, el, rfl⟩ | ⟨mt, own, own1, tg, it, fs, tg1, it1, fs1, el, rfl⟩
            · exact snd_asgC G h3 h5 h6 h1
            · exact snd_asgC2 G h3 h5 h6 h1
        · cases h2
      · simp only [Bool.and_eq_true] at h2
        exact snd_asgT G h2.1.1 h2.1.2 h2.2 (sndE e X sc top _ G h1)
    · cases h
  | .par is es, st, h => by
    unfold chkS at h
    split at h
    · simp only [Bool.and_eq_true] at h
      have hp := sndEs es X sc top _ G h.2
      exact snd_par G h.1 (notStars_of h.2) hp.len (hp.pa (notStars_of h.2))
    · cases h
  | .set o i e, st, h => by
    unfold chkS at h
    split at h
    · simp only [Bool.and_eq_true] at h
      obtain ⟨⟨⟨⟨h1, h2⟩, h3⟩, h4⟩, h5⟩ := h
      exact snd_set G h1 (sndE o X sc top _ G h3) (sndE i X sc top _ G h4) (sndE e X sc top _ G h5)
    · cases h
  | .aug i op e, st, h => by
    unfold chkS at h
    split at h
    · simp only [Bool.and_eq_true, decide_eq_true_eq, Bool.or_eq_true] at h
      obtain ⟨⟨⟨⟨rfl, h2⟩, h3⟩, h4⟩, h5⟩ := h
      exact snd_aug G h2 h3 h4 (sndE e X sc top _ G h5)
    · cases h
  | .augS _ _ _ _, st, h => by unfold chkS at h; cases h
  | .ex e, st, h => by
    unfold chkS at h
    split at h
    · simp only [Bool.and_eq_true] at h
      refine PS.imp (ps_expr (sndE e X sc top _ G h.2) (sw_not h.1)) fun D σ H ⟨ρ, M, er, rm, q⟩ => ?_
      rw [wpS] at q
      exact ⟨ρ, M, er, rm, wpE_mono Γ e ρ M _ _ (fun d M1 q v H1 kp r1 _ => q σ H1 kp r1 (er.mono kp)) q⟩
    · cases h
  | .ret e, st, h => by
    unfold chkS at h
    split at h
    · refine PS.imp (ps_ret (sndE e X sc top _ G h)) fun D σ H ⟨ρ, M, er, rm, q⟩ => ?_
      rw [wpS] at q
      exact ⟨ρ, M, er, rm, q⟩
    · cases h
  | .retN, st, h => by
    unfold chkS at h
    split at h
    · refine PS.imp ps_retN fun D σ H ⟨ρ, M, er, rm, q⟩ => ?_
      rw [wpS] at q
      exact q _ H .refl rm rnon
    · cases h
  | .ite t a b, st, h => by
    unfold chkS at h
    split at h
    · simp only [Bool.and_eq_true] at h
      refine PS.imp (ps_if (sndT t X sc top _ G h.1.1) (sndSs hp G a _ h.1.2) (sndSs hp G b _ h.2)) fun D σ H ⟨ρ, M, er, rm, q⟩ => ?_
      rw [wpS] at q
      refine ⟨ρ, M, er, rm, wpT_mono Γ t ρ M _ _ (fun c M1 q H1 kp r1 => ?_) q⟩
      cases c with
      | true => exact ⟨ρ, M1, er.mono kp, r1, wpSs_mono Γ a ρ M1 _ _ (liftEnd_le kp) q⟩
      | false => exact ⟨ρ, M1, er.mono kp, r1, wpSs_mono Γ b ρ M1 _ _ (liftEnd_le kp) q⟩
    · cases h
  | .for_ tg it body, st, h => by
    unfold chkS at h
    split at h
    · simp only [Bool.and_eq_true] at h
      obtain ⟨⟨⟨h1, h2⟩, h3⟩, h4⟩ := h
      exact snd_for G hp h1 (sndI it X sc top _ _ G h3) (sndG X G tg _ h2) (sndSs hp G body _ h4)
    · cases h
  | .while_ t body, st, h => by
    unfold chkS at h
    split at h
    · simp only [Bool.and_eq_true] at h
      exact snd_while hp (sndT t X sc top _ G h.1) (sndSs hp G body _ h.2)
    · cases h
  | .brk, st, h => by
    unfold chkS at h
    split at h
    · refine PS.imp ps_break fun D σ H ⟨ρ, M, er, rm, q⟩ => ?_
      rw [wpS] at q
      exact q σ H .refl rm er
    · cases h
  | .cont, st, h => by
    unfold chkS at h
    split at h
    · refine PS.imp ps_continue fun D σ H ⟨ρ, M, er, rm, q⟩ => ?_
      rw [wpS] at q
      exact q σ H .refl rm er
    · cases h
  | .pass, st, h => by
    have go : ∀ {st : Stmt}, PS X st tNext → PS X st (liftSt (wpS Γ .pass)) := fun h => PS.imp h fun D σ H ⟨ρ, M, er, rm, q⟩ => by
      rw [wpS] at q
      exact q σ H .refl rm er
    unfold chkS at h
    split at h
    · exact go ps_pass
    · exact go ps_doc
    · cases h
  | .frz _, st, h => by unfold chkS at h; cases h
theorem sndSs (hp : PassesOwn (model X.prog X.w) X.A X.env X.xe) (G : Std X N B sc top k Γ) : ∀ (ss : List Sm) (l : List Stmt), chkSs N B sc top ss l = true → PSs X l (liftSt (wpSs Γ ss))
  | [], l, h => by
    rw [chkSs, List.isEmpty_iff] at h
    subst h
    refine PSs.imp pss_nil fun D σ H ⟨ρ, M, er, rm, q⟩ => ?_
    rw [wpSs] at q
    exact q σ H .refl rm er
  | s :: ss, l, h => by
    by_cases c : ∃ i, s = .frz i
    · obtain ⟨i, rfl⟩ := c
      rw [chkSs] at h
      exact PSs.imp (sndSs hp G ss l h) fun D σ H q => frz_ok q
    · have h' : ∃ x r, l = x :: r ∧ (chkS N B sc top s x && chkSs N B sc top ss r) = true := by
        cases l with
        | nil => cases s <;> first | (exact absurd ⟨_, rfl⟩ c) | (unfold chkSs at h; cases h)
        | cons x r => cases s <;> first | (exact absurd ⟨_, rfl⟩ c) | (unfold chkSs at h; exact ⟨x, r, rfl, h⟩)
      obtain ⟨x, r, rfl, h'⟩ := h'
      rw [Bool.and_eq_true] at h'
      exact seq_ok (sndS hp G s _ h'.1) (sndSs hp G ss _ h'.2)
end
end
end Vc
/-! A def of the text keeps its contract. -/
namespace Vc
open PySem PySem.Spec PyProof.Rows L2
/-- only what is kept may still be changed -/
def cutM (keep : Addr → Bool) (M : Mp) : Mp := fun a => if keep a = true then M a else none
mutual
/-- things that are not kept are read as they stand, n deep -/
def fzD (keep : Addr → Bool) (M : Mp) : Nat → D → D
  | 0, d => d
  | n + 1, .ref a => if keep a = true then .ref a else match M a with
    | some (.lst xs) => .lst (fzL keep M n xs)
    | _ => .ref a
  | n + 1, .lst xs => .lst (fzL keep M n xs)
  | n + 1, .tup xs => .tup (fzL keep M n xs)
  | _ + 1, d => d
def fzL (keep : Addr → Bool) (M : Mp) : Nat → List D → List D
  | 0, ds => ds
  | _ + 1, [] => []
  | n + 1, d :: ds => fzD keep M (n + 1) d :: fzL keep M (n + 1) ds
end
variable [KF]
section
variable {M : Mp} {H : Hp} {keep : Addr → Bool}
theorem cut_kp : Kp M H (cutM keep M) H := fun a u h n => ⟨.inl h, by unfold cutM; split <;> first | rfl | exact n⟩
theorem cut_rel (r : RelM M H) : RelM (cutM keep M) H := fun a o h => by
  unfold cutM at h
  split at h
  · exact (r a o h).mono cut_kp fun u h => h
  · cases h
mutual
theorem fz_rep (r : RelM M H) : ∀ (n : Nat) (d : D) (v : V), Rep M H d v → Rep (cutM keep M) H (fzD keep M n d) v
  | 0, d, v, h => by rw [fzD]; exact Rep.mono cut_kp _ _ h
  | n + 1, .ref a, v, h => by
    rw [fzD]
    split
    · exact Rep.mono cut_kp _ _ h
    · next hk =>
      split
      · next xs e =>
        obtain ⟨vs, h1, h2⟩ := r.list e
        rw [Rep] at h; subst h
        rw [Rep]
        exact ⟨a, vs, rfl, if_neg hk, .inl h1, fzs_rep r n xs vs h2⟩
      · exact Rep.mono cut_kp _ _ h
  | n + 1, .lst xs, v, h => by
    rw [fzD]
    rw [Rep] at h ⊢
    obtain ⟨a, vs, e, h0, h1, h2⟩ := h
    exact ⟨a, vs, e, by unfold cutM; split <;> first | rfl | exact h0, h1, fzs_rep r n xs vs h2⟩
  | n + 1, .tup xs, v, h => by
    rw [fzD]
    rw [Rep] at h ⊢
    obtain ⟨a, vs, e, h0, h1, h2⟩ := h
    exact ⟨a, vs, e, by unfold cutM; split <;> first | rfl | exact h0, h1, fzs_rep r n xs vs h2⟩
  | n + 1, .non, v, h => by rw [fzD]; exact Rep.mono cut_kp _ _ h; all_goals simp
  | n + 1, .bl _, v, h => by rw [fzD]; exact Rep.mono cut_kp _ _ h; all_goals simp
  | n + 1, .int _, v, h => by rw [fzD]; exact Rep.mono cut_kp _ _ h; all_goals simp
  | n + 1, .str _, v, h => by rw [fzD]; exact Rep.mono cut_kp _ _ h; all_goals simp
  | n + 1, .dct _ _, v, h => by rw [fzD]; exact Rep.mono cut_kp _ _ h; all_goals simp
  | n + 1, .ktp _, v, h => by rw [fzD]; exact Rep.mono cut_kp _ _ h; all_goals simp
  | n + 1, .klst _, v, h => by rw [fzD]; exact Rep.mono cut_kp _ _ h; all_goals simp
theorem fzs_rep (r : RelM M H) : ∀ (n : Nat) (ds : List D) (vs : List V), Reps M H ds vs → Reps (cutM keep M) H (fzL keep M n ds) vs
  | 0, ds, vs, h => by rw [fzL]; exact Reps.mono cut_kp _ _ h
  | n + 1, [], vs, h => by rw [fzL]; exact Reps.mono cut_kp _ _ h
  | n + 1, d :: ds, vs, h => by
    rw [fzL]
    rw [Reps] at h
    obtain ⟨v, t, rfl, h1, h2⟩ := h
    exact .cons (fz_rep r (n + 1) d v h1) (fzs_rep r (n + 1) ds t h2)
end
end
/-- at a return: as it stands, or what is not kept is read for good -/
def retW (K : KD) : KD := fun d M => K d M ∨ ∃ keep n, K (fzD keep M n d) (cutM keep M)
/-- what the defs ahead give -/
structure GOk (P : Program) (w : World) (mg : Str → Option Value) (base : Heap) (B : List String) (k : Nat) (Γ : Gam) : Prop where
  blt : ∀ f ∈ B, mg (Str.ofString f) = none
  con : ∀ x d, Γ.con x = some d → ∃ u v, mg x = some u ∧ RelV v u ∧ ∀ M H, Rep M H d v
  bf : ∀ x id, Γ.bf x = some id → mg x = some (.builtin id)
  kw : ∀ x j ks n sp, Γ.kw x j = some ks → Γ.fn x = some (n, sp) → ∃ f fd ps, FnOk P w KF.K mg base CX0 k f fd ps (spOf n sp) ∧ mg x = some (.ref f) ∧ PySem.W.keepIn KF.K (.ref f) = true ∧ KBinds KF.K fd ps ks (· ++ ·) (· ++ ·)
  fn : ∀ x n sp, Γ.fn x = some (n, sp) → ∃ f fd ps, FnOk P w KF.K mg base CX0 k f fd ps (spOf n sp) ∧ mg x = some (.ref f) ∧ PySem.W.keepIn KF.K (.ref f) = true ∧ Binds KF.K fd ps []
section
variable {P : Program} {w : World} {mg : Str → Option Value} {base : Heap}
theorem GOk.up {B : List String} {k : Nat} {Γ : Gam} (g : GOk P w mg base B k Γ) : GOk P w mg base B (k + 1) Γ := ⟨g.blt, g.con, g.bf, fun x j ks n sp e1 e2 => let ⟨f, fd, ps, F, r⟩ := g.kw x j ks n sp e1 e2; ⟨f, fd, ps, F.mono (Nat.le_succ _), r⟩, fun x n sp e => let ⟨f, fd, ps, F, r⟩ := g.fn x n sp e; ⟨f, fd, ps, F.mono (Nat.le_succ _), r⟩⟩
def Gam.add (Γ : Gam) (x : Str) (n : Nat) (sp : CSp) : Gam := { Γ with fn := fun y => if y = x then some (n, sp) else Γ.fn y, kw := fun y j => if y = x then none else Γ.kw y j }
theorem GOk.add {B : List String} {k : Nat} {Γ : Gam} (g : GOk P w mg base B k Γ) {x : Str} {n : Nat} {sp : CSp} {f : Addr} {fd : FuncData} {ps : List Str} (F : FnOk P w KF.K mg base CX0 k f fd ps (spOf n sp)) (hm : mg x = some (.ref f)) (hk : PySem.W.keepIn KF.K (.ref f) = true) (hb : Binds KF.K fd ps []) :
    GOk P w mg base B k (Γ.add x n sp) := ⟨g.blt, g.con, g.bf, fun y j ks m s e1 e2 => by
  unfold Gam.add at e1 e2
  dsimp only at e1 e2
  split at e1
  · cases e1
  · next h => rw [if_neg h] at e2; exact g.kw y j ks m s e1 e2, fun y m s e => by
  unfold Gam.add at e
  dsimp only at e
  split at e
  · next h => cases e; subst h; exact ⟨f, fd, ps, F, hm, hk, hb⟩
  · exact g.fn y m s e⟩
/-- .. and how it is called by keywords -/
def Gam.addK (Γ : Gam) (x : Str) (n : Nat) (sp : CSp) (kws : List (Nat × List Str)) : Gam := { Γ with fn := fun y => if y = x then some (n, sp) else Γ.fn y, kw := fun y j => if y = x then kws.lookup j else Γ.kw y j }
theorem GOk.addK {B : List String} {k : Nat} {Γ : Gam} (g : GOk P w mg base B k Γ) {x : Str} {n : Nat} {sp : CSp} {kws : List (Nat × List Str)} {f : Addr} {fd : FuncData} {ps : List Str} (F : FnOk P w KF.K mg base CX0 k f fd ps (spOf n sp)) (hm : mg x = some (.ref f)) (hk : PySem.W.keepIn KF.K (.ref f) = true) (hb : Binds KF.K fd ps [])
    (hkw : ∀ j ks, kws.lookup j = some ks → KBinds KF.K fd ps ks (· ++ ·) (· ++ ·)) : GOk P w mg base B k (Γ.addK x n sp kws) := ⟨g.blt, g.con, g.bf, fun y j ks m s e1 e2 => by
  unfold Gam.addK at e1 e2
  dsimp only at e1 e2
  split at e1
  · next h => rw [if_pos h] at e2; cases e2; subst h; exact ⟨f, fd, ps, F, hm, hk, hkw j ks e1⟩
  · next h => rw [if_neg h] at e2; exact g.kw y j ks m s e1 e2, fun y m s e => by
  unfold Gam.addK at e
  dsimp only at e
  split at e
  · next h => cases e; subst h; exact ⟨f, fd, ps, F, hm, hk, hb⟩
  · exact g.fn y m s e⟩
def startD (N : List Str) (ds : List D) : Env' := ds.map some ++ List.replicate (N.length - ds.length) none
theorem start_env {M : Mp} {H : Hp} {N : List Str} {ds : List D} {vs : List V} (h : Reps M H ds vs) : EnvR M H (startD N ds) (L2.start N vs) := by
  have hl := h.length
  refine ⟨by simp [startD, L2.start, hl], fun i d e => ?_⟩
  unfold startD at e
  unfold L2.start
  by_cases c : i < ds.length
  · rw [List.getElem?_append_left (by simpa using c), List.getElem?_map] at e
    rw [List.getElem?_append_left (by rw [List.length_map, ← hl]; exact c), List.getElem?_map]
    cases q : ds[i]? with
    | none => rw [q] at e; cases e
    | some z =>
      rw [q] at e
      cases e
      obtain ⟨v, e1, r⟩ := h.get q
      exact ⟨v, by rw [e1]; rfl, r⟩
  · rw [List.getElem?_append_right (by rw [List.length_map]; omega)] at e
    have := List.getElem?_eq_some_iff.mp e
    obtain ⟨_, e⟩ := this
    simp at e
theorem def_ok {x qual : Str} {st : Stmt} {f : Addr} {fd : FuncData} {N ps : List Str} {k n : Nat} {B : List String} {Γ : Gam} {sp : CSp} {ss : List Sm} (F : Fun KF.K x qual st f fd) (S : FnScope N ps (defScope st)) (g : GOk P w mg base B k Γ) (hn : ps.length = n)
    (hc : chkSs N B (defScope st) true ss (defBody st) = true) (h : ∀ ds M Q, sp ds M Q → ds.length = n → wpSs Γ ss (startD N ds) M ⟨fun _ M' => retW Q .non M', retW Q, fun _ _ => False, fun _ _ => False⟩) :
    FnOk P w KF.K mg base CX0 (k + 1) f fd ps (spOf n sp) := by
  refine F.ok S (fun vs H Q E q => q.1.trans hn.symm) fun cdv A outer s H vs Q E hr q => ?_
  obtain ⟨hl, M, ds, rp, rm, K0, q, m⟩ := q
  haveI : XK (cxOf CX0 P w KF.K mg base N qual (defScope st) f cdv A outer s H E).nox := ⟨rfl⟩
  have G : Std (cxOf CX0 P w KF.K mg base N qual (defScope st) f cdv A outer s H E).nox N B (defScope st) true k Γ :=
    ⟨rfl, rfl, S.nd, rfl, hr, g.blt, fun _ _ => rfl, g.con, g.bf, g.kw, g.fn⟩
  refine ⟨_, sndSs PassesOwn.never G ss _ hc, startD N ds, M, start_env rp, rm, wpSs_mono Γ ss _ M _ _ ?_ (h ds M K0 q (by rw [rp.length]; exact hl))⟩
  have go : ∀ d M' v H', retW K0 d M' → Kp M H M' H' → RelM M' H' → Rep M' H' d v → Q v H' := fun d M' v H' q kp r1 rp => by
    rcases q with q | ⟨keep, i, q⟩
    · exact m _ _ q v H' kp r1 rp
    · exact m _ _ q v H' (kp.trans cut_kp) (cut_rel r1) (fz_rep r1 i d v rp)
  exact ⟨fun ρ M' q σ' H' kp r1 _ => go _ _ _ H' q kp r1 rnon, fun d M' q v H' kp r1 rp => go _ _ _ _ q kp r1 rp, fun _ _ z => z.elim, fun _ _ z => z.elim⟩
end
end Vc
/-! Words for working out what is asked. -/
namespace Vc
open PySem PySem.Spec L2
variable {Γ : Gam} {ρ : Env'} {M : Mp} {E : EndD}
def Post (Q : KD) : EndD := ⟨fun _ M' => retW Q .non M', retW Q, fun _ _ => False, fun _ _ => False⟩
theorem ret_of {Q : KD} {d : D} {M : Mp} (h : Q d M) : retW Q d M := .inl h
theorem ret_fz {Q : KD} {d : D} {M : Mp} (keep : Addr → Bool) (n : Nat) (h : Q (fzD keep M n d) (cutM keep M)) : retW Q d M := .inr ⟨keep, n, h⟩
theorem wSs_nil : wpSs Γ [] ρ M E = E.nx ρ M := by rw [wpSs]
theorem wSs_cons {s : Sm} {ss : List Sm} : wpSs Γ (s :: ss) ρ M E = wpS Γ s ρ M { E with nx := fun ρ1 M1 => wpSs Γ ss ρ1 M1 E } := by rw [wpSs]
theorem wS_asg {t : Tg} {e : Ex} : wpS Γ (.asg t e) ρ M E = wpE Γ e ρ M fun d M1 => wpG t d ρ M1 fun ρ1 => E.nx ρ1 M1 := by rw [wpS]
theorem wS_par {l : List Nat} {es : List Ex} : wpS Γ (.par l es) ρ M E = wpEs Γ es ρ M fun ds M1 => E.nx (setL ρ l ds) M1 := by rw [wpS]
theorem wS_set {o i e : Ex} : wpS Γ (.set o i e) ρ M E = wpE Γ e ρ M fun d M1 => wpE Γ o ρ M1 fun x M2 => wpE Γ i ρ M2 fun y M3 => setD x y d M3 fun M4 => E.nx ρ M4 := by rw [wpS]
theorem wS_aug {i : Nat} {op : Operator} {e : Ex} : wpS Γ (.aug i op e) ρ M E = ∃ x, ρ[i]? = some (some x) ∧ wpE Γ e ρ M fun y M1 => (∃ a b, x = .int a ∧ y = .int b) ∧ binD op x y M1 fun z M2 => E.nx (ρ.set i (some z)) M2 := by rw [wpS]
theorem wS_ex {e : Ex} : wpS Γ (.ex e) ρ M E = wpE Γ e ρ M fun _ M1 => E.nx ρ M1 := by rw [wpS]
theorem wS_ret {e : Ex} : wpS Γ (.ret e) ρ M E = wpE Γ e ρ M E.rt := by rw [wpS]
theorem wS_retN : wpS Γ .retN ρ M E = E.rt .non M := by rw [wpS]
theorem wS_ite {t : Tx} {a b : List Sm} : wpS Γ (.ite t a b) ρ M E = wpT Γ t ρ M fun c M1 => if c = true then wpSs Γ a ρ M1 E else wpSs Γ b ρ M1 E := by rw [wpS]
theorem wS_brk : wpS Γ .brk ρ M E = E.bk ρ M := by rw [wpS]
theorem wS_cont : wpS Γ .cont ρ M E = E.ct ρ M := by rw [wpS]
theorem wS_pass : wpS Γ .pass ρ M E = E.nx ρ M := by rw [wpS]
theorem wS_frz {i : Nat} : wpS Γ (.frz i) ρ M E = ∃ a, ρ[i]? = some (some (.ref a)) ∧ match M a with
    | some (.lst xs) => E.nx (ρ.set i (some (.lst xs))) (mdel M a)
    | some (.dct t kvs) => E.nx (ρ.set i (some (.dct t kvs))) (mdel M a)
    | _ => False := by rw [wpS] <;> rfl
/-- first these, then those -/
theorem wp_cut {a b : List Sm} (P : Env' → Mp → Prop) (h : wpSs Γ a ρ M ⟨P, E.rt, E.bk, E.ct⟩) (k : ∀ ρ M, P ρ M → wpSs Γ b ρ M E) : wpSs Γ (a ++ b) ρ M E := by
  induction a generalizing ρ M with
  | nil => rw [wpSs] at h; exact k _ _ h
  | cons s a ih =>
    rw [wpSs] at h
    rw [List.cons_append, wpSs]
    exact wpS_mono Γ s ρ M ⟨fun ρ1 M1 => wpSs Γ a ρ1 M1 ⟨P, E.rt, E.bk, E.ct⟩, E.rt, E.bk, E.ct⟩ _ ⟨fun ρ1 M1 q => ih q, fun _ _ q => q, fun _ _ q => q, fun _ _ q => q⟩ h
theorem wp_at {l : List Sm} (n : Nat) (P : Env' → Mp → Prop) (h : wpSs Γ (l.take n) ρ M ⟨P, E.rt, E.bk, E.ct⟩) (k : ∀ ρ M, P ρ M → wpSs Γ (l.drop n) ρ M E) : wpSs Γ l ρ M E := by
  have := wp_cut (E := E) P h k
  rwa [List.take_append_drop] at this
theorem forL_inv {turn : D → Env' → Mp → (Env' → Mp → Prop) → Prop} {inv : Mp → Prop} {nx : Env' → Mp → Prop} (mono : ∀ x ρ M N N', (∀ ρ M, N ρ M → N' ρ M) → turn x ρ M N → turn x ρ M N') (xs : List D) (I : Nat → Env' → Mp → Prop) (hinv : ∀ i ρ M, I i ρ M → inv M)
    (ht : ∀ i x ρ M, xs[i]? = some x → I i ρ M → turn x ρ M (I (i + 1))) (hd : ∀ ρ M, I xs.length ρ M → nx ρ M) : ∀ (rest : List D) (i : Nat) (ρ : Env') (M : Mp), rest = xs.drop i → I i ρ M → i + rest.length = xs.length → forL turn inv nx rest ρ M
  | [], i, ρ, M, hr, h, hl => by
    rw [forL]
    have : i = xs.length := by simpa using hl
    subst this
    exact ⟨hinv _ _ _ h, hd _ _ h⟩
  | x :: rest, i, ρ, M, hr, h, hl => by
    rw [forL]
    have hx : xs[i]? = some x := by
      have := congrArg (fun l : List D => l[0]?) hr
      simpa using this.symm
    have hr' : rest = xs.drop (i + 1) := by
      have := congrArg List.tail hr
      simpa using this
    refine ⟨hinv _ _ _ h, mono _ _ _ _ _ (fun ρ1 M1 q => ?_) (ht i x ρ M hx h)⟩
    exact forL_inv mono xs I hinv ht hd rest (i + 1) ρ1 M1 hr' q (by simp at hl; omega)
/-- for: the items xs; I by the turn; P behind it -/
theorem wp_for {tg : Tg} {it : Ix} {body ss : List Sm} (xs : List D) (inv : Mp → Prop) (M1 : Mp) (I : Nat → Env' → Mp → Prop) (P : Env' → Mp → Prop) (hi : ∀ K : List D → (Mp → Prop) → Mp → Prop, K xs inv M1 → wpI Γ it ρ M K) (h0 : I 0 ρ M1) (hinv : ∀ i ρ M, I i ρ M → inv M)
    (ht : ∀ i x ρ2 M2, xs[i]? = some x → I i ρ2 M2 → wpG tg x ρ2 M2 fun ρ3 => wpSs Γ body ρ3 M2 ⟨I (i + 1), E.rt, P, I (i + 1)⟩) (hp : ∀ ρ2 M2, I xs.length ρ2 M2 → P ρ2 M2) (hd : ∀ ρ2 M2, P ρ2 M2 → wpSs Γ ss ρ2 M2 E) : wpSs Γ (.for_ tg it body :: ss) ρ M E := by
  rw [wpSs, wpS]
  refine hi _ ?_
  refine forL_inv (fun x ρ M N N' m q => wpG_mono tg x ρ M _ _ (fun ρ1 q => wpSs_mono Γ body ρ1 M ⟨N, E.rt, fun ρ1 M1 => wpSs Γ ss ρ1 M1 E, N⟩ ⟨N', E.rt, fun ρ1 M1 => wpSs Γ ss ρ1 M1 E, N'⟩ ⟨m, fun _ _ z => z, fun _ _ z => z, m⟩ q) q) xs I hinv (fun i x ρ M hx h => ?_) (fun ρ M h => hd _ _ (hp _ _ h)) xs 0 ρ M1 rfl h0 (by simp)
  exact wpG_mono tg x ρ M _ _ (fun ρ1 q => wpSs_mono Γ body ρ1 M ⟨I (i + 1), E.rt, P, I (i + 1)⟩ ⟨I (i + 1), E.rt, fun ρ1 M1 => wpSs Γ ss ρ1 M1 E, I (i + 1)⟩ ⟨fun _ _ z => z, fun _ _ z => z, fun _ _ z => hd _ _ z, fun _ _ z => z⟩ q) (ht i x ρ M hx h)
/-! expressions -/
variable {Q : KD}
theorem wE_v {i : Nat} : wpE Γ (.v i) ρ M Q = ∃ d, ρ[i]? = some (some d) ∧ Q d M := by rw [wpE]
theorem wE_k {c : D} : wpE Γ (.k c) ρ M Q = Q c M := by rw [wpE]
theorem wE_g {x : Str} : wpE Γ (.g x) ρ M Q = ∃ d, Γ.con x = some d ∧ Q d M := by rw [wpE]
theorem wE_bin {op : Operator} {a b : Ex} : wpE Γ (.bin op a b) ρ M Q = wpE Γ a ρ M fun x M1 => wpE Γ b ρ M1 fun y M2 => binD op x y M2 Q := by rw [wpE]
theorem wE_neg {a : Ex} : wpE Γ (.neg a) ρ M Q = wpE Γ a ρ M fun x M1 => ∃ i, x = .int i ∧ Q (.int (-i)) M1 := by rw [wpE]
theorem wE_cmp {op : CmpOp} {a b : Ex} : wpE Γ (.cmp op a b) ρ M Q = wpE Γ a ρ M fun x M1 => wpE Γ b ρ M1 fun y M2 => cmpD op x y M2 fun c => Q (.bl c) M2 := by rw [wpE]
theorem wE_isN {yes : Bool} {a : Ex} : wpE Γ (.isN yes a) ρ M Q = wpE Γ a ρ M fun x M1 => Q (.bl (if yes then isNone x else !isNone x)) M1 := by rw [wpE]
theorem wE_not {a : Ex} : wpE Γ (.not a) ρ M Q = wpE Γ a ρ M fun x M1 => truD x M1 fun c => Q (.bl (!c)) M1 := by rw [wpE]
theorem wE_and1 {a : Ex} : wpE Γ (.and [a]) ρ M Q = wpE Γ a ρ M Q := by rw [wpE, wpAnd]
theorem wE_and {a b : Ex} {es : List Ex} : wpE Γ (.and (a :: b :: es)) ρ M Q = wpE Γ a ρ M fun x M1 => ∃ c, x = .bl c ∧ if c = true then wpE Γ (.and (b :: es)) ρ M1 Q else Q (.bl false) M1 := by
  rw [wpE, wpAnd]
  simp only [wpE]
theorem wE_or1 {a : Ex} : wpE Γ (.or [a]) ρ M Q = wpE Γ a ρ M Q := by rw [wpE, wpOr]
theorem wE_or {a b : Ex} {es : List Ex} : wpE Γ (.or (a :: b :: es)) ρ M Q = wpE Γ a ρ M fun x M1 => ∃ c, x = .bl c ∧ if c = true then Q (.bl true) M1 else wpE Γ (.or (b :: es)) ρ M1 Q := by
  rw [wpE, wpOr]
  simp only [wpE]
theorem wE_ite {t : Tx} {a b : Ex} : wpE Γ (.ite t a b) ρ M Q = wpT Γ t ρ M fun c M1 => if c = true then wpE Γ a ρ M1 Q else wpE Γ b ρ M1 Q := by rw [wpE]
theorem wE_tup {es : List Ex} : wpE Γ (.tup es) ρ M Q = wpEs Γ es ρ M fun ds M1 => ds.length ≤ sizeLine ∧ Q (.tup ds) M1 := by rw [wpE]
theorem wE_lst {es : List Ex} : wpE Γ (.lst es) ρ M Q = wpEs Γ es ρ M fun ds M1 => ds.length ≤ sizeLine ∧ Q (.lst ds) M1 := by rw [wpE]
theorem wE_lstM {es : List Ex} : wpE Γ (.lstM es) ρ M Q = wpEs Γ es ρ M fun ds M1 => ds.length ≤ sizeLine ∧ ∀ p, M1 p = none → Q (.ref p) (mu M1 p (.lst ds)) := by rw [wpE]
theorem wE_dctM {t : Bool} : wpE Γ (.dctM t) ρ M Q = ∀ p, M p = none → Q (.ref p) (mu M p (.dct t [])) := by rw [wpE]
theorem wE_sub {a i : Ex} : wpE Γ (.sub a i) ρ M Q = wpE Γ a ρ M fun x M1 => wpE Γ i ρ M1 fun y M2 => subD x y M2 Q := by rw [wpE]
theorem wE_slc {a : Ex} {lo hi : Option Ex} : wpE Γ (.slc a lo hi) ρ M Q = wpE Γ a ρ M fun x M1 => wpO Γ lo ρ M1 fun l M2 => wpO Γ hi ρ M2 fun h M3 => slcD x l h M3 Q := by rw [wpE]
theorem wE_isi {a : Ex} {ty : String} : wpE Γ (.isi a ty) ρ M Q = wpE Γ a ρ M fun x M1 => isiD x ty M1 fun c => Q (.bl c) M1 := by rw [wpE]
theorem wE_bi {f : String} {es : List Ex} : wpE Γ (.bi f es) ρ M Q = wpEs Γ es ρ M fun ds M1 => biD f ds M1 Q := by rw [wpE]
theorem wE_call {f : Str} {es : List Ex} : wpE Γ (.call f es) ρ M Q = ∃ sp, Γ.fn f = some (es.length, sp) ∧ wpEs Γ es ρ M fun ds M1 => runC sp ds M1 Q := by rw [wpE]
theorem wE_callK {f : Str} {es kes : List Ex} {ks : List Str} : wpE Γ (.callK f es ks kes) ρ M Q = ∃ sp, Γ.fn f = some (es.length + kes.length, sp) ∧ Γ.kw f es.length = some ks ∧ wpEs Γ es ρ M fun ds M1 => wpEs Γ kes ρ M1 fun zs M2 => runC sp (ds ++ zs) M2 Q := by rw [wpE]
theorem wE_bf {f : Str} {es : List Ex} : wpE Γ (.bf f es) ρ M Q = ∃ id, Γ.bf f = some id ∧ (id = "math.lcm" ∨ id = "math.gcd") ∧ wpEs Γ es ρ M fun ds M1 => bfD id ds M1 Q := by rw [wpE]
theorem wE_mth {T m : String} {o : Ex} {es : List Ex} : wpE Γ (.mth T m o es) ρ M Q = wpE Γ o ρ M fun x M1 => isTyD T x M1 ∧ wpEs Γ es ρ M1 fun ds M2 => mthD (T ++ "." ++ m) x ds M2 Q := by rw [wpE]
theorem wE_disp {ks : List Str} {es : List Ex} : wpE Γ (.disp ks es) ρ M Q = ∀ p, M p = none → wpEs Γ es ρ (mu M p (.dct false [])) fun ds M1 => M1 p = some (.dct false []) ∧ Q (.ref p) (mu M1 p (.dct false (zipK ks ds))) := by rw [wpE]
theorem wE_lkeys {a : Ex} : wpE Γ (.lkeys a) ρ M Q = wpE Γ a ρ M fun x M1 => ∃ kvs, look M1 x = .dct true kvs ∧ Q (.lst (keysOf kvs)) M1 := by rw [wpE]
theorem wEs_nil {K : List D → Mp → Prop} : wpEs Γ [] ρ M K = K [] M := by rw [wpEs]
theorem wEs_cons {K : List D → Mp → Prop} {e : Ex} {es : List Ex} : wpEs Γ (e :: es) ρ M K = wpE Γ e ρ M fun d M1 => wpEs Γ es ρ M1 fun ds M2 => K (d :: ds) M2 := by rw [wpEs]
theorem wO_none {K : Option Int → Mp → Prop} : wpO Γ none ρ M K = K none M := by rw [wpO]
theorem wO_some {K : Option Int → Mp → Prop} {e : Ex} : wpO Γ (some e) ρ M K = wpE Γ e ρ M fun d M1 => ∃ i, d = .int i ∧ K (some i) M1 := by rw [wpO]
variable {B : Bool → Mp → Prop}
theorem wT_e {a : Ex} : wpT Γ (.e a) ρ M B = wpE Γ a ρ M fun x M1 => truD x M1 fun c => B c M1 := by rw [wpT]
theorem wT_not {t : Tx} : wpT Γ (.not t) ρ M B = wpT Γ t ρ M fun c M1 => B (!c) M1 := by rw [wpT]
theorem wT_cmp {op : CmpOp} {a b : Ex} : wpT Γ (.cmp op a b) ρ M B = wpE Γ a ρ M fun x M1 => wpE Γ b ρ M1 fun y M2 => cmpD op x y M2 fun c => B c M2 := by rw [wpT]
theorem wT_chain {o p : CmpOp} {a b c : Ex} : wpT Γ (.chain o p a b c) ρ M B = wpE Γ a ρ M fun x M1 => wpE Γ b ρ M1 fun y M2 => cmpD o x y M2 fun k => if k = true then wpE Γ c ρ M2 fun z M3 => cmpD p y z M3 fun k2 => B k2 M3 else B false M2 := by rw [wpT]
theorem wT_isN {yes : Bool} {a : Ex} : wpT Γ (.isN yes a) ρ M B = wpE Γ a ρ M fun x M1 => B (if yes then isNone x else !isNone x) M1 := by rw [wpT]
theorem wT_and1 {a : Tx} : wpT Γ (.and [a]) ρ M B = wpT Γ a ρ M B := by rw [wpT, wpTAnd]
theorem wT_and {a b : Tx} {es : List Tx} : wpT Γ (.and (a :: b :: es)) ρ M B = wpT Γ a ρ M fun c M1 => if c = true then wpT Γ (.and (b :: es)) ρ M1 B else B false M1 := by
  rw [wpT, wpTAnd]
  simp only [wpT]
theorem wT_or1 {a : Tx} : wpT Γ (.or [a]) ρ M B = wpT Γ a ρ M B := by rw [wpT, wpTOr]
theorem wT_or {a b : Tx} {es : List Tx} : wpT Γ (.or (a :: b :: es)) ρ M B = wpT Γ a ρ M fun c M1 => if c = true then B true M1 else wpT Γ (.or (b :: es)) ρ M1 B := by
  rw [wpT, wpTOr]
  simp only [wpT]
theorem wTo_none : wpTo Γ none ρ M B = B true M := by rw [wpTo]
theorem wTo_some {t : Tx} : wpTo Γ (some t) ρ M B = wpT Γ t ρ M B := by rw [wpTo]
variable {S : Env' → Prop} {d : D}
theorem wG_n {i : Nat} : wpG (.n i) d ρ M S = S (ρ.set i (some d)) := by rw [wpG]
theorem wG_t {l : List Tg} {xs : List D} : wpG (.t l) (.tup xs) ρ M S = (l.length = xs.length ∧ wpGs l xs ρ M S) := by rw [wpG]
theorem wG_k {l : List Tg} {xs : List D} : wpG (.t l) (.ktp xs) ρ M S = (l.length = xs.length ∧ wpGs l xs ρ M S) := by rw [wpG]
theorem wGs_nil : wpGs [] [] ρ M S = S ρ := by rw [wpGs]
theorem wGs_cons {t : Tg} {ts : List Tg} {ds : List D} : wpGs (t :: ts) (d :: ds) ρ M S = wpG t d ρ M fun ρ1 => wpGs ts ds ρ1 M S := by rw [wpGs]
/-- a call of a def with the contract sp -/
theorem call_by {f : Str} {n : Nat} {sp : CSp} (h : Γ.fn f = some (n, sp)) {es : List Ex} (hn : es.length = n) : (∃ sp, Γ.fn f = some (es.length, sp) ∧ wpEs Γ es ρ M fun ds M1 => runC sp ds M1 Q) = wpEs Γ es ρ M fun ds M1 => runC sp ds M1 Q := by
  subst hn
  exact propext ⟨fun ⟨sp', e, q⟩ => by rw [h] at e; cases e; exact q, fun q => ⟨sp, h, q⟩⟩
/-! comprehensions whose turns change nothing -/
theorem compL_pure {xs : List D} {turn : D → Mp → (Option D → Mp → Prop) → Prop} {inv : Mp → Prop} {p : Addr} {M0 : Mp} (f : D → Option D) (ht : ∀ x M K, (∃ acc, M = mu M0 p (.lst acc)) → x ∈ xs → K (f x) M → turn x M K) (hi : ∀ acc, inv (mu M0 p (.lst acc))) :
    ∀ (rest acc : List D) (K : List D → Mp → Prop), (∀ x ∈ rest, x ∈ xs) → acc.length + rest.length ≤ sizeLine → K (acc ++ rest.filterMap f) (mu M0 p (.lst (acc ++ rest.filterMap f))) → compL turn inv p rest acc (mu M0 p (.lst acc)) K
  | [], acc, K, _, _, h => by rw [compL]; exact ⟨hi _, by simpa using h⟩
  | x :: rest, acc, K, hx, hl, h => by
    rw [compL]
    refine ⟨hi _, ht x _ _ ⟨acc, rfl⟩ (hx x (by simp)) ⟨mu_same, ?_⟩⟩
    simp only [List.length_cons] at hl
    cases e : f x with
    | none =>
      rw [List.filterMap_cons_none e] at h
      exact compL_pure f ht hi rest acc K (fun y hy => hx y (by simp [hy])) (by omega) h
    | some d =>
      rw [List.filterMap_cons_some e] at h
      refine ⟨by omega, ?_⟩
      rw [mu_mu]
      exact compL_pure f ht hi rest (acc ++ [d]) K (fun y hy => hx y (by simp [hy])) (by simp; omega) (by simpa using h)
/-! operations by what they meet -/
section
variable {i j : Int} {a b : Str} {xs ys : List D} {K : KD} {T : Bool → Prop} {t : Bool} {kvs : List (D × D)} {p : Addr}
theorem o_add : binD .Add (.int i) (.int j) M K = K (.int (i + j)) M := rfl
theorem o_sub : binD .Sub (.int i) (.int j) M K = K (.int (i - j)) M := rfl
theorem o_mul : binD .Mult (.int i) (.int j) M K = ((CMul i j ∨ CMulW i j) ∧ K (.int (i * j)) M) := rfl
theorem o_div : binD .FloorDiv (.int i) (.int j) M K = ((CDiv i j ∨ CDivW i j) ∧ K (.int (i / j)) M) := rfl
theorem o_mod : binD .Mod (.int i) (.int j) M K = (0 < j ∧ K (.int (i % j)) M) := rfl
theorem o_pow : binD .Pow (.int i) (.int j) M K = (CPow i j ∧ K (.int (i ^ j.toNat)) M) := rfl
theorem o_cats : binD .Add (.str a) (.str b) M K = (a.length + b.length ≤ sizeLine ∧ K (.str (a ++ b)) M) := rfl
theorem o_catt : binD .Add (.tup xs) (.tup ys) M K = (xs.length + ys.length ≤ sizeLine ∧ K (.tup (xs ++ ys)) M) := rfl
theorem o_catl : binD .Add (.lst xs) (.lst ys) M K = (xs.length + ys.length ≤ sizeLine ∧ K (.lst (xs ++ ys)) M) := by
  show (∃ xs1 ys1, some xs = some xs1 ∧ some ys = some ys1 ∧ xs1.length + ys1.length ≤ sizeLine ∧ K (.lst (xs1 ++ ys1)) M) = _
  simp
theorem o_eqi : cmpD .Eq (.int i) (.int j) M T = T (decide (i = j)) := rfl
theorem o_eqs : cmpD .Eq (.str a) (.str b) M T = T (decide (a = b)) := rfl
theorem o_eqb {x y : Bool} : cmpD .Eq (.bl x) (.bl y) M T = T (decide (x = y)) := rfl
theorem o_nei : cmpD .NotEq (.int i) (.int j) M T = T (!decide (i = j)) := rfl
theorem o_nes : cmpD .NotEq (.str a) (.str b) M T = T (!decide (a = b)) := rfl
theorem o_lt : cmpD .Lt (.int i) (.int j) M T = T (decide (i < j)) := rfl
theorem o_gt : cmpD .Gt (.int i) (.int j) M T = T (decide (j < i)) := rfl
theorem o_le : cmpD .LtE (.int i) (.int j) M T = T (decide (i ≤ j)) := rfl
theorem o_ge : cmpD .GtE (.int i) (.int j) M T = T (decide (j ≤ i)) := rfl
theorem o_tn : truD .non M T = T false := rfl
theorem o_tb : truD (.bl t) M T = T t := rfl
theorem o_ti : truD (.int i) M T = T (i != 0) := rfl
theorem o_tt : truD (.tup xs) M T = T (!xs.isEmpty) := rfl
theorem o_tl : truD (.lst xs) M T = T (!xs.isEmpty) := rfl
/-! subscripts -/
theorem s_lst {d : D} : subD (.lst xs) d M K = ∃ i x, d = .int i ∧ atI xs i = some x ∧ K x M := rfl
theorem s_tup {d : D} : subD (.tup xs) d M K = ∃ i x, d = .int i ∧ atI xs i = some x ∧ K x M := rfl
theorem s_ktp {d : D} : subD (.ktp xs) d M K = ∃ i x, d = .int i ∧ atI xs i = some x ∧ K x M := rfl
theorem s_str {d : D} : subD (.str a) d M K = ∃ i c, d = .int i ∧ a.length ≤ sizeLine ∧ atI a.cps.toList i = some c ∧ K (.str ⟨#[c]⟩) M := rfl
theorem s_refd {d : D} (h : M p = some (.dct t kvs)) : subD (.ref p) d M K = ∃ x, okK t d ∧ getK t kvs d = some x ∧ K x M := by unfold subD look; simp only [h]
theorem s_refl {d : D} (h : M p = some (.lst xs)) : subD (.ref p) d M K = ∃ i x, d = .int i ∧ atI xs i = some x ∧ K x M := by unfold subD look; simp only [h]
theorem setD_d {q d : D} {L : Mp → Prop} (h : M p = some (.dct t kvs)) : setD (.ref p) q d M L = (okK t q ∧ kvs.length < sizeLine ∧ L (mu M p (.dct t (putD t kvs q d)))) := by unfold setD; simp only [h]
theorem setD_l {q d : D} {L : Mp → Prop} (h : M p = some (.lst xs)) : setD (.ref p) q d M L = ∃ k j, q = .int k ∧ ixN xs.length k = some j ∧ L (mu M p (.lst (xs.set j d))) := by unfold setD; simp only [h]
theorem ok_s : okK false (.str a) = True := by simp [okK, keyD]
theorem ok_i : okK false (.int i) = True := by simp [okK, keyD]
theorem get_hit {d : D} : getK false ((.str a, d) :: kvs) (.str a) = some d := by simp [getK, lookK, keyD]
theorem get_miss {d : D} (h : ¬ a = b) : getK false ((.str a, d) :: kvs) (.str b) = getK false kvs (.str b) := by simp [getK, lookK, keyD, h]
theorem same_s : sameK false (.str a) (.str b) = decide (a = b) := by simp [sameK, keyD]
theorem atI_map {α β : Type} {f : α → β} {l : List α} : atI (l.map f) i = (atI l i).map f := by
  unfold atI
  rw [List.length_map]
  cases ixN l.length i <;> simp
theorem atI_in {α : Type} {l : List α} (h0 : 0 ≤ i) (h1 : i < l.length) : atI l i = some (l[i.toNat]'(by omega)) := by
  unfold atI ixN
  rw [if_pos h0, if_pos h1]
  simp
theorem ixN_in {n : Nat} (h0 : 0 ≤ i) (h1 : i < n) : ixN n i = some i.toNat := by unfold ixN; rw [if_pos h0, if_pos h1]
theorem atI_0 {α : Type} {x : α} {l : List α} : atI (x :: l) 0 = some x := by simp [atI, ixN]
theorem atI_1 {α : Type} {x y : α} {l : List α} : atI (x :: y :: l) 1 = some y := by
  unfold atI ixN; rw [if_pos (by decide), if_pos (by simp; omega)]; rfl
theorem atI_2 {α : Type} {x y z : α} {l : List α} : atI (x :: y :: z :: l) 2 = some z := by
  unfold atI ixN; rw [if_pos (by decide), if_pos (by simp; omega)]; rfl
theorem atI_3 {α : Type} {x y z u : α} {l : List α} : atI (x :: y :: z :: u :: l) 3 = some u := by
  unfold atI ixN; rw [if_pos (by decide), if_pos (by simp; omega)]; rfl
theorem atI_4 {α : Type} {x y z u v : α} {l : List α} : atI (x :: y :: z :: u :: v :: l) 4 = some v := by
  unfold atI ixN; rw [if_pos (by decide), if_pos (by simp; omega)]; rfl
/-! built-ins -/
theorem b_int : biD "int" [.int i] M K = K (.int i) M := by simp [biD]
theorem b_intb : biD "int" [.bl t] M K = K (.int (if t then 1 else 0)) M := by simp [biD]
theorem b_lenl : biD "len" [.lst xs] M K = K (.int xs.length) M := by simp [biD, look]
theorem b_lent : biD "len" [.tup xs] M K = K (.int xs.length) M := by simp [biD, look]
theorem b_lenr (h : M p = some (.lst xs)) : biD "len" [.ref p] M K = K (.int xs.length) M := by simp [biD, look, h]
theorem b_lend (h : M p = some (.dct t kvs)) : biD "len" [.ref p] M K = K (.int kvs.length) M := by simp [biD, look, h]
theorem b_tupl : biD "tuple" [.lst xs] M K = K (.tup xs) M := by simp [biD, look]
theorem b_tupr (h : M p = some (.lst xs)) : biD "tuple" [.ref p] M K = K (.tup xs) M := by simp [biD, look, h]
theorem b_tupt : biD "tuple" [.tup xs] M K = K (.tup xs) M := by simp [biD, look]
theorem b_abs : biD "abs" [.int i] M K = K (.int (if i < 0 then -i else i)) M := by simp [biD]
theorem b_max2 : biD "max" [.int i, .int j] M K = K (.int (if i < j then j else i)) M := by simp [biD, pickD, best]
theorem b_min2 : biD "min" [.int i, .int j] M K = K (.int (if j < i then j else i)) M := by simp [biD, pickD, best]
end
/-! sizes -/
theorem mul_r {i j : Int} (h1 : -(2 ^ 64) < j) (h2 : j < 2 ^ 64) : CMul i j ∨ CMulW i j := .inl (.inr ⟨h1, h2⟩)
theorem mul_l {i j : Int} (h1 : -(2 ^ 64) < i) (h2 : i < 2 ^ 64) : CMul i j ∨ CMulW i j := .inl (.inl ⟨h1, h2⟩)
theorem div_r {i j : Int} (h1 : 0 < j) (h2 : j < 1073741824) : CDiv i j ∨ CDivW i j := .inl ⟨h1, h2⟩
/-! what is walked -/
def itD (x : D) (M1 : Mp) (K : List D → (Mp → Prop) → Mp → Prop) : Prop := match x with
    | .lst xs => K xs (fun _ => True) M1
    | .tup xs => K xs (fun _ => True) M1
    | .ktp xs => K xs (fun _ => True) M1
    | .klst xs => K xs (fun _ => True) M1
    | .dct _ kvs => K (keysOf kvs) (fun _ => True) M1
    | .ref a => match M1 a with
      | some (.lst xs) => K xs (fun M => M a = some (.lst xs)) M1
      | _ => False
    | _ => False
def rgD (ds : List D) (M1 : Mp) (K : List D → (Mp → Prop) → Mp → Prop) : Prop := match ds with
    | [.int j] => (-(2 ^ 62) ≤ j ∧ j < 2 ^ 62) ∧ K (rangeD 0 j 1) (fun _ => True) M1
    | [.int i, .int j] => (-(2 ^ 62) ≤ i ∧ i < 2 ^ 62 ∧ -(2 ^ 62) ≤ j ∧ j < 2 ^ 62) ∧ K (rangeD i j 1) (fun _ => True) M1
    | _ => False
section
variable {K : List D → (Mp → Prop) → Mp → Prop} {xs : List D}
theorem wI_s {a : Ex} : wpI Γ (.s a) ρ M K = wpE Γ a ρ M fun x M1 => itD x M1 K := by rw [wpI]; rfl
theorem wI_rng {es : List Ex} : wpI Γ (.rng es) ρ M K = wpEs Γ es ρ M fun ds M1 => rgD ds M1 K := by rw [wpI]; rfl
theorem it_lst : itD (.lst xs) M K = K xs (fun _ => True) M := rfl
theorem it_klst : itD (.klst xs) M K = K xs (fun _ => True) M := rfl
theorem it_tup : itD (.tup xs) M K = K xs (fun _ => True) M := rfl
theorem it_ktp : itD (.ktp xs) M K = K xs (fun _ => True) M := rfl
theorem it_ref {a : Addr} (h : M a = some (.lst xs)) : itD (.ref a) M K = K xs (fun M => M a = some (.lst xs)) M := by unfold itD; simp only [h]
theorem rg_1 {j : Int} : rgD [.int j] M K = ((-(2 ^ 62) ≤ j ∧ j < 2 ^ 62) ∧ K (rangeD 0 j 1) (fun _ => True) M) := rfl
theorem rg_2 {i j : Int} : rgD [.int i, .int j] M K = ((-(2 ^ 62) ≤ i ∧ i < 2 ^ 62 ∧ -(2 ^ 62) ≤ j ∧ j < 2 ^ 62) ∧ K (rangeD i j 1) (fun _ => True) M) := rfl
end
/-- M' has all that M has -/
def Ext (M M' : Mp) : Prop := ∀ a o, M a = some o → M' a = some o
theorem Ext.refl {M : Mp} : Ext M M := fun _ _ h => h
theorem Ext.trans {M M1 M2 : Mp} (h : Ext M M1) (k : Ext M1 M2) : Ext M M2 := fun a o e => k a o (h a o e)
theorem Ext.new {M : Mp} {p : Addr} {o : MO} (h : M p = none) : Ext M (mu M p o) := fun a u e => by
  rw [mu_ne]; exact e
  rintro rfl; rw [h] at e; cases e
theorem Ext.cut {M M' : Mp} (h : Ext M M') : cutM (fun a => (M a).isSome) M' = M := by
  funext a
  unfold cutM
  cases e : M a with
  | none => simp [e]
  | some o => simp [e, h a o e]
theorem ret_ext {Q : KD} {d : D} {M M' : Mp} (h : Ext M M') (q : Q d M) : retW Q d M' := ret_fz (fun a => (M a).isSome) 0 (by rw [h.cut]; cases d <;> (rw [fzD]; exact q))
section
variable {own : List Nat} {tg : Tg} {ifs : Option Tx} {el : Ex} {inv : Mp → Prop} {M1 : Mp}
theorem wE_comp {mt : Bool} {it : Ix} : wpE Γ (.comp mt own tg it ifs el) ρ M Q = wpI Γ it ρ M fun xs inv M1 => ∀ p, M1 p = none → compL (fun x M2 K => wpG tg x (wipeD ρ own) M2 fun ρ1 => wpTo Γ ifs ρ1 M2 fun c M3 => if c = true then wpE Γ el ρ1 M3 fun d M4 => K (some d) M4 else K none M3) inv p xs [] (mu M1 p (.lst [])) fun ds M2 => if mt = true then Q (.ref p) M2 else Q (.lst ds) (mdel M2 p) := by rw [wpE]
/-- a comprehension whose turns change nothing -/
theorem comp_pure {xs : List D} {p : Addr} {Kf : List D → Mp → Prop} (f : D → Option D) (hp : M1 p = none) (hx : ∀ (x : D) (M' : Mp) (K : Option D → Mp → Prop), x ∈ xs → Ext M1 M' → K (f x) M' → wpG tg x (wipeD ρ own) M' fun ρ1 => wpTo Γ ifs ρ1 M' fun c M3 => if c = true then wpE Γ el ρ1 M3 fun d M4 => K (some d) M4 else K none M3) (hinv : ∀ M', Ext M1 M' → inv M') (hl : xs.length ≤ sizeLine)
    (h : Kf (xs.filterMap f) (mu M1 p (.lst (xs.filterMap f)))) :
    compL (fun x M2 K => wpG tg x (wipeD ρ own) M2 fun ρ1 => wpTo Γ ifs ρ1 M2 fun c M3 => if c = true then wpE Γ el ρ1 M3 fun d M4 => K (some d) M4 else K none M3) inv p xs [] (mu M1 p (.lst [])) Kf := by
  refine compL_pure (xs := xs) (M0 := M1) f (fun x M K ⟨acc, e⟩ hm q => hx x M K hm (by rw [e]; exact Ext.new hp) q) (fun acc => hinv _ (Ext.new hp)) xs [] _ (fun _ h => h) (by simpa using hl) ?_
  simpa using h
theorem outL_pure {turn : D → List D → Mp → (List D → Mp → Prop) → Prop} {p : Addr} {xs : List D} (f : D → List D) (ht : ∀ x acc K, x ∈ xs → acc.length + (f x).length ≤ sizeLine → K (acc ++ f x) (mu M1 p (.lst (acc ++ f x))) → turn x acc (mu M1 p (.lst acc)) K) (hi : ∀ acc, inv (mu M1 p (.lst acc))) :
    ∀ (rest acc : List D) (K : List D → Mp → Prop), (∀ x ∈ rest, x ∈ xs) → acc.length + (rest.flatMap f).length ≤ sizeLine → K (acc ++ rest.flatMap f) (mu M1 p (.lst (acc ++ rest.flatMap f))) → outL turn inv rest acc (mu M1 p (.lst acc)) K
  | [], acc, K, _, _, h => by rw [outL]; exact ⟨hi _, by simpa using h⟩
  | x :: rest, acc, K, hx, hl, h => by
    rw [outL]
    rw [List.flatMap_cons] at h hl
    rw [List.length_append] at hl
    refine ⟨hi _, ht x acc _ (hx x (by simp)) (by omega) ?_⟩
    exact outL_pure f ht hi rest (acc ++ f x) K (fun y hy => hx y (by simp [hy])) (by rw [List.length_append]; omega) (by rw [List.append_assoc]; exact h)
end
section
variable {α : Type} {own : List Nat} {tg : Tg} {ifs : Option Tx} {el : Ex} {inv : Mp → Prop} {M1 : Mp}
theorem compL_on {turn : D → Mp → (Option D → Mp → Prop) → Prop} {p : Addr} {l : List α} (g : α → D) (f : α → Option D) (ht : ∀ a M K, (∃ acc, M = mu M1 p (.lst acc)) → a ∈ l → K (f a) M → turn (g a) M K) (hi : ∀ acc, inv (mu M1 p (.lst acc))) :
    ∀ (rest : List α) (acc : List D) (K : List D → Mp → Prop), (∀ x ∈ rest, x ∈ l) → acc.length + rest.length ≤ sizeLine → K (acc ++ rest.filterMap f) (mu M1 p (.lst (acc ++ rest.filterMap f))) → compL turn inv p (rest.map g) acc (mu M1 p (.lst acc)) K
  | [], acc, K, _, _, h => by rw [List.map_nil, compL]; exact ⟨hi _, by simpa using h⟩
  | x :: rest, acc, K, hx, hl, h => by
    rw [List.map_cons, compL]
    refine ⟨hi _, ht x _ _ ⟨acc, rfl⟩ (hx x (by simp)) ⟨mu_same, ?_⟩⟩
    simp only [List.length_cons] at hl
    cases e : f x with
    | none =>
      rw [List.filterMap_cons_none e] at h
      exact compL_on g f ht hi rest acc K (fun y hy => hx y (by simp [hy])) (by omega) h
    | some d =>
      rw [List.filterMap_cons_some e] at h
      refine ⟨by omega, ?_⟩
      rw [mu_mu]
      exact compL_on g f ht hi rest (acc ++ [d]) K (fun y hy => hx y (by simp [hy])) (by simp; omega) (by simpa using h)
/-- a comprehension over things told, whose turns change nothing -/
theorem comp_on {p : Addr} {Kf : List D → Mp → Prop} (l : List α) (g : α → D) (f : α → Option D) (hp : M1 p = none) (hx : ∀ (a : α) (M' : Mp) (K : Option D → Mp → Prop), a ∈ l → Ext M1 M' → K (f a) M' → wpG tg (g a) (wipeD ρ own) M' fun ρ1 => wpTo Γ ifs ρ1 M' fun c M3 => if c = true then wpE Γ el ρ1 M3 fun d M4 => K (some d) M4 else K none M3) (hinv : ∀ M', Ext M1 M' → inv M') (hl : l.length ≤ sizeLine)
    (h : Kf (l.filterMap f) (mu M1 p (.lst (l.filterMap f)))) :
    compL (fun x M2 K => wpG tg x (wipeD ρ own) M2 fun ρ1 => wpTo Γ ifs ρ1 M2 fun c M3 => if c = true then wpE Γ el ρ1 M3 fun d M4 => K (some d) M4 else K none M3) inv p (l.map g) [] (mu M1 p (.lst [])) Kf := by
  refine compL_on (M1 := M1) g f (fun x M K ⟨acc, e⟩ hm q => hx x M K hm (by rw [e]; exact Ext.new hp) q) (fun acc => hinv _ (Ext.new hp)) l [] _ (fun _ h => h) (by simpa using hl) ?_
  simpa using h
theorem filterMap_all {f : α → D} (l : List α) : l.filterMap (fun a => some (f a)) = l.map f := by
  induction l with
  | nil => rfl
  | cons x r ih => rw [List.filterMap_cons_some (f := fun a => some (f a)) (b := f x) rfl, ih, List.map_cons]
/-- for, over things told -/
theorem wp_forα {it : Ix} {body ss : List Sm} (l : List α) (g : α → D) (inv : Mp → Prop) (M1 : Mp) (I : Nat → Env' → Mp → Prop) (P : Env' → Mp → Prop) (hi : ∀ K : List D → (Mp → Prop) → Mp → Prop, K (l.map g) inv M1 → wpI Γ it ρ M K) (h0 : I 0 ρ M1) (hinv : ∀ i ρ M, I i ρ M → inv M)
    (ht : ∀ i a ρ2 M2, l[i]? = some a → I i ρ2 M2 → wpG tg (g a) ρ2 M2 fun ρ3 => wpSs Γ body ρ3 M2 ⟨I (i + 1), E.rt, P, I (i + 1)⟩) (hp : ∀ ρ2 M2, I l.length ρ2 M2 → P ρ2 M2) (hd : ∀ ρ2 M2, P ρ2 M2 → wpSs Γ ss ρ2 M2 E) : wpSs Γ (.for_ tg it body :: ss) ρ M E := by
  refine wp_for (l.map g) inv M1 I P hi h0 hinv (fun i x ρ2 M2 hx h => ?_) (fun ρ2 M2 h => hp _ _ (by rwa [List.length_map] at h)) hd
  rw [List.getElem?_map] at hx
  cases e : l[i]? with
  | none => rw [e] at hx; cases hx
  | some a => rw [e] at hx; cases hx; exact ht i a ρ2 M2 e h
end
end Vc
namespace K25
open PySem PySem.Spec PyProof.Rows L2 Vc
def topS (i : Nat) : Stmt := PySem.Challenge.pw_fewlifts_k25_bounds.main.body.getD i (.Pass ⟨0, 0, 0, 0⟩)
abbrev s_ends_of : Stmt := topS 2
def n_ends_of : List Str := ["unit", "x", "y", "way"]
def b_ends_of : List Sm :=
   [.asg (.t [.n 1, .n 2, .n 3]) (.v 0),
    .ret (.tup [.tup [.v 1, .v 2], .ite (.cmp .Eq (.v 3) (.k (.str "r"))) (.tup [.bin .Add (.v 1) (.k (.int 1)), .v 2]) (.tup [.v 1, .bin .Add (.v 2) (.k (.int 1))])])]
abbrev s_size_of_units : Stmt := topS 4
def n_size_of_units : List Str := ["units", "ends", "unit", "end"]
def b_size_of_units : List Sm :=
   [.asg (.n 1) (.comp2 false [2, 3] [3] (.n 2) (.s (.v 0)) none (.n 3) (.s (.call "ends_of" [.v 2])) none (.v 3)),
    .ret (.tup [.bi "max" [.comp false [3] (.n 3) (.s (.v 1)) none (.sub (.v 3) (.k (.int 0)))], .bi "max" [.comp false [3] (.n 3) (.s (.v 1)) none (.sub (.v 3) (.k (.int 1)))]])]
abbrev s_part_marks : Stmt := topS 6
def n_part_marks : List Str := ["part"]
def b_part_marks : List Sm :=
   [.ite (.cmp .Eq (.sub (.v 0) (.k (.int 0))) (.k (.str "along"))) [.ret (.slc (.v 0) (some (.k (.int 2))) none)] [],
    .ite (.cmp .Eq (.sub (.v 0) (.k (.int 0))) (.k (.str "up"))) [.ret (.slc (.v 0) (some (.k (.int 1))) (some (.k (.int 2))))] [],
    .ret (.ite (.cmp .Eq (.sub (.v 0) (.k (.int 0))) (.k (.str "stamp"))) (.slc (.v 0) (some (.k (.int 2))) none) (.slc (.v 0) (some (.k (.int 3))) none))]
abbrev s_part_top : Stmt := topS 7
def n_part_top : List Str := ["part"]
def b_part_top : List Sm :=
   [.ite (.cmp .Eq (.sub (.v 0) (.k (.int 0))) (.k (.str "along"))) [.ret (.sub (.v 0) (.k (.int 1)))] [],
    .ite (.cmp .Eq (.sub (.v 0) (.k (.int 0))) (.k (.str "up"))) [.ret (.sub (.v 0) (.k (.int 3)))] [],
    .ret (.sub (.call "size_of_units" [.sub (.v 0) (.k (.int 1))]) (.k (.int 1)))]
abbrev s_top_of : Stmt := topS 9
def n_top_of : List Str := ["code", "part"]
def b_top_of : List Sm :=
   [.ret (.bi "max" [.comp false [1] (.n 1) (.s (.v 0)) none (.call "part_top" [.v 1])])]
abbrev s_marks_of : Stmt := topS 10
def n_marks_of : List Str := ["code", "told", "part"]
def b_marks_of : List Sm :=
   [.asg (.n 1) (.tup []),
    .for_ (.n 2) (.s (.v 0)) [.asg (.n 1) (.bin .Add (.v 1) (.call "part_marks" [.v 2]))],
    .ret (.v 1)]
abbrev s_bottom_of : Stmt := topS 12
def n_bottom_of : List Str := ["code", "told", "mark"]
def b_bottom_of : List Sm :=
   [.asg (.n 1) (.k (.int 1)),
    .for_ (.n 2) (.s (.call "marks_of" [.v 0])) [.asg (.n 1) (.bf "lcm" [.v 1, .sub (.v 2) (.k (.int 1))])],
    .ret (.v 1)]
abbrev s_gap_of : Stmt := topS 13
def n_gap_of : List Str := ["code", "told", "part"]
def b_gap_of : List Sm :=
   [.asg (.n 1) (.k (.int 1)),
    .for_ (.n 2) (.s (.v 0)) [.ite (.cmp .Eq (.sub (.v 2) (.k (.int 0))) (.k (.str "row"))) [.asg (.n 1) (.bf "lcm" [.v 1, .sub (.v 2) (.k (.int 2))])] []],
    .ret (.v 1)]
abbrev s_reach_of : Stmt := topS 14
def n_reach_of : List Str := ["code", "mark"]
def b_reach_of : List Sm :=
   [.ret (.bi "max" [.comp false [1] (.n 1) (.s (.call "marks_of" [.v 0])) none (.bi "abs" [.sub (.v 1) (.k (.int 2))])])]
abbrev s_period_of : Stmt := topS 15
def n_period_of : List Str := ["code"]
def b_period_of : List Sm :=
   [.ret (.bin .Mult (.call "bottom_of" [.v 0]) (.call "gap_of" [.v 0]))]
abbrev s_bound_of : Stmt := topS 16
def n_bound_of : List Str := ["code"]
def b_bound_of : List Sm :=
   [.ret (.bin .Mult (.call "bottom_of" [.v 0]) (.bin .Add (.bin .Add (.bin .Mult (.bin .Add (.call "top_of" [.v 0]) (.k (.int 2))) (.call "gap_of" [.v 0])) (.bin .Mult (.k (.int 2)) (.call "reach_of" [.v 0]))) (.k (.int 12))))]
abbrev s__law_chest : Stmt := topS 18
def n__law_chest : List Str := ["script", "lid", "cell"]
def b__law_chest : List Sm :=
   [.asg (.n 1) (.bin .Mult (.bin .Mult (.bin .Mult (.bin .Mult (.bin .Mult (.bin .Pow (.k (.int 10)) (.k (.int 50))) (.bin .Pow (.k (.int 10)) (.k (.int 50)))) (.bin .Pow (.k (.int 10)) (.k (.int 50)))) (.bin .Pow (.k (.int 10)) (.k (.int 50)))) (.bin .Pow (.k (.int 10)) (.k (.int 50)))) (.bin .Pow (.k (.int 10)) (.k (.int 50)))),
    .ret (.disp ["box", "look", "count"] [.comp true [2] (.n 2) (.s (.slc (.v 0) none (some (.k (.int 63))))) none (.bin .Mod (.bi "int" [.v 2]) (.v 1)), .k (.int 0), .k (.int 0)])]
abbrev s__law_pull : Stmt := topS 19
def n__law_pull : List Str := ["chest", "many", "box", "count", "cell", "shake", "look"]
def b__law_pull : List Sm :=
   [.asg (.n 2) (.sub (.v 0) (.k (.str "box"))),
    .asg (.n 3) (.bin .Add (.bi "int" [.sub (.v 0) (.k (.str "count"))]) (.k (.int 1))),
    .set (.v 0) (.k (.str "count")) (.v 3),
    .asg (.n 4) (.k (.int 71)),
    .ite (.cmp .Gt (.bi "len" [.v 2]) (.k (.int 0))) [.asg (.n 6) (.bin .Mod (.bi "int" [.sub (.v 0) (.k (.str "look"))]) (.bi "len" [.v 2])),
    .asg (.n 4) (.sub (.v 2) (.v 6)),
    .ite (.cmp .GtE (.v 4) (.bin .Pow (.k (.int 10)) (.k (.int 16)))) [.set (.v 2) (.v 6) (.bin .FloorDiv (.v 4) (.v 1)),
    .ret (.bin .Mod (.bi "int" [.v 4]) (.v 1))] [],
    .set (.v 0) (.k (.str "look")) (.bin .Add (.v 6) (.k (.int 1)))] [],
    .asg (.n 5) (.bin .Mod (.bi "int" [.bin .Add (.bin .Add (.bin .Mult (.v 4) (.k (.int 950706376))) (.bin .Mult (.v 3) (.k (.int 742938285)))) (.k (.int 1226874159))]) (.k (.int 2147483647))),
    .asg (.n 5) (.bin .Mod (.bi "int" [.bin .Add (.bin .Add (.bin .Mult (.v 5) (.bin .Add (.bin .Mod (.v 3) (.k (.int 67))) (.k (.int 521)))) (.bin .Mult (.v 4) (.k (.int 11)))) (.v 3)]) (.k (.int 4294967279))),
    .asg (.n 5) (.bin .Mod (.bi "int" [.bin .Add (.bin .Mult (.v 5) (.v 5)) (.bin .Mult (.v 3) (.k (.int 37)))]) (.k (.int 2147483579))),
    .ret (.bin .Mod (.bi "int" [.bin .FloorDiv (.v 5) (.k (.int 128))]) (.v 1))]
abbrev s__law_multiple : Stmt := topS 20
def n__law_multiple : List Str := ["one", "other", "step", "turn"]
def b__law_multiple : List Sm :=
   [.asg (.n 2) (.v 0),
    .for_ (.n 3) (.rng [.v 1]) [.ite (.cmp .Eq (.bin .Mod (.bi "int" [.v 2]) (.v 1)) (.k (.int 0))) [.brk] [],
    .asg (.n 2) (.bin .Add (.v 2) (.v 0))],
    .ret (.v 2)]
abbrev s__law_lowest : Stmt := topS 21
def n__law_lowest : List Str := ["share", "bottom", "part"]
def b__law_lowest : List Sm :=
   [.for_ (.n 2) (.rng [.k (.int 2), .bin .Add (.v 1) (.k (.int 1))]) [.ite (.and [.cmp .Eq (.bin .Mod (.bi "int" [.v 0]) (.v 2)) (.k (.int 0)), .cmp .Eq (.bin .Mod (.bi "int" [.v 1]) (.v 2)) (.k (.int 0))]) [.ret (.k (.bl false))] []],
    .ret (.k (.bl true))]
abbrev s__law_mark : Stmt := topS 22
def n__law_mark : List Str := ["chest", "bottoms", "reach", "bottom", "shares", "share"]
def b__law_mark : List Sm :=
   [.asg (.n 3) (.sub (.v 1) (.call "_law_pull" [.v 0, .bi "len" [.v 1]])),
    .asg (.n 4) (.comp false [5] (.n 5) (.rng [.bin .Add (.v 3) (.k (.int 1))]) (some (.e (.call "_law_lowest" [.v 5, .v 3]))) (.v 5)),
    .ret (.tup [.sub (.v 4) (.call "_law_pull" [.v 0, .bi "len" [.v 4]]), .v 3, .bin .Sub (.call "_law_pull" [.v 0, .bin .Add (.bin .Mult (.k (.int 2)) (.v 2)) (.k (.int 1))]) (.v 2)])]
abbrev s__law_units : Stmt := topS 23
def n__law_units : List Str := ["chest", "top", "kept", "turn", "way", "high"]
def b__law_units : List Sm :=
   [.asg (.n 2) (.dctM true),
    .for_ (.n 3) (.rng [.sub (.tup [.k (.int 1), .bin .Add (.k (.int 1)) (.call "_law_pull" [.v 0, .k (.int 12)])]) (.call "_law_pull" [.v 0, .k (.int 2)])]) [.asg (.n 4) (.sub (.k (.str "ru")) (.call "_law_pull" [.v 0, .k (.int 2)])),
    .asg (.n 5) (.bin .Sub (.bin .Add (.v 1) (.k (.int 1))) (.bi "int" [.cmp .Eq (.v 4) (.k (.str "u"))])),
    .ite (.cmp .Gt (.v 5) (.k (.int 0))) [.set (.v 2) (.tup [.call "_law_pull" [.v 0, .k (.int 4)], .call "_law_pull" [.v 0, .v 5], .v 4]) (.k (.bl true))] []],
    .ite (.cmp .Eq (.bi "len" [.v 2]) (.k (.int 0))) [.set (.v 2) (.tup [.call "_law_pull" [.v 0, .k (.int 4)], .call "_law_pull" [.v 0, .bin .Add (.v 1) (.k (.int 1))], .k (.str "r")]) (.k (.bl true))] [],
    .ret (.bi "tuple" [.bi "sorted" [.lkeys (.v 2)]])]
abbrev s__law_part : Stmt := topS 24
def n__law_part : List Str := ["chest", "bottoms", "gaps", "reach", "top", "first", "last", "kind", "low"]
def b__law_part : List Sm :=
   [.asg (.n 5) (.call "_law_mark" [.v 0, .v 1, .v 3]),
    .asg (.n 6) (.call "_law_mark" [.v 0, .v 1, .v 3]),
    .asg (.n 7) (.call "_law_pull" [.v 0, .k (.int 4)]),
    .ite (.cmp .Eq (.v 7) (.k (.int 0))) [.ret (.tup [.k (.str "along"), .call "_law_pull" [.v 0, .bin .Add (.v 4) (.k (.int 1))], .v 5, .v 6])] [],
    .ite (.and [.cmp .Eq (.v 7) (.k (.int 1)), .cmp .Gt (.v 4) (.k (.int 0))]) [.asg (.n 8) (.call "_law_pull" [.v 0, .v 4]),
    .ret (.tup [.k (.str "up"), .v 5, .v 8, .bin .Add (.bin .Add (.v 8) (.k (.int 1))) (.call "_law_pull" [.v 0, .bin .Sub (.v 4) (.v 8)])])] [],
    .ite (.cmp .Eq (.v 7) (.k (.int 2))) [.ret (.tup [.k (.str "row"), .call "_law_units" [.v 0, .v 4], .sub (.v 2) (.call "_law_pull" [.v 0, .bi "len" [.v 2]]), .v 5, .v 6])] [],
    .ret (.tup [.k (.str "stamp"), .call "_law_units" [.v 0, .v 4], .v 6])]
abbrev s__law_special : Stmt := topS 25
def n__law_special : List Str := ["chest", "bottom", "odd", "far", "end", "low", "high", "gap", "rows"]
def b__law_special : List Sm :=
   [.asg (.n 1) (.sub (.tup [.k (.int 3), .k (.int 4), .k (.int 6)]) (.call "_law_pull" [.v 0, .k (.int 3)])),
    .asg (.n 2) (.tup [.k (.int 1), .v 1, .k (.int 0)]),
    .asg (.n 3) (.tup [.k (.int 0), .k (.int 1), .sub (.tup [.k (.int 9), .neg (.k (.int 9)), .k (.int 3), .neg (.k (.int 3))]) (.call "_law_pull" [.v 0, .k (.int 4)])]),
    .asg (.n 4) (.tup [.k (.int 1), .k (.int 1), .k (.int 0)]),
    .asg (.n 5) (.tup [.tup [.k (.int 0), .k (.int 0), .k (.str "r")]]),
    .asg (.n 6) (.bin .Add (.k (.int 3)) (.call "_law_pull" [.v 0, .k (.int 3)])),
    .asg (.n 7) (.bin .Add (.k (.int 3)) (.call "_law_pull" [.v 0, .k (.int 4)])),
    .asg (.n 8) (.lst [.tup [.k (.str "along"), .k (.int 0), .v 2, .v 4], .tup [.k (.str "along"), .k (.int 0), .v 4, .v 2], .tup [.k (.str "up"), .v 2, .k (.int 0), .k (.int 1)], .tup [.k (.str "stamp"), .v 5, .v 2], .tup [.k (.str "row"), .v 5, .k (.int 1), .v 2, .v 4]]),
    .asg (.n 8) (.bin .Add (.v 8) (.lst [.tup [.k (.str "row"), .v 5, .k (.int 1), .v 4, .v 2], .tup [.k (.str "along"), .k (.int 0), .v 3, .v 4], .tup [.k (.str "along"), .k (.int 0), .v 4, .v 3], .tup [.k (.str "up"), .v 3, .k (.int 0), .k (.int 1)], .tup [.k (.str "stamp"), .v 5, .v 3]])),
    .asg (.n 8) (.bin .Add (.v 8) (.lst [.tup [.k (.str "row"), .v 5, .k (.int 1), .v 3, .v 4], .tup [.k (.str "row"), .v 5, .k (.int 1), .v 4, .v 3], .tup [.k (.str "along"), .v 6, .v 4, .v 4], .tup [.k (.str "up"), .v 4, .k (.int 0), .v 6]])),
    .asg (.n 8) (.bin .Add (.v 8) (.lst [.tup [.k (.str "stamp"), .bin .Add (.v 5) (.tup [.tup [.k (.int 1), .v 6, .k (.str "r")]]), .v 4], .tup [.k (.str "stamp"), .bin .Add (.v 5) (.tup [.tup [.k (.int 2), .bin .Sub (.v 6) (.k (.int 1)), .k (.str "u")]]), .v 4], .tup [.k (.str "row"), .v 5, .v 7, .v 4, .v 4]])),
    .asg (.n 8) (.bin .Add (.v 8) (.lst [.tup [.k (.str "row"), .tup [.tup [.k (.int 0), .v 6, .k (.str "r")], .tup [.k (.int 4), .k (.int 0), .k (.str "u")]], .k (.int 1), .v 4, .v 4], .tup [.k (.str "row"), .tup [.tup [.k (.int 0), .bin .Sub (.v 6) (.k (.int 1)), .k (.str "u")], .tup [.k (.int 3), .k (.int 0), .k (.str "r")]], .k (.int 1), .v 4, .v 4]])),
    .asg (.n 8) (.bin .Add (.v 8) (.lst [.tup [.k (.str "row"), .tup [.tup [.k (.int 0), .k (.int 0), .k (.str "u")], .tup [.k (.int 0), .bin .Sub (.v 6) (.k (.int 1)), .k (.str "u")], .tup [.k (.int 1), .k (.int 1), .k (.str "r")]], .v 7, .v 3, .v 2]])),
    .ret (.sub (.v 8) (.call "_law_pull" [.v 0, .bi "len" [.v 8]]))]
abbrev s__law_due : Stmt := topS 26
def n__law_due : List Str := ["code", "bottom", "gap", "reach", "top", "part", "marks", "share", "under", "more", "x", "y", "way"]
def b__law_due : List Sm :=
   [.asg (.n 1) (.k (.int 1)),
    .asg (.n 2) (.k (.int 1)),
    .asg (.n 3) (.k (.int 0)),
    .asg (.n 4) (.k (.int 0)),
    .for_ (.n 5) (.s (.v 0)) [.asg (.n 6) (.lstM [.sub (.v 5) (.bin .Sub (.bi "len" [.v 5]) (.k (.int 1)))]),
    .ite (.cmp .Eq (.sub (.v 5) (.k (.int 0))) (.k (.str "up"))) [.asg (.n 6) (.lstM [.sub (.v 5) (.k (.int 1))]),
    .asg (.n 4) (.bi "max" [.v 4, .sub (.v 5) (.k (.int 3))])] [.ite (.cmp .NotEq (.sub (.v 5) (.k (.int 0))) (.k (.str "stamp"))) [.ex (.mth "list" "append" (.v 6) [.sub (.v 5) (.bin .Sub (.bi "len" [.v 5]) (.k (.int 2)))])] [],
    .ite (.cmp .Eq (.sub (.v 5) (.k (.int 0))) (.k (.str "along"))) [.asg (.n 4) (.bi "max" [.v 4, .sub (.v 5) (.k (.int 1))])] [.for_ (.t [.n 10, .n 11, .n 12]) (.s (.sub (.v 5) (.k (.int 1)))) [.asg (.n 4) (.bi "max" [.v 4, .bin .Add (.v 11) (.bi "int" [.cmp .Eq (.v 12) (.k (.str "u"))])])]]],
    .ite (.cmp .Eq (.sub (.v 5) (.k (.int 0))) (.k (.str "row"))) [.asg (.n 2) (.call "_law_multiple" [.v 2, .sub (.v 5) (.k (.int 2))])] [],
    .for_ (.t [.n 7, .n 8, .n 9]) (.s (.v 6)) [.asg (.n 1) (.call "_law_multiple" [.v 1, .v 8]),
    .asg (.n 3) (.bi "max" [.v 3, .v 9, .neg (.v 9)])]],
    .ret (.lst [.v 1, .v 2, .v 3, .bin .Mult (.v 1) (.v 2), .bin .Mult (.v 1) (.bin .Add (.bin .Add (.bin .Mult (.bin .Add (.v 4) (.k (.int 2))) (.v 2)) (.bin .Mult (.k (.int 2)) (.v 3))) (.k (.int 12)))])]
abbrev s__law_told : Stmt := topS 27
def n__law_told : List Str := ["code", "named"]
def b__law_told : List Sm :=
   [.ite (.e (.v 1)) [.ret (.lst [.callK "bottom_of" [] ["code"] [.v 0], .callK "gap_of" [] ["code"] [.v 0], .callK "reach_of" [] ["code"] [.v 0], .callK "period_of" [] ["code"] [.v 0], .callK "bound_of" [] ["code"] [.v 0]])] [],
    .ret (.lst [.call "bottom_of" [.v 0], .call "gap_of" [.v 0], .call "reach_of" [.v 0], .call "period_of" [.v 0], .call "bound_of" [.v 0]])]
abbrev s__law_holds : Stmt := topS 28
def n__law_holds : List Str := ["code", "named", "due", "told", "place"]
def b__law_holds : List Sm :=
   [.asg (.n 2) (.call "_law_due" [.v 0]),
    .asg (.n 3) (.call "_law_told" [.v 0, .v 1]),
    .for_ (.n 4) (.rng [.k (.int 5)]) [.ite (.or [.not (.e (.isi (.sub (.v 3) (.v 4)) "int")), .e (.isi (.sub (.v 3) (.v 4)) "bool"), .cmp .NotEq (.sub (.v 3) (.v 4)) (.sub (.v 2) (.v 4))]) [.ret (.k (.bl false))] []],
    .ret (.k (.bl true))]
abbrev s__law_plain : Stmt := topS 29
def n__law_plain : List Str := ["chest", "many", "bottoms", "gaps", "reach", "turn"]
def b__law_plain : List Sm :=
   [.asg (.n 2) (.sub (.lst [.lst [.k (.int 1)], .lst [.k (.int 1), .k (.int 2)]]) (.call "_law_pull" [.v 0, .k (.int 2)])),
    .asg (.n 3) (.sub (.lst [.lst [.k (.int 1)], .lst [.k (.int 1), .k (.int 2)], .lst [.k (.int 2)]]) (.call "_law_pull" [.v 0, .k (.int 3)])),
    .asg (.n 4) (.call "_law_pull" [.v 0, .k (.int 3)]),
    .ret (.comp false [5] (.n 5) (.rng [.v 1]) none (.call "_law_part" [.v 0, .v 2, .v 3, .v 4, .bin .Add (.k (.int 1)) (.call "_law_pull" [.v 0, .k (.int 2)])]))]
abbrev s__law_free : Stmt := topS 30
def n__law_free : List Str := ["chest", "many", "bottoms", "gaps", "reach", "turn"]
def b__law_free : List Sm :=
   [.asg (.n 2) (.sub (.lst [.lst [.k (.int 1), .k (.int 2), .k (.int 3), .k (.int 4), .k (.int 6)], .lst [.k (.int 2), .k (.int 3)], .lst [.k (.int 3), .k (.int 4)], .lst [.k (.int 4), .k (.int 6)], .lst [.k (.int 6)], .lst [.k (.int 1)]]) (.call "_law_pull" [.v 0, .k (.int 6)])),
    .asg (.n 3) (.sub (.lst [.lst [.k (.int 1), .k (.int 2), .k (.int 3), .k (.int 4), .k (.int 5), .k (.int 6)], .lst [.k (.int 2), .k (.int 3)], .lst [.k (.int 4), .k (.int 6)], .lst [.k (.int 5), .k (.int 6)], .lst [.k (.int 4)], .lst [.k (.int 1)]]) (.call "_law_pull" [.v 0, .k (.int 6)])),
    .asg (.n 4) (.sub (.tup [.k (.int 9), .call "_law_pull" [.v 0, .k (.int 10)]]) (.call "_law_pull" [.v 0, .k (.int 2)])),
    .ret (.comp false [5] (.n 5) (.rng [.v 1]) none (.call "_law_part" [.v 0, .v 2, .v 3, .v 4, .call "_law_pull" [.v 0, .k (.int 6)]]))]
abbrev s_law : Stmt := topS 31
def n_law : List Str := ["script", "chest", "turn", "flat", "many", "parts", "place", "code", "named", "less", "alone", "part"]
def b_law : List Sm :=
   [.asg (.n 1) (.call "_law_chest" [.v 0]),
    .for_ (.n 2) (.rng [.k (.int 4)]) [.asg (.n 4) (.bin .Add (.k (.int 1)) (.call "_law_pull" [.v 1, .k (.int 11)])),
    .ite (.and [.cmp .Eq (.v 2) (.k (.int 0)), .cmp .Eq (.call "_law_pull" [.v 1, .k (.int 7)]) (.k (.int 2))]) [.asg (.n 4) (.k (.int 39))] [],
    .asg (.n 5) (.sub (.tup [.call "_law_plain" [.v 1, .v 4], .call "_law_free" [.v 1, .v 4]]) (.bi "int" [.cmp .Eq (.v 2) (.k (.int 1))])),
    .asg (.n 6) (.call "_law_pull" [.v 1, .bin .Add (.v 4) (.k (.int 1))]),
    .asg (.n 7) (.bi "tuple" [.bin .Add (.bin .Add (.slc (.v 5) none (some (.v 6))) (.lst [.call "_law_special" [.v 1]])) (.slc (.v 5) (some (.v 6)) none)]),
    .asg (.n 8) (.cmp .Eq (.call "_law_pull" [.v 1, .k (.int 2)]) (.k (.int 1))),
    .asg (.n 9) (.bi "tuple" [.v 5]),
    .ite (.or [.not (.e (.call "_law_holds" [.v 7, .v 8])), .not (.e (.call "_law_holds" [.v 9, .k (.bl false)])), .not (.e (.call "_law_holds" [.v 7, .k (.bl false)]))]) [.ret (.k (.bl false))] [],
    .asg (.n 10) (.tup [.sub (.v 7) (.v 6)]),
    .ite (.not (.e (.call "_law_holds" [.v 10, .k (.bl true)]))) [.ret (.k (.bl false))] [],
    .for_ (.n 11) (.s (.v 9)) [.ite (.and [.cmp .NotEq (.sub (.v 11) (.k (.int 0))) (.k (.str "row")), .not (.e (.call "_law_holds" [.tup [.v 11], .k (.bl false)]))]) [.ret (.k (.bl false))] []]],
    .asg (.n 3) (.tup [.tup [.k (.str "along"), .k (.int 0), .tup [.k (.int 0), .k (.int 1), .k (.int 0)], .tup [.k (.int 1), .k (.int 1), .k (.int 0)]]]),
    .ret (.and [.cmp .Eq (.call "_law_due" [.v 3]) (.lst [.k (.int 1), .k (.int 1), .k (.int 0), .k (.int 1), .k (.int 14)]), .call "_law_holds" [.v 3, .k (.bl true)]])]
def bB : List String := ["abs", "bool", "int", "isinstance", "len", "list", "max", "range", "sorted", "tuple"]
theorem sc_ends_of : FnScope n_ends_of ["unit"] (defScope s_ends_of) := ⟨rfl, rfl, rfl, by decide +kernel, rfl, by decide +kernel, by decide +kernel⟩
theorem c_ends_of : chkSs n_ends_of bB (defScope s_ends_of) true b_ends_of (defBody s_ends_of) = true := by decide +kernel
theorem sc_size_of_units : FnScope n_size_of_units ["units"] (defScope s_size_of_units) := ⟨rfl, rfl, rfl, by decide +kernel, rfl, by decide +kernel, by decide +kernel⟩
theorem c_size_of_units : chkSs n_size_of_units bB (defScope s_size_of_units) true b_size_of_units (defBody s_size_of_units) = true := by decide +kernel
theorem sc_part_marks : FnScope n_part_marks ["part"] (defScope s_part_marks) := ⟨rfl, rfl, rfl, by decide +kernel, rfl, by decide +kernel, by decide +kernel⟩
theorem c_part_marks : chkSs n_part_marks bB (defScope s_part_marks) true b_part_marks (defBody s_part_marks) = true := by decide +kernel
theorem sc_part_top : FnScope n_part_top ["part"] (defScope s_part_top) := ⟨rfl, rfl, rfl, by decide +kernel, rfl, by decide +kernel, by decide +kernel⟩
theorem c_part_top : chkSs n_part_top bB (defScope s_part_top) true b_part_top (defBody s_part_top) = true := by decide +kernel
theorem sc_top_of : FnScope n_top_of ["code"] (defScope s_top_of) := ⟨rfl, rfl, rfl, by decide +kernel, rfl, by decide +kernel, by decide +kernel⟩
theorem c_top_of : chkSs n_top_of bB (defScope s_top_of) true b_top_of (defBody s_top_of) = true := by decide +kernel
theorem sc_marks_of : FnScope n_marks_of ["code"] (defScope s_marks_of) := ⟨rfl, rfl, rfl, by decide +kernel, rfl, by decide +kernel, by decide +kernel⟩
theorem c_marks_of : chkSs n_marks_of bB (defScope s_marks_of) true b_marks_of (defBody s_marks_of) = true := by decide +kernel
theorem sc_bottom_of : FnScope n_bottom_of ["code"] (defScope s_bottom_of) := ⟨rfl, rfl, rfl, by decide +kernel, rfl, by decide +kernel, by decide +kernel⟩
theorem c_bottom_of : chkSs n_bottom_of bB (defScope s_bottom_of) true b_bottom_of (defBody s_bottom_of) = true := by decide +kernel
theorem sc_gap_of : FnScope n_gap_of ["code"] (defScope s_gap_of) := ⟨rfl, rfl, rfl, by decide +kernel, rfl, by decide +kernel, by decide +kernel⟩
theorem c_gap_of : chkSs n_gap_of bB (defScope s_gap_of) true b_gap_of (defBody s_gap_of) = true := by decide +kernel
theorem sc_reach_of : FnScope n_reach_of ["code"] (defScope s_reach_of) := ⟨rfl, rfl, rfl, by decide +kernel, rfl, by decide +kernel, by decide +kernel⟩
theorem c_reach_of : chkSs n_reach_of bB (defScope s_reach_of) true b_reach_of (defBody s_reach_of) = true := by decide +kernel
theorem sc_period_of : FnScope n_period_of ["code"] (defScope s_period_of) := ⟨rfl, rfl, rfl, by decide +kernel, rfl, by decide +kernel, by decide +kernel⟩
theorem c_period_of : chkSs n_period_of bB (defScope s_period_of) true b_period_of (defBody s_period_of) = true := by decide +kernel
theorem sc_bound_of : FnScope n_bound_of ["code"] (defScope s_bound_of) := ⟨rfl, rfl, rfl, by decide +kernel, rfl, by decide +kernel, by decide +kernel⟩
theorem c_bound_of : chkSs n_bound_of bB (defScope s_bound_of) true b_bound_of (defBody s_bound_of) = true := by decide +kernel
theorem sc__law_chest : FnScope n__law_chest ["script"] (defScope s__law_chest) := ⟨rfl, rfl, rfl, by decide +kernel, rfl, by decide +kernel, by decide +kernel⟩
theorem c__law_chest : chkSs n__law_chest bB (defScope s__law_chest) true b__law_chest (defBody s__law_chest) = true := by decide +kernel
theorem sc__law_pull : FnScope n__law_pull ["chest", "many"] (defScope s__law_pull) := ⟨rfl, rfl, rfl, by decide +kernel, rfl, by decide +kernel, by decide +kernel⟩
theorem c__law_pull : chkSs n__law_pull bB (defScope s__law_pull) true b__law_pull (defBody s__law_pull) = true := by decide +kernel
theorem sc__law_multiple : FnScope n__law_multiple ["one", "other"] (defScope s__law_multiple) := ⟨rfl, rfl, rfl, by decide +kernel, rfl, by decide +kernel, by decide +kernel⟩
theorem c__law_multiple : chkSs n__law_multiple bB (defScope s__law_multiple) true b__law_multiple (defBody s__law_multiple) = true := by decide +kernel
theorem sc__law_lowest : FnScope n__law_lowest ["share", "bottom"] (defScope s__law_lowest) := ⟨rfl, rfl, rfl, by decide +kernel, rfl, by decide +kernel, by decide +kernel⟩
theorem c__law_lowest : chkSs n__law_lowest bB (defScope s__law_lowest) true b__law_lowest (defBody s__law_lowest) = true := by decide +kernel
theorem sc__law_mark : FnScope n__law_mark ["chest", "bottoms", "reach"] (defScope s__law_mark) := ⟨rfl, rfl, rfl, by decide +kernel, rfl, by decide +kernel, by decide +kernel⟩
theorem c__law_mark : chkSs n__law_mark bB (defScope s__law_mark) true b__law_mark (defBody s__law_mark) = true := by decide +kernel
theorem sc__law_units : FnScope n__law_units ["chest", "top"] (defScope s__law_units) := ⟨rfl, rfl, rfl, by decide +kernel, rfl, by decide +kernel, by decide +kernel⟩
theorem c__law_units : chkSs n__law_units bB (defScope s__law_units) true b__law_units (defBody s__law_units) = true := by decide +kernel
theorem sc__law_part : FnScope n__law_part ["chest", "bottoms", "gaps", "reach", "top"] (defScope s__law_part) := ⟨rfl, rfl, rfl, by decide +kernel, rfl, by decide +kernel, by decide +kernel⟩
theorem c__law_part : chkSs n__law_part bB (defScope s__law_part) true b__law_part (defBody s__law_part) = true := by decide +kernel
theorem sc__law_special : FnScope n__law_special ["chest"] (defScope s__law_special) := ⟨rfl, rfl, rfl, by decide +kernel, rfl, by decide +kernel, by decide +kernel⟩
theorem c__law_special : chkSs n__law_special bB (defScope s__law_special) true b__law_special (defBody s__law_special) = true := by decide +kernel
theorem sc__law_due : FnScope n__law_due ["code"] (defScope s__law_due) := ⟨rfl, rfl, rfl, by decide +kernel, rfl, by decide +kernel, by decide +kernel⟩
theorem c__law_due : chkSs n__law_due bB (defScope s__law_due) true b__law_due (defBody s__law_due) = true := by decide +kernel
theorem sc__law_told : FnScope n__law_told ["code", "named"] (defScope s__law_told) := ⟨rfl, rfl, rfl, by decide +kernel, rfl, by decide +kernel, by decide +kernel⟩
theorem c__law_told : chkSs n__law_told bB (defScope s__law_told) true b__law_told (defBody s__law_told) = true := by decide +kernel
theorem sc__law_holds : FnScope n__law_holds ["code", "named"] (defScope s__law_holds) := ⟨rfl, rfl, rfl, by decide +kernel, rfl, by decide +kernel, by decide +kernel⟩
theorem c__law_holds : chkSs n__law_holds bB (defScope s__law_holds) true b__law_holds (defBody s__law_holds) = true := by decide +kernel
theorem sc__law_plain : FnScope n__law_plain ["chest", "many"] (defScope s__law_plain) := ⟨rfl, rfl, rfl, by decide +kernel, rfl, by decide +kernel, by decide +kernel⟩
theorem c__law_plain : chkSs n__law_plain bB (defScope s__law_plain) true b__law_plain (defBody s__law_plain) = true := by decide +kernel
theorem sc__law_free : FnScope n__law_free ["chest", "many"] (defScope s__law_free) := ⟨rfl, rfl, rfl, by decide +kernel, rfl, by decide +kernel, by decide +kernel⟩
theorem c__law_free : chkSs n__law_free bB (defScope s__law_free) true b__law_free (defBody s__law_free) = true := by decide +kernel
theorem sc_law : FnScope n_law ["script"] (defScope s_law) := ⟨rfl, rfl, rfl, by decide +kernel, rfl, by decide +kernel, by decide +kernel⟩
theorem c_law : chkSs n_law bB (defScope s_law) true b_law (defBody s_law) = true := by decide +kernel
end K25
namespace K25
open PySem PySem.Spec L2 Vc
theorem sz {n : Nat} (h : n ≤ 10000) : n ≤ sizeLine := by rw [sizeLine_eq]; omega
def sp_ends_of : CSp := fun ds M K => ∃ x y w, ds = [.tup [.int x, .int y, .str w]] ∧ K (.tup [.tup [.int x, .int y], if w = "r" then .tup [.int (x + 1), .int y] else .tup [.int x, .int (y + 1)]]) M
theorem v_ends_of {Γ : Gam} (ds : List D) (M : Mp) (Q : KD) (h : sp_ends_of ds M Q) : wpSs Γ b_ends_of (startD n_ends_of ds) M (Post Q) := by
  obtain ⟨x, y, w, rfl, h⟩ := h
  simp [b_ends_of, n_ends_of, startD, ↓wSs_nil, ↓wSs_cons, ↓wS_asg, ↓wS_par, ↓wS_set, ↓wS_aug, ↓wS_ex, ↓wS_ret, ↓wS_retN, ↓wS_ite, ↓wS_brk, ↓wS_cont, ↓wS_pass, ↓wE_v, ↓wE_k, ↓wE_g, ↓wE_bin, ↓wE_neg, ↓wE_cmp, ↓wE_isN, ↓wE_not, ↓wE_and1, ↓wE_and, ↓wE_or1, ↓wE_or, ↓wE_ite, ↓wE_tup, ↓wE_lst, ↓wE_lstM, ↓wE_dctM, ↓wE_sub, ↓wE_slc, ↓wE_isi, ↓wE_bi, ↓wE_mth, ↓wE_disp, ↓wE_lkeys, ↓wEs_nil, ↓wEs_cons, ↓wO_none, ↓wO_some, ↓wT_e, ↓wT_not, ↓wT_cmp, ↓wT_chain, ↓wT_isN, ↓wT_and1, ↓wT_and, ↓wT_or1, ↓wT_or, ↓wTo_none, ↓wTo_some, ↓wG_n, ↓wG_t, ↓wG_k, ↓wGs_nil, ↓wGs_cons, ↓wI_s, ↓wI_rng, Post, o_add, o_sub, o_mul, o_div, o_mod, o_pow, o_cats, o_catt, o_catl, o_eqi, o_eqs, o_eqb, o_nei, o_nes, o_lt, o_gt, o_le, o_ge, o_tn, o_tb, o_ti, o_tt, o_tl, s_lst, s_tup, s_ktp, s_str, ok_s, ok_i, get_hit, get_miss, b_int, b_intb, b_lenl, b_lent, b_tupl, b_tupt, b_abs, b_max2, b_min2, atI_0, atI_1, atI_2, atI_3, atI_4, it_lst, it_klst, it_tup, it_ktp, rg_1, rg_2, sizeLine_eq]
  split <;> simp_all [ret_of]
/-! the chest -/
def Chest (M : Mp) (c b : Addr) : Prop := c ≠ b ∧ ∃ (ns : List Int) (l n : Int), M c = some (.dct false [(.str "box", .ref b), (.str "look", .int l), (.str "count", .int n)]) ∧ M b = some (.lst (ns.map D.int))
def ChS (M M' : Mp) (c b : Addr) : Prop := Chest M' c b ∧ ∀ a, a ≠ c → a ≠ b → M' a = M a
def sp_pull : CSp := fun ds M K => ∃ c b many, ds = [.ref c, .int many] ∧ 1 ≤ many ∧ many < 2 ^ 20 ∧ Chest M c b ∧ ∀ r M', 0 ≤ r → r < many → ChS M M' c b → K (.int r) M'
theorem k1 : ¬ (("box" : Str) = "look") := by decide
theorem k2 : ¬ (("box" : Str) = "count") := by decide
theorem k3 : ¬ (("look" : Str) = "count") := by decide
theorem k4 : ¬ (("look" : Str) = "box") := by decide
theorem k5 : ¬ (("count" : Str) = "box") := by decide
theorem k6 : ¬ (("count" : Str) = "look") := by decide
theorem v_pull {Γ : Gam} (ds : List D) (M : Mp) (Q : KD) (h : sp_pull ds M Q) : wpSs Γ b__law_pull (startD n__law_pull ds) M (Post Q) := by
  obtain ⟨c, b, many, rfl, h1, h2, ⟨hcb, ns, l, n, hc, hb⟩, hQ⟩ := h
  have hbc : b ≠ c := fun z => hcb z.symm
  refine wp_at 3 (fun ρ M1 => ρ = [some (.ref c), some (.int many), some (.ref b), some (.int (n + 1)), none, none, none] ∧ M1 = mu M c (.dct false [(.str "box", .ref b), (.str "look", .int l), (.str "count", .int (n + 1))])) ?_ ?_
  · simp [b__law_pull, n__law_pull, startD, ↓wSs_nil, ↓wSs_cons, ↓wS_asg, ↓wS_par, ↓wS_set, ↓wS_aug, ↓wS_ex, ↓wS_ret, ↓wS_retN, ↓wS_ite, ↓wS_brk, ↓wS_cont, ↓wS_pass, ↓wE_v, ↓wE_k, ↓wE_g, ↓wE_bin, ↓wE_neg, ↓wE_cmp, ↓wE_isN, ↓wE_not, ↓wE_and1, ↓wE_and, ↓wE_or1, ↓wE_or, ↓wE_ite, ↓wE_tup, ↓wE_lst, ↓wE_lstM, ↓wE_dctM, ↓wE_sub, ↓wE_slc, ↓wE_isi, ↓wE_bi, ↓wE_mth, ↓wE_disp, ↓wE_lkeys, ↓wEs_nil, ↓wEs_cons, ↓wO_none, ↓wO_some, ↓wT_e, ↓wT_not, ↓wT_cmp, ↓wT_chain, ↓wT_isN, ↓wT_and1, ↓wT_and, ↓wT_or1, ↓wT_or, ↓wTo_none, ↓wTo_some, ↓wG_n, ↓wG_t, ↓wG_k, ↓wGs_nil, ↓wGs_cons, ↓wI_s, ↓wI_rng, Post, o_add, o_sub, o_mul, o_div, o_mod, o_pow, o_cats, o_catt, o_catl, o_eqi, o_eqs, o_eqb, o_nei, o_nes, o_lt, o_gt, o_le, o_ge, o_tn, o_tb, o_ti, o_tt, o_tl, s_lst, s_tup, s_ktp, s_str, ok_s, ok_i, get_hit, get_miss, b_int, b_intb, b_lenl, b_lent, b_tupl, b_tupt, b_abs, b_max2, b_min2, atI_0, atI_1, atI_2, atI_3, atI_4, it_lst, it_klst, it_tup, it_ktp, rg_1, rg_2, sizeLine_eq, s_refd hc, setD_d hc, k1, k2, k3, k4, k5, k6, putD, same_s]
  rintro ρ M1 ⟨rfl, rfl⟩
  have hb1 : (mu M c (.dct false [(.str "box", .ref b), (.str "look", .int l), (.str "count", .int (n + 1))])) b = some (.lst (ns.map D.int)) := (mu_ne hbc).trans hb
  have hc1 := mu_same (M := M) (a := c) (o := .dct false [(.str "box", .ref b), (.str "look", .int l), (.str "count", .int (n + 1))])
  have ch1 : ChS M (mu M c (.dct false [(.str "box", .ref b), (.str "look", .int l), (.str "count", .int (n + 1))])) c b := ⟨⟨hcb, ns, l, n + 1, hc1, hb1⟩, fun a h1 _ => mu_ne h1⟩
  generalize mu M c (.dct false [(.str "box", .ref b), (.str "look", .int l), (.str "count", .int (n + 1))]) = M1 at hb1 hc1 ch1 ⊢
  refine wp_at 2 (fun ρ M1 => ∃ cell x5 x6, ρ = [some (.ref c), some (.int many), some (.ref b), some (.int (n + 1)), some (.int cell), x5, x6] ∧ ChS M M1 c b) ?_ ?_
  · by_cases hl : ns.length = 0
    · simp [b__law_pull, ↓wSs_nil, ↓wSs_cons, ↓wS_asg, ↓wS_par, ↓wS_set, ↓wS_aug, ↓wS_ex, ↓wS_ret, ↓wS_retN, ↓wS_ite, ↓wS_brk, ↓wS_cont, ↓wS_pass, ↓wE_v, ↓wE_k, ↓wE_g, ↓wE_bin, ↓wE_neg, ↓wE_cmp, ↓wE_isN, ↓wE_not, ↓wE_and1, ↓wE_and, ↓wE_or1, ↓wE_or, ↓wE_ite, ↓wE_tup, ↓wE_lst, ↓wE_lstM, ↓wE_dctM, ↓wE_sub, ↓wE_slc, ↓wE_isi, ↓wE_bi, ↓wE_mth, ↓wE_disp, ↓wE_lkeys, ↓wEs_nil, ↓wEs_cons, ↓wO_none, ↓wO_some, ↓wT_e, ↓wT_not, ↓wT_cmp, ↓wT_chain, ↓wT_isN, ↓wT_and1, ↓wT_and, ↓wT_or1, ↓wT_or, ↓wTo_none, ↓wTo_some, ↓wG_n, ↓wG_t, ↓wG_k, ↓wGs_nil, ↓wGs_cons, ↓wI_s, ↓wI_rng, Post, o_add, o_sub, o_mul, o_div, o_mod, o_pow, o_cats, o_catt, o_catl, o_eqi, o_eqs, o_eqb, o_nei, o_nes, o_lt, o_gt, o_le, o_ge, o_tn, o_tb, o_ti, o_tt, o_tl, s_lst, s_tup, s_ktp, s_str, ok_s, ok_i, get_hit, get_miss, b_int, b_intb, b_lenl, b_lent, b_tupl, b_tupt, b_abs, b_max2, b_min2, atI_0, atI_1, atI_2, atI_3, atI_4, it_lst, it_klst, it_tup, it_ktp, rg_1, rg_2, sizeLine_eq, b_lenr hb1, hl, ch1]
    · have h0 : 0 ≤ l % (ns.length : Int) := Int.emod_nonneg _ (by omega)
      have h9 : l % (ns.length : Int) < ns.length := Int.emod_lt_of_pos _ (by omega)
      have hat := atI_in h0 h9
      generalize ns[(l % (ns.length : Int)).toNat]'(by omega) = v at hat
      have hp : 0 < ns.length := by omega
      simp [b__law_pull, ↓wSs_nil, ↓wSs_cons, ↓wS_asg, ↓wS_par, ↓wS_set, ↓wS_aug, ↓wS_ex, ↓wS_ret, ↓wS_retN, ↓wS_ite, ↓wS_brk, ↓wS_cont, ↓wS_pass, ↓wE_v, ↓wE_k, ↓wE_g, ↓wE_bin, ↓wE_neg, ↓wE_cmp, ↓wE_isN, ↓wE_not, ↓wE_and1, ↓wE_and, ↓wE_or1, ↓wE_or, ↓wE_ite, ↓wE_tup, ↓wE_lst, ↓wE_lstM, ↓wE_dctM, ↓wE_sub, ↓wE_slc, ↓wE_isi, ↓wE_bi, ↓wE_mth, ↓wE_disp, ↓wE_lkeys, ↓wEs_nil, ↓wEs_cons, ↓wO_none, ↓wO_some, ↓wT_e, ↓wT_not, ↓wT_cmp, ↓wT_chain, ↓wT_isN, ↓wT_and1, ↓wT_and, ↓wT_or1, ↓wT_or, ↓wTo_none, ↓wTo_some, ↓wG_n, ↓wG_t, ↓wG_k, ↓wGs_nil, ↓wGs_cons, ↓wI_s, ↓wI_rng, Post, o_add, o_sub, o_mul, o_div, o_mod, o_pow, o_cats, o_catt, o_catl, o_eqi, o_eqs, o_eqb, o_nei, o_nes, o_lt, o_gt, o_le, o_ge, o_tn, o_tb, o_ti, o_tt, o_tl, s_lst, s_tup, s_ktp, s_str, ok_s, ok_i, get_hit, get_miss, b_int, b_intb, b_lenl, b_lent, b_tupl, b_tupt, b_abs, b_max2, b_min2, atI_0, atI_1, atI_2, atI_3, atI_4, it_lst, it_klst, it_tup, it_ktp, rg_1, rg_2, sizeLine_eq, b_lenr hb1, s_refl hb1, s_refd hc1, setD_l hb1, setD_d hc1, hp, atI_map, hat, k1, k2, k3, k4, k5, k6, putD, same_s]
      refine ⟨by unfold CPow; decide, ?_⟩
      split
      · refine ⟨div_r (by omega) (by omega), _, ixN_in h0 h9, by omega, ret_of (hQ _ _ (Int.emod_nonneg _ (by omega)) (Int.emod_lt_of_pos _ (by omega)) ⟨⟨hcb, ns.set (l % (ns.length : Int)).toNat (v / many), l, n + 1, (mu_ne hcb).trans hc1, ?_⟩, fun a q1 q2 => (mu_ne q2).trans (ch1.2 a q1 q2)⟩)⟩
        rw [mu_same, List.map_set]
      · exact ⟨⟨hcb, ns, _, n + 1, mu_same, (mu_ne hbc).trans hb1⟩, fun a q1 q2 => (mu_ne q1).trans (ch1.2 a q1 q2)⟩
  rintro ρ M1 ⟨cell, x5, x6, rfl, hch⟩
  simp [b__law_pull, ↓wSs_nil, ↓wSs_cons, ↓wS_asg, ↓wS_par, ↓wS_set, ↓wS_aug, ↓wS_ex, ↓wS_ret, ↓wS_retN, ↓wS_ite, ↓wS_brk, ↓wS_cont, ↓wS_pass, ↓wE_v, ↓wE_k, ↓wE_g, ↓wE_bin, ↓wE_neg, ↓wE_cmp, ↓wE_isN, ↓wE_not, ↓wE_and1, ↓wE_and, ↓wE_or1, ↓wE_or, ↓wE_ite, ↓wE_tup, ↓wE_lst, ↓wE_lstM, ↓wE_dctM, ↓wE_sub, ↓wE_slc, ↓wE_isi, ↓wE_bi, ↓wE_mth, ↓wE_disp, ↓wE_lkeys, ↓wEs_nil, ↓wEs_cons, ↓wO_none, ↓wO_some, ↓wT_e, ↓wT_not, ↓wT_cmp, ↓wT_chain, ↓wT_isN, ↓wT_and1, ↓wT_and, ↓wT_or1, ↓wT_or, ↓wTo_none, ↓wTo_some, ↓wG_n, ↓wG_t, ↓wG_k, ↓wGs_nil, ↓wGs_cons, ↓wI_s, ↓wI_rng, Post, o_add, o_sub, o_mul, o_div, o_mod, o_pow, o_cats, o_catt, o_catl, o_eqi, o_eqs, o_eqb, o_nei, o_nes, o_lt, o_gt, o_le, o_ge, o_tn, o_tb, o_ti, o_tt, o_tl, s_lst, s_tup, s_ktp, s_str, ok_s, ok_i, get_hit, get_miss, b_int, b_intb, b_lenl, b_lent, b_tupl, b_tupt, b_abs, b_max2, b_min2, atI_0, atI_1, atI_2, atI_3, atI_4, it_lst, it_klst, it_tup, it_ktp, rg_1, rg_2, sizeLine_eq]
  refine ⟨mul_r (by omega) (by omega), mul_r (by omega) (by omega), mul_r (by omega) (by omega), mul_r (by omega) (by omega), mul_r (by omega) (by omega), mul_r (by omega) (by omega), div_r (by omega) (by omega), by omega, ret_of (hQ _ _ (Int.emod_nonneg _ (by omega)) (Int.emod_lt_of_pos _ (by omega)) hch)⟩
end K25
namespace K25
open PySem PySem.Spec L2 Vc
/-! marks, units, parts -/
structure Mk where
  s : Int
  b : Int
  m : Int
structure Un where
  x : Int
  y : Int
  u : Bool
inductive Pt where
  | along (y : Int) (p q : Mk) | up (p : Mk) (l h : Int) | row (us : List Un) (g : Int) (p q : Mk) | stamp (us : List Un) (q : Mk)
def Mk.d (k : Mk) : D := .tup [.int k.s, .int k.b, .int k.m]
def Un.w (u : Un) : Str := if u.u = true then "u" else "r"
def Un.d (u : Un) : D := .tup [.int u.x, .int u.y, .str u.w]
def Pt.d : Pt → D
  | .along y p q => .tup [.str "along", .int y, p.d, q.d]
  | .up p l h => .tup [.str "up", p.d, .int l, .int h]
  | .row us g p q => .tup [.str "row", .tup (us.map Un.d), .int g, p.d, q.d]
  | .stamp us q => .tup [.str "stamp", .tup (us.map Un.d), q.d]
def codeD (c : List Pt) : D := .tup (c.map Pt.d)
def Pt.marks : Pt → List Mk
  | .along _ p q => [p, q]
  | .up p _ _ => [p]
  | .row _ _ p q => [p, q]
  | .stamp _ q => [q]
def Un.top (u : Un) : Int := if u.u = true then u.y + 1 else u.y
def mxL : List Int → Int
  | [] => 0
  | x :: r => best .max x r
def Un.ends (u : Un) : List (Int × Int) := [(u.x, u.y), if u.u = true then (u.x, u.y + 1) else (u.x + 1, u.y)]
def pD (p : Int × Int) : D := .tup [.int p.1, .int p.2]
theorem w_r (u : Un) : (u.w = ("r" : Str)) ↔ u.u = false := by
  unfold Un.w
  cases u.u <;> simp <;> decide
theorem intsD_of : ∀ (l : List Int), intsD (l.map D.int) = some l
  | [] => rfl
  | x :: r => by rw [List.map_cons, intsD, intsD_of r]
theorem b_maxl {l : List Int} {M : Mp} {K : KD} (hl : l ≠ []) (h : K (.int (mxL l)) M) : biD "max" [.lst (l.map D.int)] M K := by
  cases l with
  | nil => exact absurd rfl hl
  | cons x r => exact ⟨(x :: r).map D.int, x, r, rfl, intsD_of _, h⟩
def sp_size : CSp := fun ds M K => ∃ us : List Un, ds = [.tup (us.map Un.d)] ∧ us ≠ [] ∧ us.length ≤ 1000 ∧ K (.tup [.int (mxL ((us.flatMap Un.ends).map (·.1))), .int (mxL ((us.flatMap Un.ends).map (·.2)))]) M
theorem comp_fst {Γ : Gam} {ρ : Env'} {M : Mp} {l : List (Int × Int)} {i : Nat} {j : Int} {p : Addr} {Kf : List D → Mp → Prop} (f : Int × Int → Int) (hf : ∀ q : Int × Int, atI [D.int q.1, D.int q.2] j = some (.int (f q))) (hi : i < ρ.length) (hp : M p = none) (hl : l.length ≤ sizeLine) (h : Kf ((l.map f).map D.int) (mu M p (.lst ((l.map f).map D.int)))) :
    compL (fun x M2 K => wpG (.n i) x (wipeD ρ [i]) M2 fun ρ1 => wpTo Γ none ρ1 M2 fun c M3 => if c = true then wpE Γ (.sub (.v i) (.k (.int j))) ρ1 M3 fun d M4 => K (some d) M4 else K none M3) (fun _ => True) p (l.map pD) [] (mu M p (.lst [])) Kf := by
  refine comp_pure (fun d => match d with | .tup [.int x, .int y] => some (.int (f (x, y))) | _ => none) hp (fun x M' K hx _ hK => ?_) (fun _ _ => trivial) (by simpa using hl) ?_
  · obtain ⟨q, _, rfl⟩ := List.mem_map.mp hx
    have e : ((wipeD ρ [i]).set i (some (pD q)))[i]? = some (some (pD q)) := List.getElem?_set_self (by simp [wipeD]; exact hi)
    simp only [↓wG_n, ↓wTo_none, if_true, ↓wE_sub, ↓wE_v, ↓wE_k, e]
    refine ⟨_, rfl, ?_⟩
    rw [pD, s_tup]
    exact ⟨j, .int (f q), rfl, hf q, hK⟩
  · have e : ((l.map pD).filterMap fun d => match d with | .tup [.int x, .int y] => some (D.int (f (x, y))) | _ => none) = (l.map f).map D.int := by
      rw [List.filterMap_map, List.map_map]
      have : (fun d => match d with | D.tup [.int x, .int y] => some (D.int (f (x, y))) | _ => none) ∘ pD = fun q => some (D.int (f q)) := funext fun q => rfl
      rw [this, List.filterMap_eq_map']
      rfl
    rw [e]; exact h
theorem v_size {Γ : Gam} (g1 : Γ.fn "ends_of" = some (1, sp_ends_of)) (ds : List D) (M : Mp) (Q : KD) (h : sp_size ds M Q) : wpSs Γ b_size_of_units (startD n_size_of_units ds) M (Post Q) := by
  obtain ⟨us, rfl, hne, hlen, hQ⟩ := h
  have hcnt : (us.flatMap Un.ends).length = 2 * us.length := by
    clear hne hlen hQ
    induction us with
    | nil => rfl
    | cons u us ih => rw [List.flatMap_cons, List.length_append, ih]; simp [Un.ends]; omega
  have hρ : startD n_size_of_units [D.tup (us.map Un.d)] = [some (.tup (us.map Un.d)), none, none, none] := rfl
  rw [hρ]
  refine wp_at 1 (fun ρ M1 => ρ = [some (.tup (us.map Un.d)), some (.lst ((us.flatMap Un.ends).map pD)), none, none] ∧ M1 = M) ?_ ?_
  · show wpSs Γ [Sm.asg _ _] _ _ _
    rw [wSs_cons, wS_asg, wpE]
    simp only [↓wI_s, ↓wE_v]
    refine ⟨_, rfl, ?_⟩
    rw [it_tup]
    intro p hp
    have hlen2 : ((us.map Un.d).flatMap fun d => match d with | .tup [.int x, .int y, .str w] => [pD (x, y), if w = "r" then pD (x + 1, y) else pD (x, y + 1)] | _ => []) = (us.flatMap Un.ends).map pD := by
      rw [List.flatMap_map, List.map_flatMap]
      refine congrArg (fun f => List.flatMap f us) (funext fun u => ?_)
      simp only [Un.d, Un.ends, List.map_cons, List.map_nil, w_r]
      cases u.u <;> simp
    refine outL_pure (M1 := M) (xs := us.map Un.d) (fun d => match d with | .tup [.int x, .int y, .str w] => [pD (x, y), if w = "r" then pD (x + 1, y) else pD (x, y + 1)] | _ => []) (fun x acc K hx hl hK => ?_) (fun _ => trivial) (us.map Un.d) [] _ (fun _ h => h) ?_ ?_
    · obtain ⟨u, _, rfl⟩ := List.mem_map.mp hx
      simp only [Un.d, List.length_cons, List.length_nil] at hl hK
      simp only [Un.d, ↓wG_n, ↓wTo_none, if_true, ↓wI_s, wE_call, ↓wEs_cons, ↓wEs_nil, ↓wE_v, wipeD]
      refine ⟨_, g1, _, rfl, runC.of ⟨u.x, u.y, u.w, rfl, ?_⟩⟩
      dsimp only
      rw [it_tup]
      refine ⟨mu_same, ?_⟩
      have hK' : K (acc ++ [pD (u.x, u.y), if u.w = "r" then pD (u.x + 1, u.y) else pD (u.x, u.y + 1)]) (mu M p (.lst (acc ++ [pD (u.x, u.y), if u.w = "r" then pD (u.x + 1, u.y) else pD (u.x, u.y + 1)]))) := hK
      simp only [compL]
      refine ⟨trivial, _, rfl, mu_same, by omega, trivial, _, rfl, mu_same, by rw [List.length_append]; simp; omega, trivial, ?_⟩
      rw [mu_mu, mu_mu, List.append_assoc]
      have e : (if u.w = ("r" : Str) then D.tup [D.int (u.x + 1), D.int u.y] else D.tup [D.int u.x, D.int (u.y + 1)]) = if u.w = "r" then pD (u.x + 1, u.y) else pD (u.x, u.y + 1) := rfl
      exact hK'
    · rw [hlen2, List.length_map, hcnt]; exact sz (by simp; omega)
    · rw [hlen2, if_neg (by decide), mdel_mu hp, List.nil_append]
      simp [↓wG_n, ↓wSs_nil]
  · rintro ρ M1 ⟨rfl, rfl⟩
    have hl : (us.flatMap Un.ends).length ≤ sizeLine := by rw [hcnt]; exact sz (by omega)
    have hn : us.flatMap Un.ends ≠ [] := fun z => by
      rw [z] at hcnt
      cases us with
      | nil => exact hne rfl
      | cons => simp at hcnt
    show wpSs Γ [Sm.ret _] _ _ _
    simp only [↓wSs_cons, ↓wS_ret, ↓wE_tup, ↓wEs_cons, ↓wEs_nil, ↓wE_bi, wE_comp, ↓wI_s, ↓wE_v]
    refine ⟨_, rfl, ?_⟩
    rw [it_lst]
    intro p hp
    refine comp_fst (ρ := [_, _, _, _]) (i := 3) (j := 0) (fun q => q.1) (fun q => atI_0) (show 3 < 4 by decide) hp hl ?_
    simp only [Bool.false_eq_true, if_false, mdel_mu hp]
    refine b_maxl (by simpa using hn) ⟨_, rfl, ?_⟩
    rw [it_lst]
    intro p hp
    refine comp_fst (ρ := [_, _, _, _]) (i := 3) (j := 1) (fun q => q.2) (fun q => atI_1) (show 3 < 4 by decide) hp hl ?_
    simp only [Bool.false_eq_true, if_false, mdel_mu hp]
    exact b_maxl (by simpa using hn) ⟨sz (by simp), ret_of hQ⟩
end K25
namespace K25
open PySem PySem.Spec L2 Vc
theorem t1 : ¬ (("up" : Str) = "along") := by decide
theorem t2 : ¬ (("row" : Str) = "along") := by decide
theorem t3 : ¬ (("stamp" : Str) = "along") := by decide
theorem t4 : ¬ (("row" : Str) = "up") := by decide
theorem t5 : ¬ (("stamp" : Str) = "up") := by decide
theorem t6 : ¬ (("row" : Str) = "stamp") := by decide
theorem t7 : ¬ (("along" : Str) = "row") := by decide
theorem t8 : ¬ (("up" : Str) = "row") := by decide
theorem t9 : ¬ (("stamp" : Str) = "row") := by decide
theorem t10 : ¬ (("along" : Str) = "up") := by decide
theorem t11 : ¬ (("along" : Str) = "stamp") := by decide
theorem t12 : ¬ (("up" : Str) = "stamp") := by decide
theorem slc_t {xs : List D} {lo hi : Option Int} {M : Mp} {K : KD} : slcD (.tup xs) lo hi M K = K (.tup (cutD xs lo hi)) M := rfl
theorem c2 {a b : D} {r : List D} : cutD (a :: b :: r) (some 2) none = r := by
  unfold cutD
  rw [show HT.sIx (a :: b :: r).length 0 (some 2) = min 2 (a :: b :: r).length from HT.sIx_nat _ 0 2, HT.sIx_none]
  have : min 2 (a :: b :: r).length = 2 := by simp only [List.length_cons]; omega
  rw [this]
  exact List.take_of_length_le (by simp)
theorem c3 {a b c : D} {r : List D} : cutD (a :: b :: c :: r) (some 3) none = r := by
  unfold cutD
  rw [show HT.sIx (a :: b :: c :: r).length 0 (some 3) = min 3 (a :: b :: c :: r).length from HT.sIx_nat _ 0 3, HT.sIx_none]
  have : min 3 (a :: b :: c :: r).length = 3 := by simp only [List.length_cons]; omega
  rw [this]
  exact List.take_of_length_le (by simp)
theorem c12 {a b : D} {r : List D} : cutD (a :: b :: r) (some 1) (some 2) = [b] := by
  unfold cutD
  rw [show HT.sIx (a :: b :: r).length 0 (some 1) = min 1 (a :: b :: r).length from HT.sIx_nat _ 0 1, show HT.sIx (a :: b :: r).length (a :: b :: r).length (some 2) = min 2 (a :: b :: r).length from HT.sIx_nat _ _ 2]
  have h1 : min 1 (a :: b :: r).length = 1 := by simp only [List.length_cons]; omega
  have h2 : min 2 (a :: b :: r).length = 2 := by simp only [List.length_cons]; omega
  rw [h1, h2]; rfl
def sp_marks : CSp := fun ds M K => ∃ p : Pt, ds = [p.d] ∧ K (.tup (p.marks.map Mk.d)) M
theorem v_part_marks {Γ : Gam} (ds : List D) (M : Mp) (Q : KD) (h : sp_marks ds M Q) : wpSs Γ b_part_marks (startD n_part_marks ds) M (Post Q) := by
  obtain ⟨p, rfl, hQ⟩ := h
  cases p <;> (simp [b_part_marks, n_part_marks, startD, Pt.d, ↓wSs_nil, ↓wSs_cons, ↓wS_asg, ↓wS_par, ↓wS_set, ↓wS_aug, ↓wS_ex, ↓wS_ret, ↓wS_retN, ↓wS_ite, ↓wS_brk, ↓wS_cont, ↓wS_pass, ↓wE_v, ↓wE_k, ↓wE_g, ↓wE_bin, ↓wE_neg, ↓wE_cmp, ↓wE_isN, ↓wE_not, ↓wE_and1, ↓wE_and, ↓wE_or1, ↓wE_or, ↓wE_ite, ↓wE_tup, ↓wE_lst, ↓wE_lstM, ↓wE_dctM, ↓wE_sub, ↓wE_slc, ↓wE_isi, ↓wE_bi, ↓wE_mth, ↓wE_disp, ↓wE_lkeys, ↓wEs_nil, ↓wEs_cons, ↓wO_none, ↓wO_some, ↓wT_e, ↓wT_not, ↓wT_cmp, ↓wT_chain, ↓wT_isN, ↓wT_and1, ↓wT_and, ↓wT_or1, ↓wT_or, ↓wTo_none, ↓wTo_some, ↓wG_n, ↓wG_t, ↓wG_k, ↓wGs_nil, ↓wGs_cons, ↓wI_s, ↓wI_rng, Post, o_add, o_sub, o_mul, o_div, o_mod, o_pow, o_cats, o_catt, o_catl, o_eqi, o_eqs, o_eqb, o_nei, o_nes, o_lt, o_gt, o_le, o_ge, o_tn, o_tb, o_ti, o_tt, o_tl, s_lst, s_tup, s_ktp, s_str, ok_s, ok_i, get_hit, get_miss, b_int, b_intb, b_lenl, b_lent, b_tupl, b_tupt, b_abs, b_max2, b_min2, atI_0, atI_1, atI_2, atI_3, atI_4, it_lst, it_klst, it_tup, it_ktp, rg_1, rg_2, t1, t2, t3, t4, t5, t6, slc_t, c2, c3, c12]; exact ret_of hQ)
def unTop (us : List Un) : Int := mxL ((us.flatMap Un.ends).map (·.2))
def Pt.top : Pt → Int
  | .along y _ _ => y
  | .up _ _ h => h
  | .row us _ _ _ => unTop us
  | .stamp us _ => unTop us
def Pt.uok : Pt → Prop
  | .row us _ _ _ => us ≠ [] ∧ us.length ≤ 1000
  | .stamp us _ => us ≠ [] ∧ us.length ≤ 1000
  | _ => True
def sp_top : CSp := fun ds M K => ∃ p : Pt, ds = [p.d] ∧ p.uok ∧ K (.int p.top) M
theorem v_part_top {Γ : Gam} (g1 : Γ.fn "size_of_units" = some (1, sp_size)) (ds : List D) (M : Mp) (Q : KD) (h : sp_top ds M Q) : wpSs Γ b_part_top (startD n_part_top ds) M (Post Q) := by
  obtain ⟨p, rfl, hu, hQ⟩ := h
  cases p with
  | along y p q => simp [b_part_top, n_part_top, startD, Pt.d, ↓wSs_nil, ↓wSs_cons, ↓wS_asg, ↓wS_par, ↓wS_set, ↓wS_aug, ↓wS_ex, ↓wS_ret, ↓wS_retN, ↓wS_ite, ↓wS_brk, ↓wS_cont, ↓wS_pass, ↓wE_v, ↓wE_k, ↓wE_g, ↓wE_bin, ↓wE_neg, ↓wE_cmp, ↓wE_isN, ↓wE_not, ↓wE_and1, ↓wE_and, ↓wE_or1, ↓wE_or, ↓wE_ite, ↓wE_tup, ↓wE_lst, ↓wE_lstM, ↓wE_dctM, ↓wE_sub, ↓wE_slc, ↓wE_isi, ↓wE_bi, ↓wE_mth, ↓wE_disp, ↓wE_lkeys, ↓wEs_nil, ↓wEs_cons, ↓wO_none, ↓wO_some, ↓wT_e, ↓wT_not, ↓wT_cmp, ↓wT_chain, ↓wT_isN, ↓wT_and1, ↓wT_and, ↓wT_or1, ↓wT_or, ↓wTo_none, ↓wTo_some, ↓wG_n, ↓wG_t, ↓wG_k, ↓wGs_nil, ↓wGs_cons, ↓wI_s, ↓wI_rng, Post, o_add, o_sub, o_mul, o_div, o_mod, o_pow, o_cats, o_catt, o_catl, o_eqi, o_eqs, o_eqb, o_nei, o_nes, o_lt, o_gt, o_le, o_ge, o_tn, o_tb, o_ti, o_tt, o_tl, s_lst, s_tup, s_ktp, s_str, ok_s, ok_i, get_hit, get_miss, b_int, b_intb, b_lenl, b_lent, b_tupl, b_tupt, b_abs, b_max2, b_min2, atI_0, atI_1, atI_2, atI_3, atI_4, it_lst, it_klst, it_tup, it_ktp, rg_1, rg_2]; exact ret_of hQ
  | up p l h => simp [b_part_top, n_part_top, startD, Pt.d, ↓wSs_nil, ↓wSs_cons, ↓wS_asg, ↓wS_par, ↓wS_set, ↓wS_aug, ↓wS_ex, ↓wS_ret, ↓wS_retN, ↓wS_ite, ↓wS_brk, ↓wS_cont, ↓wS_pass, ↓wE_v, ↓wE_k, ↓wE_g, ↓wE_bin, ↓wE_neg, ↓wE_cmp, ↓wE_isN, ↓wE_not, ↓wE_and1, ↓wE_and, ↓wE_or1, ↓wE_or, ↓wE_ite, ↓wE_tup, ↓wE_lst, ↓wE_lstM, ↓wE_dctM, ↓wE_sub, ↓wE_slc, ↓wE_isi, ↓wE_bi, ↓wE_mth, ↓wE_disp, ↓wE_lkeys, ↓wEs_nil, ↓wEs_cons, ↓wO_none, ↓wO_some, ↓wT_e, ↓wT_not, ↓wT_cmp, ↓wT_chain, ↓wT_isN, ↓wT_and1, ↓wT_and, ↓wT_or1, ↓wT_or, ↓wTo_none, ↓wTo_some, ↓wG_n, ↓wG_t, ↓wG_k, ↓wGs_nil, ↓wGs_cons, ↓wI_s, ↓wI_rng, Post, o_add, o_sub, o_mul, o_div, o_mod, o_pow, o_cats, o_catt, o_catl, o_eqi, o_eqs, o_eqb, o_nei, o_nes, o_lt, o_gt, o_le, o_ge, o_tn, o_tb, o_ti, o_tt, o_tl, s_lst, s_tup, s_ktp, s_str, ok_s, ok_i, get_hit, get_miss, b_int, b_intb, b_lenl, b_lent, b_tupl, b_tupt, b_abs, b_max2, b_min2, atI_0, atI_1, atI_2, atI_3, atI_4, it_lst, it_klst, it_tup, it_ktp, rg_1, rg_2, t1]; exact ret_of hQ
  | row us g p q =>
    simp [b_part_top, n_part_top, startD, Pt.d, ↓wSs_nil, ↓wSs_cons, ↓wS_asg, ↓wS_par, ↓wS_set, ↓wS_aug, ↓wS_ex, ↓wS_ret, ↓wS_retN, ↓wS_ite, ↓wS_brk, ↓wS_cont, ↓wS_pass, ↓wE_v, ↓wE_k, ↓wE_g, ↓wE_bin, ↓wE_neg, ↓wE_cmp, ↓wE_isN, ↓wE_not, ↓wE_and1, ↓wE_and, ↓wE_or1, ↓wE_or, ↓wE_ite, ↓wE_tup, ↓wE_lst, ↓wE_lstM, ↓wE_dctM, ↓wE_sub, ↓wE_slc, ↓wE_isi, ↓wE_bi, ↓wE_mth, ↓wE_disp, ↓wE_lkeys, ↓wEs_nil, ↓wEs_cons, ↓wO_none, ↓wO_some, ↓wT_e, ↓wT_not, ↓wT_cmp, ↓wT_chain, ↓wT_isN, ↓wT_and1, ↓wT_and, ↓wT_or1, ↓wT_or, ↓wTo_none, ↓wTo_some, ↓wG_n, ↓wG_t, ↓wG_k, ↓wGs_nil, ↓wGs_cons, ↓wI_s, ↓wI_rng, Post, o_add, o_sub, o_mul, o_div, o_mod, o_pow, o_cats, o_catt, o_catl, o_eqi, o_eqs, o_eqb, o_nei, o_nes, o_lt, o_gt, o_le, o_ge, o_tn, o_tb, o_ti, o_tt, o_tl, s_lst, s_tup, s_ktp, s_str, ok_s, ok_i, get_hit, get_miss, b_int, b_intb, b_lenl, b_lent, b_tupl, b_tupt, b_abs, b_max2, b_min2, atI_0, atI_1, atI_2, atI_3, atI_4, it_lst, it_klst, it_tup, it_ktp, rg_1, rg_2, t2, t4, wE_call]
    refine ⟨_, g1, runC.of ⟨us, rfl, hu.1, hu.2, ?_⟩⟩
    exact ⟨1, _, rfl, atI_1, ret_of hQ⟩
  | stamp us q =>
    simp [b_part_top, n_part_top, startD, Pt.d, ↓wSs_nil, ↓wSs_cons, ↓wS_asg, ↓wS_par, ↓wS_set, ↓wS_aug, ↓wS_ex, ↓wS_ret, ↓wS_retN, ↓wS_ite, ↓wS_brk, ↓wS_cont, ↓wS_pass, ↓wE_v, ↓wE_k, ↓wE_g, ↓wE_bin, ↓wE_neg, ↓wE_cmp, ↓wE_isN, ↓wE_not, ↓wE_and1, ↓wE_and, ↓wE_or1, ↓wE_or, ↓wE_ite, ↓wE_tup, ↓wE_lst, ↓wE_lstM, ↓wE_dctM, ↓wE_sub, ↓wE_slc, ↓wE_isi, ↓wE_bi, ↓wE_mth, ↓wE_disp, ↓wE_lkeys, ↓wEs_nil, ↓wEs_cons, ↓wO_none, ↓wO_some, ↓wT_e, ↓wT_not, ↓wT_cmp, ↓wT_chain, ↓wT_isN, ↓wT_and1, ↓wT_and, ↓wT_or1, ↓wT_or, ↓wTo_none, ↓wTo_some, ↓wG_n, ↓wG_t, ↓wG_k, ↓wGs_nil, ↓wGs_cons, ↓wI_s, ↓wI_rng, Post, o_add, o_sub, o_mul, o_div, o_mod, o_pow, o_cats, o_catt, o_catl, o_eqi, o_eqs, o_eqb, o_nei, o_nes, o_lt, o_gt, o_le, o_ge, o_tn, o_tb, o_ti, o_tt, o_tl, s_lst, s_tup, s_ktp, s_str, ok_s, ok_i, get_hit, get_miss, b_int, b_intb, b_lenl, b_lent, b_tupl, b_tupt, b_abs, b_max2, b_min2, atI_0, atI_1, atI_2, atI_3, atI_4, it_lst, it_klst, it_tup, it_ktp, rg_1, rg_2, t3, t5, wE_call]
    refine ⟨_, g1, runC.of ⟨us, rfl, hu.1, hu.2, ?_⟩⟩
    exact ⟨1, _, rfl, atI_1, ret_of hQ⟩
def Cok (c : List Pt) : Prop := c ≠ [] ∧ c.length ≤ 1000 ∧ ∀ p ∈ c, p.uok
def sp_top_of : CSp := fun ds M K => ∃ c : List Pt, ds = [codeD c] ∧ Cok c ∧ K (.int (mxL (c.map Pt.top))) M
theorem v_top_of {Γ : Gam} (g1 : Γ.fn "part_top" = some (1, sp_top)) (ds : List D) (M : Mp) (Q : KD) (h : sp_top_of ds M Q) : wpSs Γ b_top_of (startD n_top_of ds) M (Post Q) := by
  obtain ⟨c, rfl, hc, hQ⟩ := h
  have hρ : startD n_top_of [codeD c] = [some (.tup (c.map Pt.d)), none] := rfl
  rw [hρ]
  show wpSs Γ [Sm.ret _] _ _ _
  simp only [↓wSs_cons, ↓wS_ret, ↓wEs_cons, ↓wEs_nil, ↓wE_bi, wE_comp, ↓wI_s, ↓wE_v]
  refine ⟨_, rfl, ?_⟩
  rw [it_tup]
  intro p hp
  refine comp_on c Pt.d (fun q => some (.int q.top)) hp (fun q M' K hq _ hK => ?_) (fun _ _ => trivial) (sz (by have := hc.2.1; omega)) ?_
  · simp [↓wG_n, ↓wTo_none, ↓wEs_cons, ↓wEs_nil, ↓wE_v, wE_call, wipeD]
    exact ⟨_, g1, runC.of ⟨q, rfl, hc.2.2 q hq, hK⟩⟩
  · simp only [Bool.false_eq_true, if_false, mdel_mu hp]
    have e : c.filterMap (fun q => some (D.int q.top)) = (c.map Pt.top).map D.int := by rw [filterMap_all, List.map_map]; rfl
    rw [e]
    exact b_maxl (by simpa using hc.1) (ret_of hQ)
def marksOf (c : List Pt) : List Mk := c.flatMap Pt.marks
theorem marks_le (p : Pt) : p.marks.length ≤ 2 := by cases p <;> simp [Pt.marks]
theorem marksOf_le (c : List Pt) : (marksOf c).length ≤ 2 * c.length := by
  induction c with
  | nil => simp [marksOf]
  | cons p c ih =>
    unfold marksOf at ih ⊢
    rw [List.flatMap_cons, List.length_append]
    have := marks_le p
    simp only [List.length_cons]
    omega
def sp_marks_of : CSp := fun ds M K => ∃ c : List Pt, ds = [codeD c] ∧ c.length ≤ 1000 ∧ K (.tup ((marksOf c).map Mk.d)) M
theorem take_succ {c : List Pt} {i : Nat} {p : Pt} (h : c[i]? = some p) : c.take (i + 1) = c.take i ++ [p] := by rw [List.take_add_one, h]; rfl
theorem v_marks_of {Γ : Gam} (g1 : Γ.fn "part_marks" = some (1, sp_marks)) (ds : List D) (M : Mp) (Q : KD) (h : sp_marks_of ds M Q) : wpSs Γ b_marks_of (startD n_marks_of ds) M (Post Q) := by
  obtain ⟨c, rfl, hc, hQ⟩ := h
  have hρ : startD n_marks_of [codeD c] = [some (codeD c), none, none] := rfl
  rw [hρ]
  refine wp_at 1 (fun ρ M1 => ρ = [some (codeD c), some (.tup []), none] ∧ M1 = M) ?_ ?_
  · simp [b_marks_of, ↓wSs_nil, ↓wSs_cons, ↓wS_asg, ↓wS_par, ↓wS_set, ↓wS_aug, ↓wS_ex, ↓wS_ret, ↓wS_retN, ↓wS_ite, ↓wS_brk, ↓wS_cont, ↓wS_pass, ↓wE_v, ↓wE_k, ↓wE_g, ↓wE_bin, ↓wE_neg, ↓wE_cmp, ↓wE_isN, ↓wE_not, ↓wE_and1, ↓wE_and, ↓wE_or1, ↓wE_or, ↓wE_ite, ↓wE_tup, ↓wE_lst, ↓wE_lstM, ↓wE_dctM, ↓wE_sub, ↓wE_slc, ↓wE_isi, ↓wE_bi, ↓wE_mth, ↓wE_disp, ↓wE_lkeys, ↓wEs_nil, ↓wEs_cons, ↓wO_none, ↓wO_some, ↓wT_e, ↓wT_not, ↓wT_cmp, ↓wT_chain, ↓wT_isN, ↓wT_and1, ↓wT_and, ↓wT_or1, ↓wT_or, ↓wTo_none, ↓wTo_some, ↓wG_n, ↓wG_t, ↓wG_k, ↓wGs_nil, ↓wGs_cons, ↓wI_s, ↓wI_rng]
  rintro ρ M1 ⟨rfl, rfl⟩
  refine wp_forα c Pt.d (fun _ => True) M1 (fun i ρ M2 => ∃ x, ρ = [some (codeD c), some (.tup ((marksOf (c.take i)).map Mk.d)), x] ∧ M2 = M1) (fun ρ M2 => ∃ x, ρ = [some (codeD c), some (.tup ((marksOf c).map Mk.d)), x] ∧ M2 = M1) (fun K hK => ?_) ⟨none, rfl, rfl⟩ (fun _ _ _ _ => trivial) ?_ ?_ ?_
  · simp only [↓wI_s, ↓wE_v]; exact ⟨_, rfl, hK⟩
  · rintro i p ρ2 M2 hi ⟨x, rfl, rfl⟩
    simp [↓wG_n, ↓wSs_nil, ↓wSs_cons, ↓wS_asg, ↓wS_par, ↓wS_set, ↓wS_aug, ↓wS_ex, ↓wS_ret, ↓wS_retN, ↓wS_ite, ↓wS_brk, ↓wS_cont, ↓wS_pass, ↓wE_v, ↓wE_k, ↓wE_g, ↓wE_bin, ↓wE_neg, ↓wE_cmp, ↓wE_isN, ↓wE_not, ↓wE_and1, ↓wE_and, ↓wE_or1, ↓wE_or, ↓wE_ite, ↓wE_tup, ↓wE_lst, ↓wE_lstM, ↓wE_dctM, ↓wE_sub, ↓wE_slc, ↓wE_isi, ↓wE_bi, ↓wE_mth, ↓wE_disp, ↓wE_lkeys, ↓wEs_nil, ↓wEs_cons, ↓wO_none, ↓wO_some, ↓wT_e, ↓wT_not, ↓wT_cmp, ↓wT_chain, ↓wT_isN, ↓wT_and1, ↓wT_and, ↓wT_or1, ↓wT_or, ↓wTo_none, ↓wTo_some, ↓wG_n, ↓wG_t, ↓wG_k, ↓wGs_nil, ↓wGs_cons, ↓wI_s, ↓wI_rng, wE_call]
    refine ⟨_, g1, runC.of ⟨p, rfl, ?_⟩⟩
    dsimp only
    rw [o_catt]
    have h1 := marksOf_le (c.take i)
    have h2 : (c.take i).length ≤ c.length := by rw [List.length_take]; omega
    have h3 := marks_le p
    refine ⟨sz (by simp only [List.length_map]; omega), ?_, rfl⟩
    rw [take_succ hi]
    simp [marksOf]
  · rintro ρ2 M2 ⟨x, rfl, rfl⟩
    exact ⟨x, by rw [List.take_length], rfl⟩
  · rintro ρ2 M2 ⟨x, rfl, rfl⟩
    simp [↓wSs_nil, ↓wSs_cons, ↓wS_asg, ↓wS_par, ↓wS_set, ↓wS_aug, ↓wS_ex, ↓wS_ret, ↓wS_retN, ↓wS_ite, ↓wS_brk, ↓wS_cont, ↓wS_pass, ↓wE_v, ↓wE_k, ↓wE_g, ↓wE_bin, ↓wE_neg, ↓wE_cmp, ↓wE_isN, ↓wE_not, ↓wE_and1, ↓wE_and, ↓wE_or1, ↓wE_or, ↓wE_ite, ↓wE_tup, ↓wE_lst, ↓wE_lstM, ↓wE_dctM, ↓wE_sub, ↓wE_slc, ↓wE_isi, ↓wE_bi, ↓wE_mth, ↓wE_disp, ↓wE_lkeys, ↓wEs_nil, ↓wEs_cons, ↓wO_none, ↓wO_some, ↓wT_e, ↓wT_not, ↓wT_cmp, ↓wT_chain, ↓wT_isN, ↓wT_and1, ↓wT_and, ↓wT_or1, ↓wT_or, ↓wTo_none, ↓wTo_some, ↓wG_n, ↓wG_t, ↓wG_k, ↓wGs_nil, ↓wGs_cons, ↓wI_s, ↓wI_rng, Post]
    exact ret_of hQ
/-! bottom, gap, reach -/
def lcmL (l : List Int) : Int := l.foldl (fun t b => ((Nat.lcm t.natAbs b.natAbs : Nat) : Int)) 1
def Mk.ok (k : Mk) : Prop := 1 ≤ k.b ∧ k.b ≤ 6 ∧ -9 ≤ k.m ∧ k.m ≤ 9
def Pt.ok (p : Pt) : Prop := p.uok ∧ (∀ k ∈ p.marks, k.ok) ∧ (match p with | .row _ g _ _ => 1 ≤ g ∧ g ≤ 6 | _ => True)
def sixty : Nat := 60
/-- all small: every lcm divides 60 -/
theorem lcm60 {t b : Int} (ht : t.natAbs ∣ 60) (h1 : 1 ≤ b) (h2 : b ≤ 6) : (((Nat.lcm t.natAbs b.natAbs : Nat) : Int)).natAbs ∣ 60 := by
  rw [Int.natAbs_natCast]
  refine Nat.lcm_dvd ht ?_
  have : b = 1 ∨ b = 2 ∨ b = 3 ∨ b = 4 ∨ b = 5 ∨ b = 6 := by omega
  rcases this with rfl | rfl | rfl | rfl | rfl | rfl <;> decide
theorem lcmL_60 {l : List Int} (h : ∀ b ∈ l, 1 ≤ b ∧ b ≤ 6) : ∀ t : Int, t.natAbs ∣ 60 → (l.foldl (fun t b => ((Nat.lcm t.natAbs b.natAbs : Nat) : Int)) t).natAbs ∣ 60 := by
  induction l with
  | nil => exact fun t h => h
  | cons b l ih =>
    intro t ht
    rw [List.foldl_cons]
    exact ih (fun x hx => h x (by simp [hx])) _ (lcm60 ht (h b (by simp)).1 (h b (by simp)).2)
theorem dvd60 {t : Int} (h : t.natAbs ∣ 60) : t.natAbs ≤ 60 := Nat.le_of_dvd (by decide) h
theorem lcmL_snoc (l : List Int) (b : Int) : lcmL (l ++ [b]) = ((Nat.lcm (lcmL l).natAbs b.natAbs : Nat) : Int) := by
  unfold lcmL
  rw [List.foldl_append]; rfl
def Gok (c : List Pt) : Prop := c ≠ [] ∧ c.length ≤ 1000 ∧ ∀ p ∈ c, p.ok
theorem Gok.cok {c : List Pt} (h : Gok c) : Cok c := ⟨h.1, h.2.1, fun p hp => (h.2.2 p hp).1⟩
theorem Gok.mk {c : List Pt} (h : Gok c) {k : Mk} (hk : k ∈ marksOf c) : k.ok := by
  obtain ⟨p, hp, hk⟩ := List.mem_flatMap.mp hk
  exact (h.2.2 p hp).2.1 k hk
def bottomOf (c : List Pt) : Int := lcmL ((marksOf c).map Mk.b)
def sp_bottom : CSp := fun ds M K => ∃ c : List Pt, ds = [codeD c] ∧ Gok c ∧ K (.int (bottomOf c)) M
theorem bf_lcm {a b : Int} {M : Mp} {K : KD} (ha : a.natAbs < 2 ^ 60) (hb : b.natAbs < 2 ^ 60) (h : K (.int ((Nat.lcm a.natAbs b.natAbs : Nat) : Int)) M) : bfD "math.lcm" [.int a, .int b] M K := ⟨a, b, rfl, ha, hb, h⟩
theorem v_bottom {Γ : Gam} (g1 : Γ.fn "marks_of" = some (1, sp_marks_of)) (gb : Γ.bf "lcm" = some "math.lcm") (ds : List D) (M : Mp) (Q : KD) (h : sp_bottom ds M Q) : wpSs Γ b_bottom_of (startD n_bottom_of ds) M (Post Q) := by
  obtain ⟨c, rfl, hc, hQ⟩ := h
  have hρ : startD n_bottom_of [codeD c] = [some (codeD c), none, none] := rfl
  rw [hρ]
  refine wp_at 1 (fun ρ M1 => ρ = [some (codeD c), some (.int 1), none] ∧ M1 = M) ?_ ?_
  · simp [b_bottom_of, ↓wSs_nil, ↓wSs_cons, ↓wS_asg, ↓wS_par, ↓wS_set, ↓wS_aug, ↓wS_ex, ↓wS_ret, ↓wS_retN, ↓wS_ite, ↓wS_brk, ↓wS_cont, ↓wS_pass, ↓wE_v, ↓wE_k, ↓wE_g, ↓wE_bin, ↓wE_neg, ↓wE_cmp, ↓wE_isN, ↓wE_not, ↓wE_and1, ↓wE_and, ↓wE_or1, ↓wE_or, ↓wE_ite, ↓wE_tup, ↓wE_lst, ↓wE_lstM, ↓wE_dctM, ↓wE_sub, ↓wE_slc, ↓wE_isi, ↓wE_bi, ↓wE_mth, ↓wE_disp, ↓wE_lkeys, ↓wEs_nil, ↓wEs_cons, ↓wO_none, ↓wO_some, ↓wT_e, ↓wT_not, ↓wT_cmp, ↓wT_chain, ↓wT_isN, ↓wT_and1, ↓wT_and, ↓wT_or1, ↓wT_or, ↓wTo_none, ↓wTo_some, ↓wG_n, ↓wG_t, ↓wG_k, ↓wGs_nil, ↓wGs_cons, ↓wI_s, ↓wI_rng]
  rintro ρ M1 ⟨rfl, rfl⟩
  have hb : ∀ b ∈ (marksOf c).map Mk.b, 1 ≤ b ∧ b ≤ 6 := fun b hb => by
    obtain ⟨k, hk, rfl⟩ := List.mem_map.mp hb
    have := hc.mk hk
    exact ⟨this.1, this.2.1⟩
  refine wp_forα (marksOf c) Mk.d (fun _ => True) M1 (fun i ρ M2 => ∃ x, ρ = [some (codeD c), some (.int (lcmL (((marksOf c).take i).map Mk.b))), x] ∧ M2 = M1) (fun ρ M2 => ∃ x, ρ = [some (codeD c), some (.int (bottomOf c)), x] ∧ M2 = M1) (fun K hK => ?_) ⟨none, rfl, rfl⟩ (fun _ _ _ _ => trivial) ?_ ?_ ?_
  · simp only [↓wI_s, wE_call, ↓wEs_cons, ↓wEs_nil, ↓wE_v]
    exact ⟨_, g1, _, rfl, runC.of ⟨c, rfl, hc.2.1, hK⟩⟩
  · rintro i k ρ2 M2 hi ⟨x, rfl, rfl⟩
    have hk : k ∈ marksOf c := List.mem_of_getElem? hi
    have hk' := hc.mk hk
    have h60 : (lcmL (((marksOf c).take i).map Mk.b)).natAbs ∣ 60 := lcmL_60 (fun b hb' => hb b (by
      obtain ⟨q, hq, rfl⟩ := List.mem_map.mp hb'
      exact List.mem_map.mpr ⟨q, List.mem_of_mem_take hq, rfl⟩)) 1 (by decide)
    have := dvd60 h60
    have hs : lcmL (((marksOf c).take (i + 1)).map Mk.b) = ((Nat.lcm (lcmL (((marksOf c).take i).map Mk.b)).natAbs k.b.natAbs : Nat) : Int) := by
      rw [List.take_add_one, hi]
      simp only [Option.toList_some, List.map_append, List.map_cons, List.map_nil, lcmL_snoc]
    rw [hs]
    generalize lcmL (((marksOf c).take i).map Mk.b) = t at *
    simp [↓wG_n, ↓wSs_nil, ↓wSs_cons, ↓wS_asg, ↓wS_par, ↓wS_set, ↓wS_aug, ↓wS_ex, ↓wS_ret, ↓wS_retN, ↓wS_ite, ↓wS_brk, ↓wS_cont, ↓wS_pass, ↓wE_v, ↓wE_k, ↓wE_g, ↓wE_bin, ↓wE_neg, ↓wE_cmp, ↓wE_isN, ↓wE_not, ↓wE_and1, ↓wE_and, ↓wE_or1, ↓wE_or, ↓wE_ite, ↓wE_tup, ↓wE_lst, ↓wE_lstM, ↓wE_dctM, ↓wE_sub, ↓wE_slc, ↓wE_isi, ↓wE_bi, ↓wE_mth, ↓wE_disp, ↓wE_lkeys, ↓wEs_nil, ↓wEs_cons, ↓wO_none, ↓wO_some, ↓wT_e, ↓wT_not, ↓wT_cmp, ↓wT_chain, ↓wT_isN, ↓wT_and1, ↓wT_and, ↓wT_or1, ↓wT_or, ↓wTo_none, ↓wTo_some, ↓wG_n, ↓wG_t, ↓wG_k, ↓wGs_nil, ↓wGs_cons, ↓wI_s, ↓wI_rng, Post, o_add, o_sub, o_mul, o_div, o_mod, o_pow, o_cats, o_catt, o_catl, o_eqi, o_eqs, o_eqb, o_nei, o_nes, o_lt, o_gt, o_le, o_ge, o_tn, o_tb, o_ti, o_tt, o_tl, s_lst, s_tup, s_ktp, s_str, ok_s, ok_i, get_hit, get_miss, b_int, b_intb, b_lenl, b_lent, b_tupl, b_tupt, b_abs, b_max2, b_min2, atI_0, atI_1, atI_2, atI_3, atI_4, it_lst, it_klst, it_tup, it_ktp, rg_1, rg_2, wE_bf, Mk.d]
    refine ⟨_, gb, .inl rfl, bf_lcm (by omega) (by unfold Mk.ok at hk'; omega) ?_⟩
    simp
  · rintro ρ2 M2 ⟨x, rfl, rfl⟩
    exact ⟨x, by rw [List.take_length]; rfl, rfl⟩
  · rintro ρ2 M2 ⟨x, rfl, rfl⟩
    simp [↓wSs_nil, ↓wSs_cons, ↓wS_asg, ↓wS_par, ↓wS_set, ↓wS_aug, ↓wS_ex, ↓wS_ret, ↓wS_retN, ↓wS_ite, ↓wS_brk, ↓wS_cont, ↓wS_pass, ↓wE_v, ↓wE_k, ↓wE_g, ↓wE_bin, ↓wE_neg, ↓wE_cmp, ↓wE_isN, ↓wE_not, ↓wE_and1, ↓wE_and, ↓wE_or1, ↓wE_or, ↓wE_ite, ↓wE_tup, ↓wE_lst, ↓wE_lstM, ↓wE_dctM, ↓wE_sub, ↓wE_slc, ↓wE_isi, ↓wE_bi, ↓wE_mth, ↓wE_disp, ↓wE_lkeys, ↓wEs_nil, ↓wEs_cons, ↓wO_none, ↓wO_some, ↓wT_e, ↓wT_not, ↓wT_cmp, ↓wT_chain, ↓wT_isN, ↓wT_and1, ↓wT_and, ↓wT_or1, ↓wT_or, ↓wTo_none, ↓wTo_some, ↓wG_n, ↓wG_t, ↓wG_k, ↓wGs_nil, ↓wGs_cons, ↓wI_s, ↓wI_rng, Post]
    exact ret_of hQ
end K25
namespace K25
open PySem PySem.Spec L2 Vc
def Pt.gap : Pt → Option Int
  | .row _ g _ _ => some g
  | _ => none
def gapOf (c : List Pt) : Int := lcmL (c.filterMap Pt.gap)
theorem gap_ok {c : List Pt} (h : Gok c) : ∀ b ∈ c.filterMap Pt.gap, 1 ≤ b ∧ b ≤ 6 := fun b hb => by
  obtain ⟨p, hp, e⟩ := List.mem_filterMap.mp hb
  have := (h.2.2 p hp).2.2
  cases p <;> simp_all [Pt.gap]
def sp_gap : CSp := fun ds M K => ∃ c : List Pt, ds = [codeD c] ∧ Gok c ∧ K (.int (gapOf c)) M
theorem lcmL_take {l : List Int} (h : ∀ b ∈ l, 1 ≤ b ∧ b ≤ 6) : (lcmL l).natAbs ≤ 60 := dvd60 (lcmL_60 h 1 (by decide))
theorem v_gap {Γ : Gam} (gb : Γ.bf "lcm" = some "math.lcm") (ds : List D) (M : Mp) (Q : KD) (h : sp_gap ds M Q) : wpSs Γ b_gap_of (startD n_gap_of ds) M (Post Q) := by
  obtain ⟨c, rfl, hc, hQ⟩ := h
  have hρ : startD n_gap_of [codeD c] = [some (codeD c), none, none] := rfl
  rw [hρ]
  refine wp_at 1 (fun ρ M1 => ρ = [some (codeD c), some (.int 1), none] ∧ M1 = M) ?_ ?_
  · simp [b_gap_of, ↓wSs_nil, ↓wSs_cons, ↓wS_asg, ↓wS_par, ↓wS_set, ↓wS_aug, ↓wS_ex, ↓wS_ret, ↓wS_retN, ↓wS_ite, ↓wS_brk, ↓wS_cont, ↓wS_pass, ↓wE_v, ↓wE_k, ↓wE_g, ↓wE_bin, ↓wE_neg, ↓wE_cmp, ↓wE_isN, ↓wE_not, ↓wE_and1, ↓wE_and, ↓wE_or1, ↓wE_or, ↓wE_ite, ↓wE_tup, ↓wE_lst, ↓wE_lstM, ↓wE_dctM, ↓wE_sub, ↓wE_slc, ↓wE_isi, ↓wE_bi, ↓wE_mth, ↓wE_disp, ↓wE_lkeys, ↓wEs_nil, ↓wEs_cons, ↓wO_none, ↓wO_some, ↓wT_e, ↓wT_not, ↓wT_cmp, ↓wT_chain, ↓wT_isN, ↓wT_and1, ↓wT_and, ↓wT_or1, ↓wT_or, ↓wTo_none, ↓wTo_some, ↓wG_n, ↓wG_t, ↓wG_k, ↓wGs_nil, ↓wGs_cons, ↓wI_s, ↓wI_rng]
  rintro ρ M1 ⟨rfl, rfl⟩
  have hb := gap_ok hc
  refine wp_forα c Pt.d (fun _ => True) M1 (fun i ρ M2 => ∃ x, ρ = [some (codeD c), some (.int (lcmL ((c.take i).filterMap Pt.gap))), x] ∧ M2 = M1) (fun ρ M2 => ∃ x, ρ = [some (codeD c), some (.int (gapOf c)), x] ∧ M2 = M1) (fun K hK => ?_) ⟨none, rfl, rfl⟩ (fun _ _ _ _ => trivial) ?_ ?_ ?_
  · simp only [↓wI_s, ↓wE_v]
    exact ⟨_, rfl, hK⟩
  · rintro i p ρ2 M2 hi ⟨x, rfl, rfl⟩
    have hp := hc.2.2 p (List.mem_of_getElem? hi)
    have h60 : (lcmL ((c.take i).filterMap Pt.gap)).natAbs ≤ 60 := lcmL_take fun b hb' => hb b (by
      obtain ⟨q, hq, e⟩ := List.mem_filterMap.mp hb'
      exact List.mem_filterMap.mpr ⟨q, List.mem_of_mem_take hq, e⟩)
    have hs : lcmL ((c.take (i + 1)).filterMap Pt.gap) = match p.gap with | some g => ((Nat.lcm (lcmL ((c.take i).filterMap Pt.gap)).natAbs g.natAbs : Nat) : Int) | none => lcmL ((c.take i).filterMap Pt.gap) := by
      rw [take_succ hi, List.filterMap_append]
      cases e : p.gap with
      | none => simp [e]
      | some g => simp only [List.filterMap_cons_some e, List.filterMap_nil, lcmL_snoc]
    rw [hs]
    generalize lcmL ((c.take i).filterMap Pt.gap) = t at *
    cases p with
    | row us g p q =>
      have hg := hp.2.2
      simp [↓wG_n, ↓wSs_nil, ↓wSs_cons, ↓wS_asg, ↓wS_par, ↓wS_set, ↓wS_aug, ↓wS_ex, ↓wS_ret, ↓wS_retN, ↓wS_ite, ↓wS_brk, ↓wS_cont, ↓wS_pass, ↓wE_v, ↓wE_k, ↓wE_g, ↓wE_bin, ↓wE_neg, ↓wE_cmp, ↓wE_isN, ↓wE_not, ↓wE_and1, ↓wE_and, ↓wE_or1, ↓wE_or, ↓wE_ite, ↓wE_tup, ↓wE_lst, ↓wE_lstM, ↓wE_dctM, ↓wE_sub, ↓wE_slc, ↓wE_isi, ↓wE_bi, ↓wE_mth, ↓wE_disp, ↓wE_lkeys, ↓wEs_nil, ↓wEs_cons, ↓wO_none, ↓wO_some, ↓wT_e, ↓wT_not, ↓wT_cmp, ↓wT_chain, ↓wT_isN, ↓wT_and1, ↓wT_and, ↓wT_or1, ↓wT_or, ↓wTo_none, ↓wTo_some, ↓wG_n, ↓wG_t, ↓wG_k, ↓wGs_nil, ↓wGs_cons, ↓wI_s, ↓wI_rng, Post, o_add, o_sub, o_mul, o_div, o_mod, o_pow, o_cats, o_catt, o_catl, o_eqi, o_eqs, o_eqb, o_nei, o_nes, o_lt, o_gt, o_le, o_ge, o_tn, o_tb, o_ti, o_tt, o_tl, s_lst, s_tup, s_ktp, s_str, ok_s, ok_i, get_hit, get_miss, b_int, b_intb, b_lenl, b_lent, b_tupl, b_tupt, b_abs, b_max2, b_min2, atI_0, atI_1, atI_2, atI_3, atI_4, it_lst, it_klst, it_tup, it_ktp, rg_1, rg_2, wE_bf, Pt.d, Pt.gap]
      refine ⟨_, gb, .inl rfl, bf_lcm (by omega) (by dsimp only at hg; omega) ?_⟩
      simp
    | along y p q => simp [↓wG_n, ↓wSs_nil, ↓wSs_cons, ↓wS_asg, ↓wS_par, ↓wS_set, ↓wS_aug, ↓wS_ex, ↓wS_ret, ↓wS_retN, ↓wS_ite, ↓wS_brk, ↓wS_cont, ↓wS_pass, ↓wE_v, ↓wE_k, ↓wE_g, ↓wE_bin, ↓wE_neg, ↓wE_cmp, ↓wE_isN, ↓wE_not, ↓wE_and1, ↓wE_and, ↓wE_or1, ↓wE_or, ↓wE_ite, ↓wE_tup, ↓wE_lst, ↓wE_lstM, ↓wE_dctM, ↓wE_sub, ↓wE_slc, ↓wE_isi, ↓wE_bi, ↓wE_mth, ↓wE_disp, ↓wE_lkeys, ↓wEs_nil, ↓wEs_cons, ↓wO_none, ↓wO_some, ↓wT_e, ↓wT_not, ↓wT_cmp, ↓wT_chain, ↓wT_isN, ↓wT_and1, ↓wT_and, ↓wT_or1, ↓wT_or, ↓wTo_none, ↓wTo_some, ↓wG_n, ↓wG_t, ↓wG_k, ↓wGs_nil, ↓wGs_cons, ↓wI_s, ↓wI_rng, Post, o_add, o_sub, o_mul, o_div, o_mod, o_pow, o_cats, o_catt, o_catl, o_eqi, o_eqs, o_eqb, o_nei, o_nes, o_lt, o_gt, o_le, o_ge, o_tn, o_tb, o_ti, o_tt, o_tl, s_lst, s_tup, s_ktp, s_str, ok_s, ok_i, get_hit, get_miss, b_int, b_intb, b_lenl, b_lent, b_tupl, b_tupt, b_abs, b_max2, b_min2, atI_0, atI_1, atI_2, atI_3, atI_4, it_lst, it_klst, it_tup, it_ktp, rg_1, rg_2, Pt.d, Pt.gap, t7]
    | up p l h => simp [↓wG_n, ↓wSs_nil, ↓wSs_cons, ↓wS_asg, ↓wS_par, ↓wS_set, ↓wS_aug, ↓wS_ex, ↓wS_ret, ↓wS_retN, ↓wS_ite, ↓wS_brk, ↓wS_cont, ↓wS_pass, ↓wE_v, ↓wE_k, ↓wE_g, ↓wE_bin, ↓wE_neg, ↓wE_cmp, ↓wE_isN, ↓wE_not, ↓wE_and1, ↓wE_and, ↓wE_or1, ↓wE_or, ↓wE_ite, ↓wE_tup, ↓wE_lst, ↓wE_lstM, ↓wE_dctM, ↓wE_sub, ↓wE_slc, ↓wE_isi, ↓wE_bi, ↓wE_mth, ↓wE_disp, ↓wE_lkeys, ↓wEs_nil, ↓wEs_cons, ↓wO_none, ↓wO_some, ↓wT_e, ↓wT_not, ↓wT_cmp, ↓wT_chain, ↓wT_isN, ↓wT_and1, ↓wT_and, ↓wT_or1, ↓wT_or, ↓wTo_none, ↓wTo_some, ↓wG_n, ↓wG_t, ↓wG_k, ↓wGs_nil, ↓wGs_cons, ↓wI_s, ↓wI_rng, Post, o_add, o_sub, o_mul, o_div, o_mod, o_pow, o_cats, o_catt, o_catl, o_eqi, o_eqs, o_eqb, o_nei, o_nes, o_lt, o_gt, o_le, o_ge, o_tn, o_tb, o_ti, o_tt, o_tl, s_lst, s_tup, s_ktp, s_str, ok_s, ok_i, get_hit, get_miss, b_int, b_intb, b_lenl, b_lent, b_tupl, b_tupt, b_abs, b_max2, b_min2, atI_0, atI_1, atI_2, atI_3, atI_4, it_lst, it_klst, it_tup, it_ktp, rg_1, rg_2, Pt.d, Pt.gap, t8]
    | stamp us q => simp [↓wG_n, ↓wSs_nil, ↓wSs_cons, ↓wS_asg, ↓wS_par, ↓wS_set, ↓wS_aug, ↓wS_ex, ↓wS_ret, ↓wS_retN, ↓wS_ite, ↓wS_brk, ↓wS_cont, ↓wS_pass, ↓wE_v, ↓wE_k, ↓wE_g, ↓wE_bin, ↓wE_neg, ↓wE_cmp, ↓wE_isN, ↓wE_not, ↓wE_and1, ↓wE_and, ↓wE_or1, ↓wE_or, ↓wE_ite, ↓wE_tup, ↓wE_lst, ↓wE_lstM, ↓wE_dctM, ↓wE_sub, ↓wE_slc, ↓wE_isi, ↓wE_bi, ↓wE_mth, ↓wE_disp, ↓wE_lkeys, ↓wEs_nil, ↓wEs_cons, ↓wO_none, ↓wO_some, ↓wT_e, ↓wT_not, ↓wT_cmp, ↓wT_chain, ↓wT_isN, ↓wT_and1, ↓wT_and, ↓wT_or1, ↓wT_or, ↓wTo_none, ↓wTo_some, ↓wG_n, ↓wG_t, ↓wG_k, ↓wGs_nil, ↓wGs_cons, ↓wI_s, ↓wI_rng, Post, o_add, o_sub, o_mul, o_div, o_mod, o_pow, o_cats, o_catt, o_catl, o_eqi, o_eqs, o_eqb, o_nei, o_nes, o_lt, o_gt, o_le, o_ge, o_tn, o_tb, o_ti, o_tt, o_tl, s_lst, s_tup, s_ktp, s_str, ok_s, ok_i, get_hit, get_miss, b_int, b_intb, b_lenl, b_lent, b_tupl, b_tupt, b_abs, b_max2, b_min2, atI_0, atI_1, atI_2, atI_3, atI_4, it_lst, it_klst, it_tup, it_ktp, rg_1, rg_2, Pt.d, Pt.gap, t9]
  · rintro ρ2 M2 ⟨x, rfl, rfl⟩
    exact ⟨x, by rw [List.take_length]; rfl, rfl⟩
  · rintro ρ2 M2 ⟨x, rfl, rfl⟩
    simp [↓wSs_nil, ↓wSs_cons, ↓wS_asg, ↓wS_par, ↓wS_set, ↓wS_aug, ↓wS_ex, ↓wS_ret, ↓wS_retN, ↓wS_ite, ↓wS_brk, ↓wS_cont, ↓wS_pass, ↓wE_v, ↓wE_k, ↓wE_g, ↓wE_bin, ↓wE_neg, ↓wE_cmp, ↓wE_isN, ↓wE_not, ↓wE_and1, ↓wE_and, ↓wE_or1, ↓wE_or, ↓wE_ite, ↓wE_tup, ↓wE_lst, ↓wE_lstM, ↓wE_dctM, ↓wE_sub, ↓wE_slc, ↓wE_isi, ↓wE_bi, ↓wE_mth, ↓wE_disp, ↓wE_lkeys, ↓wEs_nil, ↓wEs_cons, ↓wO_none, ↓wO_some, ↓wT_e, ↓wT_not, ↓wT_cmp, ↓wT_chain, ↓wT_isN, ↓wT_and1, ↓wT_and, ↓wT_or1, ↓wT_or, ↓wTo_none, ↓wTo_some, ↓wG_n, ↓wG_t, ↓wG_k, ↓wGs_nil, ↓wGs_cons, ↓wI_s, ↓wI_rng, Post]
    exact ret_of hQ
def absI (i : Int) : Int := if i < 0 then -i else i
def reachOf (c : List Pt) : Int := mxL ((marksOf c).map fun k => absI k.m)
theorem marks_ne {c : List Pt} (h : c ≠ []) : marksOf c ≠ [] := by
  cases c with
  | nil => exact absurd rfl h
  | cons p c => unfold marksOf; rw [List.flatMap_cons]; cases p <;> simp [Pt.marks]
def sp_reach : CSp := fun ds M K => ∃ c : List Pt, ds = [codeD c] ∧ Gok c ∧ K (.int (reachOf c)) M
theorem v_reach {Γ : Gam} (g1 : Γ.fn "marks_of" = some (1, sp_marks_of)) (ds : List D) (M : Mp) (Q : KD) (h : sp_reach ds M Q) : wpSs Γ b_reach_of (startD n_reach_of ds) M (Post Q) := by
  obtain ⟨c, rfl, hc, hQ⟩ := h
  have hρ : startD n_reach_of [codeD c] = [some (codeD c), none] := rfl
  rw [hρ]
  show wpSs Γ [Sm.ret _] _ _ _
  rw [wSs_cons, wS_ret, wE_bi, wEs_cons, wE_comp]
  simp only [↓wEs_cons, ↓wEs_nil, ↓wI_s, ↓wE_v, wE_call]
  refine ⟨_, g1, _, rfl, runC.of ⟨c, rfl, hc.2.1, ?_⟩⟩
  dsimp only
  rw [it_tup]
  intro p hp
  have hl := marksOf_le c
  refine comp_on (marksOf c) Mk.d (fun k => some (.int (absI k.m))) hp (fun k M' K hq _ hK => ?_) (fun _ _ => trivial) (sz (by have := hc.2.1; omega)) ?_
  · simp [↓wG_n, ↓wTo_none, ↓wSs_nil, ↓wSs_cons, ↓wS_asg, ↓wS_par, ↓wS_set, ↓wS_aug, ↓wS_ex, ↓wS_ret, ↓wS_retN, ↓wS_ite, ↓wS_brk, ↓wS_cont, ↓wS_pass, ↓wE_v, ↓wE_k, ↓wE_g, ↓wE_bin, ↓wE_neg, ↓wE_cmp, ↓wE_isN, ↓wE_not, ↓wE_and1, ↓wE_and, ↓wE_or1, ↓wE_or, ↓wE_ite, ↓wE_tup, ↓wE_lst, ↓wE_lstM, ↓wE_dctM, ↓wE_sub, ↓wE_slc, ↓wE_isi, ↓wE_bi, ↓wE_mth, ↓wE_disp, ↓wE_lkeys, ↓wEs_nil, ↓wEs_cons, ↓wO_none, ↓wO_some, ↓wT_e, ↓wT_not, ↓wT_cmp, ↓wT_chain, ↓wT_isN, ↓wT_and1, ↓wT_and, ↓wT_or1, ↓wT_or, ↓wTo_none, ↓wTo_some, ↓wG_n, ↓wG_t, ↓wG_k, ↓wGs_nil, ↓wGs_cons, ↓wI_s, ↓wI_rng, Post, o_add, o_sub, o_mul, o_div, o_mod, o_pow, o_cats, o_catt, o_catl, o_eqi, o_eqs, o_eqb, o_nei, o_nes, o_lt, o_gt, o_le, o_ge, o_tn, o_tb, o_ti, o_tt, o_tl, s_lst, s_tup, s_ktp, s_str, ok_s, ok_i, get_hit, get_miss, b_int, b_intb, b_lenl, b_lent, b_tupl, b_tupt, b_abs, b_max2, b_min2, atI_0, atI_1, atI_2, atI_3, atI_4, it_lst, it_klst, it_tup, it_ktp, rg_1, rg_2, wipeD, Mk.d]
    exact hK
  · simp only [Bool.false_eq_true, if_false, mdel_mu hp]
    have e : (marksOf c).filterMap (fun q => some (D.int (absI q.m))) = ((marksOf c).map fun k => absI k.m).map D.int := by rw [filterMap_all, List.map_map]; rfl
    rw [e]
    exact b_maxl (by simpa using marks_ne hc.1) (ret_of hQ)
def topOf (c : List Pt) : Int := mxL (c.map Pt.top)
theorem botOf_le {c : List Pt} (h : Gok c) : (bottomOf c).natAbs ≤ 60 := lcmL_take fun b hb => by
  obtain ⟨k, hk, rfl⟩ := List.mem_map.mp hb
  exact ⟨(h.mk hk).1, (h.mk hk).2.1⟩
theorem gapOf_le {c : List Pt} (h : Gok c) : (gapOf c).natAbs ≤ 60 := lcmL_take (gap_ok h)
def periodOf (c : List Pt) : Int := bottomOf c * gapOf c
def boundOf (c : List Pt) : Int := bottomOf c * ((topOf c + 2) * gapOf c + 2 * reachOf c + 12)
def sp_period : CSp := fun ds M K => ∃ c : List Pt, ds = [codeD c] ∧ Gok c ∧ K (.int (periodOf c)) M
def sp_bound : CSp := fun ds M K => ∃ c : List Pt, ds = [codeD c] ∧ Gok c ∧ K (.int (boundOf c)) M
theorem v_period {Γ : Gam} (g1 : Γ.fn "bottom_of" = some (1, sp_bottom)) (g2 : Γ.fn "gap_of" = some (1, sp_gap)) (ds : List D) (M : Mp) (Q : KD) (h : sp_period ds M Q) : wpSs Γ b_period_of (startD n_period_of ds) M (Post Q) := by
  obtain ⟨c, rfl, hc, hQ⟩ := h
  have hb := botOf_le hc
  have hg := gapOf_le hc
  simp [b_period_of, n_period_of, startD, ↓wSs_nil, ↓wSs_cons, ↓wS_asg, ↓wS_par, ↓wS_set, ↓wS_aug, ↓wS_ex, ↓wS_ret, ↓wS_retN, ↓wS_ite, ↓wS_brk, ↓wS_cont, ↓wS_pass, ↓wE_v, ↓wE_k, ↓wE_g, ↓wE_bin, ↓wE_neg, ↓wE_cmp, ↓wE_isN, ↓wE_not, ↓wE_and1, ↓wE_and, ↓wE_or1, ↓wE_or, ↓wE_ite, ↓wE_tup, ↓wE_lst, ↓wE_lstM, ↓wE_dctM, ↓wE_sub, ↓wE_slc, ↓wE_isi, ↓wE_bi, ↓wE_mth, ↓wE_disp, ↓wE_lkeys, ↓wEs_nil, ↓wEs_cons, ↓wO_none, ↓wO_some, ↓wT_e, ↓wT_not, ↓wT_cmp, ↓wT_chain, ↓wT_isN, ↓wT_and1, ↓wT_and, ↓wT_or1, ↓wT_or, ↓wTo_none, ↓wTo_some, ↓wG_n, ↓wG_t, ↓wG_k, ↓wGs_nil, ↓wGs_cons, ↓wI_s, ↓wI_rng, wE_call]
  refine ⟨_, g1, runC.of ⟨c, rfl, hc, _, g2, runC.of ⟨c, rfl, hc, ?_⟩⟩⟩
  dsimp only
  rw [o_mul]
  exact ⟨mul_l (by omega) (by omega), ret_of hQ⟩
theorem v_bound {Γ : Gam} (g1 : Γ.fn "bottom_of" = some (1, sp_bottom)) (g2 : Γ.fn "gap_of" = some (1, sp_gap)) (g3 : Γ.fn "top_of" = some (1, sp_top_of)) (g4 : Γ.fn "reach_of" = some (1, sp_reach)) (ds : List D) (M : Mp) (Q : KD) (h : sp_bound ds M Q) : wpSs Γ b_bound_of (startD n_bound_of ds) M (Post Q) := by
  obtain ⟨c, rfl, hc, hQ⟩ := h
  have hb := botOf_le hc
  have hg := gapOf_le hc
  simp [b_bound_of, n_bound_of, startD, ↓wSs_nil, ↓wSs_cons, ↓wS_asg, ↓wS_par, ↓wS_set, ↓wS_aug, ↓wS_ex, ↓wS_ret, ↓wS_retN, ↓wS_ite, ↓wS_brk, ↓wS_cont, ↓wS_pass, ↓wE_v, ↓wE_k, ↓wE_g, ↓wE_bin, ↓wE_neg, ↓wE_cmp, ↓wE_isN, ↓wE_not, ↓wE_and1, ↓wE_and, ↓wE_or1, ↓wE_or, ↓wE_ite, ↓wE_tup, ↓wE_lst, ↓wE_lstM, ↓wE_dctM, ↓wE_sub, ↓wE_slc, ↓wE_isi, ↓wE_bi, ↓wE_mth, ↓wE_disp, ↓wE_lkeys, ↓wEs_nil, ↓wEs_cons, ↓wO_none, ↓wO_some, ↓wT_e, ↓wT_not, ↓wT_cmp, ↓wT_chain, ↓wT_isN, ↓wT_and1, ↓wT_and, ↓wT_or1, ↓wT_or, ↓wTo_none, ↓wTo_some, ↓wG_n, ↓wG_t, ↓wG_k, ↓wGs_nil, ↓wGs_cons, ↓wI_s, ↓wI_rng, wE_call]
  refine ⟨_, g1, runC.of ⟨c, rfl, hc, _, g3, runC.of ⟨c, rfl, hc.cok, ?_⟩⟩⟩
  dsimp only
  rw [o_add]
  refine ⟨_, g2, runC.of ⟨c, rfl, hc, ?_⟩⟩
  dsimp only
  rw [o_mul]
  refine ⟨mul_r (by omega) (by omega), _, g4, runC.of ⟨c, rfl, hc, ?_⟩⟩
  dsimp only
  rw [o_mul]
  refine ⟨mul_l (by decide) (by decide), ?_⟩
  rw [o_add, o_add, o_mul]
  exact ⟨mul_l (by omega) (by omega), ret_of hQ⟩
end K25
namespace K25
open PySem PySem.Spec L2 Vc
theorem lcm_min {a b i : Nat} (ha : 1 ≤ a) (h : b ∣ a * (i + 1)) (hn : ∀ k < i, ¬ b ∣ a * (k + 1)) (hb : 1 ≤ b) : a * (i + 1) = Nat.lcm a b := by
  obtain ⟨q, hq⟩ := Nat.dvd_lcm_left a b
  have h1 : b ∣ a * q := hq ▸ Nat.dvd_lcm_right a b
  have h2 : a * q ∣ a * (i + 1) := hq ▸ Nat.lcm_dvd (Nat.dvd_mul_right a (i + 1)) h
  have h3 : q ∣ i + 1 := (Nat.mul_dvd_mul_iff_left (by omega)).mp h2
  have h4 : q ≤ i + 1 := Nat.le_of_dvd (by omega) h3
  have h5 : 1 ≤ q := by
    rcases Nat.eq_zero_or_pos q with rfl | h
    · rw [Nat.mul_zero] at hq
      have := Nat.lcm_pos (m := a) (n := b) (by omega) (by omega)
      omega
    · exact h
  rw [hq]
  by_cases c : q = i + 1
  · rw [c]
  · exact absurd (by rw [show q - 1 + 1 = q by omega]; exact h1) (hn (q - 1) (by omega))
theorem rangeD_nat (n : Nat) : rangeD 0 (n : Int) 1 = (List.range n).map fun (i : Nat) => D.int (i : Int) := by
  unfold rangeD
  rw [if_pos (by decide)]
  have e : ((n : Int) - 0 + 1 - 1) / 1 = n := by rw [Int.ediv_one]; omega
  rw [e, Int.toNat_natCast]
  simp
def sp_mult : CSp := fun ds M K => ∃ a b : Nat, ds = [.int a, .int b] ∧ 1 ≤ a ∧ 1 ≤ b ∧ b ≤ 100 ∧ K (.int (Nat.lcm a b : Nat)) M
theorem v_mult {Γ : Gam} (ds : List D) (M : Mp) (Q : KD) (h : sp_mult ds M Q) : wpSs Γ b__law_multiple (startD n__law_multiple ds) M (Post Q) := by
  obtain ⟨a, b, rfl, ha, hb, hb2, hQ⟩ := h
  have hρ : startD n__law_multiple [.int a, .int b] = [some (.int a), some (.int b), none, none] := rfl
  rw [hρ]
  refine wp_at 1 (fun ρ M1 => ρ = [some (.int a), some (.int b), some (.int a), none] ∧ M1 = M) ?_ ?_
  · simp [b__law_multiple, ↓wSs_nil, ↓wSs_cons, ↓wS_asg, ↓wS_par, ↓wS_set, ↓wS_aug, ↓wS_ex, ↓wS_ret, ↓wS_retN, ↓wS_ite, ↓wS_brk, ↓wS_cont, ↓wS_pass, ↓wE_v, ↓wE_k, ↓wE_g, ↓wE_bin, ↓wE_neg, ↓wE_cmp, ↓wE_isN, ↓wE_not, ↓wE_and1, ↓wE_and, ↓wE_or1, ↓wE_or, ↓wE_ite, ↓wE_tup, ↓wE_lst, ↓wE_lstM, ↓wE_dctM, ↓wE_sub, ↓wE_slc, ↓wE_isi, ↓wE_bi, ↓wE_mth, ↓wE_disp, ↓wE_lkeys, ↓wEs_nil, ↓wEs_cons, ↓wO_none, ↓wO_some, ↓wT_e, ↓wT_not, ↓wT_cmp, ↓wT_chain, ↓wT_isN, ↓wT_and1, ↓wT_and, ↓wT_or1, ↓wT_or, ↓wTo_none, ↓wTo_some, ↓wG_n, ↓wG_t, ↓wG_k, ↓wGs_nil, ↓wGs_cons, ↓wI_s, ↓wI_rng]
  rintro ρ M1 ⟨rfl, rfl⟩
  refine wp_forα (List.range b) (fun (i : Nat) => D.int (i : Int)) (fun _ => True) M1 (fun i ρ M2 => ∃ x, ρ = [some (.int a), some (.int b), some (.int (a * (i + 1) : Nat)), x] ∧ M2 = M1 ∧ ∀ k < i, ¬ b ∣ a * (k + 1)) (fun ρ M2 => ∃ x, ρ = [some (.int a), some (.int b), some (.int (Nat.lcm a b : Nat)), x] ∧ M2 = M1) (fun K hK => ?_) ⟨none, by simp, rfl, by simp⟩ (fun _ _ _ _ => trivial) ?_ ?_ ?_
  · simp only [↓wI_rng, ↓wEs_cons, ↓wEs_nil, ↓wE_v]
    refine ⟨_, rfl, ?_⟩
    rw [rg_1, rangeD_nat]
    exact ⟨by omega, hK⟩
  · rintro i p ρ2 M2 hi ⟨x, rfl, rfl, hn⟩
    have hd : (((a * (i + 1) : Nat) : Int) % (b : Int) = 0) ↔ b ∣ a * (i + 1) := ⟨fun h => Int.natCast_dvd_natCast.mp (Int.dvd_of_emod_eq_zero h), fun h => Int.emod_eq_zero_of_dvd (Int.natCast_dvd_natCast.mpr h)⟩
    have hs : ((a * (i + 1) : Nat) : Int) + (a : Int) = ((a * (i + 1 + 1) : Nat) : Int) := by
      rw [Nat.mul_succ a (i + 1)]; omega
    generalize hg : ((a * (i + 1) : Nat) : Int) = t at *
    simp only [↓wG_n]
    simp [↓wSs_nil, ↓wSs_cons, ↓wS_asg, ↓wS_par, ↓wS_set, ↓wS_aug, ↓wS_ex, ↓wS_ret, ↓wS_retN, ↓wS_ite, ↓wS_brk, ↓wS_cont, ↓wS_pass, ↓wE_v, ↓wE_k, ↓wE_g, ↓wE_bin, ↓wE_neg, ↓wE_cmp, ↓wE_isN, ↓wE_not, ↓wE_and1, ↓wE_and, ↓wE_or1, ↓wE_or, ↓wE_ite, ↓wE_tup, ↓wE_lst, ↓wE_lstM, ↓wE_dctM, ↓wE_sub, ↓wE_slc, ↓wE_isi, ↓wE_bi, ↓wE_mth, ↓wE_disp, ↓wE_lkeys, ↓wEs_nil, ↓wEs_cons, ↓wO_none, ↓wO_some, ↓wT_e, ↓wT_not, ↓wT_cmp, ↓wT_chain, ↓wT_isN, ↓wT_and1, ↓wT_and, ↓wT_or1, ↓wT_or, ↓wTo_none, ↓wTo_some, ↓wG_n, ↓wG_t, ↓wG_k, ↓wGs_nil, ↓wGs_cons, ↓wI_s, ↓wI_rng, Post, o_add, o_sub, o_mul, o_div, o_mod, o_pow, o_cats, o_catt, o_catl, o_eqi, o_eqs, o_eqb, o_nei, o_nes, o_lt, o_gt, o_le, o_ge, o_tn, o_tb, o_ti, o_tt, o_tl, s_lst, s_tup, s_ktp, s_str, ok_s, ok_i, get_hit, get_miss, b_int, b_intb, b_lenl, b_lent, b_tupl, b_tupt, b_abs, b_max2, b_min2, atI_0, atI_1, atI_2, atI_3, atI_4, it_lst, it_klst, it_tup, it_ktp, rg_1, rg_2]
    refine ⟨by omega, ?_⟩
    by_cases c : b ∣ a * (i + 1)
    · rw [if_pos (hd.mpr c)]
      rw [← hg, lcm_min ha c hn hb]
    · rw [if_neg (fun z => c (hd.mp z))]
      refine ⟨by rw [hs]; push_cast; rfl, fun k hk => ?_⟩
      by_cases e : k = i
      · subst e; exact c
      · exact hn k (by omega)
  · rintro ρ2 M2 ⟨x, rfl, rfl, hn⟩
    rw [List.length_range] at hn
    exact absurd (by rw [show b - 1 + 1 = b by omega]; exact Nat.dvd_mul_left b a) (hn (b - 1) (by omega))
  · rintro ρ2 M2 ⟨x, rfl, rfl⟩
    simp [↓wSs_nil, ↓wSs_cons, ↓wS_asg, ↓wS_par, ↓wS_set, ↓wS_aug, ↓wS_ex, ↓wS_ret, ↓wS_retN, ↓wS_ite, ↓wS_brk, ↓wS_cont, ↓wS_pass, ↓wE_v, ↓wE_k, ↓wE_g, ↓wE_bin, ↓wE_neg, ↓wE_cmp, ↓wE_isN, ↓wE_not, ↓wE_and1, ↓wE_and, ↓wE_or1, ↓wE_or, ↓wE_ite, ↓wE_tup, ↓wE_lst, ↓wE_lstM, ↓wE_dctM, ↓wE_sub, ↓wE_slc, ↓wE_isi, ↓wE_bi, ↓wE_mth, ↓wE_disp, ↓wE_lkeys, ↓wEs_nil, ↓wEs_cons, ↓wO_none, ↓wO_some, ↓wT_e, ↓wT_not, ↓wT_cmp, ↓wT_chain, ↓wT_isN, ↓wT_and1, ↓wT_and, ↓wT_or1, ↓wT_or, ↓wTo_none, ↓wTo_some, ↓wG_n, ↓wG_t, ↓wG_k, ↓wGs_nil, ↓wGs_cons, ↓wI_s, ↓wI_rng, Post]
    exact ret_of hQ
def sp_low : CSp := fun ds M K => ∃ s b : Int, ds = [.int s, .int b] ∧ 0 ≤ b ∧ b ≤ 100 ∧ ∀ r : Bool, (s = 1 → r = true) → K (.bl r) M
theorem rangeD_2 {lo hi : Int} : rangeD lo hi 1 = (List.range (hi - lo).toNat).map fun (i : Nat) => D.int (lo + (i : Int)) := by
  unfold rangeD
  rw [if_pos (by decide)]
  have e : (hi - lo + 1 - 1) / 1 = hi - lo := by rw [Int.ediv_one]; omega
  rw [e]
  simp
theorem v_low {Γ : Gam} (ds : List D) (M : Mp) (Q : KD) (h : sp_low ds M Q) : wpSs Γ b__law_lowest (startD n__law_lowest ds) M (Post Q) := by
  obtain ⟨s, b, rfl, hb, hb2, hQ⟩ := h
  have hρ : startD n__law_lowest [.int s, .int b] = [some (.int s), some (.int b), none] := rfl
  rw [hρ]
  refine wp_forα (List.range (b + 1 - 2).toNat) (fun (i : Nat) => D.int (2 + (i : Int))) (fun _ => True) M (fun i ρ M2 => ∃ x, ρ = [some (.int s), some (.int b), x] ∧ M2 = M) (fun ρ M2 => ∃ x, ρ = [some (.int s), some (.int b), x] ∧ M2 = M) (fun K hK => ?_) ⟨none, rfl, rfl⟩ (fun _ _ _ _ => trivial) ?_ (fun _ _ h => h) ?_
  · simp only [↓wI_rng, ↓wEs_cons, ↓wEs_nil, ↓wE_v, ↓wE_k, ↓wE_bin]
    refine ⟨_, rfl, ?_⟩
    rw [o_add, rg_2, rangeD_2]
    exact ⟨by omega, hK⟩
  · rintro i p ρ2 M2 hi ⟨x, rfl, rfl⟩
    simp only [↓wG_n]
    simp [↓wSs_nil, ↓wSs_cons, ↓wS_asg, ↓wS_par, ↓wS_set, ↓wS_aug, ↓wS_ex, ↓wS_ret, ↓wS_retN, ↓wS_ite, ↓wS_brk, ↓wS_cont, ↓wS_pass, ↓wE_v, ↓wE_k, ↓wE_g, ↓wE_bin, ↓wE_neg, ↓wE_cmp, ↓wE_isN, ↓wE_not, ↓wE_and1, ↓wE_and, ↓wE_or1, ↓wE_or, ↓wE_ite, ↓wE_tup, ↓wE_lst, ↓wE_lstM, ↓wE_dctM, ↓wE_sub, ↓wE_slc, ↓wE_isi, ↓wE_bi, ↓wE_mth, ↓wE_disp, ↓wE_lkeys, ↓wEs_nil, ↓wEs_cons, ↓wO_none, ↓wO_some, ↓wT_e, ↓wT_not, ↓wT_cmp, ↓wT_chain, ↓wT_isN, ↓wT_and1, ↓wT_and, ↓wT_or1, ↓wT_or, ↓wTo_none, ↓wTo_some, ↓wG_n, ↓wG_t, ↓wG_k, ↓wGs_nil, ↓wGs_cons, ↓wI_s, ↓wI_rng, Post, o_add, o_sub, o_mul, o_div, o_mod, o_pow, o_cats, o_catt, o_catl, o_eqi, o_eqs, o_eqb, o_nei, o_nes, o_lt, o_gt, o_le, o_ge, o_tn, o_tb, o_ti, o_tt, o_tl, s_lst, s_tup, s_ktp, s_str, ok_s, ok_i, get_hit, get_miss, b_int, b_intb, b_lenl, b_lent, b_tupl, b_tupt, b_abs, b_max2, b_min2, atI_0, atI_1, atI_2, atI_3, atI_4, it_lst, it_klst, it_tup, it_ktp, rg_1, rg_2]
    refine ⟨by omega, ?_⟩
    intro h1
    refine ⟨by omega, fun _ => ret_of (hQ false fun e => ?_)⟩
    subst e
    have : (1 : Int) % (2 + (p : Int)) = 1 := Int.emod_eq_of_lt (by omega) (by omega)
    omega
  · rintro ρ2 M2 ⟨x, rfl, rfl⟩
    simp [↓wSs_nil, ↓wSs_cons, ↓wS_asg, ↓wS_par, ↓wS_set, ↓wS_aug, ↓wS_ex, ↓wS_ret, ↓wS_retN, ↓wS_ite, ↓wS_brk, ↓wS_cont, ↓wS_pass, ↓wE_v, ↓wE_k, ↓wE_g, ↓wE_bin, ↓wE_neg, ↓wE_cmp, ↓wE_isN, ↓wE_not, ↓wE_and1, ↓wE_and, ↓wE_or1, ↓wE_or, ↓wE_ite, ↓wE_tup, ↓wE_lst, ↓wE_lstM, ↓wE_dctM, ↓wE_sub, ↓wE_slc, ↓wE_isi, ↓wE_bi, ↓wE_mth, ↓wE_disp, ↓wE_lkeys, ↓wEs_nil, ↓wEs_cons, ↓wO_none, ↓wO_some, ↓wT_e, ↓wT_not, ↓wT_cmp, ↓wT_chain, ↓wT_isN, ↓wT_and1, ↓wT_and, ↓wT_or1, ↓wT_or, ↓wTo_none, ↓wTo_some, ↓wG_n, ↓wG_t, ↓wG_k, ↓wGs_nil, ↓wGs_cons, ↓wI_s, ↓wI_rng, Post]
    exact ret_of (hQ true fun _ => rfl)
end K25
namespace K25
open PySem PySem.Spec L2 Vc
def sp_multI : CSp := fun ds M K => ∃ a b : Int, ds = [.int a, .int b] ∧ 1 ≤ a ∧ 1 ≤ b ∧ b ≤ 100 ∧ K (.int ((Nat.lcm a.natAbs b.natAbs : Nat) : Int)) M
theorem v_multI {Γ : Gam} (ds : List D) (M : Mp) (Q : KD) (h : sp_multI ds M Q) : wpSs Γ b__law_multiple (startD n__law_multiple ds) M (Post Q) := by
  obtain ⟨a, b, rfl, ha, hb, hb2, hQ⟩ := h
  refine v_mult _ M Q ⟨a.natAbs, b.natAbs, ?_, by omega, by omega, by omega, hQ⟩
  rw [show ((a.natAbs : Nat) : Int) = a by omega, show ((b.natAbs : Nat) : Int) = b by omega]
def lcI (t b : Int) : Int := ((Nat.lcm t.natAbs b.natAbs : Nat) : Int)
theorem lcI_pos {t b : Int} (ht : 1 ≤ t) (hb : 1 ≤ b) : 1 ≤ lcI t b := by
  unfold lcI
  have := Nat.lcm_pos (m := t.natAbs) (n := b.natAbs) (by omega) (by omega)
  omega
def mxI (x y : Int) : Int := if x < y then y else x
def rI (r m : Int) : Int := mxI (mxI r m) (-m)
theorem b_max3 {i j k : Int} {M : Mp} {K : KD} : biD "max" [.int i, .int j, .int k] M K = K (.int (mxI (mxI i j) k)) M := rfl
theorem b_max2' {i j : Int} {M : Mp} {K : KD} : biD "max" [.int i, .int j] M K = K (.int (mxI i j)) M := rfl
def bodyM : List Sm := [.asg (.n 1) (.call "_law_multiple" [.v 1, .v 8]), .asg (.n 3) (.bi "max" [.v 3, .v 9, .neg (.v 9)])]
theorem marks_loop {Γ : Gam} (g1 : Γ.fn "_law_multiple" = some (2, sp_multI)) {E : EndD} {M : Mp} (ks : List Mk) (hk : ∀ k ∈ ks, k.ok) {p : Addr} (hM : M p = some (.lst (ks.map Mk.d))) {c0 g t x5 x7 x8 x9 x10 x11 x12 : Option D} {b r : Int} (hb : 1 ≤ b) {ss : List Sm}
    (h : ∀ x7 x8 x9, wpSs Γ ss [c0, some (.int (ks.foldl (fun t k => lcI t k.b) b)), g, some (.int (ks.foldl (fun r k => rI r k.m) r)), t, x5, some (.ref p), x7, x8, x9, x10, x11, x12] M E) :
    wpSs Γ (.for_ (.t [.n 7, .n 8, .n 9]) (.s (.v 6)) bodyM :: ss) [c0, some (.int b), g, some (.int r), t, x5, some (.ref p), x7, x8, x9, x10, x11, x12] M E := by
  have hpos : ∀ i, 1 ≤ (ks.take i).foldl (fun t k => lcI t k.b) b := fun i => by
    have : ∀ (l : List Mk) (b : Int), (∀ k ∈ l, k.ok) → 1 ≤ b → 1 ≤ l.foldl (fun t k => lcI t k.b) b := by
      intro l
      induction l with
      | nil => exact fun b _ h => h
      | cons k l ih => exact fun b hl h => ih _ (fun x hx => hl x (by simp [hx])) (lcI_pos h (hl k (by simp)).1)
    exact this _ _ (fun k hk' => hk k (List.mem_of_mem_take hk')) hb
  refine wp_forα ks Mk.d (fun M => M p = some (.lst (ks.map Mk.d))) M (fun i ρ M2 => ∃ x7 x8 x9, ρ = [c0, some (.int ((ks.take i).foldl (fun t k => lcI t k.b) b)), g, some (.int ((ks.take i).foldl (fun r k => rI r k.m) r)), t, x5, some (.ref p), x7, x8, x9, x10, x11, x12] ∧ M2 = M) (fun ρ M2 => ∃ x7 x8 x9, ρ = [c0, some (.int (ks.foldl (fun t k => lcI t k.b) b)), g, some (.int (ks.foldl (fun r k => rI r k.m) r)), t, x5, some (.ref p), x7, x8, x9, x10, x11, x12] ∧ M2 = M) (fun K hK => ?_) ⟨x7, x8, x9, rfl, rfl⟩ (fun _ _ _ h => by obtain ⟨_, _, _, _, rfl⟩ := h; exact hM) ?_ ?_ ?_
  · simp only [↓wI_s, ↓wE_v]
    refine ⟨_, rfl, ?_⟩
    rw [it_ref hM]
    exact hK
  · rintro i k ρ2 M2 hi ⟨x7, x8, x9, rfl, rfl⟩
    have hko := hk k (List.mem_of_getElem? hi)
    have h1 := hpos i
    have hs1 : (ks.take (i + 1)).foldl (fun t k => lcI t k.b) b = lcI ((ks.take i).foldl (fun t k => lcI t k.b) b) k.b := by rw [List.take_add_one, hi, List.foldl_append]; rfl
    have hs2 : (ks.take (i + 1)).foldl (fun r k => rI r k.m) r = rI ((ks.take i).foldl (fun r k => rI r k.m) r) k.m := by rw [List.take_add_one, hi, List.foldl_append]; rfl
    rw [hs1, hs2]
    generalize (ks.take i).foldl (fun t k => lcI t k.b) b = b1 at *
    generalize (ks.take i).foldl (fun r k => rI r k.m) r = r1 at *
    unfold Mk.ok at hko
    simp [bodyM, Mk.d, ↓wSs_nil, ↓wSs_cons, ↓wS_asg, ↓wS_par, ↓wS_set, ↓wS_aug, ↓wS_ex, ↓wS_ret, ↓wS_retN, ↓wS_ite, ↓wS_brk, ↓wS_cont, ↓wS_pass, ↓wE_v, ↓wE_k, ↓wE_g, ↓wE_bin, ↓wE_neg, ↓wE_cmp, ↓wE_isN, ↓wE_not, ↓wE_and1, ↓wE_and, ↓wE_or1, ↓wE_or, ↓wE_ite, ↓wE_tup, ↓wE_lst, ↓wE_lstM, ↓wE_dctM, ↓wE_sub, ↓wE_slc, ↓wE_isi, ↓wE_bi, ↓wE_mth, ↓wE_disp, ↓wE_lkeys, ↓wEs_nil, ↓wEs_cons, ↓wO_none, ↓wO_some, ↓wT_e, ↓wT_not, ↓wT_cmp, ↓wT_chain, ↓wT_isN, ↓wT_and1, ↓wT_and, ↓wT_or1, ↓wT_or, ↓wTo_none, ↓wTo_some, ↓wG_n, ↓wG_t, ↓wG_k, ↓wGs_nil, ↓wGs_cons, ↓wI_s, ↓wI_rng, Post, o_add, o_sub, o_mul, o_div, o_mod, o_pow, o_cats, o_catt, o_catl, o_eqi, o_eqs, o_eqb, o_nei, o_nes, o_lt, o_gt, o_le, o_ge, o_tn, o_tb, o_ti, o_tt, o_tl, s_lst, s_tup, s_ktp, s_str, ok_s, ok_i, get_hit, get_miss, b_int, b_intb, b_lenl, b_lent, b_tupl, b_tupt, b_abs, b_max2, b_min2, atI_0, atI_1, atI_2, atI_3, atI_4, it_lst, it_klst, it_tup, it_ktp, rg_1, rg_2, wE_call, b_max3]
    refine ⟨_, g1, runC.of ⟨b1, k.b, rfl, h1, hko.1, by omega, ?_⟩⟩
    exact ⟨⟨rfl, rfl⟩, rfl⟩
  · rintro ρ2 M2 ⟨x7, x8, x9, rfl, rfl⟩
    exact ⟨x7, x8, x9, by rw [List.take_length], rfl⟩
  · rintro ρ2 M2 ⟨x7, x8, x9, rfl, rfl⟩
    exact h x7 x8 x9
def bodyU : List Sm := [.asg (.n 4) (.bi "max" [.v 4, .bin .Add (.v 11) (.bi "int" [.cmp .Eq (.v 12) (.k (.str "u"))])])]
theorem w_u (u : Un) : (if decide (u.w = ("u" : Str)) = true then (1 : Int) else 0) = if u.u = true then 1 else 0 := by
  unfold Un.w
  cases u.u
  · rw [if_neg (by decide), if_neg (by decide)]
  · rw [if_pos (by decide), if_pos rfl]
theorem units_loop {Γ : Gam} {E : EndD} {M : Mp} (us : List Un) {e : Ex} {c0 b g r x5 x6 x7 x8 x9 x10 x11 x12 : Option D} {t : Int} {ss : List Sm} (he : ∀ K : KD, K (.tup (us.map Un.d)) M → wpE Γ e [c0, b, g, r, some (.int t), x5, x6, x7, x8, x9, x10, x11, x12] M K)
    (h : ∀ x10 x11 x12, wpSs Γ ss [c0, b, g, r, some (.int (us.foldl (fun t u => mxI t u.top) t)), x5, x6, x7, x8, x9, x10, x11, x12] M E) :
    wpSs Γ (.for_ (.t [.n 10, .n 11, .n 12]) (.s e) bodyU :: ss) [c0, b, g, r, some (.int t), x5, x6, x7, x8, x9, x10, x11, x12] M E := by
  refine wp_forα us Un.d (fun _ => True) M (fun i ρ M2 => ∃ x10 x11 x12, ρ = [c0, b, g, r, some (.int ((us.take i).foldl (fun t u => mxI t u.top) t)), x5, x6, x7, x8, x9, x10, x11, x12] ∧ M2 = M) (fun ρ M2 => ∃ x10 x11 x12, ρ = [c0, b, g, r, some (.int (us.foldl (fun t u => mxI t u.top) t)), x5, x6, x7, x8, x9, x10, x11, x12] ∧ M2 = M) (fun K hK => ?_) ⟨x10, x11, x12, rfl, rfl⟩ (fun _ _ _ _ => trivial) ?_ ?_ ?_
  · rw [wI_s]
    refine he _ ?_
    rw [it_tup]; exact hK
  · rintro i u ρ2 M2 hi ⟨x10, x11, x12, rfl, rfl⟩
    have hs1 : (us.take (i + 1)).foldl (fun t u => mxI t u.top) t = mxI ((us.take i).foldl (fun t u => mxI t u.top) t) u.top := by rw [List.take_add_one, hi, List.foldl_append]; rfl
    rw [hs1]
    generalize (us.take i).foldl (fun t u => mxI t u.top) t = t1 at *
    have hw := w_u u
    have ht : u.top = u.y + if u.u = true then 1 else 0 := by unfold Un.top; cases u.u <;> simp
    rw [ht, ← hw]
    simp [bodyU, Un.d, ↓wSs_nil, ↓wSs_cons, ↓wS_asg, ↓wS_par, ↓wS_set, ↓wS_aug, ↓wS_ex, ↓wS_ret, ↓wS_retN, ↓wS_ite, ↓wS_brk, ↓wS_cont, ↓wS_pass, ↓wE_v, ↓wE_k, ↓wE_g, ↓wE_bin, ↓wE_neg, ↓wE_cmp, ↓wE_isN, ↓wE_not, ↓wE_and1, ↓wE_and, ↓wE_or1, ↓wE_or, ↓wE_ite, ↓wE_tup, ↓wE_lst, ↓wE_lstM, ↓wE_dctM, ↓wE_sub, ↓wE_slc, ↓wE_isi, ↓wE_bi, ↓wE_mth, ↓wE_disp, ↓wE_lkeys, ↓wEs_nil, ↓wEs_cons, ↓wO_none, ↓wO_some, ↓wT_e, ↓wT_not, ↓wT_cmp, ↓wT_chain, ↓wT_isN, ↓wT_and1, ↓wT_and, ↓wT_or1, ↓wT_or, ↓wTo_none, ↓wTo_some, ↓wG_n, ↓wG_t, ↓wG_k, ↓wGs_nil, ↓wGs_cons, ↓wI_s, ↓wI_rng, Post, o_add, o_eqs, b_intb, b_max2']
  · rintro ρ2 M2 ⟨x7, x8, x9, rfl, rfl⟩
    exact ⟨x7, x8, x9, by rw [List.take_length], rfl⟩
  · rintro ρ2 M2 ⟨x7, x8, x9, rfl, rfl⟩
    exact h x7 x8 x9
end K25
namespace K25
open PySem PySem.Spec L2 Vc
theorem lcI_comm {t a b : Int} : lcI (lcI t a) b = lcI (lcI t b) a := by
  unfold lcI
  rw [Int.natAbs_natCast, Int.natAbs_natCast, Nat.lcm_assoc, Nat.lcm_comm a.natAbs, Nat.lcm_assoc]
theorem rI_eq {r m : Int} : rI r m = mxI r (absI m) := by
  unfold rI mxI absI
  repeat' split
  all_goals omega
theorem mxI_comm {t a b : Int} : mxI (mxI t a) b = mxI (mxI t b) a := by
  unfold mxI
  repeat' split
  all_goals omega
theorem mxI_assoc {t a b : Int} : mxI (mxI t a) b = mxI t (mxI a b) := by
  unfold mxI
  repeat' split
  all_goals omega
def Pt.lmarks : Pt → List Mk
  | .along _ p q => [q, p]
  | .up p _ _ => [p]
  | .row _ _ p q => [q, p]
  | .stamp _ q => [q]
theorem lm_b (p : Pt) (b : Int) : p.lmarks.foldl (fun t k => lcI t k.b) b = p.marks.foldl (fun t k => lcI t k.b) b := by
  cases p <;> simp [Pt.lmarks, Pt.marks, lcI_comm]
theorem lm_r (p : Pt) (b : Int) : p.lmarks.foldl (fun t k => rI t k.m) b = p.marks.foldl (fun t k => rI t k.m) b := by
  cases p <;> simp only [Pt.lmarks, Pt.marks, List.foldl_cons, List.foldl_nil, rI_eq, mxI_comm]
theorem best_fold : ∀ (l : List Int) (x : Int), best .max x l = l.foldl mxI x
  | [], x => rfl
  | y :: r, x => by rw [best, best_fold r]; rfl
theorem fold_mx (l : List Int) : ∀ (t x : Int), (x :: l).foldl mxI t = mxI t (l.foldl mxI x) := by
  induction l with
  | nil => intro t x; rfl
  | cons y l ih =>
    intro t x
    rw [List.foldl_cons, List.foldl_cons, ← mxI_assoc.symm, ← List.foldl_cons (f := mxI) (b := t) (a := mxI x y), ih]
    rw [List.foldl_cons]
theorem mxL_fold {l : List Int} (hl : l ≠ []) (t : Int) : l.foldl mxI t = mxI t (mxL l) := by
  cases l with
  | nil => exact absurd rfl hl
  | cons x r => rw [fold_mx, mxL, best_fold]
theorem le_fold : ∀ (l : List Int) (x : Int), x ≤ l.foldl mxI x
  | [], x => Int.le_refl x
  | y :: r, x => by
    rw [List.foldl_cons]
    refine Int.le_trans ?_ (le_fold r _)
    unfold mxI; split <;> omega
theorem mxL_nn {l : List Int} (hl : l ≠ []) (h : ∀ x ∈ l, 0 ≤ x) : l.foldl mxI 0 = mxL l := by
  rw [mxL_fold hl]
  have : 0 ≤ mxL l := by
    cases l with
    | nil => exact absurd rfl hl
    | cons x r =>
      rw [mxL, best_fold]
      have := le_fold r x
      have := h x (by simp)
      omega
  unfold mxI; split <;> omega
theorem units_top (us : List Un) : ∀ t : Int, us.foldl (fun t u => mxI t u.top) t = ((us.flatMap Un.ends).map (·.2)).foldl mxI t := by
  induction us with
  | nil => intro t; rfl
  | cons u us ih =>
    intro t
    rw [List.foldl_cons, ih, List.flatMap_cons, List.map_append, List.foldl_append]
    congr 1
    unfold Un.top Un.ends
    cases u.u <;> simp [mxI] <;> (repeat' split) <;> omega
def Pt.ltop (t : Int) : Pt → Int
  | .along y _ _ => mxI t y
  | .up _ _ h => mxI t h
  | .row us _ _ _ => us.foldl (fun t u => mxI t u.top) t
  | .stamp us _ => us.foldl (fun t u => mxI t u.top) t
theorem ends_ne {us : List Un} (h : us ≠ []) : (us.flatMap Un.ends).map (·.2) ≠ [] := by
  cases us with
  | nil => exact absurd rfl h
  | cons u us => simp [Un.ends]
theorem ltop_eq {p : Pt} (h : p.uok) (t : Int) : p.ltop t = mxI t p.top := by
  cases p with
  | along y p q => rfl
  | up p l h => rfl
  | row us g p q => rw [Pt.ltop, units_top, mxL_fold (ends_ne h.1)]; rfl
  | stamp us q => rw [Pt.ltop, units_top, mxL_fold (ends_ne h.1)]; rfl
def Hok (c : List Pt) : Prop := Gok c ∧ ∀ p ∈ c, 0 ≤ p.top
theorem fold_flat {β : Type} (f : β → Mk → β) (c : List Pt) : ∀ b : β, (marksOf c).foldl f b = c.foldl (fun b p => p.marks.foldl f b) b := by
  induction c with
  | nil => intro b; rfl
  | cons p c ih =>
    intro b
    unfold marksOf at *
    rw [List.flatMap_cons, List.foldl_append, ih, List.foldl_cons]
def dB (c : List Pt) : Int := c.foldl (fun b p => p.lmarks.foldl (fun t k => lcI t k.b) b) 1
def dG (c : List Pt) : Int := c.foldl (fun g p => match p.gap with | some x => lcI g x | none => g) 1
def dR (c : List Pt) : Int := c.foldl (fun b p => p.lmarks.foldl (fun t k => rI t k.m) b) 0
def dT (c : List Pt) : Int := c.foldl (fun t p => p.ltop t) 0
theorem dB_eq (c : List Pt) : dB c = bottomOf c := by
  unfold dB bottomOf lcmL
  rw [List.foldl_map, fold_flat]
  refine congrArg (fun f => List.foldl f 1 c) (funext fun b => funext fun p => ?_)
  rw [lm_b]; rfl
theorem dG_eq (c : List Pt) : dG c = gapOf c := by
  unfold dG gapOf lcmL
  have : ∀ (c : List Pt) (t : Int), c.foldl (fun g p => match p.gap with | some x => lcI g x | none => g) t = (c.filterMap Pt.gap).foldl (fun t b => ((Nat.lcm t.natAbs b.natAbs : Nat) : Int)) t := by
    intro c
    induction c with
    | nil => intro t; rfl
    | cons p c ih =>
      intro t
      rw [List.foldl_cons, ih]
      cases e : p.gap with
      | none => rw [List.filterMap_cons_none e]
      | some g => rw [List.filterMap_cons_some e, List.foldl_cons]; rfl
  exact this c 1
theorem dR_eq {c : List Pt} (h : c ≠ []) : dR c = reachOf c := by
  unfold dR reachOf
  have e : c.foldl (fun b p => p.lmarks.foldl (fun t k => rI t k.m) b) 0 = (marksOf c).foldl (fun t k => mxI t (absI k.m)) 0 := by
    rw [fold_flat]
    refine congrArg (fun f => List.foldl f 0 c) (funext fun b => funext fun p => ?_)
    rw [lm_r]
    simp only [rI_eq]
  rw [e, ← List.foldl_map (f := fun k : Mk => absI k.m) (g := mxI)]
  refine mxL_nn (by simpa using marks_ne h) fun x hx => ?_
  obtain ⟨k, _, rfl⟩ := List.mem_map.mp hx
  unfold absI; split <;> omega
theorem dT_eq {c : List Pt} (h : Hok c) : dT c = topOf c := by
  unfold dT topOf
  have : ∀ (c : List Pt) (t : Int), (∀ p ∈ c, p.uok) → c.foldl (fun t p => p.ltop t) t = (c.map Pt.top).foldl mxI t := by
    intro c
    induction c with
    | nil => intro t _; rfl
    | cons p c ih =>
      intro t hu
      rw [List.foldl_cons, List.map_cons, List.foldl_cons, ltop_eq (hu p (by simp)), ih _ fun q hq => hu q (by simp [hq])]
  rw [this c 0 fun p hp => (h.1.2.2 p hp).1]
  refine mxL_nn (by simpa using h.1.1) fun x hx => ?_
  obtain ⟨p, hp, rfl⟩ := List.mem_map.mp hx
  exact h.2 p hp
end K25
namespace K25
open PySem PySem.Spec L2 Vc
section
variable {Γ : Gam} {ρ : Env'} {M : Mp} {E : EndD}
theorem wp_app {a b : List Sm} (h : wpSs Γ (a ++ b) ρ M E) : wpSs Γ a ρ M { E with nx := fun ρ1 M1 => wpSs Γ b ρ1 M1 E } := by
  induction a generalizing ρ M with
  | nil => rw [wpSs]; exact h
  | cons s a ih =>
    rw [List.cons_append, wpSs] at h
    rw [wpSs]
    exact wpS_mono Γ s ρ M ⟨fun ρ1 M1 => wpSs Γ (a ++ b) ρ1 M1 E, E.rt, E.bk, E.ct⟩ _ ⟨fun ρ1 M1 q => ih q, fun _ _ q => q, fun _ _ q => q, fun _ _ q => q⟩ h
theorem ite_T {t : Tx} {a b ss : List Sm} (ht : ∀ B : Bool → Mp → Prop, B true M → wpT Γ t ρ M B) (h : wpSs Γ (a ++ ss) ρ M E) : wpSs Γ (.ite t a b :: ss) ρ M E := by
  rw [wSs_cons, wS_ite]
  exact ht _ (by rw [if_pos rfl]; exact wp_app h)
theorem ite_F {t : Tx} {a b ss : List Sm} (ht : ∀ B : Bool → Mp → Prop, B false M → wpT Γ t ρ M B) (h : wpSs Γ (b ++ ss) ρ M E) : wpSs Γ (.ite t a b :: ss) ρ M E := by
  rw [wSs_cons, wS_ite]
  exact ht _ (by rw [if_neg (by decide)]; exact wp_app h)
theorem asg_n {i : Nat} {e : Ex} {ss : List Sm} {d : D} (he : ∀ K : KD, K d M → wpE Γ e ρ M K) (h : wpSs Γ ss (ρ.set i (some d)) M E) : wpSs Γ (.asg (.n i) e :: ss) ρ M E := by
  rw [wSs_cons, wS_asg]
  exact he _ (by rw [wG_n]; exact h)
theorem asg_l {i : Nat} {es : List Ex} {ss : List Sm} {ds : List D} (he : ∀ K : List D → Mp → Prop, K ds M → wpEs Γ es ρ M K) (hl : ds.length ≤ 1000) (h : ∀ p, M p = none → wpSs Γ ss (ρ.set i (some (.ref p))) (mu M p (.lst ds)) E) : wpSs Γ (.asg (.n i) (.lstM es) :: ss) ρ M E := by
  rw [wSs_cons, wS_asg, wE_lstM]
  exact he _ ⟨sz (by omega), fun p hp => by rw [wG_n]; exact h p hp⟩
theorem ex_app {i : Nat} {e : Ex} {ss : List Sm} {p : Addr} {xs : List D} {d : D} (hi : ρ[i]? = some (some (.ref p))) (hp : M p = some (.lst xs)) (he : ∀ K : KD, K d M → wpE Γ e ρ M K) (hl : xs.length ≤ 1000) (h : wpSs Γ ss ρ (mu M p (.lst (xs ++ [d]))) E) : wpSs Γ (.ex (.mth "list" "append" (.v i) [e]) :: ss) ρ M E := by
  rw [wSs_cons, wS_ex, wE_mth, wE_v]
  refine ⟨_, hi, ?_, ?_⟩
  · show isTyD "list" (.ref p) M
    unfold isTyD look
    simp only [hp]
  · rw [wEs_cons]
    refine he _ ?_
    rw [wEs_nil]
    exact ⟨p, xs, d, rfl, rfl, hp, by rw [sizeLine_eq]; omega, h⟩
end
def bodyD : List Sm := [.asg (.n 6) (.lstM [.sub (.v 5) (.bin .Sub (.bi "len" [.v 5]) (.k (.int 1)))]),
    .ite (.cmp .Eq (.sub (.v 5) (.k (.int 0))) (.k (.str "up"))) [.asg (.n 6) (.lstM [.sub (.v 5) (.k (.int 1))]),
    .asg (.n 4) (.bi "max" [.v 4, .sub (.v 5) (.k (.int 3))])] [.ite (.cmp .NotEq (.sub (.v 5) (.k (.int 0))) (.k (.str "stamp"))) [.ex (.mth "list" "append" (.v 6) [.sub (.v 5) (.bin .Sub (.bi "len" [.v 5]) (.k (.int 2)))])] [],
    .ite (.cmp .Eq (.sub (.v 5) (.k (.int 0))) (.k (.str "along"))) [.asg (.n 4) (.bi "max" [.v 4, .sub (.v 5) (.k (.int 1))])] [.for_ (.t [.n 10, .n 11, .n 12]) (.s (.sub (.v 5) (.k (.int 1)))) bodyU]],
    .ite (.cmp .Eq (.sub (.v 5) (.k (.int 0))) (.k (.str "row"))) [.asg (.n 2) (.call "_law_multiple" [.v 2, .sub (.v 5) (.k (.int 2))])] [],
    .for_ (.t [.n 7, .n 8, .n 9]) (.s (.v 6)) bodyM]
theorem turn_due {Γ : Gam} (g1 : Γ.fn "_law_multiple" = some (2, sp_multI)) {E : EndD} {M : Mp} (p : Pt) (hp : p.ok) {c0 x6 x7 x8 x9 x10 x11 x12 : Option D} {b g r t : Int} (hb : 1 ≤ b) (hg : 1 ≤ g)
    (h : ∀ M' x6 x7 x8 x9 x10 x11 x12, Ext M M' → E.nx [c0, some (.int (p.lmarks.foldl (fun t k => lcI t k.b) b)), some (.int (match p.gap with | some x => lcI g x | none => g)), some (.int (p.lmarks.foldl (fun r k => rI r k.m) r)), some (.int (p.ltop t)), some p.d, x6, x7, x8, x9, x10, x11, x12] M') :
    wpSs Γ bodyD [c0, some (.int b), some (.int g), some (.int r), some (.int t), some p.d, x6, x7, x8, x9, x10, x11, x12] M E := by
  obtain ⟨hu, hm, hgap⟩ := hp
  cases p with
  | along y p q =>
    refine asg_l (ds := [q.d]) (fun K hK => by simp [↓wSs_nil, ↓wSs_cons, ↓wS_asg, ↓wS_par, ↓wS_set, ↓wS_aug, ↓wS_ex, ↓wS_ret, ↓wS_retN, ↓wS_ite, ↓wS_brk, ↓wS_cont, ↓wS_pass, ↓wE_v, ↓wE_k, ↓wE_g, ↓wE_bin, ↓wE_neg, ↓wE_cmp, ↓wE_isN, ↓wE_not, ↓wE_and1, ↓wE_and, ↓wE_or1, ↓wE_or, ↓wE_ite, ↓wE_tup, ↓wE_lst, ↓wE_lstM, ↓wE_dctM, ↓wE_sub, ↓wE_slc, ↓wE_isi, ↓wE_bi, ↓wE_mth, ↓wE_disp, ↓wE_lkeys, ↓wEs_nil, ↓wEs_cons, ↓wO_none, ↓wO_some, ↓wT_e, ↓wT_not, ↓wT_cmp, ↓wT_chain, ↓wT_isN, ↓wT_and1, ↓wT_and, ↓wT_or1, ↓wT_or, ↓wTo_none, ↓wTo_some, ↓wG_n, ↓wG_t, ↓wG_k, ↓wGs_nil, ↓wGs_cons, ↓wI_s, ↓wI_rng, Post, o_add, o_sub, o_mul, o_div, o_mod, o_pow, o_cats, o_catt, o_catl, o_eqi, o_eqs, o_eqb, o_nei, o_nes, o_lt, o_gt, o_le, o_ge, o_tn, o_tb, o_ti, o_tt, o_tl, s_lst, s_tup, s_ktp, s_str, ok_s, ok_i, get_hit, get_miss, b_int, b_intb, b_lenl, b_lent, b_tupl, b_tupt, b_abs, b_max2, b_min2, atI_0, atI_1, atI_2, atI_3, atI_4, it_lst, it_klst, it_tup, it_ktp, rg_1, rg_2, Pt.d]; exact hK) (by simp) fun a ha => ?_
    have hM : (mu M a (.lst [q.d])) a = some (.lst [q.d]) := mu_same
    refine ite_F (fun B hB => by simp [↓wSs_nil, ↓wSs_cons, ↓wS_asg, ↓wS_par, ↓wS_set, ↓wS_aug, ↓wS_ex, ↓wS_ret, ↓wS_retN, ↓wS_ite, ↓wS_brk, ↓wS_cont, ↓wS_pass, ↓wE_v, ↓wE_k, ↓wE_g, ↓wE_bin, ↓wE_neg, ↓wE_cmp, ↓wE_isN, ↓wE_not, ↓wE_and1, ↓wE_and, ↓wE_or1, ↓wE_or, ↓wE_ite, ↓wE_tup, ↓wE_lst, ↓wE_lstM, ↓wE_dctM, ↓wE_sub, ↓wE_slc, ↓wE_isi, ↓wE_bi, ↓wE_mth, ↓wE_disp, ↓wE_lkeys, ↓wEs_nil, ↓wEs_cons, ↓wO_none, ↓wO_some, ↓wT_e, ↓wT_not, ↓wT_cmp, ↓wT_chain, ↓wT_isN, ↓wT_and1, ↓wT_and, ↓wT_or1, ↓wT_or, ↓wTo_none, ↓wTo_some, ↓wG_n, ↓wG_t, ↓wG_k, ↓wGs_nil, ↓wGs_cons, ↓wI_s, ↓wI_rng, Post, o_add, o_sub, o_mul, o_div, o_mod, o_pow, o_cats, o_catt, o_catl, o_eqi, o_eqs, o_eqb, o_nei, o_nes, o_lt, o_gt, o_le, o_ge, o_tn, o_tb, o_ti, o_tt, o_tl, s_lst, s_tup, s_ktp, s_str, ok_s, ok_i, get_hit, get_miss, b_int, b_intb, b_lenl, b_lent, b_tupl, b_tupt, b_abs, b_max2, b_min2, atI_0, atI_1, atI_2, atI_3, atI_4, it_lst, it_klst, it_tup, it_ktp, rg_1, rg_2, Pt.d, t10]; exact hB) ?_
    refine ite_T (fun B hB => by simp [↓wSs_nil, ↓wSs_cons, ↓wS_asg, ↓wS_par, ↓wS_set, ↓wS_aug, ↓wS_ex, ↓wS_ret, ↓wS_retN, ↓wS_ite, ↓wS_brk, ↓wS_cont, ↓wS_pass, ↓wE_v, ↓wE_k, ↓wE_g, ↓wE_bin, ↓wE_neg, ↓wE_cmp, ↓wE_isN, ↓wE_not, ↓wE_and1, ↓wE_and, ↓wE_or1, ↓wE_or, ↓wE_ite, ↓wE_tup, ↓wE_lst, ↓wE_lstM, ↓wE_dctM, ↓wE_sub, ↓wE_slc, ↓wE_isi, ↓wE_bi, ↓wE_mth, ↓wE_disp, ↓wE_lkeys, ↓wEs_nil, ↓wEs_cons, ↓wO_none, ↓wO_some, ↓wT_e, ↓wT_not, ↓wT_cmp, ↓wT_chain, ↓wT_isN, ↓wT_and1, ↓wT_and, ↓wT_or1, ↓wT_or, ↓wTo_none, ↓wTo_some, ↓wG_n, ↓wG_t, ↓wG_k, ↓wGs_nil, ↓wGs_cons, ↓wI_s, ↓wI_rng, Post, o_add, o_sub, o_mul, o_div, o_mod, o_pow, o_cats, o_catt, o_catl, o_eqi, o_eqs, o_eqb, o_nei, o_nes, o_lt, o_gt, o_le, o_ge, o_tn, o_tb, o_ti, o_tt, o_tl, s_lst, s_tup, s_ktp, s_str, ok_s, ok_i, get_hit, get_miss, b_int, b_intb, b_lenl, b_lent, b_tupl, b_tupt, b_abs, b_max2, b_min2, atI_0, atI_1, atI_2, atI_3, atI_4, it_lst, it_klst, it_tup, it_ktp, rg_1, rg_2, Pt.d, t11]; exact hB) ?_
    refine ex_app (p := a) (xs := [q.d]) (d := p.d) rfl hM (fun K hK => by simp [↓wSs_nil, ↓wSs_cons, ↓wS_asg, ↓wS_par, ↓wS_set, ↓wS_aug, ↓wS_ex, ↓wS_ret, ↓wS_retN, ↓wS_ite, ↓wS_brk, ↓wS_cont, ↓wS_pass, ↓wE_v, ↓wE_k, ↓wE_g, ↓wE_bin, ↓wE_neg, ↓wE_cmp, ↓wE_isN, ↓wE_not, ↓wE_and1, ↓wE_and, ↓wE_or1, ↓wE_or, ↓wE_ite, ↓wE_tup, ↓wE_lst, ↓wE_lstM, ↓wE_dctM, ↓wE_sub, ↓wE_slc, ↓wE_isi, ↓wE_bi, ↓wE_mth, ↓wE_disp, ↓wE_lkeys, ↓wEs_nil, ↓wEs_cons, ↓wO_none, ↓wO_some, ↓wT_e, ↓wT_not, ↓wT_cmp, ↓wT_chain, ↓wT_isN, ↓wT_and1, ↓wT_and, ↓wT_or1, ↓wT_or, ↓wTo_none, ↓wTo_some, ↓wG_n, ↓wG_t, ↓wG_k, ↓wGs_nil, ↓wGs_cons, ↓wI_s, ↓wI_rng, Post, o_add, o_sub, o_mul, o_div, o_mod, o_pow, o_cats, o_catt, o_catl, o_eqi, o_eqs, o_eqb, o_nei, o_nes, o_lt, o_gt, o_le, o_ge, o_tn, o_tb, o_ti, o_tt, o_tl, s_lst, s_tup, s_ktp, s_str, ok_s, ok_i, get_hit, get_miss, b_int, b_intb, b_lenl, b_lent, b_tupl, b_tupt, b_abs, b_max2, b_min2, atI_0, atI_1, atI_2, atI_3, atI_4, it_lst, it_klst, it_tup, it_ktp, rg_1, rg_2, Pt.d]; exact hK) (by simp) ?_
    rw [mu_mu]
    refine ite_T (fun B hB => by simp [↓wSs_nil, ↓wSs_cons, ↓wS_asg, ↓wS_par, ↓wS_set, ↓wS_aug, ↓wS_ex, ↓wS_ret, ↓wS_retN, ↓wS_ite, ↓wS_brk, ↓wS_cont, ↓wS_pass, ↓wE_v, ↓wE_k, ↓wE_g, ↓wE_bin, ↓wE_neg, ↓wE_cmp, ↓wE_isN, ↓wE_not, ↓wE_and1, ↓wE_and, ↓wE_or1, ↓wE_or, ↓wE_ite, ↓wE_tup, ↓wE_lst, ↓wE_lstM, ↓wE_dctM, ↓wE_sub, ↓wE_slc, ↓wE_isi, ↓wE_bi, ↓wE_mth, ↓wE_disp, ↓wE_lkeys, ↓wEs_nil, ↓wEs_cons, ↓wO_none, ↓wO_some, ↓wT_e, ↓wT_not, ↓wT_cmp, ↓wT_chain, ↓wT_isN, ↓wT_and1, ↓wT_and, ↓wT_or1, ↓wT_or, ↓wTo_none, ↓wTo_some, ↓wG_n, ↓wG_t, ↓wG_k, ↓wGs_nil, ↓wGs_cons, ↓wI_s, ↓wI_rng, Post, o_add, o_sub, o_mul, o_div, o_mod, o_pow, o_cats, o_catt, o_catl, o_eqi, o_eqs, o_eqb, o_nei, o_nes, o_lt, o_gt, o_le, o_ge, o_tn, o_tb, o_ti, o_tt, o_tl, s_lst, s_tup, s_ktp, s_str, ok_s, ok_i, get_hit, get_miss, b_int, b_intb, b_lenl, b_lent, b_tupl, b_tupt, b_abs, b_max2, b_min2, atI_0, atI_1, atI_2, atI_3, atI_4, it_lst, it_klst, it_tup, it_ktp, rg_1, rg_2, Pt.d]; exact hB) ?_
    refine asg_n (d := .int (mxI t y)) (fun K hK => by simp [↓wSs_nil, ↓wSs_cons, ↓wS_asg, ↓wS_par, ↓wS_set, ↓wS_aug, ↓wS_ex, ↓wS_ret, ↓wS_retN, ↓wS_ite, ↓wS_brk, ↓wS_cont, ↓wS_pass, ↓wE_v, ↓wE_k, ↓wE_g, ↓wE_bin, ↓wE_neg, ↓wE_cmp, ↓wE_isN, ↓wE_not, ↓wE_and1, ↓wE_and, ↓wE_or1, ↓wE_or, ↓wE_ite, ↓wE_tup, ↓wE_lst, ↓wE_lstM, ↓wE_dctM, ↓wE_sub, ↓wE_slc, ↓wE_isi, ↓wE_bi, ↓wE_mth, ↓wE_disp, ↓wE_lkeys, ↓wEs_nil, ↓wEs_cons, ↓wO_none, ↓wO_some, ↓wT_e, ↓wT_not, ↓wT_cmp, ↓wT_chain, ↓wT_isN, ↓wT_and1, ↓wT_and, ↓wT_or1, ↓wT_or, ↓wTo_none, ↓wTo_some, ↓wG_n, ↓wG_t, ↓wG_k, ↓wGs_nil, ↓wGs_cons, ↓wI_s, ↓wI_rng, Post, o_add, o_sub, o_mul, o_div, o_mod, o_pow, o_cats, o_catt, o_catl, o_eqi, o_eqs, o_eqb, o_nei, o_nes, o_lt, o_gt, o_le, o_ge, o_tn, o_tb, o_ti, o_tt, o_tl, s_lst, s_tup, s_ktp, s_str, ok_s, ok_i, get_hit, get_miss, b_int, b_intb, b_lenl, b_lent, b_tupl, b_tupt, b_abs, b_max2, b_min2, atI_0, atI_1, atI_2, atI_3, atI_4, it_lst, it_klst, it_tup, it_ktp, rg_1, rg_2, Pt.d, b_max2']; exact hK) ?_
    refine ite_F (fun B hB => by simp [↓wSs_nil, ↓wSs_cons, ↓wS_asg, ↓wS_par, ↓wS_set, ↓wS_aug, ↓wS_ex, ↓wS_ret, ↓wS_retN, ↓wS_ite, ↓wS_brk, ↓wS_cont, ↓wS_pass, ↓wE_v, ↓wE_k, ↓wE_g, ↓wE_bin, ↓wE_neg, ↓wE_cmp, ↓wE_isN, ↓wE_not, ↓wE_and1, ↓wE_and, ↓wE_or1, ↓wE_or, ↓wE_ite, ↓wE_tup, ↓wE_lst, ↓wE_lstM, ↓wE_dctM, ↓wE_sub, ↓wE_slc, ↓wE_isi, ↓wE_bi, ↓wE_mth, ↓wE_disp, ↓wE_lkeys, ↓wEs_nil, ↓wEs_cons, ↓wO_none, ↓wO_some, ↓wT_e, ↓wT_not, ↓wT_cmp, ↓wT_chain, ↓wT_isN, ↓wT_and1, ↓wT_and, ↓wT_or1, ↓wT_or, ↓wTo_none, ↓wTo_some, ↓wG_n, ↓wG_t, ↓wG_k, ↓wGs_nil, ↓wGs_cons, ↓wI_s, ↓wI_rng, Post, o_add, o_sub, o_mul, o_div, o_mod, o_pow, o_cats, o_catt, o_catl, o_eqi, o_eqs, o_eqb, o_nei, o_nes, o_lt, o_gt, o_le, o_ge, o_tn, o_tb, o_ti, o_tt, o_tl, s_lst, s_tup, s_ktp, s_str, ok_s, ok_i, get_hit, get_miss, b_int, b_intb, b_lenl, b_lent, b_tupl, b_tupt, b_abs, b_max2, b_min2, atI_0, atI_1, atI_2, atI_3, atI_4, it_lst, it_klst, it_tup, it_ktp, rg_1, rg_2, Pt.d, t7]; exact hB) ?_
    exact marks_loop g1 [q, p] (fun k hk => hm k (by simp [Pt.marks] at hk ⊢; exact hk.symm)) mu_same hb fun _ _ _ => by rw [wSs_nil]; exact h _ _ _ _ _ _ _ _ (Ext.new ha)
  | up p l hh =>
    refine asg_l (ds := [.int hh]) (fun K hK => by simp [↓wSs_nil, ↓wSs_cons, ↓wS_asg, ↓wS_par, ↓wS_set, ↓wS_aug, ↓wS_ex, ↓wS_ret, ↓wS_retN, ↓wS_ite, ↓wS_brk, ↓wS_cont, ↓wS_pass, ↓wE_v, ↓wE_k, ↓wE_g, ↓wE_bin, ↓wE_neg, ↓wE_cmp, ↓wE_isN, ↓wE_not, ↓wE_and1, ↓wE_and, ↓wE_or1, ↓wE_or, ↓wE_ite, ↓wE_tup, ↓wE_lst, ↓wE_lstM, ↓wE_dctM, ↓wE_sub, ↓wE_slc, ↓wE_isi, ↓wE_bi, ↓wE_mth, ↓wE_disp, ↓wE_lkeys, ↓wEs_nil, ↓wEs_cons, ↓wO_none, ↓wO_some, ↓wT_e, ↓wT_not, ↓wT_cmp, ↓wT_chain, ↓wT_isN, ↓wT_and1, ↓wT_and, ↓wT_or1, ↓wT_or, ↓wTo_none, ↓wTo_some, ↓wG_n, ↓wG_t, ↓wG_k, ↓wGs_nil, ↓wGs_cons, ↓wI_s, ↓wI_rng, Post, o_add, o_sub, o_mul, o_div, o_mod, o_pow, o_cats, o_catt, o_catl, o_eqi, o_eqs, o_eqb, o_nei, o_nes, o_lt, o_gt, o_le, o_ge, o_tn, o_tb, o_ti, o_tt, o_tl, s_lst, s_tup, s_ktp, s_str, ok_s, ok_i, get_hit, get_miss, b_int, b_intb, b_lenl, b_lent, b_tupl, b_tupt, b_abs, b_max2, b_min2, atI_0, atI_1, atI_2, atI_3, atI_4, it_lst, it_klst, it_tup, it_ktp, rg_1, rg_2, Pt.d]; exact hK) (by simp) fun a0 ha0 => ?_
    refine ite_T (fun B hB => by simp [↓wSs_nil, ↓wSs_cons, ↓wS_asg, ↓wS_par, ↓wS_set, ↓wS_aug, ↓wS_ex, ↓wS_ret, ↓wS_retN, ↓wS_ite, ↓wS_brk, ↓wS_cont, ↓wS_pass, ↓wE_v, ↓wE_k, ↓wE_g, ↓wE_bin, ↓wE_neg, ↓wE_cmp, ↓wE_isN, ↓wE_not, ↓wE_and1, ↓wE_and, ↓wE_or1, ↓wE_or, ↓wE_ite, ↓wE_tup, ↓wE_lst, ↓wE_lstM, ↓wE_dctM, ↓wE_sub, ↓wE_slc, ↓wE_isi, ↓wE_bi, ↓wE_mth, ↓wE_disp, ↓wE_lkeys, ↓wEs_nil, ↓wEs_cons, ↓wO_none, ↓wO_some, ↓wT_e, ↓wT_not, ↓wT_cmp, ↓wT_chain, ↓wT_isN, ↓wT_and1, ↓wT_and, ↓wT_or1, ↓wT_or, ↓wTo_none, ↓wTo_some, ↓wG_n, ↓wG_t, ↓wG_k, ↓wGs_nil, ↓wGs_cons, ↓wI_s, ↓wI_rng, Post, o_add, o_sub, o_mul, o_div, o_mod, o_pow, o_cats, o_catt, o_catl, o_eqi, o_eqs, o_eqb, o_nei, o_nes, o_lt, o_gt, o_le, o_ge, o_tn, o_tb, o_ti, o_tt, o_tl, s_lst, s_tup, s_ktp, s_str, ok_s, ok_i, get_hit, get_miss, b_int, b_intb, b_lenl, b_lent, b_tupl, b_tupt, b_abs, b_max2, b_min2, atI_0, atI_1, atI_2, atI_3, atI_4, it_lst, it_klst, it_tup, it_ktp, rg_1, rg_2, Pt.d]; exact hB) ?_
    refine asg_l (ds := [p.d]) (fun K hK => by simp [↓wSs_nil, ↓wSs_cons, ↓wS_asg, ↓wS_par, ↓wS_set, ↓wS_aug, ↓wS_ex, ↓wS_ret, ↓wS_retN, ↓wS_ite, ↓wS_brk, ↓wS_cont, ↓wS_pass, ↓wE_v, ↓wE_k, ↓wE_g, ↓wE_bin, ↓wE_neg, ↓wE_cmp, ↓wE_isN, ↓wE_not, ↓wE_and1, ↓wE_and, ↓wE_or1, ↓wE_or, ↓wE_ite, ↓wE_tup, ↓wE_lst, ↓wE_lstM, ↓wE_dctM, ↓wE_sub, ↓wE_slc, ↓wE_isi, ↓wE_bi, ↓wE_mth, ↓wE_disp, ↓wE_lkeys, ↓wEs_nil, ↓wEs_cons, ↓wO_none, ↓wO_some, ↓wT_e, ↓wT_not, ↓wT_cmp, ↓wT_chain, ↓wT_isN, ↓wT_and1, ↓wT_and, ↓wT_or1, ↓wT_or, ↓wTo_none, ↓wTo_some, ↓wG_n, ↓wG_t, ↓wG_k, ↓wGs_nil, ↓wGs_cons, ↓wI_s, ↓wI_rng, Post, o_add, o_sub, o_mul, o_div, o_mod, o_pow, o_cats, o_catt, o_catl, o_eqi, o_eqs, o_eqb, o_nei, o_nes, o_lt, o_gt, o_le, o_ge, o_tn, o_tb, o_ti, o_tt, o_tl, s_lst, s_tup, s_ktp, s_str, ok_s, ok_i, get_hit, get_miss, b_int, b_intb, b_lenl, b_lent, b_tupl, b_tupt, b_abs, b_max2, b_min2, atI_0, atI_1, atI_2, atI_3, atI_4, it_lst, it_klst, it_tup, it_ktp, rg_1, rg_2, Pt.d]; exact hK) (by simp) fun a ha => ?_
    refine asg_n (d := .int (mxI t hh)) (fun K hK => by simp [↓wSs_nil, ↓wSs_cons, ↓wS_asg, ↓wS_par, ↓wS_set, ↓wS_aug, ↓wS_ex, ↓wS_ret, ↓wS_retN, ↓wS_ite, ↓wS_brk, ↓wS_cont, ↓wS_pass, ↓wE_v, ↓wE_k, ↓wE_g, ↓wE_bin, ↓wE_neg, ↓wE_cmp, ↓wE_isN, ↓wE_not, ↓wE_and1, ↓wE_and, ↓wE_or1, ↓wE_or, ↓wE_ite, ↓wE_tup, ↓wE_lst, ↓wE_lstM, ↓wE_dctM, ↓wE_sub, ↓wE_slc, ↓wE_isi, ↓wE_bi, ↓wE_mth, ↓wE_disp, ↓wE_lkeys, ↓wEs_nil, ↓wEs_cons, ↓wO_none, ↓wO_some, ↓wT_e, ↓wT_not, ↓wT_cmp, ↓wT_chain, ↓wT_isN, ↓wT_and1, ↓wT_and, ↓wT_or1, ↓wT_or, ↓wTo_none, ↓wTo_some, ↓wG_n, ↓wG_t, ↓wG_k, ↓wGs_nil, ↓wGs_cons, ↓wI_s, ↓wI_rng, Post, o_add, o_sub, o_mul, o_div, o_mod, o_pow, o_cats, o_catt, o_catl, o_eqi, o_eqs, o_eqb, o_nei, o_nes, o_lt, o_gt, o_le, o_ge, o_tn, o_tb, o_ti, o_tt, o_tl, s_lst, s_tup, s_ktp, s_str, ok_s, ok_i, get_hit, get_miss, b_int, b_intb, b_lenl, b_lent, b_tupl, b_tupt, b_abs, b_max2, b_min2, atI_0, atI_1, atI_2, atI_3, atI_4, it_lst, it_klst, it_tup, it_ktp, rg_1, rg_2, Pt.d, b_max2']; exact hK) ?_
    refine ite_F (fun B hB => by simp [↓wSs_nil, ↓wSs_cons, ↓wS_asg, ↓wS_par, ↓wS_set, ↓wS_aug, ↓wS_ex, ↓wS_ret, ↓wS_retN, ↓wS_ite, ↓wS_brk, ↓wS_cont, ↓wS_pass, ↓wE_v, ↓wE_k, ↓wE_g, ↓wE_bin, ↓wE_neg, ↓wE_cmp, ↓wE_isN, ↓wE_not, ↓wE_and1, ↓wE_and, ↓wE_or1, ↓wE_or, ↓wE_ite, ↓wE_tup, ↓wE_lst, ↓wE_lstM, ↓wE_dctM, ↓wE_sub, ↓wE_slc, ↓wE_isi, ↓wE_bi, ↓wE_mth, ↓wE_disp, ↓wE_lkeys, ↓wEs_nil, ↓wEs_cons, ↓wO_none, ↓wO_some, ↓wT_e, ↓wT_not, ↓wT_cmp, ↓wT_chain, ↓wT_isN, ↓wT_and1, ↓wT_and, ↓wT_or1, ↓wT_or, ↓wTo_none, ↓wTo_some, ↓wG_n, ↓wG_t, ↓wG_k, ↓wGs_nil, ↓wGs_cons, ↓wI_s, ↓wI_rng, Post, o_add, o_sub, o_mul, o_div, o_mod, o_pow, o_cats, o_catt, o_catl, o_eqi, o_eqs, o_eqb, o_nei, o_nes, o_lt, o_gt, o_le, o_ge, o_tn, o_tb, o_ti, o_tt, o_tl, s_lst, s_tup, s_ktp, s_str, ok_s, ok_i, get_hit, get_miss, b_int, b_intb, b_lenl, b_lent, b_tupl, b_tupt, b_abs, b_max2, b_min2, atI_0, atI_1, atI_2, atI_3, atI_4, it_lst, it_klst, it_tup, it_ktp, rg_1, rg_2, Pt.d, t8]; exact hB) ?_
    exact marks_loop g1 [p] (fun k hk => hm k (by simp [Pt.marks] at hk ⊢; exact hk)) mu_same hb fun _ _ _ => by rw [wSs_nil]; exact h _ _ _ _ _ _ _ _ ((Ext.new ha0).trans (Ext.new ha))
  | row us gg p q =>
    refine asg_l (ds := [q.d]) (fun K hK => by simp [↓wSs_nil, ↓wSs_cons, ↓wS_asg, ↓wS_par, ↓wS_set, ↓wS_aug, ↓wS_ex, ↓wS_ret, ↓wS_retN, ↓wS_ite, ↓wS_brk, ↓wS_cont, ↓wS_pass, ↓wE_v, ↓wE_k, ↓wE_g, ↓wE_bin, ↓wE_neg, ↓wE_cmp, ↓wE_isN, ↓wE_not, ↓wE_and1, ↓wE_and, ↓wE_or1, ↓wE_or, ↓wE_ite, ↓wE_tup, ↓wE_lst, ↓wE_lstM, ↓wE_dctM, ↓wE_sub, ↓wE_slc, ↓wE_isi, ↓wE_bi, ↓wE_mth, ↓wE_disp, ↓wE_lkeys, ↓wEs_nil, ↓wEs_cons, ↓wO_none, ↓wO_some, ↓wT_e, ↓wT_not, ↓wT_cmp, ↓wT_chain, ↓wT_isN, ↓wT_and1, ↓wT_and, ↓wT_or1, ↓wT_or, ↓wTo_none, ↓wTo_some, ↓wG_n, ↓wG_t, ↓wG_k, ↓wGs_nil, ↓wGs_cons, ↓wI_s, ↓wI_rng, Post, o_add, o_sub, o_mul, o_div, o_mod, o_pow, o_cats, o_catt, o_catl, o_eqi, o_eqs, o_eqb, o_nei, o_nes, o_lt, o_gt, o_le, o_ge, o_tn, o_tb, o_ti, o_tt, o_tl, s_lst, s_tup, s_ktp, s_str, ok_s, ok_i, get_hit, get_miss, b_int, b_intb, b_lenl, b_lent, b_tupl, b_tupt, b_abs, b_max2, b_min2, atI_0, atI_1, atI_2, atI_3, atI_4, it_lst, it_klst, it_tup, it_ktp, rg_1, rg_2, Pt.d]; exact hK) (by simp) fun a ha => ?_
    have hM : (mu M a (.lst [q.d])) a = some (.lst [q.d]) := mu_same
    refine ite_F (fun B hB => by simp [↓wSs_nil, ↓wSs_cons, ↓wS_asg, ↓wS_par, ↓wS_set, ↓wS_aug, ↓wS_ex, ↓wS_ret, ↓wS_retN, ↓wS_ite, ↓wS_brk, ↓wS_cont, ↓wS_pass, ↓wE_v, ↓wE_k, ↓wE_g, ↓wE_bin, ↓wE_neg, ↓wE_cmp, ↓wE_isN, ↓wE_not, ↓wE_and1, ↓wE_and, ↓wE_or1, ↓wE_or, ↓wE_ite, ↓wE_tup, ↓wE_lst, ↓wE_lstM, ↓wE_dctM, ↓wE_sub, ↓wE_slc, ↓wE_isi, ↓wE_bi, ↓wE_mth, ↓wE_disp, ↓wE_lkeys, ↓wEs_nil, ↓wEs_cons, ↓wO_none, ↓wO_some, ↓wT_e, ↓wT_not, ↓wT_cmp, ↓wT_chain, ↓wT_isN, ↓wT_and1, ↓wT_and, ↓wT_or1, ↓wT_or, ↓wTo_none, ↓wTo_some, ↓wG_n, ↓wG_t, ↓wG_k, ↓wGs_nil, ↓wGs_cons, ↓wI_s, ↓wI_rng, Post, o_add, o_sub, o_mul, o_div, o_mod, o_pow, o_cats, o_catt, o_catl, o_eqi, o_eqs, o_eqb, o_nei, o_nes, o_lt, o_gt, o_le, o_ge, o_tn, o_tb, o_ti, o_tt, o_tl, s_lst, s_tup, s_ktp, s_str, ok_s, ok_i, get_hit, get_miss, b_int, b_intb, b_lenl, b_lent, b_tupl, b_tupt, b_abs, b_max2, b_min2, atI_0, atI_1, atI_2, atI_3, atI_4, it_lst, it_klst, it_tup, it_ktp, rg_1, rg_2, Pt.d, t4]; exact hB) ?_
    refine ite_T (fun B hB => by simp [↓wSs_nil, ↓wSs_cons, ↓wS_asg, ↓wS_par, ↓wS_set, ↓wS_aug, ↓wS_ex, ↓wS_ret, ↓wS_retN, ↓wS_ite, ↓wS_brk, ↓wS_cont, ↓wS_pass, ↓wE_v, ↓wE_k, ↓wE_g, ↓wE_bin, ↓wE_neg, ↓wE_cmp, ↓wE_isN, ↓wE_not, ↓wE_and1, ↓wE_and, ↓wE_or1, ↓wE_or, ↓wE_ite, ↓wE_tup, ↓wE_lst, ↓wE_lstM, ↓wE_dctM, ↓wE_sub, ↓wE_slc, ↓wE_isi, ↓wE_bi, ↓wE_mth, ↓wE_disp, ↓wE_lkeys, ↓wEs_nil, ↓wEs_cons, ↓wO_none, ↓wO_some, ↓wT_e, ↓wT_not, ↓wT_cmp, ↓wT_chain, ↓wT_isN, ↓wT_and1, ↓wT_and, ↓wT_or1, ↓wT_or, ↓wTo_none, ↓wTo_some, ↓wG_n, ↓wG_t, ↓wG_k, ↓wGs_nil, ↓wGs_cons, ↓wI_s, ↓wI_rng, Post, o_add, o_sub, o_mul, o_div, o_mod, o_pow, o_cats, o_catt, o_catl, o_eqi, o_eqs, o_eqb, o_nei, o_nes, o_lt, o_gt, o_le, o_ge, o_tn, o_tb, o_ti, o_tt, o_tl, s_lst, s_tup, s_ktp, s_str, ok_s, ok_i, get_hit, get_miss, b_int, b_intb, b_lenl, b_lent, b_tupl, b_tupt, b_abs, b_max2, b_min2, atI_0, atI_1, atI_2, atI_3, atI_4, it_lst, it_klst, it_tup, it_ktp, rg_1, rg_2, Pt.d, t6]; exact hB) ?_
    refine ex_app (p := a) (xs := [q.d]) (d := p.d) rfl hM (fun K hK => by simp [↓wSs_nil, ↓wSs_cons, ↓wS_asg, ↓wS_par, ↓wS_set, ↓wS_aug, ↓wS_ex, ↓wS_ret, ↓wS_retN, ↓wS_ite, ↓wS_brk, ↓wS_cont, ↓wS_pass, ↓wE_v, ↓wE_k, ↓wE_g, ↓wE_bin, ↓wE_neg, ↓wE_cmp, ↓wE_isN, ↓wE_not, ↓wE_and1, ↓wE_and, ↓wE_or1, ↓wE_or, ↓wE_ite, ↓wE_tup, ↓wE_lst, ↓wE_lstM, ↓wE_dctM, ↓wE_sub, ↓wE_slc, ↓wE_isi, ↓wE_bi, ↓wE_mth, ↓wE_disp, ↓wE_lkeys, ↓wEs_nil, ↓wEs_cons, ↓wO_none, ↓wO_some, ↓wT_e, ↓wT_not, ↓wT_cmp, ↓wT_chain, ↓wT_isN, ↓wT_and1, ↓wT_and, ↓wT_or1, ↓wT_or, ↓wTo_none, ↓wTo_some, ↓wG_n, ↓wG_t, ↓wG_k, ↓wGs_nil, ↓wGs_cons, ↓wI_s, ↓wI_rng, Post, o_add, o_sub, o_mul, o_div, o_mod, o_pow, o_cats, o_catt, o_catl, o_eqi, o_eqs, o_eqb, o_nei, o_nes, o_lt, o_gt, o_le, o_ge, o_tn, o_tb, o_ti, o_tt, o_tl, s_lst, s_tup, s_ktp, s_str, ok_s, ok_i, get_hit, get_miss, b_int, b_intb, b_lenl, b_lent, b_tupl, b_tupt, b_abs, b_max2, b_min2, atI_0, atI_1, atI_2, atI_3, atI_4, it_lst, it_klst, it_tup, it_ktp, rg_1, rg_2, Pt.d]; exact hK) (by simp) ?_
    rw [mu_mu]
    refine ite_F (fun B hB => by simp [↓wSs_nil, ↓wSs_cons, ↓wS_asg, ↓wS_par, ↓wS_set, ↓wS_aug, ↓wS_ex, ↓wS_ret, ↓wS_retN, ↓wS_ite, ↓wS_brk, ↓wS_cont, ↓wS_pass, ↓wE_v, ↓wE_k, ↓wE_g, ↓wE_bin, ↓wE_neg, ↓wE_cmp, ↓wE_isN, ↓wE_not, ↓wE_and1, ↓wE_and, ↓wE_or1, ↓wE_or, ↓wE_ite, ↓wE_tup, ↓wE_lst, ↓wE_lstM, ↓wE_dctM, ↓wE_sub, ↓wE_slc, ↓wE_isi, ↓wE_bi, ↓wE_mth, ↓wE_disp, ↓wE_lkeys, ↓wEs_nil, ↓wEs_cons, ↓wO_none, ↓wO_some, ↓wT_e, ↓wT_not, ↓wT_cmp, ↓wT_chain, ↓wT_isN, ↓wT_and1, ↓wT_and, ↓wT_or1, ↓wT_or, ↓wTo_none, ↓wTo_some, ↓wG_n, ↓wG_t, ↓wG_k, ↓wGs_nil, ↓wGs_cons, ↓wI_s, ↓wI_rng, Post, o_add, o_sub, o_mul, o_div, o_mod, o_pow, o_cats, o_catt, o_catl, o_eqi, o_eqs, o_eqb, o_nei, o_nes, o_lt, o_gt, o_le, o_ge, o_tn, o_tb, o_ti, o_tt, o_tl, s_lst, s_tup, s_ktp, s_str, ok_s, ok_i, get_hit, get_miss, b_int, b_intb, b_lenl, b_lent, b_tupl, b_tupt, b_abs, b_max2, b_min2, atI_0, atI_1, atI_2, atI_3, atI_4, it_lst, it_klst, it_tup, it_ktp, rg_1, rg_2, Pt.d, t2]; exact hB) ?_
    refine units_loop us (fun K hK => by simp [↓wSs_nil, ↓wSs_cons, ↓wS_asg, ↓wS_par, ↓wS_set, ↓wS_aug, ↓wS_ex, ↓wS_ret, ↓wS_retN, ↓wS_ite, ↓wS_brk, ↓wS_cont, ↓wS_pass, ↓wE_v, ↓wE_k, ↓wE_g, ↓wE_bin, ↓wE_neg, ↓wE_cmp, ↓wE_isN, ↓wE_not, ↓wE_and1, ↓wE_and, ↓wE_or1, ↓wE_or, ↓wE_ite, ↓wE_tup, ↓wE_lst, ↓wE_lstM, ↓wE_dctM, ↓wE_sub, ↓wE_slc, ↓wE_isi, ↓wE_bi, ↓wE_mth, ↓wE_disp, ↓wE_lkeys, ↓wEs_nil, ↓wEs_cons, ↓wO_none, ↓wO_some, ↓wT_e, ↓wT_not, ↓wT_cmp, ↓wT_chain, ↓wT_isN, ↓wT_and1, ↓wT_and, ↓wT_or1, ↓wT_or, ↓wTo_none, ↓wTo_some, ↓wG_n, ↓wG_t, ↓wG_k, ↓wGs_nil, ↓wGs_cons, ↓wI_s, ↓wI_rng, Post, o_add, o_sub, o_mul, o_div, o_mod, o_pow, o_cats, o_catt, o_catl, o_eqi, o_eqs, o_eqb, o_nei, o_nes, o_lt, o_gt, o_le, o_ge, o_tn, o_tb, o_ti, o_tt, o_tl, s_lst, s_tup, s_ktp, s_str, ok_s, ok_i, get_hit, get_miss, b_int, b_intb, b_lenl, b_lent, b_tupl, b_tupt, b_abs, b_max2, b_min2, atI_0, atI_1, atI_2, atI_3, atI_4, it_lst, it_klst, it_tup, it_ktp, rg_1, rg_2, Pt.d]; exact hK) fun _ _ _ => ?_
    refine ite_T (fun B hB => by simp [↓wSs_nil, ↓wSs_cons, ↓wS_asg, ↓wS_par, ↓wS_set, ↓wS_aug, ↓wS_ex, ↓wS_ret, ↓wS_retN, ↓wS_ite, ↓wS_brk, ↓wS_cont, ↓wS_pass, ↓wE_v, ↓wE_k, ↓wE_g, ↓wE_bin, ↓wE_neg, ↓wE_cmp, ↓wE_isN, ↓wE_not, ↓wE_and1, ↓wE_and, ↓wE_or1, ↓wE_or, ↓wE_ite, ↓wE_tup, ↓wE_lst, ↓wE_lstM, ↓wE_dctM, ↓wE_sub, ↓wE_slc, ↓wE_isi, ↓wE_bi, ↓wE_mth, ↓wE_disp, ↓wE_lkeys, ↓wEs_nil, ↓wEs_cons, ↓wO_none, ↓wO_some, ↓wT_e, ↓wT_not, ↓wT_cmp, ↓wT_chain, ↓wT_isN, ↓wT_and1, ↓wT_and, ↓wT_or1, ↓wT_or, ↓wTo_none, ↓wTo_some, ↓wG_n, ↓wG_t, ↓wG_k, ↓wGs_nil, ↓wGs_cons, ↓wI_s, ↓wI_rng, Post, o_add, o_sub, o_mul, o_div, o_mod, o_pow, o_cats, o_catt, o_catl, o_eqi, o_eqs, o_eqb, o_nei, o_nes, o_lt, o_gt, o_le, o_ge, o_tn, o_tb, o_ti, o_tt, o_tl, s_lst, s_tup, s_ktp, s_str, ok_s, ok_i, get_hit, get_miss, b_int, b_intb, b_lenl, b_lent, b_tupl, b_tupt, b_abs, b_max2, b_min2, atI_0, atI_1, atI_2, atI_3, atI_4, it_lst, it_klst, it_tup, it_ktp, rg_1, rg_2, Pt.d]; exact hB) ?_
    refine asg_n (d := .int (lcI g gg)) (fun K hK => ?_) ?_
    · simp [↓wSs_nil, ↓wSs_cons, ↓wS_asg, ↓wS_par, ↓wS_set, ↓wS_aug, ↓wS_ex, ↓wS_ret, ↓wS_retN, ↓wS_ite, ↓wS_brk, ↓wS_cont, ↓wS_pass, ↓wE_v, ↓wE_k, ↓wE_g, ↓wE_bin, ↓wE_neg, ↓wE_cmp, ↓wE_isN, ↓wE_not, ↓wE_and1, ↓wE_and, ↓wE_or1, ↓wE_or, ↓wE_ite, ↓wE_tup, ↓wE_lst, ↓wE_lstM, ↓wE_dctM, ↓wE_sub, ↓wE_slc, ↓wE_isi, ↓wE_bi, ↓wE_mth, ↓wE_disp, ↓wE_lkeys, ↓wEs_nil, ↓wEs_cons, ↓wO_none, ↓wO_some, ↓wT_e, ↓wT_not, ↓wT_cmp, ↓wT_chain, ↓wT_isN, ↓wT_and1, ↓wT_and, ↓wT_or1, ↓wT_or, ↓wTo_none, ↓wTo_some, ↓wG_n, ↓wG_t, ↓wG_k, ↓wGs_nil, ↓wGs_cons, ↓wI_s, ↓wI_rng, Post, o_add, o_sub, o_mul, o_div, o_mod, o_pow, o_cats, o_catt, o_catl, o_eqi, o_eqs, o_eqb, o_nei, o_nes, o_lt, o_gt, o_le, o_ge, o_tn, o_tb, o_ti, o_tt, o_tl, s_lst, s_tup, s_ktp, s_str, ok_s, ok_i, get_hit, get_miss, b_int, b_intb, b_lenl, b_lent, b_tupl, b_tupt, b_abs, b_max2, b_min2, atI_0, atI_1, atI_2, atI_3, atI_4, it_lst, it_klst, it_tup, it_ktp, rg_1, rg_2, Pt.d, wE_call]
      exact ⟨_, g1, runC.of ⟨g, gg, rfl, hg, hgap.1, by have := hgap.2; omega, hK⟩⟩
    exact marks_loop g1 [q, p] (fun k hk => hm k (by simp [Pt.marks] at hk ⊢; exact hk.symm)) mu_same hb fun _ _ _ => by rw [wSs_nil]; exact h _ _ _ _ _ _ _ _ (Ext.new ha)
  | stamp us q =>
    refine asg_l (ds := [q.d]) (fun K hK => by simp [↓wSs_nil, ↓wSs_cons, ↓wS_asg, ↓wS_par, ↓wS_set, ↓wS_aug, ↓wS_ex, ↓wS_ret, ↓wS_retN, ↓wS_ite, ↓wS_brk, ↓wS_cont, ↓wS_pass, ↓wE_v, ↓wE_k, ↓wE_g, ↓wE_bin, ↓wE_neg, ↓wE_cmp, ↓wE_isN, ↓wE_not, ↓wE_and1, ↓wE_and, ↓wE_or1, ↓wE_or, ↓wE_ite, ↓wE_tup, ↓wE_lst, ↓wE_lstM, ↓wE_dctM, ↓wE_sub, ↓wE_slc, ↓wE_isi, ↓wE_bi, ↓wE_mth, ↓wE_disp, ↓wE_lkeys, ↓wEs_nil, ↓wEs_cons, ↓wO_none, ↓wO_some, ↓wT_e, ↓wT_not, ↓wT_cmp, ↓wT_chain, ↓wT_isN, ↓wT_and1, ↓wT_and, ↓wT_or1, ↓wT_or, ↓wTo_none, ↓wTo_some, ↓wG_n, ↓wG_t, ↓wG_k, ↓wGs_nil, ↓wGs_cons, ↓wI_s, ↓wI_rng, Post, o_add, o_sub, o_mul, o_div, o_mod, o_pow, o_cats, o_catt, o_catl, o_eqi, o_eqs, o_eqb, o_nei, o_nes, o_lt, o_gt, o_le, o_ge, o_tn, o_tb, o_ti, o_tt, o_tl, s_lst, s_tup, s_ktp, s_str, ok_s, ok_i, get_hit, get_miss, b_int, b_intb, b_lenl, b_lent, b_tupl, b_tupt, b_abs, b_max2, b_min2, atI_0, atI_1, atI_2, atI_3, atI_4, it_lst, it_klst, it_tup, it_ktp, rg_1, rg_2, Pt.d]; exact hK) (by simp) fun a ha => ?_
    refine ite_F (fun B hB => by simp [↓wSs_nil, ↓wSs_cons, ↓wS_asg, ↓wS_par, ↓wS_set, ↓wS_aug, ↓wS_ex, ↓wS_ret, ↓wS_retN, ↓wS_ite, ↓wS_brk, ↓wS_cont, ↓wS_pass, ↓wE_v, ↓wE_k, ↓wE_g, ↓wE_bin, ↓wE_neg, ↓wE_cmp, ↓wE_isN, ↓wE_not, ↓wE_and1, ↓wE_and, ↓wE_or1, ↓wE_or, ↓wE_ite, ↓wE_tup, ↓wE_lst, ↓wE_lstM, ↓wE_dctM, ↓wE_sub, ↓wE_slc, ↓wE_isi, ↓wE_bi, ↓wE_mth, ↓wE_disp, ↓wE_lkeys, ↓wEs_nil, ↓wEs_cons, ↓wO_none, ↓wO_some, ↓wT_e, ↓wT_not, ↓wT_cmp, ↓wT_chain, ↓wT_isN, ↓wT_and1, ↓wT_and, ↓wT_or1, ↓wT_or, ↓wTo_none, ↓wTo_some, ↓wG_n, ↓wG_t, ↓wG_k, ↓wGs_nil, ↓wGs_cons, ↓wI_s, ↓wI_rng, Post, o_add, o_sub, o_mul, o_div, o_mod, o_pow, o_cats, o_catt, o_catl, o_eqi, o_eqs, o_eqb, o_nei, o_nes, o_lt, o_gt, o_le, o_ge, o_tn, o_tb, o_ti, o_tt, o_tl, s_lst, s_tup, s_ktp, s_str, ok_s, ok_i, get_hit, get_miss, b_int, b_intb, b_lenl, b_lent, b_tupl, b_tupt, b_abs, b_max2, b_min2, atI_0, atI_1, atI_2, atI_3, atI_4, it_lst, it_klst, it_tup, it_ktp, rg_1, rg_2, Pt.d, t5]; exact hB) ?_
    refine ite_F (fun B hB => by simp [↓wSs_nil, ↓wSs_cons, ↓wS_asg, ↓wS_par, ↓wS_set, ↓wS_aug, ↓wS_ex, ↓wS_ret, ↓wS_retN, ↓wS_ite, ↓wS_brk, ↓wS_cont, ↓wS_pass, ↓wE_v, ↓wE_k, ↓wE_g, ↓wE_bin, ↓wE_neg, ↓wE_cmp, ↓wE_isN, ↓wE_not, ↓wE_and1, ↓wE_and, ↓wE_or1, ↓wE_or, ↓wE_ite, ↓wE_tup, ↓wE_lst, ↓wE_lstM, ↓wE_dctM, ↓wE_sub, ↓wE_slc, ↓wE_isi, ↓wE_bi, ↓wE_mth, ↓wE_disp, ↓wE_lkeys, ↓wEs_nil, ↓wEs_cons, ↓wO_none, ↓wO_some, ↓wT_e, ↓wT_not, ↓wT_cmp, ↓wT_chain, ↓wT_isN, ↓wT_and1, ↓wT_and, ↓wT_or1, ↓wT_or, ↓wTo_none, ↓wTo_some, ↓wG_n, ↓wG_t, ↓wG_k, ↓wGs_nil, ↓wGs_cons, ↓wI_s, ↓wI_rng, Post, o_add, o_sub, o_mul, o_div, o_mod, o_pow, o_cats, o_catt, o_catl, o_eqi, o_eqs, o_eqb, o_nei, o_nes, o_lt, o_gt, o_le, o_ge, o_tn, o_tb, o_ti, o_tt, o_tl, s_lst, s_tup, s_ktp, s_str, ok_s, ok_i, get_hit, get_miss, b_int, b_intb, b_lenl, b_lent, b_tupl, b_tupt, b_abs, b_max2, b_min2, atI_0, atI_1, atI_2, atI_3, atI_4, it_lst, it_klst, it_tup, it_ktp, rg_1, rg_2, Pt.d]; exact hB) ?_
    refine ite_F (fun B hB => by simp [↓wSs_nil, ↓wSs_cons, ↓wS_asg, ↓wS_par, ↓wS_set, ↓wS_aug, ↓wS_ex, ↓wS_ret, ↓wS_retN, ↓wS_ite, ↓wS_brk, ↓wS_cont, ↓wS_pass, ↓wE_v, ↓wE_k, ↓wE_g, ↓wE_bin, ↓wE_neg, ↓wE_cmp, ↓wE_isN, ↓wE_not, ↓wE_and1, ↓wE_and, ↓wE_or1, ↓wE_or, ↓wE_ite, ↓wE_tup, ↓wE_lst, ↓wE_lstM, ↓wE_dctM, ↓wE_sub, ↓wE_slc, ↓wE_isi, ↓wE_bi, ↓wE_mth, ↓wE_disp, ↓wE_lkeys, ↓wEs_nil, ↓wEs_cons, ↓wO_none, ↓wO_some, ↓wT_e, ↓wT_not, ↓wT_cmp, ↓wT_chain, ↓wT_isN, ↓wT_and1, ↓wT_and, ↓wT_or1, ↓wT_or, ↓wTo_none, ↓wTo_some, ↓wG_n, ↓wG_t, ↓wG_k, ↓wGs_nil, ↓wGs_cons, ↓wI_s, ↓wI_rng, Post, o_add, o_sub, o_mul, o_div, o_mod, o_pow, o_cats, o_catt, o_catl, o_eqi, o_eqs, o_eqb, o_nei, o_nes, o_lt, o_gt, o_le, o_ge, o_tn, o_tb, o_ti, o_tt, o_tl, s_lst, s_tup, s_ktp, s_str, ok_s, ok_i, get_hit, get_miss, b_int, b_intb, b_lenl, b_lent, b_tupl, b_tupt, b_abs, b_max2, b_min2, atI_0, atI_1, atI_2, atI_3, atI_4, it_lst, it_klst, it_tup, it_ktp, rg_1, rg_2, Pt.d, t3]; exact hB) ?_
    refine units_loop us (fun K hK => by simp [↓wSs_nil, ↓wSs_cons, ↓wS_asg, ↓wS_par, ↓wS_set, ↓wS_aug, ↓wS_ex, ↓wS_ret, ↓wS_retN, ↓wS_ite, ↓wS_brk, ↓wS_cont, ↓wS_pass, ↓wE_v, ↓wE_k, ↓wE_g, ↓wE_bin, ↓wE_neg, ↓wE_cmp, ↓wE_isN, ↓wE_not, ↓wE_and1, ↓wE_and, ↓wE_or1, ↓wE_or, ↓wE_ite, ↓wE_tup, ↓wE_lst, ↓wE_lstM, ↓wE_dctM, ↓wE_sub, ↓wE_slc, ↓wE_isi, ↓wE_bi, ↓wE_mth, ↓wE_disp, ↓wE_lkeys, ↓wEs_nil, ↓wEs_cons, ↓wO_none, ↓wO_some, ↓wT_e, ↓wT_not, ↓wT_cmp, ↓wT_chain, ↓wT_isN, ↓wT_and1, ↓wT_and, ↓wT_or1, ↓wT_or, ↓wTo_none, ↓wTo_some, ↓wG_n, ↓wG_t, ↓wG_k, ↓wGs_nil, ↓wGs_cons, ↓wI_s, ↓wI_rng, Post, o_add, o_sub, o_mul, o_div, o_mod, o_pow, o_cats, o_catt, o_catl, o_eqi, o_eqs, o_eqb, o_nei, o_nes, o_lt, o_gt, o_le, o_ge, o_tn, o_tb, o_ti, o_tt, o_tl, s_lst, s_tup, s_ktp, s_str, ok_s, ok_i, get_hit, get_miss, b_int, b_intb, b_lenl, b_lent, b_tupl, b_tupt, b_abs, b_max2, b_min2, atI_0, atI_1, atI_2, atI_3, atI_4, it_lst, it_klst, it_tup, it_ktp, rg_1, rg_2, Pt.d]; exact hK) fun _ _ _ => ?_
    refine ite_F (fun B hB => by simp [↓wSs_nil, ↓wSs_cons, ↓wS_asg, ↓wS_par, ↓wS_set, ↓wS_aug, ↓wS_ex, ↓wS_ret, ↓wS_retN, ↓wS_ite, ↓wS_brk, ↓wS_cont, ↓wS_pass, ↓wE_v, ↓wE_k, ↓wE_g, ↓wE_bin, ↓wE_neg, ↓wE_cmp, ↓wE_isN, ↓wE_not, ↓wE_and1, ↓wE_and, ↓wE_or1, ↓wE_or, ↓wE_ite, ↓wE_tup, ↓wE_lst, ↓wE_lstM, ↓wE_dctM, ↓wE_sub, ↓wE_slc, ↓wE_isi, ↓wE_bi, ↓wE_mth, ↓wE_disp, ↓wE_lkeys, ↓wEs_nil, ↓wEs_cons, ↓wO_none, ↓wO_some, ↓wT_e, ↓wT_not, ↓wT_cmp, ↓wT_chain, ↓wT_isN, ↓wT_and1, ↓wT_and, ↓wT_or1, ↓wT_or, ↓wTo_none, ↓wTo_some, ↓wG_n, ↓wG_t, ↓wG_k, ↓wGs_nil, ↓wGs_cons, ↓wI_s, ↓wI_rng, Post, o_add, o_sub, o_mul, o_div, o_mod, o_pow, o_cats, o_catt, o_catl, o_eqi, o_eqs, o_eqb, o_nei, o_nes, o_lt, o_gt, o_le, o_ge, o_tn, o_tb, o_ti, o_tt, o_tl, s_lst, s_tup, s_ktp, s_str, ok_s, ok_i, get_hit, get_miss, b_int, b_intb, b_lenl, b_lent, b_tupl, b_tupt, b_abs, b_max2, b_min2, atI_0, atI_1, atI_2, atI_3, atI_4, it_lst, it_klst, it_tup, it_ktp, rg_1, rg_2, Pt.d, t9]; exact hB) ?_
    exact marks_loop g1 [q] (fun k hk => hm k (by simp [Pt.marks] at hk ⊢; exact hk)) mu_same hb fun _ _ _ => by rw [wSs_nil]; exact h _ _ _ _ _ _ _ _ (Ext.new ha)
end K25
namespace K25
open PySem PySem.Spec L2 Vc
def five (c : List Pt) : List D := [.int (bottomOf c), .int (gapOf c), .int (reachOf c), .int (periodOf c), .int (boundOf c)]
def sp_due : CSp := fun ds M K => ∃ c : List Pt, ds = [codeD c] ∧ Hok c ∧ K (.lst (five c)) M
def stB (b : Int) (p : Pt) : Int := p.lmarks.foldl (fun t k => lcI t k.b) b
def stG (g : Int) (p : Pt) : Int := match p.gap with | some x => lcI g x | none => g
def stR (b : Int) (p : Pt) : Int := p.lmarks.foldl (fun t k => rI t k.m) b
def stT (t : Int) (p : Pt) : Int := p.ltop t
theorem stB_pos {b : Int} {p : Pt} (h : p.ok) (hb : 1 ≤ b) : 1 ≤ stB b p := by
  have : ∀ (l : List Mk) (b : Int), (∀ k ∈ l, k.ok) → 1 ≤ b → 1 ≤ l.foldl (fun t k => lcI t k.b) b := by
    intro l
    induction l with
    | nil => exact fun b _ h => h
    | cons k l ih => exact fun b hl h => ih _ (fun x hx => hl x (by simp [hx])) (lcI_pos h (hl k (by simp)).1)
  refine this _ _ (fun k hk => h.2.1 k ?_) hb
  cases p <;> simp [Pt.lmarks, Pt.marks] at hk ⊢ <;> first | exact hk.symm | exact hk
theorem stG_pos {b : Int} {p : Pt} (h : p.ok) (hb : 1 ≤ b) : 1 ≤ stG b p := by
  have := h.2.2
  cases p <;> simp only [stG, Pt.gap] <;> first | exact hb | exact lcI_pos hb this.1
theorem fold_pos {f : Int → Pt → Int} (hf : ∀ b p, p.ok → 1 ≤ b → 1 ≤ f b p) : ∀ (c : List Pt) (b : Int), (∀ p ∈ c, p.ok) → 1 ≤ b → 1 ≤ c.foldl f b
  | [], b, _, h => h
  | p :: c, b, hc, h => fold_pos hf c _ (fun q hq => hc q (by simp [hq])) (hf b p (hc p (by simp)) h)
theorem fold_take {f : Int → Pt → Int} {c : List Pt} {i : Nat} {p : Pt} {b : Int} (h : c[i]? = some p) : (c.take (i + 1)).foldl f b = f ((c.take i).foldl f b) p := by rw [take_succ h, List.foldl_append]; rfl
theorem v_due {Γ : Gam} (g1 : Γ.fn "_law_multiple" = some (2, sp_multI)) (ds : List D) (M : Mp) (Q : KD) (h : sp_due ds M Q) : wpSs Γ b__law_due (startD n__law_due ds) M (Post Q) := by
  obtain ⟨c, rfl, hc, hQ⟩ := h
  have hρ : startD n__law_due [codeD c] = [some (codeD c), none, none, none, none, none, none, none, none, none, none, none, none] := rfl
  rw [hρ]
  refine wp_at 4 (fun ρ M1 => ρ = [some (codeD c), some (.int 1), some (.int 1), some (.int 0), some (.int 0), none, none, none, none, none, none, none, none] ∧ M1 = M) ?_ ?_
  · simp [b__law_due, ↓wSs_nil, ↓wSs_cons, ↓wS_asg, ↓wS_par, ↓wS_set, ↓wS_aug, ↓wS_ex, ↓wS_ret, ↓wS_retN, ↓wS_ite, ↓wS_brk, ↓wS_cont, ↓wS_pass, ↓wE_v, ↓wE_k, ↓wE_g, ↓wE_bin, ↓wE_neg, ↓wE_cmp, ↓wE_isN, ↓wE_not, ↓wE_and1, ↓wE_and, ↓wE_or1, ↓wE_or, ↓wE_ite, ↓wE_tup, ↓wE_lst, ↓wE_lstM, ↓wE_dctM, ↓wE_sub, ↓wE_slc, ↓wE_isi, ↓wE_bi, ↓wE_mth, ↓wE_disp, ↓wE_lkeys, ↓wEs_nil, ↓wEs_cons, ↓wO_none, ↓wO_some, ↓wT_e, ↓wT_not, ↓wT_cmp, ↓wT_chain, ↓wT_isN, ↓wT_and1, ↓wT_and, ↓wT_or1, ↓wT_or, ↓wTo_none, ↓wTo_some, ↓wG_n, ↓wG_t, ↓wG_k, ↓wGs_nil, ↓wGs_cons, ↓wI_s, ↓wI_rng]
  rintro ρ M1 ⟨rfl, rfl⟩
  have hok : ∀ p ∈ c, p.ok := hc.1.2.2
  have hokt : ∀ i, ∀ p ∈ c.take i, p.ok := fun i p hp => hok p (List.mem_of_mem_take hp)
  refine wp_forα (body := bodyD) c Pt.d (fun _ => True) M1 (fun i ρ M2 => ∃ x5 x6 x7 x8 x9 x10 x11 x12, ρ = [some (codeD c), some (.int ((c.take i).foldl stB 1)), some (.int ((c.take i).foldl stG 1)), some (.int ((c.take i).foldl stR 0)), some (.int ((c.take i).foldl stT 0)), x5, x6, x7, x8, x9, x10, x11, x12] ∧ Ext M1 M2)
    (fun ρ M2 => ∃ x5 x6 x7 x8 x9 x10 x11 x12, ρ = [some (codeD c), some (.int (bottomOf c)), some (.int (gapOf c)), some (.int (reachOf c)), some (.int (topOf c)), x5, x6, x7, x8, x9, x10, x11, x12] ∧ Ext M1 M2) (fun K hK => ?_) ⟨none, none, none, none, none, none, none, none, rfl, .refl⟩ (fun _ _ _ _ => trivial) ?_ ?_ ?_
  · simp only [↓wI_s, ↓wE_v]
    exact ⟨_, rfl, hK⟩
  · rintro i p ρ2 M2 hi ⟨x5, x6, x7, x8, x9, x10, x11, x12, rfl, hE⟩
    rw [wG_n]
    refine turn_due g1 p (hok p (List.mem_of_getElem? hi)) (fold_pos (fun b p h => stB_pos h) _ _ (hokt i) (by omega)) (fold_pos (fun b p h => stG_pos h) _ _ (hokt i) (by omega)) fun M' x6 x7 x8 x9 x10 x11 x12 hE2 => ?_
    refine ⟨some p.d, x6, x7, x8, x9, x10, x11, x12, ?_, hE.trans hE2⟩
    rw [fold_take hi, fold_take hi, fold_take hi, fold_take hi]
    rfl
  · rintro ρ2 M2 ⟨x5, x6, x7, x8, x9, x10, x11, x12, rfl, hE⟩
    refine ⟨x5, x6, x7, x8, x9, x10, x11, x12, ?_, hE⟩
    rw [List.take_length, ← dB_eq, ← dG_eq, ← dR_eq hc.1.1, ← dT_eq hc]
    rfl
  · rintro ρ2 M2 ⟨x5, x6, x7, x8, x9, x10, x11, x12, rfl, hE⟩
    have hb := botOf_le hc.1
    have hg := gapOf_le hc.1
    have hQ' := hQ
    unfold five periodOf boundOf at hQ'
    generalize bottomOf c = b at *
    generalize gapOf c = g at *
    simp [↓wSs_nil, ↓wSs_cons, ↓wS_asg, ↓wS_par, ↓wS_set, ↓wS_aug, ↓wS_ex, ↓wS_ret, ↓wS_retN, ↓wS_ite, ↓wS_brk, ↓wS_cont, ↓wS_pass, ↓wE_v, ↓wE_k, ↓wE_g, ↓wE_bin, ↓wE_neg, ↓wE_cmp, ↓wE_isN, ↓wE_not, ↓wE_and1, ↓wE_and, ↓wE_or1, ↓wE_or, ↓wE_ite, ↓wE_tup, ↓wE_lst, ↓wE_lstM, ↓wE_dctM, ↓wE_sub, ↓wE_slc, ↓wE_isi, ↓wE_bi, ↓wE_mth, ↓wE_disp, ↓wE_lkeys, ↓wEs_nil, ↓wEs_cons, ↓wO_none, ↓wO_some, ↓wT_e, ↓wT_not, ↓wT_cmp, ↓wT_chain, ↓wT_isN, ↓wT_and1, ↓wT_and, ↓wT_or1, ↓wT_or, ↓wTo_none, ↓wTo_some, ↓wG_n, ↓wG_t, ↓wG_k, ↓wGs_nil, ↓wGs_cons, ↓wI_s, ↓wI_rng, Post, o_add, o_sub, o_mul, o_div, o_mod, o_pow, o_cats, o_catt, o_catl, o_eqi, o_eqs, o_eqb, o_nei, o_nes, o_lt, o_gt, o_le, o_ge, o_tn, o_tb, o_ti, o_tt, o_tl, s_lst, s_tup, s_ktp, s_str, ok_s, ok_i, get_hit, get_miss, b_int, b_intb, b_lenl, b_lent, b_tupl, b_tupt, b_abs, b_max2, b_min2, atI_0, atI_1, atI_2, atI_3, atI_4, it_lst, it_klst, it_tup, it_ktp, rg_1, rg_2, sizeLine_eq]
    exact ⟨mul_l (by omega) (by omega), mul_r (by omega) (by omega), mul_l (by decide) (by decide), mul_l (by omega) (by omega), ret_ext hE hQ'⟩
def sp_told : CSp := fun ds M K => ∃ (c : List Pt) (t : Bool), ds = [codeD c, .bl t] ∧ Hok c ∧ K (.lst (five c)) M
theorem v_told {Γ : Gam} (g1 : Γ.fn "bottom_of" = some (1, sp_bottom)) (g2 : Γ.fn "gap_of" = some (1, sp_gap)) (g4 : Γ.fn "reach_of" = some (1, sp_reach)) (g5 : Γ.fn "period_of" = some (1, sp_period)) (g6 : Γ.fn "bound_of" = some (1, sp_bound))
    (h1 : Γ.kw "bottom_of" 0 = some [("code" : Str)]) (h2 : Γ.kw "gap_of" 0 = some [("code" : Str)]) (h4 : Γ.kw "reach_of" 0 = some [("code" : Str)]) (h5 : Γ.kw "period_of" 0 = some [("code" : Str)]) (h6 : Γ.kw "bound_of" 0 = some [("code" : Str)]) (ds : List D) (M : Mp) (Q : KD) (h : sp_told ds M Q) : wpSs Γ b__law_told (startD n__law_told ds) M (Post Q) := by
  obtain ⟨c, t, rfl, hc, hQ⟩ := h
  have hρ : startD n__law_told [codeD c, .bl t] = [some (codeD c), some (.bl t)] := rfl
  rw [hρ]
  have fin : (([D.int (bottomOf c), .int (gapOf c), .int (reachOf c), .int (periodOf c), .int (boundOf c)] : List D).length ≤ sizeLine) ∧ retW Q (.lst (five c)) M := ⟨sz (by simp), ret_of hQ⟩
  cases t with
  | true =>
    refine ite_T (fun B hB => by simp [↓wSs_nil, ↓wSs_cons, ↓wS_asg, ↓wS_par, ↓wS_set, ↓wS_aug, ↓wS_ex, ↓wS_ret, ↓wS_retN, ↓wS_ite, ↓wS_brk, ↓wS_cont, ↓wS_pass, ↓wE_v, ↓wE_k, ↓wE_g, ↓wE_bin, ↓wE_neg, ↓wE_cmp, ↓wE_isN, ↓wE_not, ↓wE_and1, ↓wE_and, ↓wE_or1, ↓wE_or, ↓wE_ite, ↓wE_tup, ↓wE_lst, ↓wE_lstM, ↓wE_dctM, ↓wE_sub, ↓wE_slc, ↓wE_isi, ↓wE_bi, ↓wE_mth, ↓wE_disp, ↓wE_lkeys, ↓wEs_nil, ↓wEs_cons, ↓wO_none, ↓wO_some, ↓wT_e, ↓wT_not, ↓wT_cmp, ↓wT_chain, ↓wT_isN, ↓wT_and1, ↓wT_and, ↓wT_or1, ↓wT_or, ↓wTo_none, ↓wTo_some, ↓wG_n, ↓wG_t, ↓wG_k, ↓wGs_nil, ↓wGs_cons, ↓wI_s, ↓wI_rng, Post, o_add, o_sub, o_mul, o_div, o_mod, o_pow, o_cats, o_catt, o_catl, o_eqi, o_eqs, o_eqb, o_nei, o_nes, o_lt, o_gt, o_le, o_ge, o_tn, o_tb, o_ti, o_tt, o_tl, s_lst, s_tup, s_ktp, s_str, ok_s, ok_i, get_hit, get_miss, b_int, b_intb, b_lenl, b_lent, b_tupl, b_tupt, b_abs, b_max2, b_min2, atI_0, atI_1, atI_2, atI_3, atI_4, it_lst, it_klst, it_tup, it_ktp, rg_1, rg_2]; exact hB) ?_
    show wpSs Γ (.ret _ :: _) _ _ _
    rw [wSs_cons, wS_ret, wE_lst]
    simp only [↓wEs_cons, ↓wEs_nil, ↓wE_v, wE_callK]
    exact ⟨_, g1, h1, _, rfl, runC.of ⟨c, rfl, hc.1, _, g2, h2, _, rfl, runC.of ⟨c, rfl, hc.1, _, g4, h4, _, rfl, runC.of ⟨c, rfl, hc.1, _, g5, h5, _, rfl, runC.of ⟨c, rfl, hc.1, _, g6, h6, _, rfl, runC.of ⟨c, rfl, hc.1, fin⟩⟩⟩⟩⟩⟩
  | false =>
    refine ite_F (fun B hB => by simp [↓wSs_nil, ↓wSs_cons, ↓wS_asg, ↓wS_par, ↓wS_set, ↓wS_aug, ↓wS_ex, ↓wS_ret, ↓wS_retN, ↓wS_ite, ↓wS_brk, ↓wS_cont, ↓wS_pass, ↓wE_v, ↓wE_k, ↓wE_g, ↓wE_bin, ↓wE_neg, ↓wE_cmp, ↓wE_isN, ↓wE_not, ↓wE_and1, ↓wE_and, ↓wE_or1, ↓wE_or, ↓wE_ite, ↓wE_tup, ↓wE_lst, ↓wE_lstM, ↓wE_dctM, ↓wE_sub, ↓wE_slc, ↓wE_isi, ↓wE_bi, ↓wE_mth, ↓wE_disp, ↓wE_lkeys, ↓wEs_nil, ↓wEs_cons, ↓wO_none, ↓wO_some, ↓wT_e, ↓wT_not, ↓wT_cmp, ↓wT_chain, ↓wT_isN, ↓wT_and1, ↓wT_and, ↓wT_or1, ↓wT_or, ↓wTo_none, ↓wTo_some, ↓wG_n, ↓wG_t, ↓wG_k, ↓wGs_nil, ↓wGs_cons, ↓wI_s, ↓wI_rng, Post, o_add, o_sub, o_mul, o_div, o_mod, o_pow, o_cats, o_catt, o_catl, o_eqi, o_eqs, o_eqb, o_nei, o_nes, o_lt, o_gt, o_le, o_ge, o_tn, o_tb, o_ti, o_tt, o_tl, s_lst, s_tup, s_ktp, s_str, ok_s, ok_i, get_hit, get_miss, b_int, b_intb, b_lenl, b_lent, b_tupl, b_tupt, b_abs, b_max2, b_min2, atI_0, atI_1, atI_2, atI_3, atI_4, it_lst, it_klst, it_tup, it_ktp, rg_1, rg_2]; exact hB) ?_
    show wpSs Γ (.ret _ :: _) _ _ _
    rw [wSs_cons, wS_ret, wE_lst]
    simp only [↓wEs_cons, ↓wEs_nil, ↓wE_v, wE_call]
    exact ⟨_, g1, _, rfl, runC.of ⟨c, rfl, hc.1, _, g2, _, rfl, runC.of ⟨c, rfl, hc.1, _, g4, _, rfl, runC.of ⟨c, rfl, hc.1, _, g5, _, rfl, runC.of ⟨c, rfl, hc.1, _, g6, _, rfl, runC.of ⟨c, rfl, hc.1, fin⟩⟩⟩⟩⟩⟩
def sp_holds : CSp := fun ds M K => ∃ (c : List Pt) (t : Bool), ds = [codeD c, .bl t] ∧ Hok c ∧ K (.bl true) M
theorem five_at (c : List Pt) {i : Nat} (h : i < 5) : ∃ v : Int, atI (five c) (i : Int) = some (.int v) := by
  have : i = 0 ∨ i = 1 ∨ i = 2 ∨ i = 3 ∨ i = 4 := by omega
  unfold five
  rcases this with rfl | rfl | rfl | rfl | rfl
  · exact ⟨_, atI_0⟩
  · exact ⟨_, atI_1⟩
  · exact ⟨_, atI_2⟩
  · exact ⟨_, atI_3⟩
  · exact ⟨_, atI_4⟩
theorem isi_int {v : Int} {M : Mp} {K : Bool → Prop} : isiD (.int v) "int" M K = K true := by
  unfold isiD tyD look
  simp
theorem isi_bool {v : Int} {M : Mp} {K : Bool → Prop} : isiD (.int v) "bool" M K = K false := by
  unfold isiD tyD look
  simp
theorem v_holds {Γ : Gam} (g1 : Γ.fn "_law_due" = some (1, sp_due)) (g2 : Γ.fn "_law_told" = some (2, sp_told)) (ds : List D) (M : Mp) (Q : KD) (h : sp_holds ds M Q) : wpSs Γ b__law_holds (startD n__law_holds ds) M (Post Q) := by
  obtain ⟨c, t, rfl, hc, hQ⟩ := h
  have hρ : startD n__law_holds [codeD c, .bl t] = [some (codeD c), some (.bl t), none, none, none] := rfl
  rw [hρ]
  refine asg_n (d := .lst (five c)) (fun K hK => ?_) ?_
  · rw [wE_call]; simp only [↓wEs_cons, ↓wEs_nil, ↓wE_v]
    exact ⟨_, g1, _, rfl, runC.of ⟨c, rfl, hc, hK⟩⟩
  refine asg_n (d := .lst (five c)) (fun K hK => ?_) ?_
  · rw [wE_call]; simp only [↓wEs_cons, ↓wEs_nil, ↓wE_v]
    exact ⟨_, g2, _, rfl, _, rfl, runC.of ⟨c, t, rfl, hc, hK⟩⟩
  refine wp_forα (List.range 5) (fun (i : Nat) => D.int (i : Int)) (fun _ => True) M (fun i ρ M2 => ∃ x, ρ = [some (codeD c), some (.bl t), some (.lst (five c)), some (.lst (five c)), x] ∧ M2 = M) (fun ρ M2 => ∃ x, ρ = [some (codeD c), some (.bl t), some (.lst (five c)), some (.lst (five c)), x] ∧ M2 = M) (fun K hK => ?_) ⟨none, rfl, rfl⟩ (fun _ _ _ _ => trivial) ?_ (fun _ _ h => h) ?_
  · simp only [↓wI_rng, ↓wEs_cons, ↓wEs_nil, ↓wE_k]
    rw [rg_1]
    exact ⟨by omega, hK⟩
  · rintro i p ρ2 M2 hi ⟨x, rfl, rfl⟩
    have hp : p < 5 := by
      have := List.mem_of_getElem? hi
      simpa using this
    obtain ⟨v, hv⟩ := five_at c hp
    simp [↓wSs_nil, ↓wSs_cons, ↓wS_asg, ↓wS_par, ↓wS_set, ↓wS_aug, ↓wS_ex, ↓wS_ret, ↓wS_retN, ↓wS_ite, ↓wS_brk, ↓wS_cont, ↓wS_pass, ↓wE_v, ↓wE_k, ↓wE_g, ↓wE_bin, ↓wE_neg, ↓wE_cmp, ↓wE_isN, ↓wE_not, ↓wE_and1, ↓wE_and, ↓wE_or1, ↓wE_or, ↓wE_ite, ↓wE_tup, ↓wE_lst, ↓wE_lstM, ↓wE_dctM, ↓wE_sub, ↓wE_slc, ↓wE_isi, ↓wE_bi, ↓wE_mth, ↓wE_disp, ↓wE_lkeys, ↓wEs_nil, ↓wEs_cons, ↓wO_none, ↓wO_some, ↓wT_e, ↓wT_not, ↓wT_cmp, ↓wT_chain, ↓wT_isN, ↓wT_and1, ↓wT_and, ↓wT_or1, ↓wT_or, ↓wTo_none, ↓wTo_some, ↓wG_n, ↓wG_t, ↓wG_k, ↓wGs_nil, ↓wGs_cons, ↓wI_s, ↓wI_rng, Post, o_add, o_sub, o_mul, o_div, o_mod, o_pow, o_cats, o_catt, o_catl, o_eqi, o_eqs, o_eqb, o_nei, o_nes, o_lt, o_gt, o_le, o_ge, o_tn, o_tb, o_ti, o_tt, o_tl, s_lst, s_tup, s_ktp, s_str, ok_s, ok_i, get_hit, get_miss, b_int, b_intb, b_lenl, b_lent, b_tupl, b_tupt, b_abs, b_max2, b_min2, atI_0, atI_1, atI_2, atI_3, atI_4, it_lst, it_klst, it_tup, it_ktp, rg_1, rg_2, hv, isi_int, isi_bool]
  · rintro ρ2 M2 ⟨x, rfl, rfl⟩
    simp [↓wSs_nil, ↓wSs_cons, ↓wS_asg, ↓wS_par, ↓wS_set, ↓wS_aug, ↓wS_ex, ↓wS_ret, ↓wS_retN, ↓wS_ite, ↓wS_brk, ↓wS_cont, ↓wS_pass, ↓wE_v, ↓wE_k, ↓wE_g, ↓wE_bin, ↓wE_neg, ↓wE_cmp, ↓wE_isN, ↓wE_not, ↓wE_and1, ↓wE_and, ↓wE_or1, ↓wE_or, ↓wE_ite, ↓wE_tup, ↓wE_lst, ↓wE_lstM, ↓wE_dctM, ↓wE_sub, ↓wE_slc, ↓wE_isi, ↓wE_bi, ↓wE_mth, ↓wE_disp, ↓wE_lkeys, ↓wEs_nil, ↓wEs_cons, ↓wO_none, ↓wO_some, ↓wT_e, ↓wT_not, ↓wT_cmp, ↓wT_chain, ↓wT_isN, ↓wT_and1, ↓wT_and, ↓wT_or1, ↓wT_or, ↓wTo_none, ↓wTo_some, ↓wG_n, ↓wG_t, ↓wG_k, ↓wGs_nil, ↓wGs_cons, ↓wI_s, ↓wI_rng, Post]
    exact ret_of hQ
end K25
namespace K25
open PySem PySem.Spec L2 Vc
theorem ChS.trans {M M1 M2 : Mp} {c b : Addr} (h : ChS M M1 c b) (k : ChS M1 M2 c b) : ChS M M2 c b := ⟨k.1, fun a h1 h2 => (k.2 a h1 h2).trans (h.2 a h1 h2)⟩
theorem ChS.refl {M : Mp} {c b : Addr} (h : Chest M c b) : ChS M M c b := ⟨h, fun _ _ _ => rfl⟩
def lowB (s b : Int) : Bool := (List.range (b + 1 - 2).toNat).all fun i => !(decide (s % (2 + (i : Int)) = 0) && decide (b % (2 + (i : Int)) = 0))
theorem lowB_1 (b : Int) : lowB 1 b = true := by
  unfold lowB
  rw [List.all_eq_true]
  intro i _
  have : (1 : Int) % (2 + (i : Int)) = 1 := Int.emod_eq_of_lt (by omega) (by omega)
  rw [this]; rfl
def sp_lowB : CSp := fun ds M K => ∃ s b : Int, ds = [.int s, .int b] ∧ 0 ≤ b ∧ b ≤ 100 ∧ K (.bl (lowB s b)) M
theorem v_lowB {Γ : Gam} (ds : List D) (M : Mp) (Q : KD) (h : sp_lowB ds M Q) : wpSs Γ b__law_lowest (startD n__law_lowest ds) M (Post Q) := by
  obtain ⟨s, b, rfl, hb, hb2, hQ⟩ := h
  have hρ : startD n__law_lowest [.int s, .int b] = [some (.int s), some (.int b), none] := rfl
  rw [hρ]
  refine wp_forα (List.range (b + 1 - 2).toNat) (fun (i : Nat) => D.int (2 + (i : Int))) (fun _ => True) M (fun i ρ M2 => ∃ x, ρ = [some (.int s), some (.int b), x] ∧ M2 = M ∧ ((List.range (b + 1 - 2).toNat).take i).all (fun i => !(decide (s % (2 + (i : Int)) = 0) && decide (b % (2 + (i : Int)) = 0))) = true) (fun ρ M2 => ∃ x, ρ = [some (.int s), some (.int b), x] ∧ M2 = M ∧ lowB s b = true) (fun K hK => ?_) ⟨none, rfl, rfl, rfl⟩ (fun _ _ _ _ => trivial) ?_ ?_ ?_
  · simp only [↓wI_rng, ↓wEs_cons, ↓wEs_nil, ↓wE_v, ↓wE_k, ↓wE_bin]
    refine ⟨_, rfl, ?_⟩
    rw [o_add, rg_2, rangeD_2]
    exact ⟨by omega, hK⟩
  · rintro i p ρ2 M2 hi ⟨x, rfl, rfl, ha⟩
    have hmem := List.mem_of_getElem? hi
    have hs : ((List.range (b + 1 - 2).toNat).take (i + 1)).all (fun i => !(decide (s % (2 + (i : Int)) = 0) && decide (b % (2 + (i : Int)) = 0))) = !(decide (s % (2 + (p : Int)) = 0) && decide (b % (2 + (p : Int)) = 0)) := by
      rw [List.take_add_one, hi, List.all_append, ha]; simp
    rw [hs]
    simp only [↓wG_n]
    simp [↓wSs_nil, ↓wSs_cons, ↓wS_asg, ↓wS_par, ↓wS_set, ↓wS_aug, ↓wS_ex, ↓wS_ret, ↓wS_retN, ↓wS_ite, ↓wS_brk, ↓wS_cont, ↓wS_pass, ↓wE_v, ↓wE_k, ↓wE_g, ↓wE_bin, ↓wE_neg, ↓wE_cmp, ↓wE_isN, ↓wE_not, ↓wE_and1, ↓wE_and, ↓wE_or1, ↓wE_or, ↓wE_ite, ↓wE_tup, ↓wE_lst, ↓wE_lstM, ↓wE_dctM, ↓wE_sub, ↓wE_slc, ↓wE_isi, ↓wE_bi, ↓wE_mth, ↓wE_disp, ↓wE_lkeys, ↓wEs_nil, ↓wEs_cons, ↓wO_none, ↓wO_some, ↓wT_e, ↓wT_not, ↓wT_cmp, ↓wT_chain, ↓wT_isN, ↓wT_and1, ↓wT_and, ↓wT_or1, ↓wT_or, ↓wTo_none, ↓wTo_some, ↓wG_n, ↓wG_t, ↓wG_k, ↓wGs_nil, ↓wGs_cons, ↓wI_s, ↓wI_rng, Post, o_add, o_sub, o_mul, o_div, o_mod, o_pow, o_cats, o_catt, o_catl, o_eqi, o_eqs, o_eqb, o_nei, o_nes, o_lt, o_gt, o_le, o_ge, o_tn, o_tb, o_ti, o_tt, o_tl, s_lst, s_tup, s_ktp, s_str, ok_s, ok_i, get_hit, get_miss, b_int, b_intb, b_lenl, b_lent, b_tupl, b_tupt, b_abs, b_max2, b_min2, atI_0, atI_1, atI_2, atI_3, atI_4, it_lst, it_klst, it_tup, it_ktp, rg_1, rg_2]
    refine ⟨by omega, ?_⟩
    by_cases h1 : s % (2 + (p : Int)) = 0
    · by_cases h2 : b % (2 + (p : Int)) = 0
      · have hf : lowB s b = false := by
          unfold lowB
          rw [List.all_eq_false]
          exact ⟨p, hmem, by simp [h1, h2]⟩
        rw [hf] at hQ
        simp [h1, h2]
        exact ⟨by omega, ret_of hQ⟩
      · simp [h1, h2]; omega
    · simp [h1]
  · rintro ρ2 M2 ⟨x, rfl, rfl, ha⟩
    rw [List.take_length] at ha
    exact ⟨x, rfl, rfl, ha⟩
  · rintro ρ2 M2 ⟨x, rfl, rfl, ha⟩
    rw [ha] at hQ
    simp [↓wSs_nil, ↓wSs_cons, ↓wS_asg, ↓wS_par, ↓wS_set, ↓wS_aug, ↓wS_ex, ↓wS_ret, ↓wS_retN, ↓wS_ite, ↓wS_brk, ↓wS_cont, ↓wS_pass, ↓wE_v, ↓wE_k, ↓wE_g, ↓wE_bin, ↓wE_neg, ↓wE_cmp, ↓wE_isN, ↓wE_not, ↓wE_and1, ↓wE_and, ↓wE_or1, ↓wE_or, ↓wE_ite, ↓wE_tup, ↓wE_lst, ↓wE_lstM, ↓wE_dctM, ↓wE_sub, ↓wE_slc, ↓wE_isi, ↓wE_bi, ↓wE_mth, ↓wE_disp, ↓wE_lkeys, ↓wEs_nil, ↓wEs_cons, ↓wO_none, ↓wO_some, ↓wT_e, ↓wT_not, ↓wT_cmp, ↓wT_chain, ↓wT_isN, ↓wT_and1, ↓wT_and, ↓wT_or1, ↓wT_or, ↓wTo_none, ↓wTo_some, ↓wG_n, ↓wG_t, ↓wG_k, ↓wGs_nil, ↓wGs_cons, ↓wI_s, ↓wI_rng, Post]
    exact ret_of hQ
theorem zipK3 {a b c : Str} {x y z : D} : zipK [a, b, c] [x, y, z] = [(.str a, x), (.str b, y), (.str c, z)] := rfl
theorem cut63 {xs : List D} (h : xs.length ≤ 63) : cutD xs none (some 63) = xs := by
  unfold cutD
  rw [HT.sIx_none, show HT.sIx xs.length xs.length (some 63) = min 63 xs.length from HT.sIx_nat _ _ 63]
  have : min 63 xs.length = xs.length := by omega
  rw [this, List.drop_zero, Nat.sub_zero]
  exact List.take_of_length_le (Nat.le_refl _)
def sp_chest : CSp := fun ds M K => ∃ (d : D) (ns : List Int), ds = [d] ∧ (d = .lst (ns.map D.int) ∨ d = .klst (ns.map D.int)) ∧ ns.length ≤ 63 ∧ ∀ c b M', Chest M' c b → Ext M M' → K (.ref c) M'
theorem v_chest {Γ : Gam} (ds : List D) (M : Mp) (Q : KD) (h : sp_chest ds M Q) : wpSs Γ b__law_chest (startD n__law_chest ds) M (Post Q) := by
  obtain ⟨d, ns, rfl, hd, hn, hQ⟩ := h
  have hρ : startD n__law_chest [d] = [some d, none, none] := rfl
  rw [hρ]
  refine asg_n (d := .int (10 ^ 300)) (fun K hK => ?_) ?_
  · simp only [↓wE_bin, ↓wE_k, o_mul, o_pow]
    refine ⟨by unfold CPow; decide, by unfold CPow; decide, .inr (by unfold CMulW; decide +kernel), by unfold CPow; decide, .inr (by unfold CMulW; decide +kernel), by unfold CPow; decide, .inr (by unfold CMulW; decide +kernel), by unfold CPow; decide, .inr (by unfold CMulW; decide +kernel), by unfold CPow; decide, .inr (by unfold CMulW; decide +kernel), ?_⟩
    exact hK
  show wpSs Γ (.ret _ :: _) _ _ _
  rw [wSs_cons, wS_ret, wE_disp]
  intro p hp
  rw [wEs_cons, wE_comp, wI_s, wE_slc, wE_v]
  refine ⟨d, rfl, ?_⟩
  rw [wO_none, wO_some, wE_k]
  refine ⟨63, rfl, ?_⟩
  have hs : ∀ (M : Mp) (K : KD), slcD d none (some 63) M K = K (.lst (ns.map D.int)) M := fun M K => by
    have : slcD (.lst (ns.map D.int)) none (some 63) M K = K (.lst (ns.map D.int)) M := by
      show K (.lst (cutD (ns.map D.int) none (some 63))) M = _
      rw [cut63 (by simpa using hn)]
    rcases hd with rfl | rfl
    · exact this
    · exact this
  rw [hs]
  dsimp only
  rw [it_lst]
  intro b hb
  refine comp_on ns D.int (fun n => some (.int (n % 10 ^ 300))) hb (fun n M' K _ _ hK => ?_) (fun _ _ => trivial) (sz (by omega)) ?_
  · rw [wG_n, wTo_none, if_pos rfl, wE_bin, wE_bi, wEs_cons, wE_v]
    refine ⟨_, rfl, ?_⟩
    rw [wEs_nil, b_int, wE_v]
    refine ⟨_, rfl, ?_⟩
    rw [o_mod]
    exact ⟨by decide +kernel, hK⟩
  · rw [if_pos rfl]
    have hbp : b ≠ p := fun z => by subst z; rw [mu_same] at hb; cases hb
    simp only [↓wEs_cons, ↓wEs_nil, ↓wE_k]
    refine ⟨(mu_ne hbp.symm).trans mu_same, ?_⟩
    have e : ns.filterMap (fun n => some (D.int (n % 10 ^ 300))) = (ns.map (· % 10 ^ 300)).map D.int := by rw [filterMap_all, List.map_map]; rfl
    rw [e, zipK3]
    refine ret_of (hQ p b _ ⟨hbp.symm, ns.map (· % 10 ^ 300), 0, 0, mu_same, (mu_ne hbp).trans mu_same⟩ ?_)
    intro a o ha
    have h1 : a ≠ p := fun z => by subst z; rw [hp] at ha; cases ha
    have h2 : a ≠ b := fun z => by subst z; rw [mu_ne h1] at hb; rw [hb] at ha; cases ha
    rw [mu_ne h1, mu_ne h2, mu_ne h1]; exact ha
end K25
namespace K25
open PySem PySem.Spec L2 Vc
section
variable {Γ : Gam} {ρ : Env'} {M : Mp} {K : KD} {c b : Addr}
theorem pull_at (g : Γ.fn "_law_pull" = some (2, sp_pull)) {e1 e2 : Ex} {many : Int} (h : ∀ K' : List D → Mp → Prop, K' [.ref c, .int many] M → wpEs Γ [e1, e2] ρ M K') (h1 : 1 ≤ many) (h2 : many < 2 ^ 20) (hc : Chest M c b) (hK : ∀ r M', 0 ≤ r → r < many → ChS M M' c b → K (.int r) M') : wpE Γ (.call "_law_pull" [e1, e2]) ρ M K := by
  rw [wE_call]
  exact ⟨_, g, h _ (runC.of ⟨c, b, many, rfl, h1, h2, hc, hK⟩)⟩
theorem pick (l : List Int) {r : Int} (h0 : 0 ≤ r) (h1 : r < l.length) : ∃ v ∈ l, atI (l.map D.int) r = some (.int v) := by
  rw [atI_map, atI_in h0 h1]
  exact ⟨_, List.getElem_mem _, rfl⟩
theorem pickD' (l : List D) {r : Int} (h0 : 0 ≤ r) (h1 : r < l.length) : ∃ v ∈ l, atI l r = some v := by
  rw [atI_in h0 h1]
  exact ⟨_, List.getElem_mem _, rfl⟩
end
def sp_mark : CSp := fun ds M K => ∃ (c b : Addr) (bs : List Int) (reach : Int), ds = [.ref c, .lst (bs.map D.int), .int reach] ∧ bs ≠ [] ∧ bs.length ≤ 100 ∧ (∀ x ∈ bs, 1 ≤ x ∧ x ≤ 6) ∧ 0 ≤ reach ∧ reach ≤ 9 ∧ Chest M c b ∧ ∀ k M', Mk.ok k → ChS M M' c b → K k.d M'
theorem v_mark {Γ : Gam} (g1 : Γ.fn "_law_pull" = some (2, sp_pull)) (g2 : Γ.fn "_law_lowest" = some (2, sp_lowB)) (ds : List D) (M : Mp) (Q : KD) (h : sp_mark ds M Q) : wpSs Γ b__law_mark (startD n__law_mark ds) M (Post Q) := by
  obtain ⟨c, b, bs, reach, rfl, hne, hlen, hbs, hr0, hr9, hch, hQ⟩ := h
  have hρ : startD n__law_mark [.ref c, .lst (bs.map D.int), .int reach] = [some (.ref c), some (.lst (bs.map D.int)), some (.int reach), none, none, none] := rfl
  rw [hρ]
  have hpos : 0 < bs.length := List.length_pos_iff.mpr hne
  refine wp_at 1 (fun ρ M1 => ∃ x : Int, 1 ≤ x ∧ x ≤ 6 ∧ ρ = [some (.ref c), some (.lst (bs.map D.int)), some (.int reach), some (.int x), none, none] ∧ ChS M M1 c b) ?_ ?_
  · show wpSs Γ [.asg _ _] _ _ _
    rw [wSs_cons, wS_asg, wE_sub, wE_v]
    refine ⟨_, rfl, pull_at g1 (c := c) (b := b) (many := bs.length) (fun K' hK => by simp only [↓wEs_cons, ↓wEs_nil, ↓wE_v, ↓wE_bi, b_lenl, List.length_map]; exact ⟨_, rfl, _, rfl, by rw [b_lenl, List.length_map]; exact hK⟩) (by omega) (by omega) hch fun r M' h0 h1 hs => ?_⟩
    obtain ⟨v, hv, e⟩ := pick bs h0 h1
    rw [s_lst]
    refine ⟨r, _, rfl, e, ?_⟩
    rw [wG_n]
    exact ⟨v, (hbs v hv).1, (hbs v hv).2, rfl, hs⟩
  rintro ρ M1 ⟨x, hx1, hx6, rfl, hs1⟩
  have hsh : ∀ K : KD, (∀ l : List Int, l ≠ [] → l.length ≤ 7 → K (.lst (l.map D.int)) M1) → wpE Γ (.comp false [5] (.n 5) (.rng [.bin .Add (.v 3) (.k (.int 1))]) (some (.e (.call "_law_lowest" [.v 5, .v 3]))) (.v 5)) [some (.ref c), some (.lst (bs.map D.int)), some (.int reach), some (.int x), none, none] M1 K := fun K hK => by
    rw [wE_comp, wI_rng, wEs_cons, wE_bin, wE_v]
    refine ⟨_, rfl, ?_⟩
    rw [wE_k, o_add, wEs_nil, rg_1]
    refine ⟨by omega, fun p hp => ?_⟩
    rw [rangeD_2]
    refine comp_on (List.range (x + 1 - 0).toNat) (fun (i : Nat) => D.int (0 + (i : Int))) (fun i => if lowB (0 + (i : Int)) x = true then some (.int (0 + (i : Int))) else none) hp (fun i M' K _ _ hK => ?_) (fun _ _ => trivial) (sz (by rw [List.length_range]; omega)) ?_
    · rw [wG_n, wTo_some, wT_e, wE_call]
      refine ⟨_, g2, ?_⟩
      simp only [↓wEs_cons, ↓wEs_nil, ↓wE_v]
      refine ⟨_, rfl, _, rfl, runC.of ⟨0 + (i : Int), x, rfl, by omega, by omega, ?_⟩⟩
      dsimp only
      rw [o_tb]
      cases e : lowB (0 + (i : Int)) x with
      | true => rw [if_pos rfl]; rw [e, if_pos rfl] at hK; exact ⟨_, rfl, hK⟩
      | false => rw [if_neg (by decide)]; rw [e, if_neg (by decide)] at hK; exact hK
    · rw [if_neg (by decide), mdel_mu hp]
      have e : (List.range (x + 1 - 0).toNat).filterMap (fun (i : Nat) => if lowB (0 + (i : Int)) x = true then some (D.int (0 + (i : Int))) else none) = (((List.range (x + 1 - 0).toNat).filter fun (i : Nat) => lowB (0 + (i : Int)) x).map fun (i : Nat) => (0 + (i : Int))).map D.int := by
        generalize List.range (x + 1 - 0).toNat = l
        induction l with
        | nil => rfl
        | cons i l ih =>
          cases e : lowB (0 + (i : Int)) x with
          | true =>
            have h2 : List.filter (fun (i : Nat) => lowB (0 + (i : Int)) x) (i :: l) = i :: List.filter (fun (i : Nat) => lowB (0 + (i : Int)) x) l := List.filter_cons_of_pos (by rw [e])
            rw [List.filterMap_cons_some (b := D.int (0 + (i : Int))) (by simp only [e, if_true]), h2, List.map_cons, List.map_cons, ih]
          | false =>
            have h2 : List.filter (fun (i : Nat) => lowB (0 + (i : Int)) x) (i :: l) = List.filter (fun (i : Nat) => lowB (0 + (i : Int)) x) l := List.filter_cons_of_neg (by rw [e]; decide)
            rw [List.filterMap_cons_none (by simp only [e, Bool.false_eq_true, if_false]), h2, ih]
      rw [e]
      refine hK _ (fun z => ?_) ?_
      · have : (1 : Nat) ∈ (List.range (x + 1 - 0).toNat).filter fun (i : Nat) => lowB (0 + (i : Int)) x := List.mem_filter.mpr ⟨List.mem_range.mpr (by omega), lowB_1 x⟩
        have z' := List.map_eq_nil_iff.mp z
        rw [z'] at this; cases this
      · rw [List.length_map]
        refine Nat.le_trans (List.length_filter_le _ _) ?_
        rw [List.length_range]; omega
  refine wp_at 1 (fun ρ M2 => ∃ l : List Int, l ≠ [] ∧ l.length ≤ 7 ∧ ρ = [some (.ref c), some (.lst (bs.map D.int)), some (.int reach), some (.int x), some (.lst (l.map D.int)), none] ∧ M2 = M1) ?_ ?_
  · show wpSs Γ [.asg _ _] _ _ _
    rw [wSs_cons, wS_asg]
    exact hsh _ fun l h1 h2 => by rw [wG_n]; exact ⟨l, h1, h2, rfl, rfl⟩
  rintro ρ M2 ⟨l, hl, hl7, rfl, rfl⟩
  have hlp : 0 < l.length := List.length_pos_iff.mpr hl
  show wpSs Γ [.ret _] _ _ _
  rw [wSs_cons, wS_ret, wE_tup, wEs_cons, wE_sub, wE_v]
  refine ⟨_, rfl, pull_at g1 (c := c) (b := b) (many := l.length) (fun K' hK => by simp only [↓wEs_cons, ↓wEs_nil, ↓wE_v, ↓wE_bi]; exact ⟨_, rfl, _, rfl, by rw [b_lenl, List.length_map]; exact hK⟩) (by omega) (by omega) hs1.1 fun r M' h0 h1 hs => ?_⟩
  obtain ⟨v, hv, e⟩ := pick l h0 h1
  rw [s_lst]
  refine ⟨r, _, rfl, e, ?_⟩
  rw [wEs_cons, wE_v]
  refine ⟨_, rfl, ?_⟩
  rw [wEs_cons, wE_bin]
  refine pull_at g1 (c := c) (b := b) (many := 2 * reach + 1) (fun K' hK => by simp only [↓wEs_cons, ↓wEs_nil, ↓wE_v, ↓wE_bin, ↓wE_k]; exact ⟨_, rfl, _, rfl, by rw [o_mul]; exact ⟨mul_l (by decide) (by decide), by rw [o_add]; exact hK⟩⟩) (by omega) (by omega) hs.1 fun r2 M3 h02 h12 hs2 => ?_
  rw [wE_v]
  refine ⟨_, rfl, ?_⟩
  rw [o_sub, wEs_nil]
  exact ⟨sz (by simp), ret_of (hQ ⟨v, x, r2 - reach⟩ M3 ⟨hx1, hx6, by dsimp only; omega, by dsimp only; omega⟩ ((hs1.trans hs).trans hs2))⟩
end K25
namespace K25
open PySem PySem.Spec L2 Vc
theorem asg_w {Γ : Gam} {ρ : Env'} {M : Mp} {E : EndD} {i : Nat} {e : Ex} {ss : List Sm} (h : wpE Γ e ρ M fun d M1 => wpSs Γ ss (ρ.set i (some d)) M1 E) : wpSs Γ (.asg (.n i) e :: ss) ρ M E := by
  rw [wSs_cons, wS_asg]
  exact wpE_mono Γ e ρ M _ _ (fun d M1 q => by rw [wG_n]; exact q) h
def Uok (us : List Un) : Prop := us ≠ [] ∧ us.length ≤ 1000 ∧ ∀ u ∈ us, 0 ≤ u.y
def sp_units : CSp := fun ds M K => ∃ (c b : Addr) (top : Int), ds = [.ref c, .int top] ∧ 0 ≤ top ∧ top ≤ 20 ∧ Chest M c b ∧ ∀ us M', Uok us → ChS M M' c b → K (.tup (us.map Un.d)) M'
def sp_part : CSp := fun ds M K => ∃ (c b : Addr) (bs gs : List Int) (reach top : Int), ds = [.ref c, .lst (bs.map D.int), .lst (gs.map D.int), .int reach, .int top] ∧ bs ≠ [] ∧ bs.length ≤ 100 ∧ (∀ x ∈ bs, 1 ≤ x ∧ x ≤ 6) ∧ gs ≠ [] ∧ gs.length ≤ 100 ∧ (∀ x ∈ gs, 1 ≤ x ∧ x ≤ 6) ∧ 0 ≤ reach ∧ reach ≤ 9 ∧ 0 ≤ top ∧ top ≤ 20 ∧ Chest M c b ∧
  ∀ p M', Pt.ok p → 0 ≤ p.top → ChS M M' c b → K p.d M'
theorem unTop_nn {us : List Un} (h : Uok us) : 0 ≤ unTop us := by
  unfold unTop
  have hn := ends_ne h.1
  rw [← mxL_nn hn]
  · exact le_fold _ _
  · intro x hx
    obtain ⟨q, hq, rfl⟩ := List.mem_map.mp hx
    obtain ⟨u, hu, hq⟩ := List.mem_flatMap.mp hq
    have := h.2.2 u hu
    unfold Un.ends at hq
    cases hu' : u.u <;> simp [hu'] at hq <;> rcases hq with rfl | rfl <;> simp <;> omega
theorem v_part {Γ : Gam} (g1 : Γ.fn "_law_pull" = some (2, sp_pull)) (g2 : Γ.fn "_law_mark" = some (3, sp_mark)) (g3 : Γ.fn "_law_units" = some (2, sp_units)) (ds : List D) (M : Mp) (Q : KD) (h : sp_part ds M Q) : wpSs Γ b__law_part (startD n__law_part ds) M (Post Q) := by
  obtain ⟨c, b, bs, gs, reach, top, rfl, hb1, hb2, hb3, hg1, hg2, hg3, hr0, hr9, ht0, ht9, hch, hQ⟩ := h
  have hρ : startD n__law_part [.ref c, .lst (bs.map D.int), .lst (gs.map D.int), .int reach, .int top] = [some (.ref c), some (.lst (bs.map D.int)), some (.lst (gs.map D.int)), some (.int reach), some (.int top), none, none, none, none] := rfl
  rw [hρ]
  refine wp_at 3 (fun ρ M1 => ∃ (p q : Mk) (k : Int), p.ok ∧ q.ok ∧ ρ = [some (.ref c), some (.lst (bs.map D.int)), some (.lst (gs.map D.int)), some (.int reach), some (.int top), some p.d, some q.d, some (.int k), none] ∧ ChS M M1 c b) ?_ ?_
  · show wpSs Γ [.asg _ _, .asg _ _, .asg _ _] _ _ _
    refine asg_w ?_
    rw [wE_call]
    simp only [↓wEs_cons, ↓wEs_nil, ↓wE_v]
    refine ⟨_, g2, _, rfl, _, rfl, _, rfl, runC.of ⟨c, b, bs, reach, rfl, hb1, hb2, hb3, hr0, hr9, hch, fun p M1 hp h1 => ?_⟩⟩
    refine asg_w ?_
    rw [wE_call]
    simp only [↓wEs_cons, ↓wEs_nil, ↓wE_v]
    refine ⟨_, g2, _, rfl, _, rfl, _, rfl, runC.of ⟨c, b, bs, reach, rfl, hb1, hb2, hb3, hr0, hr9, h1.1, fun q M2 hq h2 => ?_⟩⟩
    refine asg_w ?_
    refine pull_at g1 (c := c) (b := b) (many := 4) (fun K' hK => by simp only [↓wEs_cons, ↓wEs_nil, ↓wE_v, ↓wE_k]; exact ⟨_, rfl, hK⟩) (by omega) (by omega) h2.1 fun k M3 _ _ h3 => ?_
    rw [wSs_nil]
    exact ⟨p, q, k, hp, hq, rfl, (h1.trans h2).trans h3⟩
  rintro ρ M1 ⟨p, q, k, hp, hq, rfl, h1⟩
  have hmk2 : ∀ x ∈ [p, q], Mk.ok x := fun x hx => by
    simp at hx; rcases hx with rfl | rfl
    · exact hp
    · exact hq
  by_cases c0 : k = 0
  · subst c0
    refine ite_T (fun B hB => by simp [↓wSs_nil, ↓wSs_cons, ↓wS_asg, ↓wS_par, ↓wS_set, ↓wS_aug, ↓wS_ex, ↓wS_ret, ↓wS_retN, ↓wS_ite, ↓wS_brk, ↓wS_cont, ↓wS_pass, ↓wE_v, ↓wE_k, ↓wE_g, ↓wE_bin, ↓wE_neg, ↓wE_cmp, ↓wE_isN, ↓wE_not, ↓wE_and1, ↓wE_and, ↓wE_or1, ↓wE_or, ↓wE_ite, ↓wE_tup, ↓wE_lst, ↓wE_lstM, ↓wE_dctM, ↓wE_sub, ↓wE_slc, ↓wE_isi, ↓wE_bi, ↓wE_mth, ↓wE_disp, ↓wE_lkeys, ↓wEs_nil, ↓wEs_cons, ↓wO_none, ↓wO_some, ↓wT_e, ↓wT_not, ↓wT_cmp, ↓wT_chain, ↓wT_isN, ↓wT_and1, ↓wT_and, ↓wT_or1, ↓wT_or, ↓wTo_none, ↓wTo_some, ↓wG_n, ↓wG_t, ↓wG_k, ↓wGs_nil, ↓wGs_cons, ↓wI_s, ↓wI_rng, Post, o_add, o_sub, o_mul, o_div, o_mod, o_pow, o_cats, o_catt, o_catl, o_eqi, o_eqs, o_eqb, o_nei, o_nes, o_lt, o_gt, o_le, o_ge, o_tn, o_tb, o_ti, o_tt, o_tl, s_lst, s_tup, s_ktp, s_str, ok_s, ok_i, get_hit, get_miss, b_int, b_intb, b_lenl, b_lent, b_tupl, b_tupt, b_abs, b_max2, b_min2, atI_0, atI_1, atI_2, atI_3, atI_4, it_lst, it_klst, it_tup, it_ktp, rg_1, rg_2]; exact hB) ?_
    show wpSs Γ (.ret _ :: _) _ _ _
    rw [wSs_cons, wS_ret, wE_tup, wEs_cons, wE_k, wEs_cons]
    refine pull_at g1 (c := c) (b := b) (many := top + 1) (fun K' hK => by simp only [↓wEs_cons, ↓wEs_nil, ↓wE_v, ↓wE_bin, ↓wE_k]; exact ⟨_, rfl, _, rfl, by rw [o_add]; exact hK⟩) (by omega) (by omega) h1.1 fun r M2 h0 _ h2 => ?_
    simp only [↓wEs_cons, ↓wEs_nil, ↓wE_v]
    exact ⟨_, rfl, _, rfl, sz (by simp), ret_of (hQ (.along r p q) M2 ⟨trivial, hmk2, trivial⟩ h0 (h1.trans h2))⟩
  refine ite_F (fun B hB => by simp [↓wSs_nil, ↓wSs_cons, ↓wS_asg, ↓wS_par, ↓wS_set, ↓wS_aug, ↓wS_ex, ↓wS_ret, ↓wS_retN, ↓wS_ite, ↓wS_brk, ↓wS_cont, ↓wS_pass, ↓wE_v, ↓wE_k, ↓wE_g, ↓wE_bin, ↓wE_neg, ↓wE_cmp, ↓wE_isN, ↓wE_not, ↓wE_and1, ↓wE_and, ↓wE_or1, ↓wE_or, ↓wE_ite, ↓wE_tup, ↓wE_lst, ↓wE_lstM, ↓wE_dctM, ↓wE_sub, ↓wE_slc, ↓wE_isi, ↓wE_bi, ↓wE_mth, ↓wE_disp, ↓wE_lkeys, ↓wEs_nil, ↓wEs_cons, ↓wO_none, ↓wO_some, ↓wT_e, ↓wT_not, ↓wT_cmp, ↓wT_chain, ↓wT_isN, ↓wT_and1, ↓wT_and, ↓wT_or1, ↓wT_or, ↓wTo_none, ↓wTo_some, ↓wG_n, ↓wG_t, ↓wG_k, ↓wGs_nil, ↓wGs_cons, ↓wI_s, ↓wI_rng, Post, o_add, o_sub, o_mul, o_div, o_mod, o_pow, o_cats, o_catt, o_catl, o_eqi, o_eqs, o_eqb, o_nei, o_nes, o_lt, o_gt, o_le, o_ge, o_tn, o_tb, o_ti, o_tt, o_tl, s_lst, s_tup, s_ktp, s_str, ok_s, ok_i, get_hit, get_miss, b_int, b_intb, b_lenl, b_lent, b_tupl, b_tupt, b_abs, b_max2, b_min2, atI_0, atI_1, atI_2, atI_3, atI_4, it_lst, it_klst, it_tup, it_ktp, rg_1, rg_2, c0]; exact hB) ?_
  by_cases c1 : k = 1 ∧ 0 < top
  · obtain ⟨rfl, c1⟩ := c1
    refine ite_T (fun B hB => by simp [↓wSs_nil, ↓wSs_cons, ↓wS_asg, ↓wS_par, ↓wS_set, ↓wS_aug, ↓wS_ex, ↓wS_ret, ↓wS_retN, ↓wS_ite, ↓wS_brk, ↓wS_cont, ↓wS_pass, ↓wE_v, ↓wE_k, ↓wE_g, ↓wE_bin, ↓wE_neg, ↓wE_cmp, ↓wE_isN, ↓wE_not, ↓wE_and1, ↓wE_and, ↓wE_or1, ↓wE_or, ↓wE_ite, ↓wE_tup, ↓wE_lst, ↓wE_lstM, ↓wE_dctM, ↓wE_sub, ↓wE_slc, ↓wE_isi, ↓wE_bi, ↓wE_mth, ↓wE_disp, ↓wE_lkeys, ↓wEs_nil, ↓wEs_cons, ↓wO_none, ↓wO_some, ↓wT_e, ↓wT_not, ↓wT_cmp, ↓wT_chain, ↓wT_isN, ↓wT_and1, ↓wT_and, ↓wT_or1, ↓wT_or, ↓wTo_none, ↓wTo_some, ↓wG_n, ↓wG_t, ↓wG_k, ↓wGs_nil, ↓wGs_cons, ↓wI_s, ↓wI_rng, Post, o_add, o_sub, o_mul, o_div, o_mod, o_pow, o_cats, o_catt, o_catl, o_eqi, o_eqs, o_eqb, o_nei, o_nes, o_lt, o_gt, o_le, o_ge, o_tn, o_tb, o_ti, o_tt, o_tl, s_lst, s_tup, s_ktp, s_str, ok_s, ok_i, get_hit, get_miss, b_int, b_intb, b_lenl, b_lent, b_tupl, b_tupt, b_abs, b_max2, b_min2, atI_0, atI_1, atI_2, atI_3, atI_4, it_lst, it_klst, it_tup, it_ktp, rg_1, rg_2, c1]; exact hB) ?_
    show wpSs Γ (.asg _ _ :: .ret _ :: _) _ _ _
    refine asg_w ?_
    refine pull_at g1 (c := c) (b := b) (many := top) (fun K' hK => by simp only [↓wEs_cons, ↓wEs_nil, ↓wE_v]; exact ⟨_, rfl, _, rfl, hK⟩) (by omega) (by omega) h1.1 fun r M2 h0 h0' h2 => ?_
    rw [wSs_cons, wS_ret, wE_tup, wEs_cons, wE_k, wEs_cons, wE_v]
    refine ⟨_, rfl, ?_⟩
    rw [wEs_cons, wE_v]
    refine ⟨_, rfl, ?_⟩
    rw [wEs_cons, wE_bin, wE_bin, wE_v]
    refine ⟨_, rfl, ?_⟩
    rw [wE_k, o_add]
    refine pull_at g1 (c := c) (b := b) (many := top - r) (fun K' hK => by simp only [↓wEs_cons, ↓wEs_nil, ↓wE_v, ↓wE_bin]; exact ⟨_, rfl, _, rfl, _, rfl, by rw [o_sub]; exact hK⟩) (by omega) (by omega) h2.1 fun r2 M3 h02 h02' h3 => ?_
    rw [o_add, wEs_nil]
    exact ⟨sz (by simp), ret_of (hQ (.up p r (r + 1 + r2)) M3 ⟨trivial, fun x hx => hmk2 x (by simp [Pt.marks] at hx; simp [hx]), trivial⟩ (by show 0 ≤ r + 1 + r2; omega) ((h1.trans h2).trans h3))⟩
  refine ite_F (fun B hB => by
    by_cases e : k = 1
    · have : ¬ 0 < top := fun z => c1 ⟨e, z⟩
      simp [↓wSs_nil, ↓wSs_cons, ↓wS_asg, ↓wS_par, ↓wS_set, ↓wS_aug, ↓wS_ex, ↓wS_ret, ↓wS_retN, ↓wS_ite, ↓wS_brk, ↓wS_cont, ↓wS_pass, ↓wE_v, ↓wE_k, ↓wE_g, ↓wE_bin, ↓wE_neg, ↓wE_cmp, ↓wE_isN, ↓wE_not, ↓wE_and1, ↓wE_and, ↓wE_or1, ↓wE_or, ↓wE_ite, ↓wE_tup, ↓wE_lst, ↓wE_lstM, ↓wE_dctM, ↓wE_sub, ↓wE_slc, ↓wE_isi, ↓wE_bi, ↓wE_mth, ↓wE_disp, ↓wE_lkeys, ↓wEs_nil, ↓wEs_cons, ↓wO_none, ↓wO_some, ↓wT_e, ↓wT_not, ↓wT_cmp, ↓wT_chain, ↓wT_isN, ↓wT_and1, ↓wT_and, ↓wT_or1, ↓wT_or, ↓wTo_none, ↓wTo_some, ↓wG_n, ↓wG_t, ↓wG_k, ↓wGs_nil, ↓wGs_cons, ↓wI_s, ↓wI_rng, Post, o_add, o_sub, o_mul, o_div, o_mod, o_pow, o_cats, o_catt, o_catl, o_eqi, o_eqs, o_eqb, o_nei, o_nes, o_lt, o_gt, o_le, o_ge, o_tn, o_tb, o_ti, o_tt, o_tl, s_lst, s_tup, s_ktp, s_str, ok_s, ok_i, get_hit, get_miss, b_int, b_intb, b_lenl, b_lent, b_tupl, b_tupt, b_abs, b_max2, b_min2, atI_0, atI_1, atI_2, atI_3, atI_4, it_lst, it_klst, it_tup, it_ktp, rg_1, rg_2, e, this]; exact hB
    · simp [↓wSs_nil, ↓wSs_cons, ↓wS_asg, ↓wS_par, ↓wS_set, ↓wS_aug, ↓wS_ex, ↓wS_ret, ↓wS_retN, ↓wS_ite, ↓wS_brk, ↓wS_cont, ↓wS_pass, ↓wE_v, ↓wE_k, ↓wE_g, ↓wE_bin, ↓wE_neg, ↓wE_cmp, ↓wE_isN, ↓wE_not, ↓wE_and1, ↓wE_and, ↓wE_or1, ↓wE_or, ↓wE_ite, ↓wE_tup, ↓wE_lst, ↓wE_lstM, ↓wE_dctM, ↓wE_sub, ↓wE_slc, ↓wE_isi, ↓wE_bi, ↓wE_mth, ↓wE_disp, ↓wE_lkeys, ↓wEs_nil, ↓wEs_cons, ↓wO_none, ↓wO_some, ↓wT_e, ↓wT_not, ↓wT_cmp, ↓wT_chain, ↓wT_isN, ↓wT_and1, ↓wT_and, ↓wT_or1, ↓wT_or, ↓wTo_none, ↓wTo_some, ↓wG_n, ↓wG_t, ↓wG_k, ↓wGs_nil, ↓wGs_cons, ↓wI_s, ↓wI_rng, Post, o_add, o_sub, o_mul, o_div, o_mod, o_pow, o_cats, o_catt, o_catl, o_eqi, o_eqs, o_eqb, o_nei, o_nes, o_lt, o_gt, o_le, o_ge, o_tn, o_tb, o_ti, o_tt, o_tl, s_lst, s_tup, s_ktp, s_str, ok_s, ok_i, get_hit, get_miss, b_int, b_intb, b_lenl, b_lent, b_tupl, b_tupt, b_abs, b_max2, b_min2, atI_0, atI_1, atI_2, atI_3, atI_4, it_lst, it_klst, it_tup, it_ktp, rg_1, rg_2, e]; exact hB) ?_
  by_cases c2 : k = 2
  · subst c2
    refine ite_T (fun B hB => by simp [↓wSs_nil, ↓wSs_cons, ↓wS_asg, ↓wS_par, ↓wS_set, ↓wS_aug, ↓wS_ex, ↓wS_ret, ↓wS_retN, ↓wS_ite, ↓wS_brk, ↓wS_cont, ↓wS_pass, ↓wE_v, ↓wE_k, ↓wE_g, ↓wE_bin, ↓wE_neg, ↓wE_cmp, ↓wE_isN, ↓wE_not, ↓wE_and1, ↓wE_and, ↓wE_or1, ↓wE_or, ↓wE_ite, ↓wE_tup, ↓wE_lst, ↓wE_lstM, ↓wE_dctM, ↓wE_sub, ↓wE_slc, ↓wE_isi, ↓wE_bi, ↓wE_mth, ↓wE_disp, ↓wE_lkeys, ↓wEs_nil, ↓wEs_cons, ↓wO_none, ↓wO_some, ↓wT_e, ↓wT_not, ↓wT_cmp, ↓wT_chain, ↓wT_isN, ↓wT_and1, ↓wT_and, ↓wT_or1, ↓wT_or, ↓wTo_none, ↓wTo_some, ↓wG_n, ↓wG_t, ↓wG_k, ↓wGs_nil, ↓wGs_cons, ↓wI_s, ↓wI_rng, Post, o_add, o_sub, o_mul, o_div, o_mod, o_pow, o_cats, o_catt, o_catl, o_eqi, o_eqs, o_eqb, o_nei, o_nes, o_lt, o_gt, o_le, o_ge, o_tn, o_tb, o_ti, o_tt, o_tl, s_lst, s_tup, s_ktp, s_str, ok_s, ok_i, get_hit, get_miss, b_int, b_intb, b_lenl, b_lent, b_tupl, b_tupt, b_abs, b_max2, b_min2, atI_0, atI_1, atI_2, atI_3, atI_4, it_lst, it_klst, it_tup, it_ktp, rg_1, rg_2]; exact hB) ?_
    show wpSs Γ (.ret _ :: _) _ _ _
    rw [wSs_cons, wS_ret, wE_tup, wEs_cons, wE_k, wEs_cons, wE_call]
    simp only [↓wEs_cons, ↓wEs_nil, ↓wE_v]
    refine ⟨_, g3, _, rfl, _, rfl, runC.of ⟨c, b, top, rfl, ht0, ht9, h1.1, fun us M2 hu h2 => ?_⟩⟩
    dsimp only
    rw [wE_sub, wE_v]
    have hgl := List.length_pos_iff.mpr hg1
    refine ⟨_, rfl, pull_at g1 (c := c) (b := b) (many := gs.length) (fun K' hK => by simp only [↓wEs_cons, ↓wEs_nil, ↓wE_v, ↓wE_bi]; exact ⟨_, rfl, _, rfl, by rw [b_lenl, List.length_map]; exact hK⟩) (by omega) (by omega) h2.1 fun r M3 h0 h0' h3 => ?_⟩
    obtain ⟨v, hv, e⟩ := pick gs h0 h0'
    rw [s_lst]
    refine ⟨r, _, rfl, e, ?_⟩
    refine ⟨_, rfl, _, rfl, sz (by simp), ret_of (hQ (.row us v p q) M3 ⟨⟨hu.1, hu.2.1⟩, hmk2, hg3 v hv⟩ (unTop_nn hu) ((h1.trans h2).trans h3))⟩
  refine ite_F (fun B hB => by simp [↓wSs_nil, ↓wSs_cons, ↓wS_asg, ↓wS_par, ↓wS_set, ↓wS_aug, ↓wS_ex, ↓wS_ret, ↓wS_retN, ↓wS_ite, ↓wS_brk, ↓wS_cont, ↓wS_pass, ↓wE_v, ↓wE_k, ↓wE_g, ↓wE_bin, ↓wE_neg, ↓wE_cmp, ↓wE_isN, ↓wE_not, ↓wE_and1, ↓wE_and, ↓wE_or1, ↓wE_or, ↓wE_ite, ↓wE_tup, ↓wE_lst, ↓wE_lstM, ↓wE_dctM, ↓wE_sub, ↓wE_slc, ↓wE_isi, ↓wE_bi, ↓wE_mth, ↓wE_disp, ↓wE_lkeys, ↓wEs_nil, ↓wEs_cons, ↓wO_none, ↓wO_some, ↓wT_e, ↓wT_not, ↓wT_cmp, ↓wT_chain, ↓wT_isN, ↓wT_and1, ↓wT_and, ↓wT_or1, ↓wT_or, ↓wTo_none, ↓wTo_some, ↓wG_n, ↓wG_t, ↓wG_k, ↓wGs_nil, ↓wGs_cons, ↓wI_s, ↓wI_rng, Post, o_add, o_sub, o_mul, o_div, o_mod, o_pow, o_cats, o_catt, o_catl, o_eqi, o_eqs, o_eqb, o_nei, o_nes, o_lt, o_gt, o_le, o_ge, o_tn, o_tb, o_ti, o_tt, o_tl, s_lst, s_tup, s_ktp, s_str, ok_s, ok_i, get_hit, get_miss, b_int, b_intb, b_lenl, b_lent, b_tupl, b_tupt, b_abs, b_max2, b_min2, atI_0, atI_1, atI_2, atI_3, atI_4, it_lst, it_klst, it_tup, it_ktp, rg_1, rg_2, c2]; exact hB) ?_
  show wpSs Γ (.ret _ :: _) _ _ _
  rw [wSs_cons, wS_ret, wE_tup, wEs_cons, wE_k, wEs_cons, wE_call]
  simp only [↓wEs_cons, ↓wEs_nil, ↓wE_v]
  refine ⟨_, g3, _, rfl, _, rfl, runC.of ⟨c, b, top, rfl, ht0, ht9, h1.1, fun us M2 hu h2 => ?_⟩⟩
  exact ⟨_, rfl, sz (by simp), ret_of (hQ (.stamp us q) M2 ⟨⟨hu.1, hu.2.1⟩, fun x hx => hmk2 x (by simp [Pt.marks] at hx; simp [hx]), trivial⟩ (unTop_nn hu) (h1.trans h2))⟩
end K25
namespace K25
open PySem PySem.Spec L2 Vc
theorem compL_gen {turn : D → Mp → (Option D → Mp → Prop) → Prop} (mono : ∀ x M K K', (∀ d M, K d M → K' d M) → turn x M K → turn x M K') {inv : Mp → Prop} {p : Addr} {K : List D → Mp → Prop} {xs : List D} (n : Nat) (J : Nat → List D → Mp → Prop)
    (ht : ∀ i x acc M, i < n → x ∈ xs → J i acc M → turn x M fun r M1 => M1 p = some (.lst acc) ∧ match r with | some d => acc.length < sizeLine ∧ J (i + 1) (acc ++ [d]) (mu M1 p (.lst (acc ++ [d]))) | none => J (i + 1) acc M1)
    (hi : ∀ i acc M, J i acc M → inv M) (hK : ∀ acc M, J n acc M → K acc M) : ∀ (rest : List D) (i : Nat) (acc : List D) (M : Mp), (∀ x ∈ rest, x ∈ xs) → i + rest.length = n → J i acc M → compL turn inv p rest acc M K
  | [], i, acc, M, _, hn, h => by
    have : i = n := by simpa using hn
    subst this
    rw [compL]; exact ⟨hi _ _ _ h, hK _ _ h⟩
  | x :: rest, i, acc, M, hx, hn, h => by
    rw [List.length_cons] at hn
    rw [compL]
    refine ⟨hi _ _ _ h, mono _ _ _ _ (fun r M1 q => ⟨q.1, ?_⟩) (ht i x acc M (by omega) (hx x (by simp)) h)⟩
    cases r with
    | none => exact compL_gen mono n J ht hi hK rest (i + 1) acc M1 (fun y hy => hx y (by simp [hy])) (by omega) q.2
    | some d => exact ⟨q.2.1, compL_gen mono n J ht hi hK rest (i + 1) _ _ (fun y hy => hx y (by simp [hy])) (by omega) q.2.2⟩
theorem turn_mono {Γ : Gam} {ρ : Env'} {own : List Nat} {tg : Tg} {ifs : Option Tx} {el : Ex} : ∀ (x : D) (M : Mp) (K K' : Option D → Mp → Prop), (∀ d M, K d M → K' d M) → (wpG tg x (wipeD ρ own) M fun ρ1 => wpTo Γ ifs ρ1 M fun c M3 => if c = true then wpE Γ el ρ1 M3 fun d M4 => K (some d) M4 else K none M3) → wpG tg x (wipeD ρ own) M fun ρ1 => wpTo Γ ifs ρ1 M fun c M3 => if c = true then wpE Γ el ρ1 M3 fun d M4 => K' (some d) M4 else K' none M3 := fun x M K K' m h => by
  refine wpG_mono tg x _ M _ _ (fun ρ1 q3 => wpTo_mono Γ ifs ρ1 M _ _ (fun c M3 q4 => ?_) q3) h
  split at q4
  · next e => rw [if_pos e]; exact wpE_mono Γ el ρ1 M3 _ _ (fun d M4 => m _ _) q4
  · next e => rw [if_neg e]; exact m _ _ q4
def Pok (p : Pt) : Prop := p.ok ∧ 0 ≤ p.top
def sp_lot : CSp := fun ds M K => ∃ (c b : Addr) (many : Nat), ds = [.ref c, .int many] ∧ 1 ≤ many ∧ many ≤ 100 ∧ Chest M c b ∧ ∀ (l : List Pt) M', l.length = many → (∀ p ∈ l, Pok p) → ChS M M' c b → K (.lst (l.map Pt.d)) M'
theorem ChS.ne {M : Mp} {c b p : Addr} (h : Chest M c b) (hp : M p = none) : p ≠ c ∧ p ≠ b := by
  obtain ⟨_, ns, l, n, h1, h2⟩ := h
  constructor
  · intro z; subst z; rw [hp] at h1; cases h1
  · intro z; subst z; rw [hp] at h2; cases h2
/-- a list of parts, drawn one by one -/
theorem lot_comp {Γ : Gam} (g : Γ.fn "_law_part" = some (5, sp_part)) {c b : Addr} {bs gs : List Int} {reach : Int} {many : Nat} {x5 : Option D} {et : Ex} {M : Mp} {K : KD} (hb1 : bs ≠ []) (hb2 : bs.length ≤ 100) (hb3 : ∀ x ∈ bs, 1 ≤ x ∧ x ≤ 6) (hg1 : gs ≠ []) (hg2 : gs.length ≤ 100) (hg3 : ∀ x ∈ gs, 1 ≤ x ∧ x ≤ 6) (hr0 : 0 ≤ reach) (hr9 : reach ≤ 9) (hm : many ≤ 100) (hch : Chest M c b)
    (het : ∀ (d : D) (M1 : Mp) (K' : KD), Chest M1 c b → (∀ t M2, 0 ≤ t → t ≤ 20 → ChS M1 M2 c b → K' (.int t) M2) → wpE Γ et [some (.ref c), some (.int many), some (.lst (bs.map D.int)), some (.lst (gs.map D.int)), some (.int reach), some d] M1 K')
    (hK : ∀ (l : List Pt) M', l.length = many → (∀ p ∈ l, Pok p) → ChS M M' c b → K (.lst (l.map Pt.d)) M') :
    wpE Γ (.comp false [5] (.n 5) (.rng [.v 1]) none (.call "_law_part" [.v 0, .v 2, .v 3, .v 4, et])) [some (.ref c), some (.int many), some (.lst (bs.map D.int)), some (.lst (gs.map D.int)), some (.int reach), x5] M K := by
  rw [wE_comp, wI_rng, wEs_cons, wE_v]
  refine ⟨_, rfl, ?_⟩
  rw [wEs_nil, rg_1]
  refine ⟨by omega, fun p hp => ?_⟩
  obtain ⟨hpc, hpb⟩ := ChS.ne hch hp
  rw [rangeD_nat]
  refine compL_gen turn_mono (xs := (List.range many).map fun (i : Nat) => D.int (i : Int)) many (fun i acc M1 => ∃ l : List Pt, l.length = i ∧ (∀ p ∈ l, Pok p) ∧ acc = l.map Pt.d ∧ M1 p = some (.lst acc) ∧ Chest M1 c b ∧ ∀ a, a ≠ c → a ≠ b → a ≠ p → M1 a = M a) ?_ (fun _ _ _ _ => trivial) ?_ _ 0 [] _ (fun _ h => h) (by simp) ?_
  · rintro i x acc M1 hi hx ⟨l, hl, hok, rfl, hp1, hc1, hM⟩
    rw [wG_n, wTo_none, if_pos rfl, wE_call]
    refine ⟨_, g, ?_⟩
    rw [wEs_cons, wE_v]
    refine ⟨_, rfl, ?_⟩
    rw [wEs_cons, wE_v]
    refine ⟨_, rfl, ?_⟩
    rw [wEs_cons, wE_v]
    refine ⟨_, rfl, ?_⟩
    rw [wEs_cons, wE_v]
    refine ⟨_, rfl, ?_⟩
    rw [wEs_cons]
    refine het _ _ _ hc1 fun t M2 h0 h1 hs => ?_
    rw [wEs_nil]
    refine runC.of ⟨c, b, bs, gs, reach, t, rfl, hb1, hb2, hb3, hg1, hg2, hg3, hr0, hr9, h0, h1, hs.1, fun q M3 hq hq0 hs2 => ?_⟩
    have e3 : M3 p = some (.lst (l.map Pt.d)) := ((hs2.2 p hpc hpb).trans (hs.2 p hpc hpb)).trans hp1
    obtain ⟨z1, ns, ll, n, z2, z3⟩ := hs2.1
    refine ⟨e3, by rw [List.length_map, hl, sizeLine_eq]; omega, l ++ [q], by rw [List.length_append, hl]; rfl, fun y hy => ?_, by rw [List.map_append]; rfl, by rw [mu_same], ⟨z1, ns, ll, n, (mu_ne hpc.symm).trans z2, (mu_ne hpb.symm).trans z3⟩, fun a ha hb hne => ?_⟩
    · rcases List.mem_append.mp hy with hy | hy
      · exact hok y hy
      · simp at hy; subst hy; exact ⟨hq, hq0⟩
    · rw [mu_ne hne]
      exact ((hs2.2 a ha hb).trans (hs.2 a ha hb)).trans (hM a ha hb hne)
  · rintro acc M1 ⟨l, hl, hok, rfl, hp1, hc1, hM⟩
    rw [if_neg (by decide)]
    obtain ⟨h1, ns, ll, n, h2, h3⟩ := hc1
    refine hK l _ hl hok ⟨⟨h1, ns, ll, n, (mdel_ne hpc.symm).trans h2, (mdel_ne hpb.symm).trans h3⟩, fun a ha hb => ?_⟩
    by_cases e : a = p
    · subst e; rw [mdel_same, hp]
    · rw [mdel_ne e]; exact hM a ha hb e
  · obtain ⟨h1, ns, ll, n, h2, h3⟩ := hch
    exact ⟨[], rfl, by simp, rfl, mu_same, ⟨h1, ns, ll, n, (mu_ne hpc.symm).trans h2, (mu_ne hpb.symm).trans h3⟩, fun a _ _ h => mu_ne h⟩
end K25
namespace K25
open PySem PySem.Spec L2 Vc
def LL (L : List (List Int)) : D := .lst (L.map fun l => D.lst (l.map D.int))
theorem pickL (L : List (List Int)) {r : Int} (h0 : 0 ≤ r) (h1 : r < L.length) : ∃ l ∈ L, atI (L.map fun l => D.lst (l.map D.int)) r = some (.lst (l.map D.int)) := by
  rw [atI_map, atI_in h0 h1]
  exact ⟨_, List.getElem_mem _, rfl⟩
theorem asg_pick {Γ : Gam} {ρ : Env'} {M : Mp} {E : EndD} (g1 : Γ.fn "_law_pull" = some (2, sp_pull)) {i : Nat} {e : Ex} {n : Int} {L : List (List Int)} {ss : List Sm} {c b : Addr} (h0 : ρ[0]? = some (some (.ref c))) (he : ∀ K : KD, K (LL L) M → wpE Γ e ρ M K) (hn : n = L.length) (h1 : 1 ≤ n) (h2 : n ≤ 100) (hc : Chest M c b)
    (h : ∀ l ∈ L, ∀ M', ChS M M' c b → wpSs Γ ss (ρ.set i (some (.lst (l.map D.int)))) M' E) : wpSs Γ (.asg (.n i) (.sub e (.call "_law_pull" [.v 0, .k (.int n)])) :: ss) ρ M E := by
  refine asg_w ?_
  rw [wE_sub]
  refine he _ (pull_at g1 (c := c) (b := b) (many := n) (fun K' hK => by rw [wEs_cons, wE_v]; refine ⟨_, h0, ?_⟩; simp only [↓wEs_cons, ↓wEs_nil, ↓wE_k]; exact hK) h1 (by omega) hc fun r M' hr0 hr1 hs => ?_)
  obtain ⟨l, hl, e⟩ := pickL L hr0 (by omega)
  rw [LL, s_lst]
  exact ⟨r, _, rfl, e, h l hl M' hs⟩
theorem v_plain {Γ : Gam} (g1 : Γ.fn "_law_pull" = some (2, sp_pull)) (g2 : Γ.fn "_law_part" = some (5, sp_part)) (ds : List D) (M : Mp) (Q : KD) (h : sp_lot ds M Q) : wpSs Γ b__law_plain (startD n__law_plain ds) M (Post Q) := by
  obtain ⟨c, b, many, rfl, hm1, hm2, hch, hQ⟩ := h
  have hρ : startD n__law_plain [.ref c, .int many] = [some (.ref c), some (.int many), none, none, none, none] := rfl
  rw [hρ]
  refine asg_pick g1 (c := c) (b := b) (L := [[1], [1, 2]]) rfl (fun K hK => by simp [↓wSs_nil, ↓wSs_cons, ↓wS_asg, ↓wS_par, ↓wS_set, ↓wS_aug, ↓wS_ex, ↓wS_ret, ↓wS_retN, ↓wS_ite, ↓wS_brk, ↓wS_cont, ↓wS_pass, ↓wE_v, ↓wE_k, ↓wE_g, ↓wE_bin, ↓wE_neg, ↓wE_cmp, ↓wE_isN, ↓wE_not, ↓wE_and1, ↓wE_and, ↓wE_or1, ↓wE_or, ↓wE_ite, ↓wE_tup, ↓wE_lst, ↓wE_lstM, ↓wE_dctM, ↓wE_sub, ↓wE_slc, ↓wE_isi, ↓wE_bi, ↓wE_mth, ↓wE_disp, ↓wE_lkeys, ↓wEs_nil, ↓wEs_cons, ↓wO_none, ↓wO_some, ↓wT_e, ↓wT_not, ↓wT_cmp, ↓wT_chain, ↓wT_isN, ↓wT_and1, ↓wT_and, ↓wT_or1, ↓wT_or, ↓wTo_none, ↓wTo_some, ↓wG_n, ↓wG_t, ↓wG_k, ↓wGs_nil, ↓wGs_cons, ↓wI_s, ↓wI_rng, sizeLine_eq]; exact hK) rfl (by omega) (by omega) hch fun bs hbs M1 h1 => ?_
  refine asg_pick g1 (c := c) (b := b) (L := [[1], [1, 2], [2]]) rfl (fun K hK => by simp [↓wSs_nil, ↓wSs_cons, ↓wS_asg, ↓wS_par, ↓wS_set, ↓wS_aug, ↓wS_ex, ↓wS_ret, ↓wS_retN, ↓wS_ite, ↓wS_brk, ↓wS_cont, ↓wS_pass, ↓wE_v, ↓wE_k, ↓wE_g, ↓wE_bin, ↓wE_neg, ↓wE_cmp, ↓wE_isN, ↓wE_not, ↓wE_and1, ↓wE_and, ↓wE_or1, ↓wE_or, ↓wE_ite, ↓wE_tup, ↓wE_lst, ↓wE_lstM, ↓wE_dctM, ↓wE_sub, ↓wE_slc, ↓wE_isi, ↓wE_bi, ↓wE_mth, ↓wE_disp, ↓wE_lkeys, ↓wEs_nil, ↓wEs_cons, ↓wO_none, ↓wO_some, ↓wT_e, ↓wT_not, ↓wT_cmp, ↓wT_chain, ↓wT_isN, ↓wT_and1, ↓wT_and, ↓wT_or1, ↓wT_or, ↓wTo_none, ↓wTo_some, ↓wG_n, ↓wG_t, ↓wG_k, ↓wGs_nil, ↓wGs_cons, ↓wI_s, ↓wI_rng, sizeLine_eq]; exact hK) rfl (by omega) (by omega) h1.1 fun gs hgs M2 h2 => ?_
  refine asg_w (pull_at g1 (c := c) (b := b) (many := 3) (fun K' hK => by simp only [↓wEs_cons, ↓wEs_nil, ↓wE_v, ↓wE_k]; exact ⟨_, rfl, hK⟩) (by omega) (by omega) h2.1 fun r M3 hr0 hr1 h3 => ?_)
  rw [wSs_cons, wS_ret]
  have hb : bs ≠ [] ∧ bs.length ≤ 100 ∧ ∀ x ∈ bs, 1 ≤ x ∧ x ≤ 6 := by
    simp at hbs; rcases hbs with rfl | rfl <;> simp
  have hg : gs ≠ [] ∧ gs.length ≤ 100 ∧ ∀ x ∈ gs, 1 ≤ x ∧ x ≤ 6 := by
    simp at hgs; rcases hgs with rfl | rfl | rfl <;> simp
  refine lot_comp g2 hb.1 hb.2.1 hb.2.2 hg.1 hg.2.1 hg.2.2 hr0 (by omega) hm2 h3.1 (fun d M4 K' hc4 hK => ?_) fun l M4 hl hp h4 => ret_of (hQ l M4 hl hp (((h1.trans h2).trans h3).trans h4))
  rw [wE_bin, wE_k]
  refine pull_at g1 (c := c) (b := b) (many := 2) (fun K' hK => by simp only [↓wEs_cons, ↓wEs_nil, ↓wE_v, ↓wE_k]; exact ⟨_, rfl, hK⟩) (by omega) (by omega) hc4 fun r M5 hr0 hr1 h5 => ?_
  rw [o_add]
  exact hK _ _ (by omega) (by omega) h5
theorem v_free {Γ : Gam} (g1 : Γ.fn "_law_pull" = some (2, sp_pull)) (g2 : Γ.fn "_law_part" = some (5, sp_part)) (ds : List D) (M : Mp) (Q : KD) (h : sp_lot ds M Q) : wpSs Γ b__law_free (startD n__law_free ds) M (Post Q) := by
  obtain ⟨c, b, many, rfl, hm1, hm2, hch, hQ⟩ := h
  have hρ : startD n__law_free [.ref c, .int many] = [some (.ref c), some (.int many), none, none, none, none] := rfl
  rw [hρ]
  refine asg_pick g1 (c := c) (b := b) (L := [[1, 2, 3, 4, 6], [2, 3], [3, 4], [4, 6], [6], [1]]) rfl (fun K hK => by simp [↓wSs_nil, ↓wSs_cons, ↓wS_asg, ↓wS_par, ↓wS_set, ↓wS_aug, ↓wS_ex, ↓wS_ret, ↓wS_retN, ↓wS_ite, ↓wS_brk, ↓wS_cont, ↓wS_pass, ↓wE_v, ↓wE_k, ↓wE_g, ↓wE_bin, ↓wE_neg, ↓wE_cmp, ↓wE_isN, ↓wE_not, ↓wE_and1, ↓wE_and, ↓wE_or1, ↓wE_or, ↓wE_ite, ↓wE_tup, ↓wE_lst, ↓wE_lstM, ↓wE_dctM, ↓wE_sub, ↓wE_slc, ↓wE_isi, ↓wE_bi, ↓wE_mth, ↓wE_disp, ↓wE_lkeys, ↓wEs_nil, ↓wEs_cons, ↓wO_none, ↓wO_some, ↓wT_e, ↓wT_not, ↓wT_cmp, ↓wT_chain, ↓wT_isN, ↓wT_and1, ↓wT_and, ↓wT_or1, ↓wT_or, ↓wTo_none, ↓wTo_some, ↓wG_n, ↓wG_t, ↓wG_k, ↓wGs_nil, ↓wGs_cons, ↓wI_s, ↓wI_rng, sizeLine_eq]; exact hK) rfl (by omega) (by omega) hch fun bs hbs M1 h1 => ?_
  refine asg_pick g1 (c := c) (b := b) (L := [[1, 2, 3, 4, 5, 6], [2, 3], [4, 6], [5, 6], [4], [1]]) rfl (fun K hK => by simp [↓wSs_nil, ↓wSs_cons, ↓wS_asg, ↓wS_par, ↓wS_set, ↓wS_aug, ↓wS_ex, ↓wS_ret, ↓wS_retN, ↓wS_ite, ↓wS_brk, ↓wS_cont, ↓wS_pass, ↓wE_v, ↓wE_k, ↓wE_g, ↓wE_bin, ↓wE_neg, ↓wE_cmp, ↓wE_isN, ↓wE_not, ↓wE_and1, ↓wE_and, ↓wE_or1, ↓wE_or, ↓wE_ite, ↓wE_tup, ↓wE_lst, ↓wE_lstM, ↓wE_dctM, ↓wE_sub, ↓wE_slc, ↓wE_isi, ↓wE_bi, ↓wE_mth, ↓wE_disp, ↓wE_lkeys, ↓wEs_nil, ↓wEs_cons, ↓wO_none, ↓wO_some, ↓wT_e, ↓wT_not, ↓wT_cmp, ↓wT_chain, ↓wT_isN, ↓wT_and1, ↓wT_and, ↓wT_or1, ↓wT_or, ↓wTo_none, ↓wTo_some, ↓wG_n, ↓wG_t, ↓wG_k, ↓wGs_nil, ↓wGs_cons, ↓wI_s, ↓wI_rng, sizeLine_eq]; exact hK) rfl (by omega) (by omega) h1.1 fun gs hgs M2 h2 => ?_
  have hb : bs ≠ [] ∧ bs.length ≤ 100 ∧ ∀ x ∈ bs, 1 ≤ x ∧ x ≤ 6 := by
    simp at hbs; rcases hbs with rfl | rfl | rfl | rfl | rfl | rfl <;> simp
  have hg : gs ≠ [] ∧ gs.length ≤ 100 ∧ ∀ x ∈ gs, 1 ≤ x ∧ x ≤ 6 := by
    simp at hgs; rcases hgs with rfl | rfl | rfl | rfl | rfl | rfl <;> simp
  refine wp_at 1 (fun ρ M5 => ∃ r : Int, 0 ≤ r ∧ r ≤ 9 ∧ ρ = [some (.ref c), some (.int many), some (.lst (bs.map D.int)), some (.lst (gs.map D.int)), some (.int r), none] ∧ ChS M2 M5 c b) ?_ ?_
  · show wpSs Γ [.asg _ _] _ _ _
    refine asg_w ?_
    rw [wE_sub, wE_tup, wEs_cons, wE_k, wEs_cons]
    refine pull_at g1 (c := c) (b := b) (many := 10) (fun K' hK => by simp only [↓wEs_cons, ↓wEs_nil, ↓wE_v, ↓wE_k]; exact ⟨_, rfl, hK⟩) (by omega) (by omega) h2.1 fun r M3 hr0 hr1 h3 => ?_
    rw [wEs_nil]
    refine ⟨sz (by simp), ?_⟩
    refine pull_at g1 (c := c) (b := b) (many := 2) (fun K' hK => by simp only [↓wEs_cons, ↓wEs_nil, ↓wE_v, ↓wE_k]; exact ⟨_, rfl, hK⟩) (by omega) (by omega) h3.1 fun k M4 hk0 hk1 h4 => ?_
    rw [s_tup]
    have : k = 0 ∨ k = 1 := by omega
    rcases this with rfl | rfl
    · refine ⟨0, _, rfl, atI_0, ?_⟩
      rw [wSs_nil]
      exact ⟨9, by omega, by omega, rfl, h3.trans h4⟩
    · refine ⟨1, _, rfl, atI_1, ?_⟩
      rw [wSs_nil]
      exact ⟨r, hr0, by omega, rfl, h3.trans h4⟩
  rintro ρ M3 ⟨r, hr0, hr9, rfl, h3⟩
  show wpSs Γ [.ret _] _ _ _
  rw [wSs_cons, wS_ret]
  refine lot_comp g2 hb.1 hb.2.1 hb.2.2 hg.1 hg.2.1 hg.2.2 hr0 hr9 hm2 h3.1 (fun d M4 K' hc4 hK => ?_) fun l M4 hl hp h4 => ret_of (hQ l M4 hl hp (((h1.trans h2).trans h3).trans h4))
  refine pull_at g1 (c := c) (b := b) (many := 6) (fun K' hK => by simp only [↓wEs_cons, ↓wEs_nil, ↓wE_v, ↓wE_k]; exact ⟨_, rfl, hK⟩) (by omega) (by omega) hc4 fun r M5 hr0 hr1 h5 => ?_
  exact hK _ _ (by omega) (by omega) h5
end K25
namespace K25
open PySem PySem.Spec L2 Vc
def specL (o f e : Mk) (h g : Int) : List Pt :=
  [.along 0 o e, .along 0 e o, .up o 0 1, .stamp [⟨0, 0, false⟩] o, .row [⟨0, 0, false⟩] 1 o e,
   .row [⟨0, 0, false⟩] 1 e o, .along 0 f e, .along 0 e f, .up f 0 1, .stamp [⟨0, 0, false⟩] f,
   .row [⟨0, 0, false⟩] 1 f e, .row [⟨0, 0, false⟩] 1 e f, .along h e e, .up e 0 h,
   .stamp [⟨0, 0, false⟩, ⟨1, h, false⟩] e, .stamp [⟨0, 0, false⟩, ⟨2, h - 1, true⟩] e, .row [⟨0, 0, false⟩] g e e,
   .row [⟨0, h, false⟩, ⟨4, 0, true⟩] 1 e e, .row [⟨0, h - 1, true⟩, ⟨3, 0, false⟩] 1 e e,
   .row [⟨0, 0, true⟩, ⟨0, h - 1, true⟩, ⟨1, 1, false⟩] g f o]
theorem specL_ok {o f e : Mk} {h g : Int} (ho : o.ok) (hf : f.ok) (he : e.ok) (h1 : 3 ≤ h) (h2 : h ≤ 5) (g1 : 3 ≤ g) (g2 : g ≤ 6) : ∀ p ∈ specL o f e h g, Pok p := by
  have uk : ∀ us : List Un, us ≠ [] → us.length ≤ 1000 → (∀ u ∈ us, 0 ≤ u.y) → 0 ≤ unTop us := fun us a b c => unTop_nn ⟨a, b, c⟩
  intro p hp
  simp only [specL, List.mem_cons, List.not_mem_nil, or_false] at hp
  rcases hp with rfl | rfl | rfl | rfl | rfl | rfl | rfl | rfl | rfl | rfl | rfl | rfl | rfl | rfl | rfl | rfl | rfl | rfl | rfl | rfl <;>
    refine ⟨⟨by simp [Pt.uok], fun k hk => by simp [Pt.marks] at hk; first | (rcases hk with rfl | rfl <;> assumption) | (subst hk; assumption), by simp <;> omega⟩, ?_⟩ <;>
    first | (show (0 : Int) ≤ _; simp [Pt.top]; done) | (simp only [Pt.top]; omega) | (simp only [Pt.top]; exact uk _ (by simp) (by simp) (fun u hu => by simp at hu; first | (rcases hu with rfl | rfl | rfl <;> simp <;> omega) | (rcases hu with rfl | rfl <;> simp <;> omega) | (subst hu; simp)))
def sp_special : CSp := fun ds M K => ∃ c b : Addr, ds = [.ref c] ∧ Chest M c b ∧ ∀ p M', Pok p → ChS M M' c b → K p.d M'
theorem v_special {Γ : Gam} (g1 : Γ.fn "_law_pull" = some (2, sp_pull)) (ds : List D) (M : Mp) (Q : KD) (h : sp_special ds M Q) : wpSs Γ b__law_special (startD n__law_special ds) M (Post Q) := by
  obtain ⟨c, b, rfl, hch, hQ⟩ := h
  have hρ : startD n__law_special [.ref c] = [some (.ref c), none, none, none, none, none, none, none, none] := rfl
  rw [hρ]
  have pl : ∀ {ρ : Env'} {M : Mp} {K : KD} {n : Int}, ρ[0]? = some (some (.ref c)) → 1 ≤ n → n ≤ 100 → Chest M c b → (∀ r M', 0 ≤ r → r < n → ChS M M' c b → K (.int r) M') → wpE Γ (.call "_law_pull" [.v 0, .k (.int n)]) ρ M K := fun {ρ M K n} h0 h1 h2 hc hK =>
    pull_at g1 (c := c) (b := b) (many := n) (fun K' hK => by rw [wEs_cons, wE_v]; refine ⟨_, h0, ?_⟩; simp only [↓wEs_cons, ↓wEs_nil, ↓wE_k]; exact hK) h1 (by omega) hc hK
  have en : Mk.ok ⟨1, 1, 0⟩ := ⟨by decide, by decide, by decide, by decide⟩
  refine wp_at 7 (fun ρ M1 => ∃ (bt : Int) (o f : Mk) (h g : Int), o.ok ∧ f.ok ∧ 3 ≤ h ∧ h ≤ 5 ∧ 3 ≤ g ∧ g ≤ 6 ∧ ρ = [some (.ref c), some (.int bt), some o.d, some f.d, some (Mk.d ⟨1, 1, 0⟩), some (.tup [Un.d ⟨0, 0, false⟩]), some (.int h), some (.int g), none] ∧ ChS M M1 c b) ?_ ?_
  · show wpSs Γ [.asg _ _, .asg _ _, .asg _ _, .asg _ _, .asg _ _, .asg _ _, .asg _ _] _ _ _
    refine asg_w ?_
    rw [wE_sub]
    have e3 : ∀ K : KD, K (.tup ([3, 4, 6].map D.int)) M → wpE Γ (.tup [.k (.int 3), .k (.int 4), .k (.int 6)]) [some (.ref c), none, none, none, none, none, none, none, none] M K := fun K hK => by simp [↓wSs_nil, ↓wSs_cons, ↓wS_asg, ↓wS_par, ↓wS_set, ↓wS_aug, ↓wS_ex, ↓wS_ret, ↓wS_retN, ↓wS_ite, ↓wS_brk, ↓wS_cont, ↓wS_pass, ↓wE_v, ↓wE_k, ↓wE_g, ↓wE_bin, ↓wE_neg, ↓wE_cmp, ↓wE_isN, ↓wE_not, ↓wE_and1, ↓wE_and, ↓wE_or1, ↓wE_or, ↓wE_ite, ↓wE_tup, ↓wE_lst, ↓wE_lstM, ↓wE_dctM, ↓wE_sub, ↓wE_slc, ↓wE_isi, ↓wE_bi, ↓wE_mth, ↓wE_disp, ↓wE_lkeys, ↓wEs_nil, ↓wEs_cons, ↓wO_none, ↓wO_some, ↓wT_e, ↓wT_not, ↓wT_cmp, ↓wT_chain, ↓wT_isN, ↓wT_and1, ↓wT_and, ↓wT_or1, ↓wT_or, ↓wTo_none, ↓wTo_some, ↓wG_n, ↓wG_t, ↓wG_k, ↓wGs_nil, ↓wGs_cons, ↓wI_s, ↓wI_rng, sizeLine_eq]; exact hK
    refine e3 _ (pl rfl (by omega) (by omega) hch fun r M1 hr0 hr1 h1 => ?_)
    obtain ⟨bt, hbt, e⟩ := pick [3, 4, 6] hr0 (by simpa using hr1)
    rw [s_tup]
    refine ⟨r, _, rfl, e, ?_⟩
    have hbt' : 1 ≤ bt ∧ bt ≤ 6 := by simp at hbt; omega
    refine asg_n (d := Mk.d ⟨1, bt, 0⟩) (fun K hK => by simp [↓wSs_nil, ↓wSs_cons, ↓wS_asg, ↓wS_par, ↓wS_set, ↓wS_aug, ↓wS_ex, ↓wS_ret, ↓wS_retN, ↓wS_ite, ↓wS_brk, ↓wS_cont, ↓wS_pass, ↓wE_v, ↓wE_k, ↓wE_g, ↓wE_bin, ↓wE_neg, ↓wE_cmp, ↓wE_isN, ↓wE_not, ↓wE_and1, ↓wE_and, ↓wE_or1, ↓wE_or, ↓wE_ite, ↓wE_tup, ↓wE_lst, ↓wE_lstM, ↓wE_dctM, ↓wE_sub, ↓wE_slc, ↓wE_isi, ↓wE_bi, ↓wE_mth, ↓wE_disp, ↓wE_lkeys, ↓wEs_nil, ↓wEs_cons, ↓wO_none, ↓wO_some, ↓wT_e, ↓wT_not, ↓wT_cmp, ↓wT_chain, ↓wT_isN, ↓wT_and1, ↓wT_and, ↓wT_or1, ↓wT_or, ↓wTo_none, ↓wTo_some, ↓wG_n, ↓wG_t, ↓wG_k, ↓wGs_nil, ↓wGs_cons, ↓wI_s, ↓wI_rng, sizeLine_eq]; exact hK) ?_
    refine asg_w ?_
    rw [wE_tup, wEs_cons, wE_k, wEs_cons, wE_k, wEs_cons, wE_sub]
    have e4 : ∀ (ρ : Env') (K : KD), K (.tup ([9, -9, 3, -3].map D.int)) M1 → wpE Γ (.tup [.k (.int 9), .neg (.k (.int 9)), .k (.int 3), .neg (.k (.int 3))]) ρ M1 K := fun ρ K hK => by simp [↓wSs_nil, ↓wSs_cons, ↓wS_asg, ↓wS_par, ↓wS_set, ↓wS_aug, ↓wS_ex, ↓wS_ret, ↓wS_retN, ↓wS_ite, ↓wS_brk, ↓wS_cont, ↓wS_pass, ↓wE_v, ↓wE_k, ↓wE_g, ↓wE_bin, ↓wE_neg, ↓wE_cmp, ↓wE_isN, ↓wE_not, ↓wE_and1, ↓wE_and, ↓wE_or1, ↓wE_or, ↓wE_ite, ↓wE_tup, ↓wE_lst, ↓wE_lstM, ↓wE_dctM, ↓wE_sub, ↓wE_slc, ↓wE_isi, ↓wE_bi, ↓wE_mth, ↓wE_disp, ↓wE_lkeys, ↓wEs_nil, ↓wEs_cons, ↓wO_none, ↓wO_some, ↓wT_e, ↓wT_not, ↓wT_cmp, ↓wT_chain, ↓wT_isN, ↓wT_and1, ↓wT_and, ↓wT_or1, ↓wT_or, ↓wTo_none, ↓wTo_some, ↓wG_n, ↓wG_t, ↓wG_k, ↓wGs_nil, ↓wGs_cons, ↓wI_s, ↓wI_rng, sizeLine_eq]; exact hK
    refine e4 _ _ (pl rfl (by omega) (by omega) h1.1 fun r2 M2 hr20 hr21 h2 => ?_)
    obtain ⟨m, hm, e⟩ := pick [9, -9, 3, -3] hr20 (by simpa using hr21)
    rw [s_tup]
    refine ⟨r2, _, rfl, e, ?_⟩
    have hm' : -9 ≤ m ∧ m ≤ 9 := by simp at hm; omega
    rw [wEs_nil]
    refine ⟨sz (by simp), ?_⟩
    refine asg_n (d := Mk.d ⟨1, 1, 0⟩) (fun K hK => by simp [↓wSs_nil, ↓wSs_cons, ↓wS_asg, ↓wS_par, ↓wS_set, ↓wS_aug, ↓wS_ex, ↓wS_ret, ↓wS_retN, ↓wS_ite, ↓wS_brk, ↓wS_cont, ↓wS_pass, ↓wE_v, ↓wE_k, ↓wE_g, ↓wE_bin, ↓wE_neg, ↓wE_cmp, ↓wE_isN, ↓wE_not, ↓wE_and1, ↓wE_and, ↓wE_or1, ↓wE_or, ↓wE_ite, ↓wE_tup, ↓wE_lst, ↓wE_lstM, ↓wE_dctM, ↓wE_sub, ↓wE_slc, ↓wE_isi, ↓wE_bi, ↓wE_mth, ↓wE_disp, ↓wE_lkeys, ↓wEs_nil, ↓wEs_cons, ↓wO_none, ↓wO_some, ↓wT_e, ↓wT_not, ↓wT_cmp, ↓wT_chain, ↓wT_isN, ↓wT_and1, ↓wT_and, ↓wT_or1, ↓wT_or, ↓wTo_none, ↓wTo_some, ↓wG_n, ↓wG_t, ↓wG_k, ↓wGs_nil, ↓wGs_cons, ↓wI_s, ↓wI_rng, sizeLine_eq]; exact hK) ?_
    refine asg_n (d := .tup [Un.d ⟨0, 0, false⟩]) (fun K hK => by simp [↓wSs_nil, ↓wSs_cons, ↓wS_asg, ↓wS_par, ↓wS_set, ↓wS_aug, ↓wS_ex, ↓wS_ret, ↓wS_retN, ↓wS_ite, ↓wS_brk, ↓wS_cont, ↓wS_pass, ↓wE_v, ↓wE_k, ↓wE_g, ↓wE_bin, ↓wE_neg, ↓wE_cmp, ↓wE_isN, ↓wE_not, ↓wE_and1, ↓wE_and, ↓wE_or1, ↓wE_or, ↓wE_ite, ↓wE_tup, ↓wE_lst, ↓wE_lstM, ↓wE_dctM, ↓wE_sub, ↓wE_slc, ↓wE_isi, ↓wE_bi, ↓wE_mth, ↓wE_disp, ↓wE_lkeys, ↓wEs_nil, ↓wEs_cons, ↓wO_none, ↓wO_some, ↓wT_e, ↓wT_not, ↓wT_cmp, ↓wT_chain, ↓wT_isN, ↓wT_and1, ↓wT_and, ↓wT_or1, ↓wT_or, ↓wTo_none, ↓wTo_some, ↓wG_n, ↓wG_t, ↓wG_k, ↓wGs_nil, ↓wGs_cons, ↓wI_s, ↓wI_rng, sizeLine_eq]; exact hK) ?_
    refine asg_w ?_
    rw [wE_bin, wE_k]
    refine pl rfl (by omega) (by omega) h2.1 fun r3 M3 hr30 hr31 h3 => ?_
    rw [o_add]
    refine asg_w ?_
    rw [wE_bin, wE_k]
    refine pl rfl (by omega) (by omega) h3.1 fun r4 M4 hr40 hr41 h4 => ?_
    rw [o_add, wSs_nil]
    exact ⟨bt, ⟨1, bt, 0⟩, ⟨0, 1, m⟩, 3 + r3, 3 + r4, ⟨hbt'.1, hbt'.2, by dsimp only; omega, by dsimp only; omega⟩, ⟨by dsimp only; omega, by dsimp only; omega, hm'.1, hm'.2⟩, by omega, by omega, by omega, by omega, rfl, (((h1.trans h2).trans h3).trans h4)⟩
  rintro ρ M1 ⟨bt, o, f, hh, gg, ho, hf, i1, i2, i3, i4, rfl, h1⟩
  refine wp_at 6 (fun ρ M2 => ρ = [some (.ref c), some (.int bt), some o.d, some f.d, some (Mk.d ⟨1, 1, 0⟩), some (.tup [Un.d ⟨0, 0, false⟩]), some (.int hh), some (.int gg), some (.lst ((specL o f ⟨1, 1, 0⟩ hh gg).map Pt.d))] ∧ M2 = M1) ?_ ?_
  · simp [b__law_special, ↓wSs_nil, ↓wSs_cons, ↓wS_asg, ↓wS_par, ↓wS_set, ↓wS_aug, ↓wS_ex, ↓wS_ret, ↓wS_retN, ↓wS_ite, ↓wS_brk, ↓wS_cont, ↓wS_pass, ↓wE_v, ↓wE_k, ↓wE_g, ↓wE_bin, ↓wE_neg, ↓wE_cmp, ↓wE_isN, ↓wE_not, ↓wE_and1, ↓wE_and, ↓wE_or1, ↓wE_or, ↓wE_ite, ↓wE_tup, ↓wE_lst, ↓wE_lstM, ↓wE_dctM, ↓wE_sub, ↓wE_slc, ↓wE_isi, ↓wE_bi, ↓wE_mth, ↓wE_disp, ↓wE_lkeys, ↓wEs_nil, ↓wEs_cons, ↓wO_none, ↓wO_some, ↓wT_e, ↓wT_not, ↓wT_cmp, ↓wT_chain, ↓wT_isN, ↓wT_and1, ↓wT_and, ↓wT_or1, ↓wT_or, ↓wTo_none, ↓wTo_some, ↓wG_n, ↓wG_t, ↓wG_k, ↓wGs_nil, ↓wGs_cons, ↓wI_s, ↓wI_rng, o_catl, o_catt, o_sub, sizeLine_eq]
    rfl
  rintro ρ M2 ⟨rfl, rfl⟩
  show wpSs Γ [.ret _] _ _ _
  rw [wSs_cons, wS_ret, wE_sub, wE_v]
  refine ⟨_, rfl, pull_at g1 (c := c) (b := b) (many := 20) (fun K' hK => by simp only [↓wEs_cons, ↓wEs_nil, ↓wE_v, ↓wE_bi]; exact ⟨_, rfl, _, rfl, by rw [b_lenl]; exact hK⟩) (by omega) (by omega) h1.1 fun r M3 hr0 hr1 h2 => ?_⟩
  rw [s_lst]
  have hl : r < ((specL o f ⟨1, 1, 0⟩ hh gg).map Pt.d).length := by simpa [specL] using hr1
  obtain ⟨v, hv, e⟩ := pickD' _ hr0 hl
  obtain ⟨p, hp, rfl⟩ := List.mem_map.mp hv
  exact ⟨r, _, rfl, e, ret_of (hQ p M3 (specL_ok ho hf en i1 i2 i3 i4 p hp) (h1.trans h2))⟩
end K25
namespace K25
open PySem PySem.Spec L2 Vc
theorem py_un (u : Un) : u.d.py = some (.tuple [.int u.x, .int u.y, .str u.w]) := by
  simp [Un.d, D.py, pys]
theorem pyD_un (u : Un) : pyD u.d = .tuple [.int u.x, .int u.y, .str u.w] := by rw [pyD, py_un]; rfl
theorem alike_un (u v : Un) : PySem.W.alike (pyD u.d) (pyD v.d) = true := by
  rw [pyD_un, pyD_un]
  simp [PySem.W.alike, PySem.W.alikeAll]
theorem sort_un {us : List Un} (hl : us.length ≤ 1000) : sortable ((us.map Un.d).map pyD) := by
  refine ⟨fun p hp q hq => ?_, .inl fun p hp => ?_, fun p hp => ?_, ?_⟩
  · obtain ⟨d, hd, rfl⟩ := List.mem_map.mp hp
    obtain ⟨u, _, rfl⟩ := List.mem_map.mp hd
    obtain ⟨d, hd, rfl⟩ := List.mem_map.mp hq
    obtain ⟨v, _, rfl⟩ := List.mem_map.mp hd
    exact alike_un u v
  · obtain ⟨d, hd, rfl⟩ := List.mem_map.mp hp
    obtain ⟨u, _, rfl⟩ := List.mem_map.mp hd
    exact ⟨_, _, pyD_un u⟩
  · obtain ⟨d, hd, rfl⟩ := List.mem_map.mp hp
    obtain ⟨u, _, rfl⟩ := List.mem_map.mp hd
    rw [pyD_un]
    simp [PyData.depth, PyData.depthAll]
  · rw [List.length_map, List.length_map]; exact sz (by omega)
theorem ex_un : ∀ {l : List D} {P : Un → Prop}, (∀ d ∈ l, ∃ u, d = Un.d u ∧ P u) → ∃ us : List Un, l = us.map Un.d ∧ ∀ u ∈ us, P u
  | [], _, _ => ⟨[], rfl, by simp⟩
  | d :: l, P, h => by
    obtain ⟨u, e, hu⟩ := h d (by simp)
    obtain ⟨us, e2, h2⟩ := ex_un (l := l) (P := P) fun x hx => h x (by simp [hx])
    exact ⟨u :: us, by rw [e, e2]; rfl, fun x hx => by
      rcases List.mem_cons.mp hx with rfl | hx
      · exact hu
      · exact h2 x hx⟩
theorem b_sort_un {us : List Un} {M : Mp} {K : KD} (h : Uok us) (hK : ∀ vs : List Un, Uok vs → K (.lst (vs.map Un.d)) M) : biD "sorted" [.lst (us.map Un.d)] M K := by
  refine ⟨_, us.map Un.d, rfl, rfl, fun x hx => ?_, sort_un h.2.1, ?_⟩
  · obtain ⟨u, _, rfl⟩ := List.mem_map.mp hx
    rw [py_un]; rfl
  · have hm : ∀ d ∈ sortD (us.map Un.d), ∃ u, d = Un.d u ∧ 0 ≤ u.y := fun d hd => by
      unfold sortD at hd
      rw [List.mem_mergeSort] at hd
      obtain ⟨u, hu, rfl⟩ := List.mem_map.mp hd
      exact ⟨u, rfl, h.2.2 u hu⟩
    obtain ⟨vs, e, hv⟩ := ex_un hm
    have hl : vs.length = us.length := by
      have := congrArg List.length e
      unfold sortD at this
      rw [List.length_mergeSort, List.length_map, List.length_map] at this
      exact this.symm
    rw [e]
    refine hK vs ⟨fun z => ?_, by rw [hl]; exact h.2.1, hv⟩
    subst z
    exact h.1 (List.eq_nil_of_length_eq_zero hl.symm)
end K25
namespace K25
open PySem PySem.Spec L2 Vc
/-- a dict of units -/
def UD (n : Nat) (kvs : List (D × D)) : Prop := ∃ us : List Un, keysOf kvs = us.map Un.d ∧ us.length ≤ n ∧ ∀ u ∈ us, 0 ≤ u.y
theorem UD.len {n : Nat} {kvs : List (D × D)} (h : UD n kvs) : kvs.length ≤ n := by
  obtain ⟨us, e, h1, _⟩ := h
  have := congrArg List.length e
  rw [keysOf, List.length_map, List.length_map] at this
  omega
theorem UD.mono {n m : Nat} {kvs : List (D × D)} (h : UD n kvs) (l : n ≤ m) : UD m kvs := let ⟨us, e, h1, h2⟩ := h; ⟨us, e, by omega, h2⟩
theorem UD.put {n : Nat} {kvs : List (D × D)} (h : UD n kvs) {u : Un} (hu : 0 ≤ u.y) (d : D) : UD (n + 1) (putD true kvs u.d d) := by
  obtain ⟨us, e, h1, h2⟩ := h
  unfold putD
  split
  · refine ⟨us, ?_, by omega, h2⟩
    rw [← e, keysOf, keysOf, List.map_map]
    refine List.map_congr_left fun kv _ => ?_
    simp only [Function.comp]
    split <;> rfl
  · refine ⟨us ++ [u], ?_, by simp; omega, fun x hx => ?_⟩
    · rw [keysOf, List.map_append, List.map_append, ← e]; rfl
    · rcases List.mem_append.mp hx with hx | hx
      · exact h2 x hx
      · simp at hx; subst hx; exact hu
theorem okK_un (u : Un) : okK true u.d := by
  unfold okK Un.d
  simp [tkeyD, keysD, keyD]
end K25
namespace K25
open PySem PySem.Spec L2 Vc
def USt (M M2 : Mp) (c b k : Addr) (n : Nat) : Prop := ∃ kvs, M2 k = some (.dct true kvs) ∧ UD n kvs ∧ Chest M2 c b ∧ ∀ a, a ≠ c → a ≠ b → a ≠ k → M2 a = M a
theorem USt.pull {M M2 M3 : Mp} {c b k : Addr} {n : Nat} (h : USt M M2 c b k n) (hc : k ≠ c) (hb : k ≠ b) (s : ChS M2 M3 c b) : USt M M3 c b k n := by
  obtain ⟨kvs, h1, h2, h3, h4⟩ := h
  exact ⟨kvs, (s.2 k hc hb).trans h1, h2, s.1, fun a a1 a2 a3 => (s.2 a a1 a2).trans (h4 a a1 a2 a3)⟩
theorem USt.mono {M M2 : Mp} {c b k : Addr} {n m : Nat} (h : USt M M2 c b k n) (l : n ≤ m) : USt M M2 c b k m := by
  obtain ⟨kvs, h1, h2, h3⟩ := h
  exact ⟨kvs, h1, h2.mono l, h3⟩
theorem Chest.mu {M : Mp} {c b k : Addr} {o : MO} (h : Chest M c b) (hc : k ≠ c) (hb : k ≠ b) : Chest (mu M k o) c b := by
  obtain ⟨h1, ns, l, n, h2, h3⟩ := h
  exact ⟨h1, ns, l, n, (mu_ne hc.symm).trans h2, (mu_ne hb.symm).trans h3⟩
theorem put_ne {t : Bool} {kvs : List (D × D)} {x d : D} : putD t kvs x d ≠ [] := by
  unfold putD
  split
  · next h => intro z; rw [List.map_eq_nil_iff.mp z] at h; cases h
  · simp
theorem set_un {M M2 : Mp} {c b k : Addr} {n : Nat} (h : USt M M2 c b k n) (hc : k ≠ c) (hb : k ≠ b) (hn : n ≤ 100) {u : Un} (hu : 0 ≤ u.y) {d : D} {L : Mp → Prop} (hL : ∀ M3, USt M M3 c b k (n + 1) → M3 k ≠ some (.dct true []) → L M3) : setD (.ref k) u.d d M2 L := by
  obtain ⟨kvs, h1, h2, h3, h4⟩ := h
  rw [setD_d h1]
  refine ⟨okK_un u, by have := h2.len; rw [sizeLine_eq]; omega, hL _ ⟨_, mu_same, h2.put hu d, h3.mu hc hb, fun a a1 a2 a3 => (mu_ne a3).trans (h4 a a1 a2 a3)⟩ fun z => put_ne (MO.dct.inj (Option.some.inj (mu_same.symm.trans z))).2⟩
theorem ru_at {r : Int} (h0 : 0 ≤ r) (h1 : r < 2) {M : Mp} {K : KD} (hK : ∀ u : Bool, K (.str (if u = true then "u" else "r")) M) : subD (.str "ru") (.int r) M K := by
  rw [s_str]
  have : r = 0 ∨ r = 1 := by omega
  rcases this with rfl | rfl
  · exact ⟨0, _, rfl, by decide +kernel, rfl, hK false⟩
  · exact ⟨1, _, rfl, by decide +kernel, rfl, hK true⟩
theorem v_units {Γ : Gam} (g1 : Γ.fn "_law_pull" = some (2, sp_pull)) (ds : List D) (M : Mp) (Q : KD) (h : sp_units ds M Q) : wpSs Γ b__law_units (startD n__law_units ds) M (Post Q) := by
  obtain ⟨c, b, top, rfl, ht0, ht9, hch, hQ⟩ := h
  have hρ : startD n__law_units [.ref c, .int top] = [some (.ref c), some (.int top), none, none, none, none] := rfl
  rw [hρ]
  have pl : ∀ {ρ : Env'} {M : Mp} {K : KD} {n : Int}, ρ[0]? = some (some (.ref c)) → 1 ≤ n → n ≤ 100 → Chest M c b → (∀ r M', 0 ≤ r → r < n → ChS M M' c b → K (.int r) M') → wpE Γ (.call "_law_pull" [.v 0, .k (.int n)]) ρ M K := fun {ρ M K n} h0 h1 h2 hc hK =>
    pull_at g1 (c := c) (b := b) (many := n) (fun K' hK => by rw [wEs_cons, wE_v]; refine ⟨_, h0, ?_⟩; simp only [↓wEs_cons, ↓wEs_nil, ↓wE_k]; exact hK) h1 (by omega) hc hK
  refine asg_w ?_
  rw [wE_dctM]
  intro k hk
  obtain ⟨hkc, hkb⟩ := ChS.ne hch hk
  have hst : USt M (mu M k (.dct true [])) c b k 0 := ⟨[], mu_same, ⟨[], rfl, by simp, by simp⟩, hch.mu hkc hkb, fun a _ _ h => mu_ne h⟩
  generalize mu M k (.dct true []) = M1 at hst ⊢
  refine wp_at 1 (fun ρ M2 => ∃ x3 x4 x5, ρ = [some (.ref c), some (.int top), some (.ref k), x3, x4, x5] ∧ USt M M2 c b k 20) ?_ ?_
  · show wpSs Γ [.for_ _ (.rng [.sub _ _]) _] _ _ _
    have e1 : ∀ K : List D → (Mp → Prop) → Mp → Prop, (∀ (n : Nat) M', n ≤ 12 → ChS M1 M' c b → K ((List.range n).map fun (i : Nat) => D.int (i : Int)) (fun _ => True) M') → wpI Γ (.rng [.sub (.tup [.k (.int 1), .bin .Add (.k (.int 1)) (.call "_law_pull" [.v 0, .k (.int 12)])]) (.call "_law_pull" [.v 0, .k (.int 2)])]) [some (.ref c), some (.int top), some (.ref k), none, none, none] M1 K := fun K hK => by
      obtain ⟨_, _, _, hc1, _⟩ := id hst
      rw [wI_rng, wEs_cons, wE_sub, wE_tup, wEs_cons, wE_k, wEs_cons, wE_bin, wE_k]
      refine pl rfl (by omega) (by omega) hc1 fun r M3 hr0 hr1 h3 => ?_
      rw [o_add, wEs_nil]
      refine ⟨sz (by simp), pl rfl (by omega) (by omega) h3.1 fun s M4 hs0 hs1 h4 => ?_⟩
      rw [s_tup]
      have : s = 0 ∨ s = 1 := by omega
      rcases this with rfl | rfl
      · refine ⟨0, _, rfl, atI_0, ?_⟩
        rw [wEs_nil, rg_1]
        have q := hK 1 M4 (by omega) (h3.trans h4)
        rw [← rangeD_nat] at q
        exact ⟨by omega, q⟩
      · refine ⟨1, _, rfl, atI_1, ?_⟩
        rw [wEs_nil, rg_1]
        have q := hK (1 + r).toNat M4 (by omega) (h3.trans h4)
        rw [← rangeD_nat, show (((1 + r).toNat : Nat) : Int) = 1 + r by omega] at q
        exact ⟨by omega, q⟩
    rw [wpSs, wpS]
    refine e1 _ fun n M' hn hs => ?_
    refine forL_inv (fun x ρ M N N' m q => wpG_mono _ x ρ M _ _ (fun ρ1 q => wpSs_mono Γ _ ρ1 M ⟨N, _, _, N⟩ ⟨N', _, _, N'⟩ ⟨m, fun _ _ z => z, fun _ _ z => z, m⟩ q) q) _ (fun i ρ M2 => i ≤ 12 → ∃ x3 x4 x5, ρ = [some (.ref c), some (.int top), some (.ref k), x3, x4, x5] ∧ USt M M2 c b k i) (fun _ _ _ _ => trivial) (fun i x ρ M2 hx hI => ?_) (fun ρ M2 hI => ?_) _ 0 _ _ rfl (fun _ => ⟨none, none, none, rfl, hst.pull hkc hkb hs⟩) (by simp)
    · obtain ⟨hi, _⟩ := List.getElem?_eq_some_iff.mp hx
      rw [List.length_map, List.length_range] at hi
      obtain ⟨x3, x4, x5, rfl, hu⟩ := hI (by omega)
      obtain ⟨kvs, _, _, hc1, _⟩ := id hu
      rw [wG_n]
      refine asg_w ?_
      rw [wE_sub, wE_k]
      refine pl rfl (by omega) (by omega) hc1 fun r M3 hr0 hr1 h3 => ?_
      refine ru_at hr0 hr1 fun u => ?_
      refine asg_n (d := .int (top + 1 - if u = true then 1 else 0)) (fun K hK => ?_) ?_
      · have e : (if decide ((if u = true then ("u" : Str) else "r") = "u") = true then (1 : Int) else 0) = if u = true then 1 else 0 := by
          cases u
          · rw [if_neg (by decide), if_neg (by decide)]
          · rw [if_pos (by decide), if_pos rfl]
        rw [← e] at hK
        simp [↓wSs_nil, ↓wSs_cons, ↓wS_asg, ↓wS_par, ↓wS_set, ↓wS_aug, ↓wS_ex, ↓wS_ret, ↓wS_retN, ↓wS_ite, ↓wS_brk, ↓wS_cont, ↓wS_pass, ↓wE_v, ↓wE_k, ↓wE_g, ↓wE_bin, ↓wE_neg, ↓wE_cmp, ↓wE_isN, ↓wE_not, ↓wE_and1, ↓wE_and, ↓wE_or1, ↓wE_or, ↓wE_ite, ↓wE_tup, ↓wE_lst, ↓wE_lstM, ↓wE_dctM, ↓wE_sub, ↓wE_slc, ↓wE_isi, ↓wE_bi, ↓wE_mth, ↓wE_disp, ↓wE_lkeys, ↓wEs_nil, ↓wEs_cons, ↓wO_none, ↓wO_some, ↓wT_e, ↓wT_not, ↓wT_cmp, ↓wT_chain, ↓wT_isN, ↓wT_and1, ↓wT_and, ↓wT_or1, ↓wT_or, ↓wTo_none, ↓wTo_some, ↓wG_n, ↓wG_t, ↓wG_k, ↓wGs_nil, ↓wGs_cons, ↓wI_s, ↓wI_rng, o_add, o_sub, o_eqs, b_intb] at hK ⊢
        exact hK
      by_cases hp : 0 < top + 1 - if u = true then (1 : Int) else 0
      · refine ite_T (fun B hB => by simp only [↓wT_cmp, ↓wE_v, ↓wE_k]; exact ⟨_, rfl, by rw [o_gt, decide_eq_true hp]; exact hB⟩) ?_
        show wpSs Γ (.set _ _ _ :: _) _ _ _
        rw [wSs_cons, wS_set, wE_k, wE_v]
        refine ⟨_, rfl, ?_⟩
        rw [wE_tup, wEs_cons]
        refine pl rfl (by omega) (by omega) h3.1 fun r1 M4 hr10 hr11 h4 => ?_
        rw [wEs_cons]
        refine pull_at g1 (c := c) (b := b) (many := top + 1 - if u = true then (1 : Int) else 0) (fun K' hK => by simp only [↓wEs_cons, ↓wEs_nil, ↓wE_v]; exact ⟨_, rfl, _, rfl, hK⟩) (by omega) (by split <;> omega) h4.1 fun r2 M5 hr20 hr21 h5 => ?_
        rw [wEs_cons, wE_v]
        refine ⟨_, rfl, ?_⟩
        rw [wEs_nil]
        refine ⟨sz (by simp), ?_⟩
        exact set_un (u := ⟨r1, r2, u⟩) (((hu.pull hkc hkb h3).pull hkc hkb h4).pull hkc hkb h5) hkc hkb (by omega) hr20 fun M6 h6 _ => by
          show wpSs Γ [] _ _ _
          rw [wSs_nil]
          exact fun _ => ⟨_, _, _, rfl, h6⟩
      · refine ite_F (fun B hB => by simp only [↓wT_cmp, ↓wE_v, ↓wE_k]; exact ⟨_, rfl, by rw [o_gt, decide_eq_false hp]; exact hB⟩) ?_
        show wpSs Γ [] _ _ _
        rw [wSs_nil]
        exact fun _ => ⟨_, _, _, rfl, (hu.pull hkc hkb h3).mono (by omega)⟩
    · rw [List.length_map, List.length_range] at hI
      obtain ⟨x3, x4, x5, e, h⟩ := hI hn
      dsimp only
      rw [wSs_nil]
      exact ⟨x3, x4, x5, e, h.mono (by omega)⟩
  rintro ρ M2 ⟨x3, x4, x5, rfl, h2⟩
  have fin : ∀ (M3 : Mp) (kvs : List (D × D)), M3 k = some (.dct true kvs) → UD 21 kvs → kvs ≠ [] → Chest M3 c b → (∀ a, a ≠ c → a ≠ b → a ≠ k → M3 a = M a) → wpSs Γ [.ret (.bi "tuple" [.bi "sorted" [.lkeys (.v 2)]])] [some (.ref c), some (.int top), some (.ref k), x3, x4, x5] M3 (Post Q) := fun M3 kvs e1 e2 e3 e4 e5 => by
    obtain ⟨us, e, hl, hy⟩ := e2
    rw [wSs_cons, wS_ret, wE_bi, wEs_cons, wE_bi, wEs_cons, wE_lkeys, wE_v]
    refine ⟨_, rfl, kvs, by unfold look; simp only [e1], ?_⟩
    rw [wEs_nil, e]
    refine b_sort_un ⟨fun z => ?_, by omega, hy⟩ fun vs hv => ?_
    · subst z
      cases kvs with
      | nil => exact e3 rfl
      | cons => cases e
    · rw [wEs_nil, b_tupl]
      refine ret_fz (fun a => (M a).isSome) 0 ?_
      rw [fzD]
      refine hQ vs _ hv ⟨?_, fun a a1 a2 => ?_⟩
      · obtain ⟨z1, ns, l, n, z2, z3⟩ := e4
        obtain ⟨_, _, _, _, y2, y3⟩ := hch
        exact ⟨z1, ns, l, n, by unfold cutM; rw [if_pos (show (M c).isSome = true by rw [y2]; rfl)]; exact z2, by unfold cutM; rw [if_pos (show (M b).isSome = true by rw [y3]; rfl)]; exact z3⟩
      · unfold cutM
        by_cases q : (M a).isSome = true
        · rw [if_pos q]
          exact e5 a a1 a2 (fun z => by subst z; rw [hk] at q; cases q)
        · rw [if_neg q]
          cases e : M a with
          | none => rfl
          | some o => exact absurd (by rw [e]; rfl) q
  obtain ⟨kvs, e1, e2, e3, e4⟩ := id h2
  by_cases h0 : kvs.length = 0
  · refine ite_T (fun B hB => by simp [↓wSs_nil, ↓wSs_cons, ↓wS_asg, ↓wS_par, ↓wS_set, ↓wS_aug, ↓wS_ex, ↓wS_ret, ↓wS_retN, ↓wS_ite, ↓wS_brk, ↓wS_cont, ↓wS_pass, ↓wE_v, ↓wE_k, ↓wE_g, ↓wE_bin, ↓wE_neg, ↓wE_cmp, ↓wE_isN, ↓wE_not, ↓wE_and1, ↓wE_and, ↓wE_or1, ↓wE_or, ↓wE_ite, ↓wE_tup, ↓wE_lst, ↓wE_lstM, ↓wE_dctM, ↓wE_sub, ↓wE_slc, ↓wE_isi, ↓wE_bi, ↓wE_mth, ↓wE_disp, ↓wE_lkeys, ↓wEs_nil, ↓wEs_cons, ↓wO_none, ↓wO_some, ↓wT_e, ↓wT_not, ↓wT_cmp, ↓wT_chain, ↓wT_isN, ↓wT_and1, ↓wT_and, ↓wT_or1, ↓wT_or, ↓wTo_none, ↓wTo_some, ↓wG_n, ↓wG_t, ↓wG_k, ↓wGs_nil, ↓wGs_cons, ↓wI_s, ↓wI_rng, b_lend e1, o_eqi, h0]; exact hB) ?_
    show wpSs Γ (.set _ _ _ :: _) _ _ _
    rw [wSs_cons, wS_set, wE_k, wE_v]
    refine ⟨_, rfl, ?_⟩
    rw [wE_tup, wEs_cons]
    refine pl rfl (by omega) (by omega) e3 fun r M3 hr0 hr1 h3 => ?_
    rw [wEs_cons]
    refine pull_at g1 (c := c) (b := b) (many := top + 1) (fun K' hK => by simp only [↓wEs_cons, ↓wEs_nil, ↓wE_v, ↓wE_k, ↓wE_bin]; exact ⟨_, rfl, _, rfl, by rw [o_add]; exact hK⟩) (by omega) (by omega) h3.1 fun r2 M4 hr20 hr21 h4 => ?_
    rw [wEs_cons, wE_k, wEs_nil]
    refine ⟨sz (by simp), ?_⟩
    exact set_un (u := ⟨r, r2, false⟩) ((h2.pull hkc hkb h3).pull hkc hkb h4) hkc hkb (by omega) hr20 fun M5 h5 h6 => by
      obtain ⟨kv5, f1, f2, f3, f4⟩ := h5
      exact fin M5 kv5 f1 f2 (fun z => by subst z; exact h6 f1) f3 f4
  · refine ite_F (fun B hB => by simp [↓wSs_nil, ↓wSs_cons, ↓wS_asg, ↓wS_par, ↓wS_set, ↓wS_aug, ↓wS_ex, ↓wS_ret, ↓wS_retN, ↓wS_ite, ↓wS_brk, ↓wS_cont, ↓wS_pass, ↓wE_v, ↓wE_k, ↓wE_g, ↓wE_bin, ↓wE_neg, ↓wE_cmp, ↓wE_isN, ↓wE_not, ↓wE_and1, ↓wE_and, ↓wE_or1, ↓wE_or, ↓wE_ite, ↓wE_tup, ↓wE_lst, ↓wE_lstM, ↓wE_dctM, ↓wE_sub, ↓wE_slc, ↓wE_isi, ↓wE_bi, ↓wE_mth, ↓wE_disp, ↓wE_lkeys, ↓wEs_nil, ↓wEs_cons, ↓wO_none, ↓wO_some, ↓wT_e, ↓wT_not, ↓wT_cmp, ↓wT_chain, ↓wT_isN, ↓wT_and1, ↓wT_and, ↓wT_or1, ↓wT_or, ↓wTo_none, ↓wTo_some, ↓wG_n, ↓wG_t, ↓wG_k, ↓wGs_nil, ↓wGs_cons, ↓wI_s, ↓wI_rng, b_lend e1, o_eqi, h0]; exact hB) ?_
    exact fin M2 kvs e1 (e2.mono (by omega)) (fun z => by subst z; exact h0 rfl) e3 e4
end K25
namespace K25
open PySem PySem.Spec L2 Vc
theorem slc_l {xs : List D} {lo hi : Option Int} {M : Mp} {K : KD} : slcD (.lst xs) lo hi M K = K (.lst (cutD xs lo hi)) M := rfl
theorem cut_to {xs : List D} {p : Nat} (h : p ≤ xs.length) : cutD xs none (some (p : Int)) = xs.take p := by
  unfold cutD
  rw [HT.sIx_none, show HT.sIx xs.length xs.length (some (p : Int)) = min p xs.length from HT.sIx_nat _ _ p]
  have : min p xs.length = p := by omega
  rw [this, List.drop_zero, Nat.sub_zero]
theorem cut_from {xs : List D} {p : Nat} (h : p ≤ xs.length) : cutD xs (some (p : Int)) none = xs.drop p := by
  unfold cutD
  rw [HT.sIx_none, show HT.sIx xs.length 0 (some (p : Int)) = min p xs.length from HT.sIx_nat _ _ p]
  have : min p xs.length = p := by omega
  rw [this]
  exact List.take_of_length_le (by rw [List.length_drop]; omega)
theorem hok_of {c : List Pt} (hn : c ≠ []) (hl : c.length ≤ 1000) (h : ∀ p ∈ c, Pok p) : Hok c := ⟨⟨hn, hl, fun p hp => (h p hp).1⟩, fun p hp => (h p hp).2⟩
def sp_law : CSp := fun ds M K => ∃ (d : D) (ns : List Int), ds = [d] ∧ (d = .lst (ns.map D.int) ∨ d = .klst (ns.map D.int)) ∧ ns.length ≤ 63 ∧ ∀ M', K (.bl true) M'
section
variable {Γ : Gam} (gh : Γ.fn "_law_holds" = some (2, sp_holds))
include gh
/-- holds of a code of good parts -/
theorem holds_T {ρ : Env'} {M : Mp} {B : Bool → Mp → Prop} {e1 e2 : Ex} {c : List Pt} {t : Bool} (hc : Hok c) (he : ∀ K : List D → Mp → Prop, K [codeD c, .bl t] M → wpEs Γ [e1, e2] ρ M K) (hB : B true M) : wpT Γ (.e (.call "_law_holds" [e1, e2])) ρ M B := by
  rw [wT_e, wE_call]
  exact ⟨_, gh, he _ (runC.of ⟨c, t, rfl, hc, by show truD _ _ _; rw [o_tb]; exact hB⟩)⟩
end
end K25
namespace K25
open PySem PySem.Spec L2 Vc
theorem hok_cut {l : List Pt} {s : Pt} {p : Nat} (hl : ∀ q ∈ l, Pok q) (hs : Pok s) (hn : l.length ≤ 39) : Hok (l.take p ++ [s] ++ l.drop p) := by
  refine hok_of (by simp) ?_ fun q hq => ?_
  · have : (l.take p).length + (l.drop p).length = l.length := by rw [← List.length_append, List.take_append_drop]
    simp only [List.length_append, List.length_cons, List.length_nil]
    omega
  · simp only [List.mem_append, List.mem_singleton] at hq
    rcases hq with (hq | rfl) | hq
    · exact hl _ (List.mem_of_mem_take hq)
    · exact hs
    · exact hl _ (List.mem_of_mem_drop hq)
theorem row_at (p : Pt) : ∃ w : Str, ∃ r : List D, p.d = .tup (.str w :: r) := by
  cases p
  · exact ⟨_, _, rfl⟩
  · exact ⟨_, _, rfl⟩
  · exact ⟨_, _, rfl⟩
  · exact ⟨_, _, rfl⟩
theorem o_eqll {xs ys : List D} {p q : List PyData} {M : Mp} {T : Bool → Prop} (h1 : pys xs = some p) (h2 : pys ys = some q) (s1 : SeqAt.shaped (.list p) = true) (s2 : SeqAt.shaped (.list q) = true) (h : T (PyData.eqv (.list p) (.list q))) : cmpD .Eq (.lst xs) (.lst ys) M T := by
  unfold cmpD eqD
  exact ⟨.list p, .list q, by simp [look, D.py, h1], by simp [look, D.py, h2], s1, s2, h⟩
theorem v_law {Γ : Gam} (g0 : Γ.fn "_law_chest" = some (1, sp_chest)) (g1 : Γ.fn "_law_pull" = some (2, sp_pull)) (g2 : Γ.fn "_law_plain" = some (2, sp_lot)) (g3 : Γ.fn "_law_free" = some (2, sp_lot)) (g4 : Γ.fn "_law_special" = some (1, sp_special)) (gh : Γ.fn "_law_holds" = some (2, sp_holds)) (gd : Γ.fn "_law_due" = some (1, sp_due)) (ds : List D) (M : Mp) (Q : KD) (h : sp_law ds M Q) : wpSs Γ b_law (startD n_law ds) M (Post Q) := by
  obtain ⟨d, ns, rfl, hd, hn, hQ⟩ := h
  have hρ : startD n_law [d] = [some d, none, none, none, none, none, none, none, none, none, none, none] := rfl
  rw [hρ]
  refine asg_w ?_
  rw [wE_call]
  refine ⟨_, g0, ?_⟩
  rw [wEs_cons, wE_v]
  refine ⟨_, rfl, ?_⟩
  rw [wEs_nil]
  refine runC.of ⟨d, ns, rfl, hd, hn, fun c b M1 hch _ => ?_⟩
  have pl : ∀ {ρ : Env'} {M : Mp} {K : KD} {n : Int}, ρ[1]? = some (some (.ref c)) → 1 ≤ n → n ≤ 100 → Chest M c b → (∀ r M', 0 ≤ r → r < n → ChS M M' c b → K (.int r) M') → wpE Γ (.call "_law_pull" [.v 1, .k (.int n)]) ρ M K := fun {ρ M K n} h0 h1 h2 hc hK =>
    pull_at g1 (c := c) (b := b) (many := n) (fun K' hK => by rw [wEs_cons, wE_v]; refine ⟨_, h0, ?_⟩; simp only [↓wEs_cons, ↓wEs_nil, ↓wE_k]; exact hK) h1 (by omega) hc hK
  refine wp_forα (List.range 4) (fun (i : Nat) => D.int (i : Int)) (fun _ => True) M1 (fun i ρ M2 => ∃ x2 x4 x5 x6 x7 x8 x9 x10 x11, ρ = [some d, some (.ref c), x2, none, x4, x5, x6, x7, x8, x9, x10, x11] ∧ Chest M2 c b)
    (fun ρ M2 => ∃ x2 x4 x5 x6 x7 x8 x9 x10 x11, ρ = [some d, some (.ref c), x2, none, x4, x5, x6, x7, x8, x9, x10, x11]) (fun K hK => ?_) ⟨none, none, none, none, none, none, none, none, none, rfl, hch⟩ (fun _ _ _ _ => trivial) ?_ ?_ ?_
  · simp only [↓wI_rng, ↓wEs_cons, ↓wEs_nil, ↓wE_k]
    rw [rg_1]
    exact ⟨by omega, hK⟩
  · rintro i i' ρ2 M2 hi ⟨x2, x4, x5, x6, x7, x8, x9, x10, x11, rfl, hc2⟩
    have hi4 : i' < 4 := by
      have := List.mem_of_getElem? hi
      simpa using this
    rw [wG_n]
    refine wp_at 2 (fun ρ M3 => ∃ m : Nat, 1 ≤ m ∧ m ≤ 39 ∧ ρ = [some d, some (.ref c), some (.int i'), none, some (.int m), x5, x6, x7, x8, x9, x10, x11] ∧ Chest M3 c b) ?_ ?_
    · refine asg_w ?_
      rw [wE_bin, wE_k]
      refine pl rfl (by omega) (by omega) hc2 fun r M3 hr0 hr1 h3 => ?_
      rw [o_add]
      by_cases hz : i' = 0
      · subst hz
        show wpSs Γ [.ite _ _ _] _ _ _
        rw [wSs_cons, wS_ite, wT_and, wT_cmp, wE_v]
        refine ⟨_, rfl, ?_⟩
        rw [wE_k, o_eqi, decide_eq_true (by rfl), if_pos rfl, wT_and1, wT_cmp]
        refine pl rfl (by omega) (by omega) h3.1 fun r2 M4 hr20 hr21 h4 => ?_
        rw [wE_k, o_eqi]
        by_cases h2 : r2 = 2
        · rw [decide_eq_true h2, if_pos rfl]
          refine asg_n (d := .int 39) (fun K hK => by rw [wE_k]; exact hK) ?_
          rw [wSs_nil]
          show wpSs Γ [] _ _ _
          rw [wSs_nil]
          exact ⟨39, by omega, by omega, rfl, h4.1⟩
        · rw [decide_eq_false h2, if_neg (by decide), wSs_nil]
          show wpSs Γ [] _ _ _
          rw [wSs_nil]
          exact ⟨(1 + r).toNat, by omega, by omega, by rw [show (((1 + r).toNat : Nat) : Int) = 1 + r by omega]; rfl, h4.1⟩
      · refine ite_F (fun B hB => ?_) ?_
        · rw [wT_and, wT_cmp, wE_v]
          refine ⟨_, rfl, ?_⟩
          rw [wE_k, o_eqi, decide_eq_false (by omega), if_neg (by decide)]
          exact hB
        · show wpSs Γ [] _ _ _
          rw [wSs_nil]
          exact ⟨(1 + r).toNat, by omega, by omega, by rw [show (((1 + r).toNat : Nat) : Int) = 1 + r by omega]; rfl, h3.1⟩
    rintro ρ M3 ⟨m, hm1, hm2, rfl, hc3⟩
    refine wp_at 1 (fun ρ M4 => ∃ l : List Pt, l.length = m ∧ (∀ p ∈ l, Pok p) ∧ ρ = [some d, some (.ref c), some (.int i'), none, some (.int m), some (.lst (l.map Pt.d)), x6, x7, x8, x9, x10, x11] ∧ Chest M4 c b) ?_ ?_
    · refine asg_w ?_
      rw [wE_sub, wE_tup, wEs_cons, wE_call]
      refine ⟨_, g2, ?_⟩
      simp only [↓wEs_cons, ↓wEs_nil, ↓wE_v]
      refine ⟨_, rfl, _, rfl, runC.of ⟨c, b, m, rfl, hm1, by omega, hc3, fun l1 M4 hl1 hp1 h4 => ?_⟩⟩
      show wpE _ _ _ _ _
      rw [wE_call]
      refine ⟨_, g3, ?_⟩
      simp only [↓wEs_cons, ↓wEs_nil, ↓wE_v]
      refine ⟨_, rfl, _, rfl, runC.of ⟨c, b, m, rfl, hm1, by omega, h4.1, fun l2 M5 hl2 hp2 h5 => ?_⟩⟩
      refine ⟨sz (by simp), ?_⟩
      rw [wE_bi, wEs_cons, wE_cmp, wE_v]
      refine ⟨_, rfl, ?_⟩
      rw [wE_k, o_eqi, wEs_nil, b_intb, s_tup]
      by_cases h1 : (i' : Int) = 1
      · rw [decide_eq_true h1, if_pos rfl]
        refine ⟨1, _, rfl, atI_1, ?_⟩
        show wpSs Γ [] _ _ _
        rw [wSs_nil]
        exact ⟨l2, hl2, hp2, rfl, h5.1⟩
      · rw [decide_eq_false h1, if_neg (by decide)]
        refine ⟨0, _, rfl, atI_0, ?_⟩
        show wpSs Γ [] _ _ _
        rw [wSs_nil]
        exact ⟨l1, hl1, hp1, rfl, h5.1⟩
    rintro ρ M4 ⟨l, hl, hlp, rfl, hc4⟩
    refine asg_w ?_
    refine pull_at g1 (c := c) (b := b) (many := (m : Int) + 1) (fun K' hK => by rw [wEs_cons, wE_v]; refine ⟨_, rfl, ?_⟩; simp only [↓wEs_cons, ↓wEs_nil, ↓wE_k, ↓wE_bin, ↓wE_v]; refine ⟨_, rfl, ?_⟩; rw [o_add]; exact hK) (by omega) (by omega) hc4 fun r M5 hr0 hr1 h5 => ?_
    obtain ⟨p, rfl⟩ : ∃ p : Nat, r = p := ⟨r.toNat, by omega⟩
    have hp : p ≤ l.length := by omega
    have hpd : p ≤ (l.map Pt.d).length := by rw [List.length_map]; exact hp
    have hne : l ≠ [] := fun z => by subst z; simp at hl; omega
    refine wp_at 1 (fun ρ M6 => ∃ s : Pt, Pok s ∧ ρ = [some d, some (.ref c), some (.int i'), none, some (.int m), some (.lst (l.map Pt.d)), some (.int p), some (codeD (l.take p ++ [s] ++ l.drop p)), x8, x9, x10, x11] ∧ Chest M6 c b) ?_ ?_
    · refine asg_w ?_
      rw [wE_bi, wEs_cons, wE_bin, wE_bin, wE_slc, wE_v]
      refine ⟨_, rfl, ?_⟩
      rw [wO_none, wO_some, wE_v]
      refine ⟨_, rfl, _, rfl, ?_⟩
      rw [slc_l, cut_to hpd, wE_lst, wEs_cons, wE_call]
      refine ⟨_, g4, ?_⟩
      rw [wEs_cons, wE_v]
      refine ⟨_, rfl, ?_⟩
      rw [wEs_nil]
      refine runC.of ⟨c, b, rfl, h5.1, fun s M6 hs h6 => ?_⟩
      have hlt : ((l.map Pt.d).take p).length ≤ 39 := by rw [List.length_take, List.length_map]; omega
      show wpEs _ _ _ _ _
      rw [wEs_nil]
      refine ⟨sz (by simp), ?_⟩
      rw [o_catl]
      refine ⟨by rw [sizeLine_eq]; simp only [List.length_cons, List.length_nil]; omega, ?_⟩
      rw [wE_slc, wE_v]
      refine ⟨_, rfl, ?_⟩
      rw [wO_some, wE_v]
      refine ⟨_, rfl, _, rfl, ?_⟩
      rw [wO_none, slc_l, cut_from hpd, o_catl]
      have hld : ((l.map Pt.d).drop p).length ≤ 39 := by rw [List.length_drop, List.length_map]; omega
      refine ⟨by rw [sizeLine_eq]; simp only [List.length_append, List.length_cons, List.length_nil]; omega, ?_⟩
      rw [wEs_nil, b_tupl]
      show wpSs Γ [] _ _ _
      rw [wSs_nil]
      refine ⟨s, hs, ?_, h6.1⟩
      unfold codeD
      rw [List.map_append, List.map_append, List.map_take, List.map_drop]
      rfl
    rintro ρ M6 ⟨s, hs, rfl, hc6⟩
    have hok : Hok (l.take p ++ [s] ++ l.drop p) := hok_cut hlp hs (by omega)
    have hat : atI ((l.take p ++ [s] ++ l.drop p).map Pt.d) (p : Int) = some s.d := by
      rw [atI_map, atI_nat (v := s)]
      · rfl
      · rw [List.append_assoc, List.getElem?_append_right (by rw [List.length_take]; omega), List.length_take, show min p l.length = p by omega, Nat.sub_self]
        rfl
    generalize l.take p ++ [s] ++ l.drop p = C at hok hat ⊢
    have hokl : Hok l := hok_of hne (by omega) hlp
    have hoks : Hok [s] := hok_of (by simp) (by simp) (fun q hq => by rw [List.mem_singleton.mp hq]; exact hs)
    refine asg_w ?_
    rw [wE_cmp]
    refine pl rfl (by omega) (by omega) hc6 fun r M7 hr0 hr1 h7 => ?_
    rw [wE_k, o_eqi]
    generalize decide (r = 1) = t
    have hc7 := h7.1
    refine asg_n (d := codeD l) (fun K hK => by rw [wE_bi, wEs_cons, wE_v]; refine ⟨_, rfl, ?_⟩; rw [wEs_nil, b_tupl]; exact hK) ?_
    refine ite_F (fun B hB => ?_) ?_
    · rw [wT_or, wT_not]
      refine holds_T gh (c := C) (t := t) hok (fun K hK => by rw [wEs_cons, wE_v]; refine ⟨_, rfl, ?_⟩; rw [wEs_cons, wE_v]; refine ⟨_, rfl, ?_⟩; rw [wEs_nil]; exact hK) ?_
      rw [if_neg (by decide), wT_or, wT_not]
      refine holds_T gh (c := l) (t := false) hokl (fun K hK => by rw [wEs_cons, wE_v]; refine ⟨_, rfl, ?_⟩; rw [wEs_cons, wE_k, wEs_nil]; exact hK) ?_
      rw [if_neg (by decide), wT_or1, wT_not]
      exact holds_T gh (c := C) (t := false) hok (fun K hK => by rw [wEs_cons, wE_v]; refine ⟨_, rfl, ?_⟩; rw [wEs_cons, wE_k, wEs_nil]; exact hK) hB
    refine asg_n (d := codeD [s]) (fun K hK => by rw [wE_tup, wEs_cons, wE_sub, wE_v]; refine ⟨_, rfl, ?_⟩; rw [wE_v]; refine ⟨_, rfl, ?_⟩; rw [codeD, s_tup]; refine ⟨_, _, rfl, hat, ?_⟩; rw [wEs_nil]; exact ⟨sz (by simp), hK⟩) ?_
    refine ite_F (fun B hB => ?_) ?_
    · rw [wT_not]
      exact holds_T gh (c := [s]) (t := true) hoks (fun K hK => by rw [wEs_cons, wE_v]; refine ⟨_, rfl, ?_⟩; rw [wEs_cons, wE_k, wEs_nil]; exact hK) hB
    refine wp_forα l Pt.d (fun _ => True) M7 (fun i ρ M8 => ∃ x11, ρ = [some d, some (.ref c), some (.int i'), none, some (.int m), some (.lst (l.map Pt.d)), some (.int p), some (codeD C), some (.bl t), some (codeD l), some (codeD [s]), x11] ∧ M8 = M7) (fun ρ M8 => ∃ x11, ρ = [some d, some (.ref c), some (.int i'), none, some (.int m), some (.lst (l.map Pt.d)), some (.int p), some (codeD C), some (.bl t), some (codeD l), some (codeD [s]), x11] ∧ M8 = M7) (fun K hK => ?_) ⟨_, rfl, rfl⟩ (fun _ _ _ _ => trivial) ?_ (fun _ _ h => h) ?_
    · rw [wI_s, wE_v]
      refine ⟨_, rfl, ?_⟩
      rw [codeD, it_tup]
      exact hK
    · rintro j q ρ2 M8 hj ⟨x11, rfl, rfl⟩
      have hq := hlp q (List.mem_of_getElem? hj)
      rw [wG_n]
      have hokq : Hok [q] := hok_of (by simp) (by simp) (fun z hz => by rw [List.mem_singleton.mp hz]; exact hq)
      refine ite_F (fun B hB => ?_) ?_
      · obtain ⟨w, r, e⟩ := row_at q
        have hh : wpT Γ (.and [.not (.e (.call "_law_holds" [.tup [.v 11], .k (.bl false)]))]) [some d, some (.ref c), some (.int i'), none, some (.int m), some (.lst (l.map Pt.d)), some (.int p), some (codeD C), some (.bl t), some (codeD l), some (codeD [s]), some q.d] M8 B := by
          rw [wT_and1, wT_not]
          refine holds_T gh (c := [q]) (t := false) hokq (fun K hK => ?_) hB
          rw [wEs_cons, wE_tup, wEs_cons, wE_v]
          refine ⟨_, rfl, ?_⟩
          rw [wEs_nil]
          refine ⟨sz (by simp), ?_⟩
          rw [wEs_cons, wE_k, wEs_nil]
          exact hK
        show wpT Γ _ [some d, some (.ref c), some (.int i'), none, some (.int m), some (.lst (l.map Pt.d)), some (.int p), some (codeD C), some (.bl t), some (codeD l), some (codeD [s]), some q.d] M8 B
        rw [wT_and, wT_cmp, wE_sub, wE_v]
        refine ⟨_, rfl, ?_⟩
        rw [wE_k, e, s_tup]
        refine ⟨0, _, rfl, atI_0, ?_⟩
        rw [wE_k, o_nes]
        rw [e] at hh
        by_cases hw : w = "row"
        · rw [decide_eq_true hw, if_neg (by decide)]
          exact hB
        · rw [decide_eq_false hw]
          show if true = true then _ else _
          rw [if_pos rfl]
          exact hh
      · show wpSs Γ [] _ _ _
        rw [wSs_nil]
        exact ⟨_, rfl, rfl⟩
    · rintro ρ2 M8 ⟨x11, rfl, rfl⟩
      show wpSs Γ [] _ _ _
      rw [wSs_nil]
      exact ⟨_, _, _, _, _, _, _, _, _, rfl, hc7⟩
  · rintro ρ2 M2 ⟨x2, x4, x5, x6, x7, x8, x9, x10, x11, rfl, _⟩
    exact ⟨_, _, _, _, _, _, _, _, _, rfl⟩
  · rintro ρ2 M2 ⟨x2, x4, x5, x6, x7, x8, x9, x10, x11, rfl⟩
    have hok : Hok [.along 0 ⟨0, 1, 0⟩ ⟨1, 1, 0⟩] := hok_of (by simp) (by simp) (fun q hq => by
      rw [List.mem_singleton.mp hq]
      refine ⟨⟨trivial, ?_, trivial⟩, by show (0 : Int) ≤ 0; omega⟩
      intro k hk
      simp [Pt.marks] at hk
      rcases hk with rfl | rfl <;> (unfold Mk.ok; simp))
    refine asg_n (d := codeD [.along 0 ⟨0, 1, 0⟩ ⟨1, 1, 0⟩]) (fun K hK => by simp [↓wSs_nil, ↓wSs_cons, ↓wS_asg, ↓wS_par, ↓wS_set, ↓wS_aug, ↓wS_ex, ↓wS_ret, ↓wS_retN, ↓wS_ite, ↓wS_brk, ↓wS_cont, ↓wS_pass, ↓wE_v, ↓wE_k, ↓wE_g, ↓wE_bin, ↓wE_neg, ↓wE_cmp, ↓wE_isN, ↓wE_not, ↓wE_and1, ↓wE_and, ↓wE_or1, ↓wE_or, ↓wE_ite, ↓wE_tup, ↓wE_lst, ↓wE_lstM, ↓wE_dctM, ↓wE_sub, ↓wE_slc, ↓wE_isi, ↓wE_bi, ↓wE_mth, ↓wE_disp, ↓wE_lkeys, ↓wEs_nil, ↓wEs_cons, ↓wO_none, ↓wO_some, ↓wT_e, ↓wT_not, ↓wT_cmp, ↓wT_chain, ↓wT_isN, ↓wT_and1, ↓wT_and, ↓wT_or1, ↓wT_or, ↓wTo_none, ↓wTo_some, ↓wG_n, ↓wG_t, ↓wG_k, ↓wGs_nil, ↓wGs_cons, ↓wI_s, ↓wI_rng, sizeLine_eq]; exact hK) ?_
    show wpSs Γ (.ret _ :: _) _ _ _
    rw [wSs_cons, wS_ret, wE_and, wE_cmp, wE_call]
    refine ⟨_, gd, ?_⟩
    rw [wEs_cons, wE_v]
    refine ⟨_, rfl, ?_⟩
    rw [wEs_nil]
    refine runC.of ⟨_, rfl, hok, ?_⟩
    have h5 : five [.along 0 ⟨0, 1, 0⟩ ⟨1, 1, 0⟩] = [.int 1, .int 1, .int 0, .int 1, .int 14] := by
      unfold five
      rw [show bottomOf [.along 0 ⟨0, 1, 0⟩ ⟨1, 1, 0⟩] = 1 by decide +kernel, show gapOf [.along 0 ⟨0, 1, 0⟩ ⟨1, 1, 0⟩] = 1 by decide +kernel, show reachOf [.along 0 ⟨0, 1, 0⟩ ⟨1, 1, 0⟩] = 0 by decide +kernel, show periodOf [.along 0 ⟨0, 1, 0⟩ ⟨1, 1, 0⟩] = 1 by decide +kernel, show boundOf [.along 0 ⟨0, 1, 0⟩ ⟨1, 1, 0⟩] = 14 by decide +kernel]
    rw [h5]
    simp only [↓wE_lst, ↓wEs_cons, ↓wEs_nil, ↓wE_k]
    refine ⟨sz (by simp), ?_⟩
    refine o_eqll (p := [.int 1, .int 1, .int 0, .int 1, .int 14]) (q := [.int 1, .int 1, .int 0, .int 1, .int 14]) rfl rfl (by decide +kernel) (by decide +kernel) ?_
    refine ⟨true, ?_, ?_⟩
    · exact congrArg D.bl (by decide +kernel)
    rw [if_pos rfl, wE_and1, wE_call]
    refine ⟨_, gh, ?_⟩
    rw [wEs_cons, wE_v]
    refine ⟨_, rfl, ?_⟩
    rw [wEs_cons, wE_k, wEs_nil]
    exact runC.of ⟨_, true, rfl, hok, ret_of (hQ _)⟩
end K25
namespace K25
open PySem PySem.Spec PyProof.Rows L2 Vc
section
variable [KF] {P : Program} {w : World} {mg : Str → Option Value} {base : Heap}
/-- a def as it stands behind the top -/
structure DF (mg : Str → Option Value) (x : Str) (st : Stmt) (ps : List Str) (f : Addr) (fd : FuncData) : Prop where
  F : Fun KF.K x x st f fd
  m : mg x = some (.ref f)
  b : Binds KF.K fd ps []
theorem add_hit {Γ : Gam} {x : Str} {n : Nat} {sp : CSp} : (Γ.add x n sp).fn x = some (n, sp) := if_pos rfl
theorem addK_hit {Γ : Gam} {x : Str} {n : Nat} {sp : CSp} {kws : List (Nat × List Str)} : (Γ.addK x n sp kws).fn x = some (n, sp) := if_pos rfl
theorem add_miss {Γ : Gam} {x y : Str} {n : Nat} {sp : CSp} (h : y ≠ x) : (Γ.add x n sp).fn y = Γ.fn y := if_neg h
theorem addK_miss {Γ : Gam} {x y : Str} {n : Nat} {sp : CSp} {kws : List (Nat × List Str)} (h : y ≠ x) : (Γ.addK x n sp kws).fn y = Γ.fn y := if_neg h
theorem add_missK {Γ : Gam} {x y : Str} {n j : Nat} {sp : CSp} (h : y ≠ x) : (Γ.add x n sp).kw y j = Γ.kw y j := if_neg h
theorem addK_missK {Γ : Gam} {x y : Str} {n j : Nat} {sp : CSp} {kws : List (Nat × List Str)} (h : y ≠ x) : (Γ.addK x n sp kws).kw y j = Γ.kw y j := if_neg h
theorem addK_hitK {Γ : Gam} {x : Str} {n j : Nat} {sp : CSp} {kws : List (Nat × List Str)} : (Γ.addK x n sp kws).kw x j = kws.lookup j := if_pos rfl
theorem df_mk {x : Str} {st : Stmt} {ps : List Str} {f : Addr} {h : Heap} (X : (KF.K).In h) (G : h.Ns mainGlobals mg) {oc : Value} {od an : Option Addr} {osl : Array (Option Value)} {kV doc pm cdv ct : Value} (a : PySem.W.nsIn KF.K mainGlobals x = some (some (.ref f)))
    (l : (KF.K).lookup f = some ⟨oc, od, .func (PySem.W.fnOf x x (defArgs st) (defBody st) (defScope st) .none kV doc pm an cdv ct), osl⟩) (c : PySem.W.codeIn KF.K cdv x = true) (k : PySem.W.keepIn KF.K (.ref f) = true)
    (h : ∀ (kV doc pm : Value) (an : Option Addr) (cdv ct : Value) (us : List Value), us.length = ps.length → bindArgs (PySem.W.fnOf x x (defArgs st) (defBody st) (defScope st) .none kV doc pm an cdv ct) ⟨us, []⟩ = pure (ps.zip us)) :
    DF mg x st ps f (PySem.W.fnOf x x (defArgs st) (defBody st) (defScope st) .none kV doc pm an cdv ct) := ⟨fun_mk l c k, PySem.W.mg_of X G a, (fun_mk l c k).binds h⟩
def Γ0 : Gam := { con := fun _ => none, fn := fun _ => none, bf := fun x => if x = "lcm" then some "math.lcm" else none }
def Γ1 : Gam := Γ0.add "ends_of" 1 sp_ends_of
def Γ2 : Gam := Γ1.add "size_of_units" 1 sp_size
def Γ3 : Gam := Γ2.add "part_marks" 1 sp_marks
def Γ4 : Gam := Γ3.add "part_top" 1 sp_top
def Γ5 : Gam := Γ4.add "top_of" 1 sp_top_of
def Γ6 : Gam := Γ5.add "marks_of" 1 sp_marks_of
def Γ7 : Gam := Γ6.addK "bottom_of" 1 sp_bottom [(0, ["code"])]
def Γ8 : Gam := Γ7.addK "gap_of" 1 sp_gap [(0, ["code"])]
def Γ9 : Gam := Γ8.addK "reach_of" 1 sp_reach [(0, ["code"])]
def Γ10 : Gam := Γ9.addK "period_of" 1 sp_period [(0, ["code"])]
def Γ11 : Gam := Γ10.addK "bound_of" 1 sp_bound [(0, ["code"])]
def Γ12 : Gam := Γ11.add "_law_chest" 1 sp_chest
def Γ13 : Gam := Γ12.add "_law_pull" 2 sp_pull
def Γ14 : Gam := Γ13.add "_law_multiple" 2 sp_multI
def Γ15 : Gam := Γ14.add "_law_lowest" 2 sp_lowB
def Γ16 : Gam := Γ15.add "_law_mark" 3 sp_mark
def Γ17 : Gam := Γ16.add "_law_units" 2 sp_units
def Γ18 : Gam := Γ17.add "_law_part" 5 sp_part
def Γ19 : Gam := Γ18.add "_law_special" 1 sp_special
def Γ20 : Gam := Γ19.add "_law_due" 1 sp_due
def Γ21 : Gam := Γ20.add "_law_told" 2 sp_told
def Γ22 : Gam := Γ21.add "_law_holds" 2 sp_holds
def Γ23 : Gam := Γ22.add "_law_plain" 2 sp_lot
def Γ24 : Gam := Γ23.add "_law_free" 2 sp_lot
def Γ25 : Gam := Γ24.add "law" 1 sp_law
theorem chain {f0 : Addr} {fd0 : FuncData} (d0 : DF mg "ends_of" s_ends_of ["unit"] f0 fd0)
    {f1 : Addr} {fd1 : FuncData} (d1 : DF mg "size_of_units" s_size_of_units ["units"] f1 fd1)
    {f2 : Addr} {fd2 : FuncData} (d2 : DF mg "part_marks" s_part_marks ["part"] f2 fd2)
    {f3 : Addr} {fd3 : FuncData} (d3 : DF mg "part_top" s_part_top ["part"] f3 fd3)
    {f4 : Addr} {fd4 : FuncData} (d4 : DF mg "top_of" s_top_of ["code"] f4 fd4)
    {f5 : Addr} {fd5 : FuncData} (d5 : DF mg "marks_of" s_marks_of ["code"] f5 fd5)
    {f6 : Addr} {fd6 : FuncData} (d6 : DF mg "bottom_of" s_bottom_of ["code"] f6 fd6)
    {f7 : Addr} {fd7 : FuncData} (d7 : DF mg "gap_of" s_gap_of ["code"] f7 fd7)
    {f8 : Addr} {fd8 : FuncData} (d8 : DF mg "reach_of" s_reach_of ["code"] f8 fd8)
    {f9 : Addr} {fd9 : FuncData} (d9 : DF mg "period_of" s_period_of ["code"] f9 fd9)
    {f10 : Addr} {fd10 : FuncData} (d10 : DF mg "bound_of" s_bound_of ["code"] f10 fd10)
    {f11 : Addr} {fd11 : FuncData} (d11 : DF mg "_law_chest" s__law_chest ["script"] f11 fd11)
    {f12 : Addr} {fd12 : FuncData} (d12 : DF mg "_law_pull" s__law_pull ["chest", "many"] f12 fd12)
    {f13 : Addr} {fd13 : FuncData} (d13 : DF mg "_law_multiple" s__law_multiple ["one", "other"] f13 fd13)
    {f14 : Addr} {fd14 : FuncData} (d14 : DF mg "_law_lowest" s__law_lowest ["share", "bottom"] f14 fd14)
    {f15 : Addr} {fd15 : FuncData} (d15 : DF mg "_law_mark" s__law_mark ["chest", "bottoms", "reach"] f15 fd15)
    {f16 : Addr} {fd16 : FuncData} (d16 : DF mg "_law_units" s__law_units ["chest", "top"] f16 fd16)
    {f17 : Addr} {fd17 : FuncData} (d17 : DF mg "_law_part" s__law_part ["chest", "bottoms", "gaps", "reach", "top"] f17 fd17)
    {f18 : Addr} {fd18 : FuncData} (d18 : DF mg "_law_special" s__law_special ["chest"] f18 fd18)
    {f19 : Addr} {fd19 : FuncData} (d19 : DF mg "_law_due" s__law_due ["code"] f19 fd19)
    {f20 : Addr} {fd20 : FuncData} (d20 : DF mg "_law_told" s__law_told ["code", "named"] f20 fd20)
    {f21 : Addr} {fd21 : FuncData} (d21 : DF mg "_law_holds" s__law_holds ["code", "named"] f21 fd21)
    {f22 : Addr} {fd22 : FuncData} (d22 : DF mg "_law_plain" s__law_plain ["chest", "many"] f22 fd22)
    {f23 : Addr} {fd23 : FuncData} (d23 : DF mg "_law_free" s__law_free ["chest", "many"] f23 fd23)
    {f24 : Addr} {fd24 : FuncData} (d24 : DF mg "law" s_law ["script"] f24 fd24)
    (kb6_0 : KBinds KF.K fd6 ["code"] ["code"] (· ++ ·) (· ++ ·))
    (kb7_0 : KBinds KF.K fd7 ["code"] ["code"] (· ++ ·) (· ++ ·))
    (kb8_0 : KBinds KF.K fd8 ["code"] ["code"] (· ++ ·) (· ++ ·))
    (kb9_0 : KBinds KF.K fd9 ["code"] ["code"] (· ++ ·) (· ++ ·))
    (kb10_0 : KBinds KF.K fd10 ["code"] ["code"] (· ++ ·) (· ++ ·))
    (blt : ∀ f ∈ bB, mg (Str.ofString f) = none) (bf_lcm : mg "lcm" = some (.builtin "math.lcm")) :
    FnOk P w KF.K mg base CX0 25 f24 fd24 ["script"] (spOf 1 sp_law) := by
  have G0 : GOk P w mg base bB 0 Γ0 := by
    refine ⟨blt, fun _ _ e => (nomatch e), fun x id e => ?_, fun _ _ _ _ _ e => (nomatch e), fun _ _ _ e => (nomatch e)⟩
    unfold Γ0 at e
    dsimp only at e
    split at e
    · next h => cases e; subst h; exact bf_lcm
    cases e
  have F0 : FnOk P w KF.K mg base CX0 1 f0 fd0 ["unit"] (spOf 1 sp_ends_of) := def_ok d0.F sc_ends_of G0 rfl c_ends_of fun ds M Q h _ => v_ends_of (Γ := Γ0)  ds M Q h
  have G1 : GOk P w mg base bB 1 Γ1 := G0.up.add F0 d0.m d0.F.kp d0.b
  have F1 : FnOk P w KF.K mg base CX0 2 f1 fd1 ["units"] (spOf 1 sp_size) := def_ok d1.F sc_size_of_units G1 rfl c_size_of_units fun ds M Q h _ => v_size (Γ := Γ1) (add_hit : Γ1.fn "ends_of" = some (1, sp_ends_of)) ds M Q h
  have G2 : GOk P w mg base bB 2 Γ2 := G1.up.add F1 d1.m d1.F.kp d1.b
  have F2 : FnOk P w KF.K mg base CX0 3 f2 fd2 ["part"] (spOf 1 sp_marks) := def_ok d2.F sc_part_marks G2 rfl c_part_marks fun ds M Q h _ => v_part_marks (Γ := Γ2)  ds M Q h
  have G3 : GOk P w mg base bB 3 Γ3 := G2.up.add F2 d2.m d2.F.kp d2.b
  have F3 : FnOk P w KF.K mg base CX0 4 f3 fd3 ["part"] (spOf 1 sp_top) := def_ok d3.F sc_part_top G3 rfl c_part_top fun ds M Q h _ => v_part_top (Γ := Γ3) ((add_miss (by decide)).trans (add_hit) : Γ3.fn "size_of_units" = some (1, sp_size)) ds M Q h
  have G4 : GOk P w mg base bB 4 Γ4 := G3.up.add F3 d3.m d3.F.kp d3.b
  have F4 : FnOk P w KF.K mg base CX0 5 f4 fd4 ["code"] (spOf 1 sp_top_of) := def_ok d4.F sc_top_of G4 rfl c_top_of fun ds M Q h _ => v_top_of (Γ := Γ4) (add_hit : Γ4.fn "part_top" = some (1, sp_top)) ds M Q h
  have G5 : GOk P w mg base bB 5 Γ5 := G4.up.add F4 d4.m d4.F.kp d4.b
  have F5 : FnOk P w KF.K mg base CX0 6 f5 fd5 ["code"] (spOf 1 sp_marks_of) := def_ok d5.F sc_marks_of G5 rfl c_marks_of fun ds M Q h _ => v_marks_of (Γ := Γ5) ((add_miss (by decide)).trans ((add_miss (by decide)).trans (add_hit)) : Γ5.fn "part_marks" = some (1, sp_marks)) ds M Q h
  have G6 : GOk P w mg base bB 6 Γ6 := G5.up.add F5 d5.m d5.F.kp d5.b
  have F6 : FnOk P w KF.K mg base CX0 7 f6 fd6 ["code"] (spOf 1 sp_bottom) := def_ok d6.F sc_bottom_of G6 rfl c_bottom_of fun ds M Q h _ => v_bottom (Γ := Γ6) (add_hit : Γ6.fn "marks_of" = some (1, sp_marks_of)) (by rfl) ds M Q h
  have G7 : GOk P w mg base bB 7 Γ7 := G6.up.addK F6 d6.m d6.F.kp d6.b (fun j ks e => by
    by_cases h0 : j = 0
    · subst h0; cases e; exact kb6_0
    exact absurd e (by simp [List.lookup, beq_false_of_ne h0]))
  have F7 : FnOk P w KF.K mg base CX0 8 f7 fd7 ["code"] (spOf 1 sp_gap) := def_ok d7.F sc_gap_of G7 rfl c_gap_of fun ds M Q h _ => v_gap (Γ := Γ7) (by rfl) ds M Q h
  have G8 : GOk P w mg base bB 8 Γ8 := G7.up.addK F7 d7.m d7.F.kp d7.b (fun j ks e => by
    by_cases h0 : j = 0
    · subst h0; cases e; exact kb7_0
    exact absurd e (by simp [List.lookup, beq_false_of_ne h0]))
  have F8 : FnOk P w KF.K mg base CX0 9 f8 fd8 ["code"] (spOf 1 sp_reach) := def_ok d8.F sc_reach_of G8 rfl c_reach_of fun ds M Q h _ => v_reach (Γ := Γ8) ((addK_miss (by decide)).trans ((addK_miss (by decide)).trans (add_hit)) : Γ8.fn "marks_of" = some (1, sp_marks_of)) ds M Q h
  have G9 : GOk P w mg base bB 9 Γ9 := G8.up.addK F8 d8.m d8.F.kp d8.b (fun j ks e => by
    by_cases h0 : j = 0
    · subst h0; cases e; exact kb8_0
    exact absurd e (by simp [List.lookup, beq_false_of_ne h0]))
  have F9 : FnOk P w KF.K mg base CX0 10 f9 fd9 ["code"] (spOf 1 sp_period) := def_ok d9.F sc_period_of G9 rfl c_period_of fun ds M Q h _ => v_period (Γ := Γ9) ((addK_miss (by decide)).trans ((addK_miss (by decide)).trans (addK_hit)) : Γ9.fn "bottom_of" = some (1, sp_bottom)) ((addK_miss (by decide)).trans (addK_hit) : Γ9.fn "gap_of" = some (1, sp_gap)) ds M Q h
  have G10 : GOk P w mg base bB 10 Γ10 := G9.up.addK F9 d9.m d9.F.kp d9.b (fun j ks e => by
    by_cases h0 : j = 0
    · subst h0; cases e; exact kb9_0
    exact absurd e (by simp [List.lookup, beq_false_of_ne h0]))
  have F10 : FnOk P w KF.K mg base CX0 11 f10 fd10 ["code"] (spOf 1 sp_bound) := def_ok d10.F sc_bound_of G10 rfl c_bound_of fun ds M Q h _ => v_bound (Γ := Γ10) ((addK_miss (by decide)).trans ((addK_miss (by decide)).trans ((addK_miss (by decide)).trans (addK_hit))) : Γ10.fn "bottom_of" = some (1, sp_bottom)) ((addK_miss (by decide)).trans ((addK_miss (by decide)).trans (addK_hit)) : Γ10.fn "gap_of" = some (1, sp_gap)) ((addK_miss (by decide)).trans ((addK_miss (by decide)).trans ((addK_miss (by decide)).trans ((addK_miss (by decide)).trans ((add_miss (by decide)).trans (add_hit))))) : Γ10.fn "top_of" = some (1, sp_top_of)) ((addK_miss (by decide)).trans (addK_hit) : Γ10.fn "reach_of" = some (1, sp_reach)) ds M Q h
  have G11 : GOk P w mg base bB 11 Γ11 := G10.up.addK F10 d10.m d10.F.kp d10.b (fun j ks e => by
    by_cases h0 : j = 0
    · subst h0; cases e; exact kb10_0
    exact absurd e (by simp [List.lookup, beq_false_of_ne h0]))
  have F11 : FnOk P w KF.K mg base CX0 12 f11 fd11 ["script"] (spOf 1 sp_chest) := def_ok d11.F sc__law_chest G11 rfl c__law_chest fun ds M Q h _ => v_chest (Γ := Γ11)  ds M Q h
  have G12 : GOk P w mg base bB 12 Γ12 := G11.up.add F11 d11.m d11.F.kp d11.b
  have F12 : FnOk P w KF.K mg base CX0 13 f12 fd12 ["chest", "many"] (spOf 2 sp_pull) := def_ok d12.F sc__law_pull G12 rfl c__law_pull fun ds M Q h _ => v_pull (Γ := Γ12)  ds M Q h
  have G13 : GOk P w mg base bB 13 Γ13 := G12.up.add F12 d12.m d12.F.kp d12.b
  have F13 : FnOk P w KF.K mg base CX0 14 f13 fd13 ["one", "other"] (spOf 2 sp_multI) := def_ok d13.F sc__law_multiple G13 rfl c__law_multiple fun ds M Q h _ => v_multI (Γ := Γ13)  ds M Q h
  have G14 : GOk P w mg base bB 14 Γ14 := G13.up.add F13 d13.m d13.F.kp d13.b
  have F14 : FnOk P w KF.K mg base CX0 15 f14 fd14 ["share", "bottom"] (spOf 2 sp_lowB) := def_ok d14.F sc__law_lowest G14 rfl c__law_lowest fun ds M Q h _ => v_lowB (Γ := Γ14)  ds M Q h
  have G15 : GOk P w mg base bB 15 Γ15 := G14.up.add F14 d14.m d14.F.kp d14.b
  have F15 : FnOk P w KF.K mg base CX0 16 f15 fd15 ["chest", "bottoms", "reach"] (spOf 3 sp_mark) := def_ok d15.F sc__law_mark G15 rfl c__law_mark fun ds M Q h _ => v_mark (Γ := Γ15) ((add_miss (by decide)).trans ((add_miss (by decide)).trans (add_hit)) : Γ15.fn "_law_pull" = some (2, sp_pull)) (add_hit : Γ15.fn "_law_lowest" = some (2, sp_lowB)) ds M Q h
  have G16 : GOk P w mg base bB 16 Γ16 := G15.up.add F15 d15.m d15.F.kp d15.b
  have F16 : FnOk P w KF.K mg base CX0 17 f16 fd16 ["chest", "top"] (spOf 2 sp_units) := def_ok d16.F sc__law_units G16 rfl c__law_units fun ds M Q h _ => v_units (Γ := Γ16) ((add_miss (by decide)).trans ((add_miss (by decide)).trans ((add_miss (by decide)).trans (add_hit))) : Γ16.fn "_law_pull" = some (2, sp_pull)) ds M Q h
  have G17 : GOk P w mg base bB 17 Γ17 := G16.up.add F16 d16.m d16.F.kp d16.b
  have F17 : FnOk P w KF.K mg base CX0 18 f17 fd17 ["chest", "bottoms", "gaps", "reach", "top"] (spOf 5 sp_part) := def_ok d17.F sc__law_part G17 rfl c__law_part fun ds M Q h _ => v_part (Γ := Γ17) ((add_miss (by decide)).trans ((add_miss (by decide)).trans ((add_miss (by decide)).trans ((add_miss (by decide)).trans (add_hit)))) : Γ17.fn "_law_pull" = some (2, sp_pull)) ((add_miss (by decide)).trans (add_hit) : Γ17.fn "_law_mark" = some (3, sp_mark)) (add_hit : Γ17.fn "_law_units" = some (2, sp_units)) ds M Q h
  have G18 : GOk P w mg base bB 18 Γ18 := G17.up.add F17 d17.m d17.F.kp d17.b
  have F18 : FnOk P w KF.K mg base CX0 19 f18 fd18 ["chest"] (spOf 1 sp_special) := def_ok d18.F sc__law_special G18 rfl c__law_special fun ds M Q h _ => v_special (Γ := Γ18) ((add_miss (by decide)).trans ((add_miss (by decide)).trans ((add_miss (by decide)).trans ((add_miss (by decide)).trans ((add_miss (by decide)).trans (add_hit))))) : Γ18.fn "_law_pull" = some (2, sp_pull)) ds M Q h
  have G19 : GOk P w mg base bB 19 Γ19 := G18.up.add F18 d18.m d18.F.kp d18.b
  have F19 : FnOk P w KF.K mg base CX0 20 f19 fd19 ["code"] (spOf 1 sp_due) := def_ok d19.F sc__law_due G19 rfl c__law_due fun ds M Q h _ => v_due (Γ := Γ19) ((add_miss (by decide)).trans ((add_miss (by decide)).trans ((add_miss (by decide)).trans ((add_miss (by decide)).trans ((add_miss (by decide)).trans (add_hit))))) : Γ19.fn "_law_multiple" = some (2, sp_multI)) ds M Q h
  have G20 : GOk P w mg base bB 20 Γ20 := G19.up.add F19 d19.m d19.F.kp d19.b
  have F20 : FnOk P w KF.K mg base CX0 21 f20 fd20 ["code", "named"] (spOf 2 sp_told) := def_ok d20.F sc__law_told G20 rfl c__law_told fun ds M Q h _ => v_told (Γ := Γ20) ((add_miss (by decide)).trans ((add_miss (by decide)).trans ((add_miss (by decide)).trans ((add_miss (by decide)).trans ((add_miss (by decide)).trans ((add_miss (by decide)).trans ((add_miss (by decide)).trans ((add_miss (by decide)).trans ((add_miss (by decide)).trans ((addK_miss (by decide)).trans ((addK_miss (by decide)).trans ((addK_miss (by decide)).trans ((addK_miss (by decide)).trans (addK_hit))))))))))))) : Γ20.fn "bottom_of" = some (1, sp_bottom)) ((add_miss (by decide)).trans ((add_miss (by decide)).trans ((add_miss (by decide)).trans ((add_miss (by decide)).trans ((add_miss (by decide)).trans ((add_miss (by decide)).trans ((add_miss (by decide)).trans ((add_miss (by decide)).trans ((add_miss (by decide)).trans ((addK_miss (by decide)).trans ((addK_miss (by decide)).trans ((addK_miss (by decide)).trans (addK_hit)))))))))))) : Γ20.fn "gap_of" = some (1, sp_gap)) ((add_miss (by decide)).trans ((add_miss (by decide)).trans ((add_miss (by decide)).trans ((add_miss (by decide)).trans ((add_miss (by decide)).trans ((add_miss (by decide)).trans ((add_miss (by decide)).trans ((add_miss (by decide)).trans ((add_miss (by decide)).trans ((addK_miss (by decide)).trans ((addK_miss (by decide)).trans (addK_hit))))))))))) : Γ20.fn "reach_of" = some (1, sp_reach)) ((add_miss (by decide)).trans ((add_miss (by decide)).trans ((add_miss (by decide)).trans ((add_miss (by decide)).trans ((add_miss (by decide)).trans ((add_miss (by decide)).trans ((add_miss (by decide)).trans ((add_miss (by decide)).trans ((add_miss (by decide)).trans ((addK_miss (by decide)).trans (addK_hit)))))))))) : Γ20.fn "period_of" = some (1, sp_period)) ((add_miss (by decide)).trans ((add_miss (by decide)).trans ((add_miss (by decide)).trans ((add_miss (by decide)).trans ((add_miss (by decide)).trans ((add_miss (by decide)).trans ((add_miss (by decide)).trans ((add_miss (by decide)).trans ((add_miss (by decide)).trans (addK_hit))))))))) : Γ20.fn "bound_of" = some (1, sp_bound)) (((add_missK (by decide)).trans ((add_missK (by decide)).trans ((add_missK (by decide)).trans ((add_missK (by decide)).trans ((add_missK (by decide)).trans ((add_missK (by decide)).trans ((add_missK (by decide)).trans ((add_missK (by decide)).trans ((add_missK (by decide)).trans ((addK_missK (by decide)).trans ((addK_missK (by decide)).trans ((addK_missK (by decide)).trans ((addK_missK (by decide)).trans (addK_hitK))))))))))))) : Γ20.kw "bottom_of" 0 = _).trans (by rfl) : Γ20.kw "bottom_of" 0 = some (["code"] : List Str)) (((add_missK (by decide)).trans ((add_missK (by decide)).trans ((add_missK (by decide)).trans ((add_missK (by decide)).trans ((add_missK (by decide)).trans ((add_missK (by decide)).trans ((add_missK (by decide)).trans ((add_missK (by decide)).trans ((add_missK (by decide)).trans ((addK_missK (by decide)).trans ((addK_missK (by decide)).trans ((addK_missK (by decide)).trans (addK_hitK)))))))))))) : Γ20.kw "gap_of" 0 = _).trans (by rfl) : Γ20.kw "gap_of" 0 = some (["code"] : List Str)) (((add_missK (by decide)).trans ((add_missK (by decide)).trans ((add_missK (by decide)).trans ((add_missK (by decide)).trans ((add_missK (by decide)).trans ((add_missK (by decide)).trans ((add_missK (by decide)).trans ((add_missK (by decide)).trans ((add_missK (by decide)).trans ((addK_missK (by decide)).trans ((addK_missK (by decide)).trans (addK_hitK))))))))))) : Γ20.kw "reach_of" 0 = _).trans (by rfl) : Γ20.kw "reach_of" 0 = some (["code"] : List Str)) (((add_missK (by decide)).trans ((add_missK (by decide)).trans ((add_missK (by decide)).trans ((add_missK (by decide)).trans ((add_missK (by decide)).trans ((add_missK (by decide)).trans ((add_missK (by decide)).trans ((add_missK (by decide)).trans ((add_missK (by decide)).trans ((addK_missK (by decide)).trans (addK_hitK)))))))))) : Γ20.kw "period_of" 0 = _).trans (by rfl) : Γ20.kw "period_of" 0 = some (["code"] : List Str)) (((add_missK (by decide)).trans ((add_missK (by decide)).trans ((add_missK (by decide)).trans ((add_missK (by decide)).trans ((add_missK (by decide)).trans ((add_missK (by decide)).trans ((add_missK (by decide)).trans ((add_missK (by decide)).trans ((add_missK (by decide)).trans (addK_hitK))))))))) : Γ20.kw "bound_of" 0 = _).trans (by rfl) : Γ20.kw "bound_of" 0 = some (["code"] : List Str)) ds M Q h
  have G21 : GOk P w mg base bB 21 Γ21 := G20.up.add F20 d20.m d20.F.kp d20.b
  have F21 : FnOk P w KF.K mg base CX0 22 f21 fd21 ["code", "named"] (spOf 2 sp_holds) := def_ok d21.F sc__law_holds G21 rfl c__law_holds fun ds M Q h _ => v_holds (Γ := Γ21) ((add_miss (by decide)).trans (add_hit) : Γ21.fn "_law_due" = some (1, sp_due)) (add_hit : Γ21.fn "_law_told" = some (2, sp_told)) ds M Q h
  have G22 : GOk P w mg base bB 22 Γ22 := G21.up.add F21 d21.m d21.F.kp d21.b
  have F22 : FnOk P w KF.K mg base CX0 23 f22 fd22 ["chest", "many"] (spOf 2 sp_lot) := def_ok d22.F sc__law_plain G22 rfl c__law_plain fun ds M Q h _ => v_plain (Γ := Γ22) ((add_miss (by decide)).trans ((add_miss (by decide)).trans ((add_miss (by decide)).trans ((add_miss (by decide)).trans ((add_miss (by decide)).trans ((add_miss (by decide)).trans ((add_miss (by decide)).trans ((add_miss (by decide)).trans ((add_miss (by decide)).trans (add_hit))))))))) : Γ22.fn "_law_pull" = some (2, sp_pull)) ((add_miss (by decide)).trans ((add_miss (by decide)).trans ((add_miss (by decide)).trans ((add_miss (by decide)).trans (add_hit)))) : Γ22.fn "_law_part" = some (5, sp_part)) ds M Q h
  have G23 : GOk P w mg base bB 23 Γ23 := G22.up.add F22 d22.m d22.F.kp d22.b
  have F23 : FnOk P w KF.K mg base CX0 24 f23 fd23 ["chest", "many"] (spOf 2 sp_lot) := def_ok d23.F sc__law_free G23 rfl c__law_free fun ds M Q h _ => v_free (Γ := Γ23) ((add_miss (by decide)).trans ((add_miss (by decide)).trans ((add_miss (by decide)).trans ((add_miss (by decide)).trans ((add_miss (by decide)).trans ((add_miss (by decide)).trans ((add_miss (by decide)).trans ((add_miss (by decide)).trans ((add_miss (by decide)).trans ((add_miss (by decide)).trans (add_hit)))))))))) : Γ23.fn "_law_pull" = some (2, sp_pull)) ((add_miss (by decide)).trans ((add_miss (by decide)).trans ((add_miss (by decide)).trans ((add_miss (by decide)).trans ((add_miss (by decide)).trans (add_hit))))) : Γ23.fn "_law_part" = some (5, sp_part)) ds M Q h
  have G24 : GOk P w mg base bB 24 Γ24 := G23.up.add F23 d23.m d23.F.kp d23.b
  have F24 : FnOk P w KF.K mg base CX0 25 f24 fd24 ["script"] (spOf 1 sp_law) := def_ok d24.F sc_law G24 rfl c_law fun ds M Q h _ => v_law (Γ := Γ24) ((add_miss (by decide)).trans ((add_miss (by decide)).trans ((add_miss (by decide)).trans ((add_miss (by decide)).trans ((add_miss (by decide)).trans ((add_miss (by decide)).trans ((add_miss (by decide)).trans ((add_miss (by decide)).trans ((add_miss (by decide)).trans ((add_miss (by decide)).trans ((add_miss (by decide)).trans ((add_miss (by decide)).trans (add_hit)))))))))))) : Γ24.fn "_law_chest" = some (1, sp_chest)) ((add_miss (by decide)).trans ((add_miss (by decide)).trans ((add_miss (by decide)).trans ((add_miss (by decide)).trans ((add_miss (by decide)).trans ((add_miss (by decide)).trans ((add_miss (by decide)).trans ((add_miss (by decide)).trans ((add_miss (by decide)).trans ((add_miss (by decide)).trans ((add_miss (by decide)).trans (add_hit))))))))))) : Γ24.fn "_law_pull" = some (2, sp_pull)) ((add_miss (by decide)).trans (add_hit) : Γ24.fn "_law_plain" = some (2, sp_lot)) (add_hit : Γ24.fn "_law_free" = some (2, sp_lot)) ((add_miss (by decide)).trans ((add_miss (by decide)).trans ((add_miss (by decide)).trans ((add_miss (by decide)).trans ((add_miss (by decide)).trans (add_hit))))) : Γ24.fn "_law_special" = some (1, sp_special)) ((add_miss (by decide)).trans ((add_miss (by decide)).trans (add_hit)) : Γ24.fn "_law_holds" = some (2, sp_holds)) ((add_miss (by decide)).trans ((add_miss (by decide)).trans ((add_miss (by decide)).trans ((add_miss (by decide)).trans (add_hit)))) : Γ24.fn "_law_due" = some (1, sp_due)) ds M Q h
  exact F24
end
theorem all_mk {l : PySem.W.OpenLaw} {w : World} {K : PySem.W.Frag} {h : Heap} {mg : Str → Option Value} {fa : Addr} (X : K.In h) (G : h.Ns mainGlobals mg) (hfa : mg "law" = some (.ref fa))
    {f0 : Addr} {od0 an0 : Option Addr} {sl0 : Array (Option Value)} {oc0 kV0 dc0 pm0 cd0 ct0 : Value}
    {f1 : Addr} {od1 an1 : Option Addr} {sl1 : Array (Option Value)} {oc1 kV1 dc1 pm1 cd1 ct1 : Value}
    {f2 : Addr} {od2 an2 : Option Addr} {sl2 : Array (Option Value)} {oc2 kV2 dc2 pm2 cd2 ct2 : Value}
    {f3 : Addr} {od3 an3 : Option Addr} {sl3 : Array (Option Value)} {oc3 kV3 dc3 pm3 cd3 ct3 : Value}
    {f4 : Addr} {od4 an4 : Option Addr} {sl4 : Array (Option Value)} {oc4 kV4 dc4 pm4 cd4 ct4 : Value}
    {f5 : Addr} {od5 an5 : Option Addr} {sl5 : Array (Option Value)} {oc5 kV5 dc5 pm5 cd5 ct5 : Value}
    {f6 : Addr} {od6 an6 : Option Addr} {sl6 : Array (Option Value)} {oc6 kV6 dc6 pm6 cd6 ct6 : Value}
    {f7 : Addr} {od7 an7 : Option Addr} {sl7 : Array (Option Value)} {oc7 kV7 dc7 pm7 cd7 ct7 : Value}
    {f8 : Addr} {od8 an8 : Option Addr} {sl8 : Array (Option Value)} {oc8 kV8 dc8 pm8 cd8 ct8 : Value}
    {f9 : Addr} {od9 an9 : Option Addr} {sl9 : Array (Option Value)} {oc9 kV9 dc9 pm9 cd9 ct9 : Value}
    {f10 : Addr} {od10 an10 : Option Addr} {sl10 : Array (Option Value)} {oc10 kV10 dc10 pm10 cd10 ct10 : Value}
    {f11 : Addr} {od11 an11 : Option Addr} {sl11 : Array (Option Value)} {oc11 kV11 dc11 pm11 cd11 ct11 : Value}
    {f12 : Addr} {od12 an12 : Option Addr} {sl12 : Array (Option Value)} {oc12 kV12 dc12 pm12 cd12 ct12 : Value}
    {f13 : Addr} {od13 an13 : Option Addr} {sl13 : Array (Option Value)} {oc13 kV13 dc13 pm13 cd13 ct13 : Value}
    {f14 : Addr} {od14 an14 : Option Addr} {sl14 : Array (Option Value)} {oc14 kV14 dc14 pm14 cd14 ct14 : Value}
    {f15 : Addr} {od15 an15 : Option Addr} {sl15 : Array (Option Value)} {oc15 kV15 dc15 pm15 cd15 ct15 : Value}
    {f16 : Addr} {od16 an16 : Option Addr} {sl16 : Array (Option Value)} {oc16 kV16 dc16 pm16 cd16 ct16 : Value}
    {f17 : Addr} {od17 an17 : Option Addr} {sl17 : Array (Option Value)} {oc17 kV17 dc17 pm17 cd17 ct17 : Value}
    {f18 : Addr} {od18 an18 : Option Addr} {sl18 : Array (Option Value)} {oc18 kV18 dc18 pm18 cd18 ct18 : Value}
    {f19 : Addr} {od19 an19 : Option Addr} {sl19 : Array (Option Value)} {oc19 kV19 dc19 pm19 cd19 ct19 : Value}
    {f20 : Addr} {od20 an20 : Option Addr} {sl20 : Array (Option Value)} {oc20 kV20 dc20 pm20 cd20 ct20 : Value}
    {f21 : Addr} {od21 an21 : Option Addr} {sl21 : Array (Option Value)} {oc21 kV21 dc21 pm21 cd21 ct21 : Value}
    {f22 : Addr} {od22 an22 : Option Addr} {sl22 : Array (Option Value)} {oc22 kV22 dc22 pm22 cd22 ct22 : Value}
    {f23 : Addr} {od23 an23 : Option Addr} {sl23 : Array (Option Value)} {oc23 kV23 dc23 pm23 cd23 ct23 : Value}
    {f24 : Addr} {od24 an24 : Option Addr} {sl24 : Array (Option Value)} {oc24 kV24 dc24 pm24 cd24 ct24 : Value}
    (a0 : PySem.W.nsIn K mainGlobals "ends_of" = some (some (.ref f0))) (l0 : K.lookup f0 = some ⟨oc0, od0, .func (PySem.W.fnOf "ends_of" "ends_of" (defArgs s_ends_of) (defBody s_ends_of) (defScope s_ends_of) .none kV0 dc0 pm0 an0 cd0 ct0), sl0⟩) (c0 : PySem.W.codeIn K cd0 "ends_of" = true) (k0 : PySem.W.keepIn K (.ref f0) = true)
    (a1 : PySem.W.nsIn K mainGlobals "size_of_units" = some (some (.ref f1))) (l1 : K.lookup f1 = some ⟨oc1, od1, .func (PySem.W.fnOf "size_of_units" "size_of_units" (defArgs s_size_of_units) (defBody s_size_of_units) (defScope s_size_of_units) .none kV1 dc1 pm1 an1 cd1 ct1), sl1⟩) (c1 : PySem.W.codeIn K cd1 "size_of_units" = true) (k1 : PySem.W.keepIn K (.ref f1) = true)
    (a2 : PySem.W.nsIn K mainGlobals "part_marks" = some (some (.ref f2))) (l2 : K.lookup f2 = some ⟨oc2, od2, .func (PySem.W.fnOf "part_marks" "part_marks" (defArgs s_part_marks) (defBody s_part_marks) (defScope s_part_marks) .none kV2 dc2 pm2 an2 cd2 ct2), sl2⟩) (c2 : PySem.W.codeIn K cd2 "part_marks" = true) (k2 : PySem.W.keepIn K (.ref f2) = true)
    (a3 : PySem.W.nsIn K mainGlobals "part_top" = some (some (.ref f3))) (l3 : K.lookup f3 = some ⟨oc3, od3, .func (PySem.W.fnOf "part_top" "part_top" (defArgs s_part_top) (defBody s_part_top) (defScope s_part_top) .none kV3 dc3 pm3 an3 cd3 ct3), sl3⟩) (c3 : PySem.W.codeIn K cd3 "part_top" = true) (k3 : PySem.W.keepIn K (.ref f3) = true)
    (a4 : PySem.W.nsIn K mainGlobals "top_of" = some (some (.ref f4))) (l4 : K.lookup f4 = some ⟨oc4, od4, .func (PySem.W.fnOf "top_of" "top_of" (defArgs s_top_of) (defBody s_top_of) (defScope s_top_of) .none kV4 dc4 pm4 an4 cd4 ct4), sl4⟩) (c4 : PySem.W.codeIn K cd4 "top_of" = true) (k4 : PySem.W.keepIn K (.ref f4) = true)
    (a5 : PySem.W.nsIn K mainGlobals "marks_of" = some (some (.ref f5))) (l5 : K.lookup f5 = some ⟨oc5, od5, .func (PySem.W.fnOf "marks_of" "marks_of" (defArgs s_marks_of) (defBody s_marks_of) (defScope s_marks_of) .none kV5 dc5 pm5 an5 cd5 ct5), sl5⟩) (c5 : PySem.W.codeIn K cd5 "marks_of" = true) (k5 : PySem.W.keepIn K (.ref f5) = true)
    (a6 : PySem.W.nsIn K mainGlobals "bottom_of" = some (some (.ref f6))) (l6 : K.lookup f6 = some ⟨oc6, od6, .func (PySem.W.fnOf "bottom_of" "bottom_of" (defArgs s_bottom_of) (defBody s_bottom_of) (defScope s_bottom_of) .none kV6 dc6 pm6 an6 cd6 ct6), sl6⟩) (c6 : PySem.W.codeIn K cd6 "bottom_of" = true) (k6 : PySem.W.keepIn K (.ref f6) = true)
    (a7 : PySem.W.nsIn K mainGlobals "gap_of" = some (some (.ref f7))) (l7 : K.lookup f7 = some ⟨oc7, od7, .func (PySem.W.fnOf "gap_of" "gap_of" (defArgs s_gap_of) (defBody s_gap_of) (defScope s_gap_of) .none kV7 dc7 pm7 an7 cd7 ct7), sl7⟩) (c7 : PySem.W.codeIn K cd7 "gap_of" = true) (k7 : PySem.W.keepIn K (.ref f7) = true)
    (a8 : PySem.W.nsIn K mainGlobals "reach_of" = some (some (.ref f8))) (l8 : K.lookup f8 = some ⟨oc8, od8, .func (PySem.W.fnOf "reach_of" "reach_of" (defArgs s_reach_of) (defBody s_reach_of) (defScope s_reach_of) .none kV8 dc8 pm8 an8 cd8 ct8), sl8⟩) (c8 : PySem.W.codeIn K cd8 "reach_of" = true) (k8 : PySem.W.keepIn K (.ref f8) = true)
    (a9 : PySem.W.nsIn K mainGlobals "period_of" = some (some (.ref f9))) (l9 : K.lookup f9 = some ⟨oc9, od9, .func (PySem.W.fnOf "period_of" "period_of" (defArgs s_period_of) (defBody s_period_of) (defScope s_period_of) .none kV9 dc9 pm9 an9 cd9 ct9), sl9⟩) (c9 : PySem.W.codeIn K cd9 "period_of" = true) (k9 : PySem.W.keepIn K (.ref f9) = true)
    (a10 : PySem.W.nsIn K mainGlobals "bound_of" = some (some (.ref f10))) (l10 : K.lookup f10 = some ⟨oc10, od10, .func (PySem.W.fnOf "bound_of" "bound_of" (defArgs s_bound_of) (defBody s_bound_of) (defScope s_bound_of) .none kV10 dc10 pm10 an10 cd10 ct10), sl10⟩) (c10 : PySem.W.codeIn K cd10 "bound_of" = true) (k10 : PySem.W.keepIn K (.ref f10) = true)
    (a11 : PySem.W.nsIn K mainGlobals "_law_chest" = some (some (.ref f11))) (l11 : K.lookup f11 = some ⟨oc11, od11, .func (PySem.W.fnOf "_law_chest" "_law_chest" (defArgs s__law_chest) (defBody s__law_chest) (defScope s__law_chest) .none kV11 dc11 pm11 an11 cd11 ct11), sl11⟩) (c11 : PySem.W.codeIn K cd11 "_law_chest" = true) (k11 : PySem.W.keepIn K (.ref f11) = true)
    (a12 : PySem.W.nsIn K mainGlobals "_law_pull" = some (some (.ref f12))) (l12 : K.lookup f12 = some ⟨oc12, od12, .func (PySem.W.fnOf "_law_pull" "_law_pull" (defArgs s__law_pull) (defBody s__law_pull) (defScope s__law_pull) .none kV12 dc12 pm12 an12 cd12 ct12), sl12⟩) (c12 : PySem.W.codeIn K cd12 "_law_pull" = true) (k12 : PySem.W.keepIn K (.ref f12) = true)
    (a13 : PySem.W.nsIn K mainGlobals "_law_multiple" = some (some (.ref f13))) (l13 : K.lookup f13 = some ⟨oc13, od13, .func (PySem.W.fnOf "_law_multiple" "_law_multiple" (defArgs s__law_multiple) (defBody s__law_multiple) (defScope s__law_multiple) .none kV13 dc13 pm13 an13 cd13 ct13), sl13⟩) (c13 : PySem.W.codeIn K cd13 "_law_multiple" = true) (k13 : PySem.W.keepIn K (.ref f13) = true)
    (a14 : PySem.W.nsIn K mainGlobals "_law_lowest" = some (some (.ref f14))) (l14 : K.lookup f14 = some ⟨oc14, od14, .func (PySem.W.fnOf "_law_lowest" "_law_lowest" (defArgs s__law_lowest) (defBody s__law_lowest) (defScope s__law_lowest) .none kV14 dc14 pm14 an14 cd14 ct14), sl14⟩) (c14 : PySem.W.codeIn K cd14 "_law_lowest" = true) (k14 : PySem.W.keepIn K (.ref f14) = true)
    (a15 : PySem.W.nsIn K mainGlobals "_law_mark" = some (some (.ref f15))) (l15 : K.lookup f15 = some ⟨oc15, od15, .func (PySem.W.fnOf "_law_mark" "_law_mark" (defArgs s__law_mark) (defBody s__law_mark) (defScope s__law_mark) .none kV15 dc15 pm15 an15 cd15 ct15), sl15⟩) (c15 : PySem.W.codeIn K cd15 "_law_mark" = true) (k15 : PySem.W.keepIn K (.ref f15) = true)
    (a16 : PySem.W.nsIn K mainGlobals "_law_units" = some (some (.ref f16))) (l16 : K.lookup f16 = some ⟨oc16, od16, .func (PySem.W.fnOf "_law_units" "_law_units" (defArgs s__law_units) (defBody s__law_units) (defScope s__law_units) .none kV16 dc16 pm16 an16 cd16 ct16), sl16⟩) (c16 : PySem.W.codeIn K cd16 "_law_units" = true) (k16 : PySem.W.keepIn K (.ref f16) = true)
    (a17 : PySem.W.nsIn K mainGlobals "_law_part" = some (some (.ref f17))) (l17 : K.lookup f17 = some ⟨oc17, od17, .func (PySem.W.fnOf "_law_part" "_law_part" (defArgs s__law_part) (defBody s__law_part) (defScope s__law_part) .none kV17 dc17 pm17 an17 cd17 ct17), sl17⟩) (c17 : PySem.W.codeIn K cd17 "_law_part" = true) (k17 : PySem.W.keepIn K (.ref f17) = true)
    (a18 : PySem.W.nsIn K mainGlobals "_law_special" = some (some (.ref f18))) (l18 : K.lookup f18 = some ⟨oc18, od18, .func (PySem.W.fnOf "_law_special" "_law_special" (defArgs s__law_special) (defBody s__law_special) (defScope s__law_special) .none kV18 dc18 pm18 an18 cd18 ct18), sl18⟩) (c18 : PySem.W.codeIn K cd18 "_law_special" = true) (k18 : PySem.W.keepIn K (.ref f18) = true)
    (a19 : PySem.W.nsIn K mainGlobals "_law_due" = some (some (.ref f19))) (l19 : K.lookup f19 = some ⟨oc19, od19, .func (PySem.W.fnOf "_law_due" "_law_due" (defArgs s__law_due) (defBody s__law_due) (defScope s__law_due) .none kV19 dc19 pm19 an19 cd19 ct19), sl19⟩) (c19 : PySem.W.codeIn K cd19 "_law_due" = true) (k19 : PySem.W.keepIn K (.ref f19) = true)
    (a20 : PySem.W.nsIn K mainGlobals "_law_told" = some (some (.ref f20))) (l20 : K.lookup f20 = some ⟨oc20, od20, .func (PySem.W.fnOf "_law_told" "_law_told" (defArgs s__law_told) (defBody s__law_told) (defScope s__law_told) .none kV20 dc20 pm20 an20 cd20 ct20), sl20⟩) (c20 : PySem.W.codeIn K cd20 "_law_told" = true) (k20 : PySem.W.keepIn K (.ref f20) = true)
    (a21 : PySem.W.nsIn K mainGlobals "_law_holds" = some (some (.ref f21))) (l21 : K.lookup f21 = some ⟨oc21, od21, .func (PySem.W.fnOf "_law_holds" "_law_holds" (defArgs s__law_holds) (defBody s__law_holds) (defScope s__law_holds) .none kV21 dc21 pm21 an21 cd21 ct21), sl21⟩) (c21 : PySem.W.codeIn K cd21 "_law_holds" = true) (k21 : PySem.W.keepIn K (.ref f21) = true)
    (a22 : PySem.W.nsIn K mainGlobals "_law_plain" = some (some (.ref f22))) (l22 : K.lookup f22 = some ⟨oc22, od22, .func (PySem.W.fnOf "_law_plain" "_law_plain" (defArgs s__law_plain) (defBody s__law_plain) (defScope s__law_plain) .none kV22 dc22 pm22 an22 cd22 ct22), sl22⟩) (c22 : PySem.W.codeIn K cd22 "_law_plain" = true) (k22 : PySem.W.keepIn K (.ref f22) = true)
    (a23 : PySem.W.nsIn K mainGlobals "_law_free" = some (some (.ref f23))) (l23 : K.lookup f23 = some ⟨oc23, od23, .func (PySem.W.fnOf "_law_free" "_law_free" (defArgs s__law_free) (defBody s__law_free) (defScope s__law_free) .none kV23 dc23 pm23 an23 cd23 ct23), sl23⟩) (c23 : PySem.W.codeIn K cd23 "_law_free" = true) (k23 : PySem.W.keepIn K (.ref f23) = true)
    (a24 : PySem.W.nsIn K mainGlobals "law" = some (some (.ref f24))) (l24 : K.lookup f24 = some ⟨oc24, od24, .func (PySem.W.fnOf "law" "law" (defArgs s_law) (defBody s_law) (defScope s_law) .none kV24 dc24 pm24 an24 cd24 ct24), sl24⟩) (c24 : PySem.W.codeIn K cd24 "law" = true) (k24 : PySem.W.keepIn K (.ref f24) = true)
    (z0 : PySem.W.nsIn K mainGlobals "abs" = some none)
    (z1 : PySem.W.nsIn K mainGlobals "bool" = some none)
    (z2 : PySem.W.nsIn K mainGlobals "int" = some none)
    (z3 : PySem.W.nsIn K mainGlobals "isinstance" = some none)
    (z4 : PySem.W.nsIn K mainGlobals "len" = some none)
    (z5 : PySem.W.nsIn K mainGlobals "list" = some none)
    (z6 : PySem.W.nsIn K mainGlobals "max" = some none)
    (z7 : PySem.W.nsIn K mainGlobals "range" = some none)
    (z8 : PySem.W.nsIn K mainGlobals "sorted" = some none)
    (z9 : PySem.W.nsIn K mainGlobals "tuple" = some none)
    (y0 : PySem.W.nsIn K mainGlobals "lcm" = some (some (.builtin "math.lcm")))
    : ∃ fd : FuncData, (∀ (s : Shared) (v : Value), BindsTo s fd ⟨[v], []⟩ [("script", v)]) ∧ ∀ base : Heap, K.In base → base.Ns mainGlobals mg → FnOk l.prog w K mg base CX0 25 fa fd ["script"] (@spOf ⟨K⟩ 1 sp_law) := by
  letI : KF := ⟨K⟩
  have e := hfa.symm.trans (PySem.W.mg_of X G a24)
  cases e
  have d0 : DF mg "ends_of" s_ends_of ["unit"] _ (PySem.W.fnOf "ends_of" "ends_of" (defArgs s_ends_of) (defBody s_ends_of) (defScope s_ends_of) .none kV0 dc0 pm0 an0 cd0 ct0) := df_mk X G a0 l0 c0 k0 (fun _ _ _ _ _ _ us hl => match us, hl with | [_], _ => rfl)
  have d1 : DF mg "size_of_units" s_size_of_units ["units"] _ (PySem.W.fnOf "size_of_units" "size_of_units" (defArgs s_size_of_units) (defBody s_size_of_units) (defScope s_size_of_units) .none kV1 dc1 pm1 an1 cd1 ct1) := df_mk X G a1 l1 c1 k1 (fun _ _ _ _ _ _ us hl => match us, hl with | [_], _ => rfl)
  have d2 : DF mg "part_marks" s_part_marks ["part"] _ (PySem.W.fnOf "part_marks" "part_marks" (defArgs s_part_marks) (defBody s_part_marks) (defScope s_part_marks) .none kV2 dc2 pm2 an2 cd2 ct2) := df_mk X G a2 l2 c2 k2 (fun _ _ _ _ _ _ us hl => match us, hl with | [_], _ => rfl)
  have d3 : DF mg "part_top" s_part_top ["part"] _ (PySem.W.fnOf "part_top" "part_top" (defArgs s_part_top) (defBody s_part_top) (defScope s_part_top) .none kV3 dc3 pm3 an3 cd3 ct3) := df_mk X G a3 l3 c3 k3 (fun _ _ _ _ _ _ us hl => match us, hl with | [_], _ => rfl)
  have d4 : DF mg "top_of" s_top_of ["code"] _ (PySem.W.fnOf "top_of" "top_of" (defArgs s_top_of) (defBody s_top_of) (defScope s_top_of) .none kV4 dc4 pm4 an4 cd4 ct4) := df_mk X G a4 l4 c4 k4 (fun _ _ _ _ _ _ us hl => match us, hl with | [_], _ => rfl)
  have d5 : DF mg "marks_of" s_marks_of ["code"] _ (PySem.W.fnOf "marks_of" "marks_of" (defArgs s_marks_of) (defBody s_marks_of) (defScope s_marks_of) .none kV5 dc5 pm5 an5 cd5 ct5) := df_mk X G a5 l5 c5 k5 (fun _ _ _ _ _ _ us hl => match us, hl with | [_], _ => rfl)
  have d6 : DF mg "bottom_of" s_bottom_of ["code"] _ (PySem.W.fnOf "bottom_of" "bottom_of" (defArgs s_bottom_of) (defBody s_bottom_of) (defScope s_bottom_of) .none kV6 dc6 pm6 an6 cd6 ct6) := df_mk X G a6 l6 c6 k6 (fun _ _ _ _ _ _ us hl => match us, hl with | [_], _ => rfl)
  have d7 : DF mg "gap_of" s_gap_of ["code"] _ (PySem.W.fnOf "gap_of" "gap_of" (defArgs s_gap_of) (defBody s_gap_of) (defScope s_gap_of) .none kV7 dc7 pm7 an7 cd7 ct7) := df_mk X G a7 l7 c7 k7 (fun _ _ _ _ _ _ us hl => match us, hl with | [_], _ => rfl)
  have d8 : DF mg "reach_of" s_reach_of ["code"] _ (PySem.W.fnOf "reach_of" "reach_of" (defArgs s_reach_of) (defBody s_reach_of) (defScope s_reach_of) .none kV8 dc8 pm8 an8 cd8 ct8) := df_mk X G a8 l8 c8 k8 (fun _ _ _ _ _ _ us hl => match us, hl with | [_], _ => rfl)
  have d9 : DF mg "period_of" s_period_of ["code"] _ (PySem.W.fnOf "period_of" "period_of" (defArgs s_period_of) (defBody s_period_of) (defScope s_period_of) .none kV9 dc9 pm9 an9 cd9 ct9) := df_mk X G a9 l9 c9 k9 (fun _ _ _ _ _ _ us hl => match us, hl with | [_], _ => rfl)
  have d10 : DF mg "bound_of" s_bound_of ["code"] _ (PySem.W.fnOf "bound_of" "bound_of" (defArgs s_bound_of) (defBody s_bound_of) (defScope s_bound_of) .none kV10 dc10 pm10 an10 cd10 ct10) := df_mk X G a10 l10 c10 k10 (fun _ _ _ _ _ _ us hl => match us, hl with | [_], _ => rfl)
  have d11 : DF mg "_law_chest" s__law_chest ["script"] _ (PySem.W.fnOf "_law_chest" "_law_chest" (defArgs s__law_chest) (defBody s__law_chest) (defScope s__law_chest) .none kV11 dc11 pm11 an11 cd11 ct11) := df_mk X G a11 l11 c11 k11 (fun _ _ _ _ _ _ us hl => match us, hl with | [_], _ => rfl)
  have d12 : DF mg "_law_pull" s__law_pull ["chest", "many"] _ (PySem.W.fnOf "_law_pull" "_law_pull" (defArgs s__law_pull) (defBody s__law_pull) (defScope s__law_pull) .none kV12 dc12 pm12 an12 cd12 ct12) := df_mk X G a12 l12 c12 k12 (fun _ _ _ _ _ _ us hl => match us, hl with | [_, _], _ => rfl)
  have d13 : DF mg "_law_multiple" s__law_multiple ["one", "other"] _ (PySem.W.fnOf "_law_multiple" "_law_multiple" (defArgs s__law_multiple) (defBody s__law_multiple) (defScope s__law_multiple) .none kV13 dc13 pm13 an13 cd13 ct13) := df_mk X G a13 l13 c13 k13 (fun _ _ _ _ _ _ us hl => match us, hl with | [_, _], _ => rfl)
  have d14 : DF mg "_law_lowest" s__law_lowest ["share", "bottom"] _ (PySem.W.fnOf "_law_lowest" "_law_lowest" (defArgs s__law_lowest) (defBody s__law_lowest) (defScope s__law_lowest) .none kV14 dc14 pm14 an14 cd14 ct14) := df_mk X G a14 l14 c14 k14 (fun _ _ _ _ _ _ us hl => match us, hl with | [_, _], _ => rfl)
  have d15 : DF mg "_law_mark" s__law_mark ["chest", "bottoms", "reach"] _ (PySem.W.fnOf "_law_mark" "_law_mark" (defArgs s__law_mark) (defBody s__law_mark) (defScope s__law_mark) .none kV15 dc15 pm15 an15 cd15 ct15) := df_mk X G a15 l15 c15 k15 (fun _ _ _ _ _ _ us hl => match us, hl with | [_, _, _], _ => rfl)
  have d16 : DF mg "_law_units" s__law_units ["chest", "top"] _ (PySem.W.fnOf "_law_units" "_law_units" (defArgs s__law_units) (defBody s__law_units) (defScope s__law_units) .none kV16 dc16 pm16 an16 cd16 ct16) := df_mk X G a16 l16 c16 k16 (fun _ _ _ _ _ _ us hl => match us, hl with | [_, _], _ => rfl)
  have d17 : DF mg "_law_part" s__law_part ["chest", "bottoms", "gaps", "reach", "top"] _ (PySem.W.fnOf "_law_part" "_law_part" (defArgs s__law_part) (defBody s__law_part) (defScope s__law_part) .none kV17 dc17 pm17 an17 cd17 ct17) := df_mk X G a17 l17 c17 k17 (fun _ _ _ _ _ _ us hl => match us, hl with | [_, _, _, _, _], _ => rfl)
  have d18 : DF mg "_law_special" s__law_special ["chest"] _ (PySem.W.fnOf "_law_special" "_law_special" (defArgs s__law_special) (defBody s__law_special) (defScope s__law_special) .none kV18 dc18 pm18 an18 cd18 ct18) := df_mk X G a18 l18 c18 k18 (fun _ _ _ _ _ _ us hl => match us, hl with | [_], _ => rfl)
  have d19 : DF mg "_law_due" s__law_due ["code"] _ (PySem.W.fnOf "_law_due" "_law_due" (defArgs s__law_due) (defBody s__law_due) (defScope s__law_due) .none kV19 dc19 pm19 an19 cd19 ct19) := df_mk X G a19 l19 c19 k19 (fun _ _ _ _ _ _ us hl => match us, hl with | [_], _ => rfl)
  have d20 : DF mg "_law_told" s__law_told ["code", "named"] _ (PySem.W.fnOf "_law_told" "_law_told" (defArgs s__law_told) (defBody s__law_told) (defScope s__law_told) .none kV20 dc20 pm20 an20 cd20 ct20) := df_mk X G a20 l20 c20 k20 (fun _ _ _ _ _ _ us hl => match us, hl with | [_, _], _ => rfl)
  have d21 : DF mg "_law_holds" s__law_holds ["code", "named"] _ (PySem.W.fnOf "_law_holds" "_law_holds" (defArgs s__law_holds) (defBody s__law_holds) (defScope s__law_holds) .none kV21 dc21 pm21 an21 cd21 ct21) := df_mk X G a21 l21 c21 k21 (fun _ _ _ _ _ _ us hl => match us, hl with | [_, _], _ => rfl)
  have d22 : DF mg "_law_plain" s__law_plain ["chest", "many"] _ (PySem.W.fnOf "_law_plain" "_law_plain" (defArgs s__law_plain) (defBody s__law_plain) (defScope s__law_plain) .none kV22 dc22 pm22 an22 cd22 ct22) := df_mk X G a22 l22 c22 k22 (fun _ _ _ _ _ _ us hl => match us, hl with | [_, _], _ => rfl)
  have d23 : DF mg "_law_free" s__law_free ["chest", "many"] _ (PySem.W.fnOf "_law_free" "_law_free" (defArgs s__law_free) (defBody s__law_free) (defScope s__law_free) .none kV23 dc23 pm23 an23 cd23 ct23) := df_mk X G a23 l23 c23 k23 (fun _ _ _ _ _ _ us hl => match us, hl with | [_, _], _ => rfl)
  have d24 : DF mg "law" s_law ["script"] _ (PySem.W.fnOf "law" "law" (defArgs s_law) (defBody s_law) (defScope s_law) .none kV24 dc24 pm24 an24 cd24 ct24) := df_mk X G a24 l24 c24 k24 (fun _ _ _ _ _ _ us hl => match us, hl with | [_], _ => rfl)
  have kb6_0 : KBinds K (PySem.W.fnOf "bottom_of" "bottom_of" (defArgs s_bottom_of) (defBody s_bottom_of) (defScope s_bottom_of) .none kV6 dc6 pm6 an6 cd6 ct6) ["code"] ["code"] (· ++ ·) (· ++ ·) := ⟨fun s us ws _ hl => by
    have hl2 : us.length + ws.length = 1 := by rw [← List.length_append]; exact hl
    match us, ws, hl2 with
    | [], [u0], _ => exact .of_eq rfl
    | [u0], [], _ => exact .of_eq rfl
    , fun r1 r2 => r1.append r2⟩
  have kb7_0 : KBinds K (PySem.W.fnOf "gap_of" "gap_of" (defArgs s_gap_of) (defBody s_gap_of) (defScope s_gap_of) .none kV7 dc7 pm7 an7 cd7 ct7) ["code"] ["code"] (· ++ ·) (· ++ ·) := ⟨fun s us ws _ hl => by
    have hl2 : us.length + ws.length = 1 := by rw [← List.length_append]; exact hl
    match us, ws, hl2 with
    | [], [u0], _ => exact .of_eq rfl
    | [u0], [], _ => exact .of_eq rfl
    , fun r1 r2 => r1.append r2⟩
  have kb8_0 : KBinds K (PySem.W.fnOf "reach_of" "reach_of" (defArgs s_reach_of) (defBody s_reach_of) (defScope s_reach_of) .none kV8 dc8 pm8 an8 cd8 ct8) ["code"] ["code"] (· ++ ·) (· ++ ·) := ⟨fun s us ws _ hl => by
    have hl2 : us.length + ws.length = 1 := by rw [← List.length_append]; exact hl
    match us, ws, hl2 with
    | [], [u0], _ => exact .of_eq rfl
    | [u0], [], _ => exact .of_eq rfl
    , fun r1 r2 => r1.append r2⟩
  have kb9_0 : KBinds K (PySem.W.fnOf "period_of" "period_of" (defArgs s_period_of) (defBody s_period_of) (defScope s_period_of) .none kV9 dc9 pm9 an9 cd9 ct9) ["code"] ["code"] (· ++ ·) (· ++ ·) := ⟨fun s us ws _ hl => by
    have hl2 : us.length + ws.length = 1 := by rw [← List.length_append]; exact hl
    match us, ws, hl2 with
    | [], [u0], _ => exact .of_eq rfl
    | [u0], [], _ => exact .of_eq rfl
    , fun r1 r2 => r1.append r2⟩
  have kb10_0 : KBinds K (PySem.W.fnOf "bound_of" "bound_of" (defArgs s_bound_of) (defBody s_bound_of) (defScope s_bound_of) .none kV10 dc10 pm10 an10 cd10 ct10) ["code"] ["code"] (· ++ ·) (· ++ ·) := ⟨fun s us ws _ hl => by
    have hl2 : us.length + ws.length = 1 := by rw [← List.length_append]; exact hl
    match us, ws, hl2 with
    | [], [u0], _ => exact .of_eq rfl
    | [u0], [], _ => exact .of_eq rfl
    , fun r1 r2 => r1.append r2⟩
  have blt : ∀ f ∈ bB, mg (Str.ofString f) = none := by
    intro f hf
    simp only [bB, List.mem_cons, List.not_mem_nil, or_false] at hf
    rcases hf with rfl | rfl | rfl | rfl | rfl | rfl | rfl | rfl | rfl | rfl
    · exact PySem.W.mg_none_of X G z0
    · exact PySem.W.mg_none_of X G z1
    · exact PySem.W.mg_none_of X G z2
    · exact PySem.W.mg_none_of X G z3
    · exact PySem.W.mg_none_of X G z4
    · exact PySem.W.mg_none_of X G z5
    · exact PySem.W.mg_none_of X G z6
    · exact PySem.W.mg_none_of X G z7
    · exact PySem.W.mg_none_of X G z8
    · exact PySem.W.mg_none_of X G z9
  refine ⟨(PySem.W.fnOf "law" "law" (defArgs s_law) (defBody s_law) (defScope s_law) .none kV24 dc24 pm24 an24 cd24 ct24), fun s v => .of_eq rfl, fun base _ _ => ?_⟩
  exact chain (P := l.prog) d0 d1 d2 d3 d4 d5 d6 d7 d8 d9 d10 d11 d12 d13 d14 d15 d16 d17 d18 d19 d20 d21 d22 d23 d24 kb6_0 kb7_0 kb8_0 kb9_0 kb10_0 blt (PySem.W.mg_of X G y0)
theorem law_end (K : PySem.W.Frag) {H : Hp} {a : Addr} {ns : List Int} {E : L2.XK} (hl : ns.length ≤ 63) (hS : SqL K H a (ns.map V.int)) : @spOf ⟨K⟩ 1 sp_law [.ref a] H (fun v _ => v = .bl true) E := by
  letI : KF := ⟨K⟩
  have fin : ∀ d : D, (d = .lst (ns.map D.int) ∨ d = .klst (ns.map D.int)) → Rep (fun _ => none) H d (.ref a) → spOf 1 sp_law [.ref a] H (fun v _ => v = .bl true) E := fun d hd hr =>
    ⟨rfl, fun _ => none, [d], .cons hr .nil, fun a o e => (nomatch e), runC.of ⟨d, ns, rfl, hd, hl, fun M' v H' _ _ h => by rw [Rep] at h; exact h⟩⟩
  rcases hS with hS | hS
  · exact fin _ (.inl rfl) (by rw [Rep]; exact ⟨a, _, rfl, rfl, hS, reps_ints ns⟩)
  · exact fin _ (.inr rfl) (by rw [Rep]; exact ⟨a, _, rfl, hS, reps_ints ns⟩)
end K25
open PySem PySem.W PyProof.Rows
set_option maxHeartbeats 0 in
theorem PySem.Challenge.cw_fewlifts_k25_bounds_holds : PySem.Challenge.rw_fewlifts_k25_bounds.Holds := by
  w_on; o_law; k_head; (case hw => w_witness2)
  k_fill
  refine L2.walk_ofK (l := PySem.Challenge.rw_fewlifts_k25_bounds) (n := 63) (k := 25) (x := "script") (CX := L2.CX0) (sp := fun K => @Vc.spOf ⟨K⟩ 1 K25.sp_law) rfl (by decide) rfl ⟨rfl, by decide, by decide⟩ (fun w h Y => PySem.W.kIn_of Y) ?F (fun K _ a ns hl _ hS => K25.law_end K hl hS) (fun _ _ _ _ h => h)
  case F =>
    intro w mg fa h KX G hmg
    refine' K25.all_mk KX G hmg ?a0 ?l0 ?c0 ?k0 ?a1 ?l1 ?c1 ?k1 ?a2 ?l2 ?c2 ?k2 ?a3 ?l3 ?c3 ?k3 ?a4 ?l4 ?c4 ?k4 ?a5 ?l5 ?c5 ?k5 ?a6 ?l6 ?c6 ?k6 ?a7 ?l7 ?c7 ?k7 ?a8 ?l8 ?c8 ?k8 ?a9 ?l9 ?c9 ?k9 ?a10 ?l10 ?c10 ?k10 ?a11 ?l11 ?c11 ?k11 ?a12 ?l12 ?c12 ?k12 ?a13 ?l13 ?c13 ?k13 ?a14 ?l14 ?c14 ?k14 ?a15 ?l15 ?c15 ?k15 ?a16 ?l16 ?c16 ?k16 ?a17 ?l17 ?c17 ?k17 ?a18 ?l18 ?c18 ?k18 ?a19 ?l19 ?c19 ?k19 ?a20 ?l20 ?c20 ?k20 ?a21 ?l21 ?c21 ?k21 ?a22 ?l22 ?c22 ?k22 ?a23 ?l23 ?c23 ?k23 ?a24 ?l24 ?c24 ?k24 ?z0 ?z1 ?z2 ?z3 ?z4 ?z5 ?z6 ?z7 ?z8 ?z9 ?y0
    (case a0 => k_is); (case l0 => k_is); (case c0 => k_is); (case k0 => k_is); (case a1 => k_is); (case l1 => k_is); (case c1 => k_is); (case k1 => k_is); (case a2 => k_is); (case l2 => k_is); (case c2 => k_is); (case k2 => k_is); (case a3 => k_is); (case l3 => k_is); (case c3 => k_is); (case k3 => k_is); (case a4 => k_is); (case l4 => k_is); (case c4 => k_is); (case k4 => k_is); (case a5 => k_is); (case l5 => k_is); (case c5 => k_is); (case k5 => k_is); (case a6 => k_is); (case l6 => k_is); (case c6 => k_is); (case k6 => k_is); (case a7 => k_is); (case l7 => k_is); (case c7 => k_is); (case k7 => k_is); (case a8 => k_is); (case l8 => k_is); (case c8 => k_is); (case k8 => k_is); (case a9 => k_is); (case l9 => k_is); (case c9 => k_is); (case k9 => k_is); (case a10 => k_is); (case l10 => k_is); (case c10 => k_is); (case k10 => k_is); (case a11 => k_is); (case l11 => k_is); (case c11 => k_is); (case k11 => k_is); (case a12 => k_is); (case l12 => k_is); (case c12 => k_is); (case k12 => k_is); (case a13 => k_is); (case l13 => k_is); (case c13 => k_is); (case k13 => k_is); (case a14 => k_is); (case l14 => k_is); (case c14 => k_is); (case k14 => k_is); (case a15 => k_is); (case l15 => k_is); (case c15 => k_is); (case k15 => k_is); (case a16 => k_is); (case l16 => k_is); (case c16 => k_is); (case k16 => k_is); (case a17 => k_is); (case l17 => k_is); (case c17 => k_is); (case k17 => k_is); (case a18 => k_is); (case l18 => k_is); (case c18 => k_is); (case k18 => k_is); (case a19 => k_is); (case l19 => k_is); (case c19 => k_is); (case k19 => k_is); (case a20 => k_is); (case l20 => k_is); (case c20 => k_is); (case k20 => k_is); (case a21 => k_is); (case l21 => k_is); (case c21 => k_is); (case k21 => k_is); (case a22 => k_is); (case l22 => k_is); (case c22 => k_is); (case k22 => k_is); (case a23 => k_is); (case l23 => k_is); (case c23 => k_is); (case k23 => k_is); (case a24 => k_is); (case l24 => k_is); (case c24 => k_is); (case k24 => k_is); (case z0 => k_is); (case z1 => k_is); (case z2 => k_is); (case z3 => k_is); (case z4 => k_is); (case z5 => k_is); (case z6 => k_is); (case z7 => k_is); (case z8 => k_is); (case z9 => k_is); (case y0 => k_is)
