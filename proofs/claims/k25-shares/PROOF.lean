import PyProof.Rows.All
import Wide.All
import OpenK.AllK
import Wide.FinOn
import HandS.ForMost
import HandS.Wide
import HandS.TupAny
import HandS.TupMul
import HandS.Deep
import HandS.IsInst
import HandS.Flow
import HandS.CallSlots
import HandS.Conv
import HandS.Style
import HandS.Zip
import HandS.ExcOwn
import HandS.WordsExc
import HandS.Walk
import KE.GoesMore
import HandS.TryOnly
import PySem.Challenge.RW_flippedthrees_k25_across_shares_and_step
set_option Elab.async false
set_option linter.all false
set_option maxRecDepth 100000
set_option maxHeartbeats 4000000
section
namespace F3
open PySem PySem.Spec L2

/-! ### data that stands in the heap; A: the addresses of lists that somebody may change -/
/-- a list of the written part -/
def KL (K : PySem.W.Frag) (a : Addr) (xs : List V) : Prop := ∃ (its : List Value) (n : Nat), K.lookup a = some { cls := .type "list", data := .seq its.toArray n } ∧ its.length ≤ sizeLine ∧ Vals xs its
def SqR (K : PySem.W.Frag) (H : Hp) (a : Addr) (xs : List V) : Prop := Rd H a (.lst xs) ∨ KL K a xs
theorem KL.sql {K : PySem.W.Frag} {H : Hp} {a : Addr} {xs : List V} (h : KL K a xs) : SqL K H a xs := by
  obtain ⟨its, n, e, z, r⟩ := h
  exact .inr ⟨_, its.toArray, n, e, rfl, rfl, rfl, by simpa using z, by simpa using r⟩
theorem SqR.sql {K : PySem.W.Frag} {H : Hp} {a : Addr} {xs : List V} (h : SqR K H a xs) : SqL K H a xs := h.elim .inl KL.sql
theorem SqR.obj {X : Cx} {pins : List (Addr × Obj)} {σ : St} {H : Hp} {s : Shared} {a : Addr} {xs : List V} (h : SqR X.K H a xs) (I : Inv X pins σ H s) : ∃ (its : List Value) (n : Nat), Vals xs its ∧ s.heap.get? a = some { cls := .type "list", data := .seq its.toArray n } ∧ xs.length ≤ sizeLine := by
  rcases h with h | ⟨its, n, e, z, r⟩
  · obtain ⟨z, its, n, r, e⟩ := h.ok I.hok
    exact ⟨its, n, r, e, z⟩
  · exact ⟨its, n, r, I.kIn _ _ e, by rw [r.length]; exact z⟩
mutual
inductive Dq (K : PySem.W.Frag) (A : Addr → Prop) (H : Hp) : V → PyData → Prop
  | non : Dq K A H .non .none
  | bl (b : Bool) : Dq K A H (.bl b) (.bool b)
  | int (i : Int) : Dq K A H (.int i) (.int i)
  | str (x : Str) (h : PyData.strOk x = true) : Dq K A H (.str x) (.str x)
  | lst {a : Addr} {xs : List V} {ds : List PyData} : ¬ A a → Rd H a (.lst xs) → DqA K A H xs ds → Dq K A H (.ref a) (.list ds)
  | kl {a : Addr} {xs : List V} {ds : List PyData} : KL K a xs → DqA K A H xs ds → Dq K A H (.ref a) (.list ds)
  | tup {a : Addr} {xs : List V} {ds : List PyData} : SqT K H a xs → DqA K A H xs ds → Dq K A H (.ref a) (.tuple ds)
inductive DqA (K : PySem.W.Frag) (A : Addr → Prop) (H : Hp) : List V → List PyData → Prop
  | nil : DqA K A H [] []
  | cons {v : V} {vs : List V} {d : PyData} {ds : List PyData} : Dq K A H v d → DqA K A H vs ds → DqA K A H (v :: vs) (d :: ds)
end

/-- all that stands beside A is kept; tuples and what is locked always -/
structure Kp (A : Addr → Prop) (H H' : Hp) : Prop where
  keep : ∀ a o, ¬ A a → H a = some o → H' a = some o
  tup : ∀ a xs, H a = some (.tup xs) → H' a = some (.tup xs)
  frz : ∀ a o u, H a = some (.frz o u) → H' a = some (.frz o u)
section
variable {K : PySem.W.Frag} {A B : Addr → Prop} {H H' H2 : Hp} {v : V} {d : PyData} {vs ws : List V} {ds es : List PyData} {a : Addr} {xs : List V}
theorem Kp.refl : Kp A H H := ⟨fun _ _ _ h => h, fun _ _ h => h, fun _ _ _ h => h⟩
theorem Kp.trans (h : Kp A H H') (h' : Kp A H' H2) : Kp A H H2 :=
  ⟨fun a o n q => h'.keep a o n (h.keep a o n q), fun a xs q => h'.tup a xs (h.tup a xs q), fun a o u q => h'.frz a o u (h.frz a o u q)⟩
theorem Kp.mono (h : Kp A H H') (s : ∀ a, A a → B a) : Kp B H H' := ⟨fun a o n q => h.keep a o (fun z => n (s a z)) q, h.tup, h.frz⟩
theorem Kp.of_same (h : Same H H') : Kp A H H' := ⟨fun a o _ q => h a o q, fun a xs q => h _ _ q, fun a o u q => h _ _ q⟩
theorem Kp.rdT (h : Kp A H H') (r : Rd H a (.tup xs)) : Rd H' a (.tup xs) := by
  rcases r with r | ⟨o, r⟩
  · exact .inl (h.tup _ _ r)
  · exact .inr ⟨o, h.frz _ _ _ r⟩
theorem Kp.sqT (h : Kp A H H') (r : SqT K H a xs) : SqT K H' a xs := by
  rcases r with r | r
  · exact .inl (h.rdT r)
  · exact .inr r
theorem Kp.rdL (h : Kp A H H') (n : ¬ A a) (r : Rd H a (.lst xs)) : Rd H' a (.lst xs) := by
  rcases r with r | ⟨o, r⟩
  · exact .inl (h.keep _ _ n r)
  · exact .inr ⟨o, h.frz _ _ _ r⟩
/-- a new object laid -/
theorem Kp.laid {o : HO} (n : H a = none) : Kp A H (upd H a o) := .of_same fun b u e => by rw [upd_ne (ne_of_none e n)]; exact e
theorem Same.laid {o : HO} (n : H a = none) : Same H (upd H a o) := fun b u e => by rw [upd_ne (ne_of_none e n)]; exact e
/-- a list or a dict written -/
theorem Kp.written {o u : HO} (ha : A a) (h : H a = some u) (hu : Mut (some u)) : Kp A H (upd H a o) := by
  refine ⟨fun b w n e => ?_, fun b ys e => ?_, fun b w z e => ?_⟩
  · rw [upd_ne (fun q => n (by rw [q]; exact ha))]; exact e
  · rw [upd_ne (fun q => by subst q; rw [h] at e; cases e; exact hu)]; exact e
  · rw [upd_ne (fun q => by subst q; rw [h] at e; cases e; exact hu)]; exact e
mutual
theorem Dq.mono (h : Kp A H H') (s : ∀ a, B a → A a) : ∀ (d : PyData) (v : V), Dq K A H v d → Dq K B H' v d
  | .none, _, q => by cases q; exact .non
  | .bool b, _, q => by cases q; exact .bl _
  | .int b, _, q => by cases q; exact .int _
  | .str b, _, q => by cases q with | str _ z => exact .str _ z
  | .list ds, _, q => by
    cases q with
    | lst n r t => exact .lst (fun z => n (s _ z)) (h.rdL n r) (DqA.mono h s ds _ t)
    | kl r t => exact .kl r (DqA.mono h s ds _ t)
  | .tuple ds, _, q => by
    cases q with
    | tup r t => exact .tup (h.sqT r) (DqA.mono h s ds _ t)
  | .dict _, _, q => by cases q
theorem DqA.mono (h : Kp A H H') (s : ∀ a, B a → A a) : ∀ (ds : List PyData) (vs : List V), DqA K A H vs ds → DqA K B H' vs ds
  | [], _, q => by cases q; exact .nil
  | d :: ds, _, q => by
    cases q with
    | cons q1 q2 => exact .cons (Dq.mono h s d _ q1) (DqA.mono h s ds _ q2)
end
theorem Dq.kp (q : Dq K A H v d) (h : Kp A H H') : Dq K A H' v d := Dq.mono h (fun _ z => z) d v q
theorem DqA.kp (q : DqA K A H vs ds) (h : Kp A H H') : DqA K A H' vs ds := DqA.mono h (fun _ z => z) ds vs q
theorem Dq.less (q : Dq K A H v d) (s : ∀ a, B a → A a) : Dq K B H v d := Dq.mono Kp.refl s d v q
theorem DqA.less (q : DqA K A H vs ds) (s : ∀ a, B a → A a) : DqA K B H vs ds := DqA.mono Kp.refl s ds vs q
theorem DqA.length : ∀ {vs : List V} {ds : List PyData}, DqA K A H vs ds → vs.length = ds.length
  | _, _, .nil => rfl
  | _, _, .cons _ t => by simp [DqA.length t]
theorem DqA.get : ∀ {vs : List V} {ds : List PyData} {i : Nat} {d : PyData}, DqA K A H vs ds → ds[i]? = some d → ∃ v, vs[i]? = some v ∧ Dq K A H v d
  | _, _, _, _, .nil, e => by simp at e
  | _, _, 0, _, .cons r _, e => by simp at e; subst e; exact ⟨_, rfl, r⟩
  | _, _, i + 1, d, .cons _ t, e => by
    obtain ⟨u, h1, h2⟩ := DqA.get (i := i) (d := d) t (by simpa using e)
    exact ⟨u, by simpa using h1, h2⟩
theorem DqA.getV : ∀ {vs : List V} {ds : List PyData} {i : Nat} {v : V}, DqA K A H vs ds → vs[i]? = some v → ∃ d, ds[i]? = some d ∧ Dq K A H v d
  | _, _, _, _, .nil, e => by simp at e
  | _, _, 0, _, .cons r _, e => by simp at e; subst e; exact ⟨_, rfl, r⟩
  | _, _, i + 1, d, .cons _ t, e => by
    obtain ⟨u, h1, h2⟩ := DqA.getV (i := i) (v := d) t (by simpa using e)
    exact ⟨u, by simpa using h1, h2⟩
theorem DqA.app : ∀ {vs ws : List V} {ds es : List PyData}, DqA K A H vs ds → DqA K A H ws es → DqA K A H (vs ++ ws) (ds ++ es)
  | _, _, _, _, .nil, s => s
  | _, _, _, _, .cons r t, s => .cons r (DqA.app t s)
theorem DqA.take : ∀ {vs : List V} {ds : List PyData} (n : Nat), DqA K A H vs ds → DqA K A H (vs.take n) (ds.take n)
  | _, _, 0, _ => .nil
  | _, _, _ + 1, .nil => .nil
  | _, _, n + 1, .cons r t => .cons r (DqA.take n t)
theorem DqA.drop : ∀ {vs : List V} {ds : List PyData} (n : Nat), DqA K A H vs ds → DqA K A H (vs.drop n) (ds.drop n)
  | _, _, 0, r => r
  | _, _, _ + 1, .nil => .nil
  | _, _, n + 1, .cons _ t => DqA.drop n t
theorem DqA.rev : ∀ {vs : List V} {ds : List PyData}, DqA K A H vs ds → DqA K A H vs.reverse ds.reverse
  | _, _, .nil => .nil
  | _, _, .cons r t => by simp only [List.reverse_cons]; exact (DqA.rev t).app (.cons r .nil)
theorem DqA.set : ∀ {vs : List V} {ds : List PyData} (i : Nat) {v : V} {d : PyData}, DqA K A H vs ds → Dq K A H v d → DqA K A H (vs.set i v) (ds.set i d)
  | _, _, _, _, _, .nil, _ => .nil
  | _, _, 0, _, _, .cons _ t, r => .cons r t
  | _, _, i + 1, _, _, .cons q t, r => .cons q (DqA.set i t r)
theorem DqA.eraseIdx : ∀ {vs : List V} {ds : List PyData} (i : Nat), DqA K A H vs ds → DqA K A H (vs.eraseIdx i) (ds.eraseIdx i)
  | _, _, _, .nil => .nil
  | _, _, 0, .cons _ t => t
  | _, _, i + 1, .cons q t => .cons q (DqA.eraseIdx i t)
theorem DqA.nil_iff {vs : List V} {ds : List PyData} (h : DqA K A H vs ds) : vs = [] ↔ ds = [] := by
  cases h <;> simp
theorem DqA.ints : ∀ {vs : List V} {ns : List Int}, DqA K A H vs (ns.map .int) → vs = ns.map V.int
  | _, [], h => by cases h; rfl
  | _, n :: ns, h => by
    cases h with
    | cons a b => cases a; rw [DqA.ints b]; rfl
theorem DqA.of_ints : ∀ (ns : List Int), DqA K A H (ns.map V.int) (ns.map .int)
  | [] => .nil
  | n :: ns => .cons (.int n) (DqA.of_ints ns)
theorem DqA.bls : ∀ {vs : List V} {ns : List Bool}, DqA K A H vs (ns.map .bool) → vs = ns.map V.bl
  | _, [], h => by cases h; rfl
  | _, n :: ns, h => by
    cases h with
    | cons a b => cases a; rw [DqA.bls b]; rfl
mutual
theorem Dq.dp : ∀ (d : PyData) (v : V), Dq K A H v d → Dp K H v d
  | .none, _, q => by cases q; exact .non
  | .bool b, _, q => by cases q; exact .bl _
  | .int b, _, q => by cases q; exact .int _
  | .str b, _, q => by cases q; exact .str _
  | .list ds, _, q => by
    cases q with
    | lst n r t => exact .lst (.inl r) (DqA.dp ds _ t)
    | kl r t => exact .lst r.sql (DqA.dp ds _ t)
  | .tuple ds, _, q => by
    cases q with
    | tup r t => exact .tup r (DqA.dp ds _ t)
  | .dict _, _, q => by cases q
theorem DqA.dp : ∀ (ds : List PyData) (vs : List V), DqA K A H vs ds → DpAll K H vs ds
  | [], _, q => by cases q; exact .nil
  | d :: ds, _, q => by
    cases q with
    | cons q1 q2 => exact .cons (Dq.dp d _ q1) (DqA.dp ds _ q2)
end
mutual
theorem Dq.lay : ∀ (d : PyData) (v : V), Dq K A H v d → d.canLay0 = true
  | .none, _, q => by simp [PyData.canLay0]
  | .bool b, _, q => by simp [PyData.canLay0]
  | .int b, _, q => by simp [PyData.canLay0]
  | .str b, _, q => by cases q with | str _ z => simpa [PyData.canLay0] using z
  | .list ds, _, q => by
    cases q with
    | lst n r t => simp only [PyData.canLay0]; exact DqA.lay ds _ t
    | kl r t => simp only [PyData.canLay0]; exact DqA.lay ds _ t
  | .tuple ds, _, q => by
    cases q with
    | tup r t => simp only [PyData.canLay0]; exact DqA.lay ds _ t
  | .dict _, _, q => by cases q
theorem DqA.lay : ∀ (ds : List PyData) (vs : List V), DqA K A H vs ds → PyData.canLayAll0 ds = true
  | [], _, q => by simp [PyData.canLayAll0]
  | d :: ds, _, q => by
    cases q with
    | cons q1 q2 => simp [PyData.canLayAll0, Dq.lay d _ q1, DqA.lay ds _ q2]
end
theorem Dq.shaped (q : Dq K A H v d) (h : d.depth ≤ 64) : SeqAt.shaped d = true := by
  unfold SeqAt.shaped
  rw [Dq.lay d v q]
  simpa using h
end

/-! ### values of a frame: data, or a list or dict of the frame's own -/
inductive AV where
  | d (x : PyData)
  | l (xs : List PyData)
  | k (kvs : List (Key × PyData))
  | t (kvs : List (List Key × PyData))
def AV.own : AV → Bool
  | .d _ => false
  | _ => true
abbrev Env := List (Option AV)
/-- entries of a dict -/
def DqK (κ : Type) (K : PySem.W.Frag) (A : Addr → Prop) (H : Hp) : List (κ × V) → List (κ × PyData) → Prop := Paired fun p q => p.1 = q.1 ∧ Dq K A H p.2 q.2
def AvOk (K : PySem.W.Frag) (A : Addr → Prop) (H : Hp) (v : V) : AV → Prop
  | .d x => Dq K A H v x
  | .l xs => ∃ p vs, v = .ref p ∧ A p ∧ H p = some (.lst vs) ∧ DqA K A H vs xs
  | .k kvs => ∃ p ws, v = .ref p ∧ A p ∧ H p = some (.dK ws) ∧ DqK Key K A H ws kvs
  | .t kvs => ∃ p ws, v = .ref p ∧ A p ∧ H p = some (.dT ws) ∧ DqK (List Key) K A H ws kvs

/-- a body's run: the written part, the addresses of the parameters that it may change, the heap at its entry, what its callers may change, the parameters' own addresses -/
structure FC where
  K : PySem.W.Frag
  Fp : Addr → Prop
  H0 : Hp
  A0 : Addr → Prop
  par : Nat → Option Addr
structure SE (C : FC) (A : Addr → Prop) (σ : St) (H : Hp) (ρ : Env) : Prop where
  len : σ.length = ρ.length
  at_ : ∀ (i : Nat) (av : AV), ρ[i]? = some (some av) → ∃ v, σ[i]? = some (some v) ∧ AvOk C.K A H v av
  dis : ∀ (i j : Nat) (av aw : AV) (p : Addr), i ≠ j → ρ[i]? = some (some av) → ρ[j]? = some (some aw) → av.own = true → aw.own = true → σ[i]? = some (some (.ref p)) → σ[j]? = some (some (.ref p)) → False
  live : ∀ a, A a → ∃ o, H a = some o
  keep : Kp C.Fp C.H0 H
  prm : ∀ (i : Nat) (av : AV) (p : Addr), ρ[i]? = some (some av) → av.own = true → σ[i]? = some (some (.ref p)) → C.Fp p ∨ C.H0 p = none
  par : ∀ (i : Nat) (p : Addr), C.par i = some p → σ[i]? = some (some (.ref p)) ∧ ∃ av : AV, ρ[i]? = some (some av) ∧ av.own = true
  sub : ∀ a, C.A0 a → A a

section
variable {κ : Type} {K : PySem.W.Frag} {A B : Addr → Prop} {H H' : Hp} {v : V} {av : AV}
theorem Paired.imp {α β : Type} {F G : α → β → Prop} {l₁ : List α} {l₂ : List β} (h : Paired F l₁ l₂) (f : ∀ a b, F a b → G a b) : Paired G l₁ l₂ := Paired.mapP h f
theorem DqK.mono {ws : List (κ × V)} {kvs : List (κ × PyData)} (q : DqK κ K A H ws kvs) (h : Kp A H H') (s : ∀ a, B a → A a) : DqK κ K B H' ws kvs :=
  Paired.mapP q fun p r z => ⟨z.1, Dq.mono h s _ _ z.2⟩
theorem DqK.kp {ws : List (κ × V)} {kvs : List (κ × PyData)} (q : DqK κ K A H ws kvs) (h : Kp A H H') : DqK κ K A H' ws kvs := q.mono h fun _ z => z
/-- what a value's own object is -/
theorem AvOk.addr (h : AvOk K A H v av) (o : av.own = true) : ∃ p, v = .ref p ∧ A p ∧ ∃ u, H p = some u ∧ Mut (some u) := by
  cases av with
  | d x => cases o
  | l xs => obtain ⟨p, vs, e, a, q, _⟩ := h; exact ⟨p, e, a, _, q, trivial⟩
  | k xs => obtain ⟨p, vs, e, a, q, _⟩ := h; exact ⟨p, e, a, _, q, trivial⟩
  | t xs => obtain ⟨p, vs, e, a, q, _⟩ := h; exact ⟨p, e, a, _, q, trivial⟩
/-- kept where its own object is kept -/
theorem AvOk.kp (h : AvOk K A H v av) (k : Kp A H H') (s : ∀ p, av.own = true → v = .ref p → H' p = H p) : AvOk K A H' v av := by
  cases av with
  | d x => exact Dq.kp h k
  | l xs => obtain ⟨p, vs, e, a, q, r⟩ := h; exact ⟨p, vs, e, a, (s p rfl e).trans q, r.kp k⟩
  | k xs => obtain ⟨p, vs, e, a, q, r⟩ := h; exact ⟨p, vs, e, a, (s p rfl e).trans q, r.kp k⟩
  | t xs => obtain ⟨p, vs, e, a, q, r⟩ := h; exact ⟨p, vs, e, a, (s p rfl e).trans q, r.kp k⟩
theorem AvOk.same (h : AvOk K A H v av) (k : Same H H') : AvOk K A H' v av := by
  cases av with
  | d x => exact Dq.kp h (.of_same k)
  | l xs => obtain ⟨p, vs, e, a, q, r⟩ := h; exact ⟨p, vs, e, a, k _ _ q, r.kp (.of_same k)⟩
  | k xs => obtain ⟨p, vs, e, a, q, r⟩ := h; exact ⟨p, vs, e, a, k _ _ q, r.kp (.of_same k)⟩
  | t xs => obtain ⟨p, vs, e, a, q, r⟩ := h; exact ⟨p, vs, e, a, k _ _ q, r.kp (.of_same k)⟩
end
section
variable {C : FC} {A B : Addr → Prop} {σ : St} {H H' : Hp} {ρ : Env}
/-- all kept -/
theorem SE.same (h : SE C A σ H ρ) (k : Same H H') : SE C A σ H' ρ := by
  refine ⟨h.len, fun i av e => ?_, h.dis, fun a z => ?_, h.keep.trans (.of_same k), h.prm, h.par, h.sub⟩
  · obtain ⟨v, e1, q⟩ := h.at_ i av e
    exact ⟨v, e1, q.same k⟩
  · obtain ⟨o, q⟩ := h.live a z
    exact ⟨o, k _ _ q⟩
end
end F3
end
section
namespace F3
open PySem PySem.Spec L2

/-! ### the small language -/
inductive Op2 where
  | add | sub | mul | mod | fdiv | pow
  deriving DecidableEq, Repr
inductive Cm where
  | eq | ne | lt | le | gt | ge | in_ | notin
  deriving DecidableEq, Repr
/-- built-in calls by values -/
inductive BI where
  | len | sum | all | any | abs | int | min2 | max2 | maxL | minL | tup | lst | rngL | sort | isqrt
  | isi (t : String) | isiTL | isiBS
  deriving DecidableEq, Repr
/-- a target -/
inductive Tg where
  | n (i : Nat)
  | t (ts : List Tg)
mutual
inductive IE where
  | var (i : Nat)
  | ovar (i : Nat)
  | lit (c : PyData)
  | glob (g : Nat)
  | bin (o : Op2) (a b : IE)
  | neg (a : IE)
  | cmp (o : Cm) (a b : IE)
  | chain (o p : Cm) (a b c : IE)
  | isN (n : Bool) (a : IE)
  | and (a b : IE)
  | or (a b : IE)
  | not (a : IE)
  | ite (c a b : IE)
  | tup (es : List IE)
  | lst (es : List IE)
  | ix (a i : IE)
  | sl (a : IE) (lo hi : Option IE)
  | rev (a : IE)
  | bi (b : BI) (es : List IE)
  | call (f : Nat) (es : List IE)
  | lc (own : List Nat) (t : Tg) (it : II) (cs : Option IE) (e : IE)
  | popAt (i : Nat) (e : IE)
inductive II where
  | seq (e : IE)
  | rng1 (e : IE)
  | rng2 (a b : IE)
  | enum (e : IE)
  | zip (a b : IE)
end
inductive IS where
  | set (i : Nat) (e : IE)
  | own (i : Nat) (e : IE)
  | asg (t : Tg) (e : IE)
  | mul (is : List Nat) (es : List (Bool × IE))
  | put (i : Nat) (k e : IE)
  | app (i : Nat) (e : IE)
  | ext (i : Nat) (e : IE)
  | pop (i : Nat)
  | ex (e : IE)
  | ret (e : IE)
  | retO (e : IE)
  | if_ (c : IE) (a b : List IS)
  | while_ (c : IE) (b : List IS)
  | for_ (t : Tg) (it : II) (b : List IS)
  | raise (c : Nat)
  | frz (i : Nat)
  | brk | cont | pass

/-! ### results -/
inductive Rs (α : Type) where
  | ok (a : α) (ρ : Env)
  | ex (c : Nat) (ρ : Env)
  | bad
def Rs.bind {α β : Type} (r : Rs α) (f : α → Env → Rs β) : Rs β :=
  match r with
  | .ok a ρ => f a ρ
  | .ex c ρ => .ex c ρ
  | .bad => .bad
def Rs.of {α : Type} (o : Option α) (ρ : Env) : Rs α :=
  match o with
  | some a => .ok a ρ
  | none => .bad
/-- a call's result: what is handed back, the own arguments behind it -/
inductive Fr where
  | ok (r : AV) (as : List AV)
  | ex (c : Nat) (as : List AV)
  | bad
abbrev Fn := List AV → Fr
/-- the surroundings of a body: the defs, the module's constants, which slots are own parameters -/
structure Gm where
  fn : Nat → Fn
  cs : List Int
  pars : List Bool
def Gm.fix (Γ : Gm) (i : Nat) : Bool := Γ.pars[i]? == some true

def getD (ρ : Env) (i : Nat) : Option PyData :=
  match ρ[i]? with
  | some (some (.d x)) => some x
  | _ => none
def getL (ρ : Env) (i : Nat) : Option (List PyData) :=
  match ρ[i]? with
  | some (some (.l x)) => some x
  | _ => none
def isOwn (ρ : Env) (i : Nat) : Bool :=
  match ρ[i]? with
  | some (some av) => av.own
  | _ => false

/-! ### operations on data -/
def mulOk (i j : Int) : Bool := decide ((-(2 ^ 64) < i ∧ i < 2 ^ 64) ∨ (-(2 ^ 64) < j ∧ j < 2 ^ 64) ∨ i.natAbs.log2 + j.natAbs.log2 < 1000000)
def divOk (j : Int) : Bool := decide (0 < j ∧ j.natAbs.log2 < 9000)
def powOk (i j : Int) : Bool := decide (0 ≤ j ∧ j ≤ 1000000 ∧ i.natAbs < 2 ^ 64)
def fits (n : Nat) : Bool := decide (n ≤ sizeLine)
def binD : Op2 → PyData → PyData → Option PyData
  | .add, .int i, .int j => some (.int (i + j))
  | .add, .tuple xs, .tuple ys => if fits (xs.length + ys.length) then some (.tuple (xs ++ ys)) else none
  | .add, .list xs, .list ys => if fits (xs.length + ys.length) then some (.list (xs ++ ys)) else none
  | .sub, .int i, .int j => some (.int (i - j))
  | .mul, .int i, .int j => if mulOk i j then some (.int (i * j)) else none
  | .mul, .tuple xs, .int k => if decide (xs ≠ [] ∧ 2 ≤ k ∧ k ≤ 1000 ∧ xs.length ≤ 1000) then some (.tuple (List.replicate k.toNat xs).flatten) else none
  | .mod, .int i, .int j => if decide (0 < j) then some (.int (i % j)) else none
  | .fdiv, .int i, .int j => if divOk j then some (.int (i / j)) else none
  | .pow, .int i, .int j => if powOk i j then some (.int (i ^ j.toNat)) else none
  | _, _, _ => none
/-- the ints of a list -/
def intsOf : List PyData → Option (List Int)
  | [] => some []
  | .int i :: r => (intsOf r).map (i :: ·)
  | _ :: _ => none
def boolsOf : List PyData → Option (List Bool)
  | [] => some []
  | .bool i :: r => (boolsOf r).map (i :: ·)
  | _ :: _ => none
def shal (d e : PyData) : Bool := decide (min d.depth e.depth ≤ 64)
def inD (d : PyData) (ds : List PyData) : Option Bool := if decide (d.depth ≤ 64) then some (ds.any fun z => PyData.eqv z d) else none
def cmpD : Cm → PyData → PyData → Option Bool
  | .eq, x, y => if shal x y then some (PyData.eqv x y) else none
  | .ne, x, y => if shal x y then some (!PyData.eqv x y) else none
  | .lt, .int i, .int j => some (decide (i < j))
  | .lt, .tuple xs, .tuple ys => (intsOf xs).bind fun a => (intsOf ys).bind fun b => some (HT.lexLt a b)
  | .le, .int i, .int j => some (decide (i ≤ j))
  | .gt, .int i, .int j => some (decide (j < i))
  | .ge, .int i, .int j => some (decide (j ≤ i))
  | .in_, x, .list ys => inD x ys
  | .in_, x, .tuple ys => inD x ys
  | .notin, x, .list ys => (inD x ys).map (!·)
  | .notin, x, .tuple ys => (inD x ys).map (!·)
  | _, _, _ => none
def isNoneD : PyData → Bool
  | .none => true
  | _ => false
def truD : PyData → Option Bool
  | .none => some false
  | .bool b => some b
  | .int i => some (i != 0)
  | .list xs => some (!xs.isEmpty)
  | .tuple xs => some (!xs.isEmpty)
  | _ => none
def seqOf : PyData → Option (List PyData)
  | .list xs => some xs
  | .tuple xs => some xs
  | _ => none
/-- the isinstance of data -/
def tyOf : PyData → Option String
  | .none => some "NoneType"
  | .bool _ => some "bool"
  | .int _ => some "int"
  | .str _ => some "str"
  | .list _ => some "list"
  | .tuple _ => some "tuple"
  | _ => none
def isiD (x : PyData) (t : String) : Option Bool := (tyOf x).map fun u => u == t || (u == "bool" && t == "int")
def maxOf : List Int → Option Int
  | [] => none
  | x :: xs => some (xs.foldl max x)
def minOf : List Int → Option Int
  | [] => none
  | x :: xs => some (xs.foldl min x)
def biD : BI → List PyData → Option PyData
  | .len, [x] => (seqOf x).map fun xs => .int xs.length
  | .sum, [x] => (seqOf x).bind fun xs => (intsOf xs).map fun ns => .int ns.sum
  | .all, [.list xs] => (boolsOf xs).map fun bs => .bool (bs.all id)
  | .any, [.list xs] => (boolsOf xs).map fun bs => .bool (bs.any id)
  | .abs, [.int i] => some (.int (if i < 0 then -i else i))
  | .int, [.int i] => some (.int i)
  | .int, [.bool k] => some (.int (if k then 1 else 0))
  | .min2, [.int i, .int j] => some (.int (if j < i then j else i))
  | .max2, [.int i, .int j] => some (.int (if i < j then j else i))
  | .maxL, [x] => (seqOf x).bind fun xs => (intsOf xs).bind fun ns => (maxOf ns).map .int
  | .minL, [x] => (seqOf x).bind fun xs => (intsOf xs).bind fun ns => (minOf ns).map .int
  | .tup, [x] => (seqOf x).map .tuple
  | .lst, [x] => (seqOf x).map .list
  | .rngL, [.int n] => if decide (0 ≤ n ∧ n ≤ 100000) then some (.list ((List.range n.toNat).map fun (i : Nat) => PyData.int i)) else none
  | .isi t, [x] => (isiD x t).map .bool
  | .isiTL, [x] => (isiD x "list").bind fun a => (isiD x "tuple").map fun b => .bool (a || b)
  | .isiBS, [x] => (isiD x "bool").bind fun a => (isiD x "str").map fun b => .bool (a || b)
  | _, _ => none
/-- an item by its place, from the end too -/
def atD (xs : List PyData) (i : Int) : Option PyData := atI xs i
def ixD : PyData → PyData → Option PyData
  | x, .int i => (seqOf x).bind fun xs => atD xs i
  | _, _ => none
/-- xs[lo:hi] -/
def cutD (xs : List PyData) (lo hi : Option Int) : List PyData :=
  let a := HT.sIx xs.length 0 lo
  let b := HT.sIx xs.length xs.length hi
  (xs.drop a).take (b - a)
def slD : PyData → Option Int → Option Int → Option PyData
  | .list xs, lo, hi => some (.list (cutD xs lo hi))
  | .tuple xs, lo, hi => some (.tuple (cutD xs lo hi))
  | _, _, _ => none
def revD : PyData → Option PyData
  | .tuple xs => some (.tuple xs.reverse)
  | .list xs => some (.list xs.reverse)
  | _ => none

/-! ### targets -/
mutual
def assignT (Γ : Gm) : Tg → PyData → Env → Option Env
  | .n i, x, ρ => if Γ.fix i then none else if i < ρ.length then some (ρ.set i (some (.d x))) else none
  | .t ts, .tuple xs, ρ => assignTs Γ ts xs ρ
  | .t ts, .list xs, ρ => assignTs Γ ts xs ρ
  | .t _, _, _ => none
def assignTs (Γ : Gm) : List Tg → List PyData → Env → Option Env
  | [], [], ρ => some ρ
  | t :: ts, x :: xs, ρ => (assignT Γ t x ρ).bind fun ρ1 => assignTs Γ ts xs ρ1
  | _, _, _ => none
end
/-- what a loop goes through: pairs -/
def enumD (xs : List PyData) (n : Nat) : List PyData :=
  match xs with
  | [] => []
  | x :: r => .tuple [.int n, x] :: enumD r (n + 1)
def zipD : List PyData → List PyData → List PyData
  | x :: xs, y :: ys => .tuple [x, y] :: zipD xs ys
  | _, _ => []
def rngD (lo : Int) : Nat → List PyData
  | 0 => []
  | n + 1 => .int lo :: rngD (lo + 1) n
def small62 (i : Int) : Bool := decide (-(2 ^ 62) ≤ i ∧ i < 2 ^ 62)
/-- the arguments of a call: values, or own lists -/
inductive Ar where
  | v (x : PyData)
  | o (i : Nat)
def Ar.av (ρ : Env) : Ar → Option AV
  | .v x => some (.d x)
  | .o i => match ρ[i]? with
    | some (some av) => if av.own then some av else none
    | _ => none
def avs (ρ : Env) : List Ar → Option (List AV)
  | [] => some []
  | a :: r => (a.av ρ).bind fun x => (avs ρ r).map (x :: ·)
/-- the own arguments' new contents, laid back -/
def layBack : List Ar → List AV → Env → Option Env
  | [], [], ρ => some ρ
  | .v _ :: r, _ :: as, ρ => layBack r as ρ
  | .o i :: r, av :: as, ρ => if av.own then layBack r as (ρ.set i (some av)) else none
  | _, _, _ => none
def owns : List Ar → List Nat
  | [] => []
  | .v _ :: r => owns r
  | .o i :: r => i :: owns r
/-- a call -/
def callR (fn : Fn) (as : List Ar) (ρ : Env) : Rs AV :=
  if (owns as).Nodup then
    match avs ρ as with
    | some xs =>
      match fn xs with
      | .ok r ys => match layBack as ys ρ with
        | some ρ' => .ok r ρ'
        | none => .bad
      | .ex c ys => match layBack as ys ρ with
        | some ρ' => .ex c ρ'
        | none => .bad
      | .bad => .bad
    | none => .bad
  else .bad
def AV.data : AV → Option PyData
  | .d x => some x
  | .l xs => some (.list xs)
  | _ => none
/-- the values of ρ, the own ones' contents as in ρ' -/
def mrg1 : Option AV → Option AV → Option (Option AV)
  | none, _ => some none
  | some a, b => if a.own then
      match b with
      | some b => if b.own then some (some b) else none
      | none => none
    else some (some a)
def merge : Env → Env → Option Env
  | [], [] => some []
  | a :: r, b :: s => (mrg1 a b).bind fun x => (merge r s).map (x :: ·)
  | _, _ => none
/-- the slots is forgotten -/
def wipeE (ρ : Env) : List Nat → Env
  | [] => ρ
  | v :: vs => (wipeE ρ vs).set v none
def Rs.ofO {α : Type} (a : α) : Option Env → Rs α
  | some ρ => .ok a ρ
  | none => .bad
/-- a comprehension's turns -/
def lcL (t : PyData → Env → Option Env) (c : Env → Rs Bool) (f : Env → Rs PyData) : List PyData → List PyData → Env → Rs (List PyData)
  | [], acc, ρ => .ok acc ρ
  | x :: xs, acc, ρ =>
    match t x ρ with
    | none => .bad
    | some ρ1 =>
      match c ρ1 with
      | .ok true ρ2 =>
        match f ρ2 with
        | .ok y ρ3 =>
          if fits (acc.length + 1) then
            match merge ρ ρ3 with
            | some ρ4 => lcL t c f xs (acc ++ [y]) ρ4
            | none => .bad
          else .bad
        | _ => .bad
      | .ok false ρ2 =>
        match merge ρ ρ2 with
        | some ρ4 => lcL t c f xs acc ρ4
        | none => .bad
      | _ => .bad
/-- no own list at these slots -/
def noOwn (ρ : Env) (is : List Nat) : Bool := is.all fun i => !isOwn ρ i

mutual
def sem (Γ : Gm) : IE → Env → Rs PyData
  | .var i, ρ => .of (getD ρ i) ρ
  | .ovar i, ρ => .of ((getL ρ i).map .list) ρ
  | .lit c, ρ => .ok c ρ
  | .glob g, ρ => .of ((Γ.cs[g]?).map .int) ρ
  | .bin o a b, ρ => (sem Γ a ρ).bind fun x ρ1 => (sem Γ b ρ1).bind fun y ρ2 => .of (binD o x y) ρ2
  | .neg a, ρ => (sem Γ a ρ).bind fun x ρ1 => match x with
    | .int i => .ok (.int (-i)) ρ1
    | _ => .bad
  | .cmp o a b, ρ => (sem Γ a ρ).bind fun x ρ1 => (sem Γ b ρ1).bind fun y ρ2 => .of ((cmpD o x y).map .bool) ρ2
  | .chain o p a b c, ρ => (sem Γ a ρ).bind fun x ρ1 => (sem Γ b ρ1).bind fun y ρ2 =>
    match cmpD o x y with
    | some true => (sem Γ c ρ2).bind fun z ρ3 => .of ((cmpD p y z).map .bool) ρ3
    | some false => .ok (.bool false) ρ2
    | none => .bad
  | .isN n a, ρ => (sem Γ a ρ).bind fun x ρ1 => .ok (.bool (n != isNoneD x)) ρ1
  | .and a b, ρ => (sem Γ a ρ).bind fun x ρ1 =>
    match truD x with
    | some true => sem Γ b ρ1
    | some false => .ok x ρ1
    | none => .bad
  | .or a b, ρ => (sem Γ a ρ).bind fun x ρ1 =>
    match truD x with
    | some true => .ok x ρ1
    | some false => sem Γ b ρ1
    | none => .bad
  | .not a, ρ => (sem Γ a ρ).bind fun x ρ1 => .of ((truD x).map fun b => .bool (!b)) ρ1
  | .ite c a b, ρ => (semT Γ c ρ).bind fun x ρ1 => if x then sem Γ a ρ1 else sem Γ b ρ1
  | .tup es, ρ => (semL Γ es ρ).bind fun xs ρ1 => .ok (.tuple xs) ρ1
  | .lst es, ρ => (semL Γ es ρ).bind fun xs ρ1 => .ok (.list xs) ρ1
  | .ix a i, ρ => (sem Γ a ρ).bind fun x ρ1 => (sem Γ i ρ1).bind fun y ρ2 => .of (ixD x y) ρ2
  | .sl a lo hi, ρ => (sem Γ a ρ).bind fun x ρ1 => (semO Γ lo ρ1).bind fun l ρ2 => (semO Γ hi ρ2).bind fun h ρ3 =>
    .of (slD x l h) ρ3
  | .rev a, ρ => (sem Γ a ρ).bind fun x ρ1 => .of (revD x) ρ1
  | .bi b es, ρ => (semL Γ es ρ).bind fun xs ρ1 => .of (biD b xs) ρ1
  | .call f es, ρ => (semAr Γ es ρ).bind fun as ρ1 => (callR (Γ.fn f) as ρ1).bind fun r ρ2 => .of r.data ρ2
  | .lc is t it c e, ρ => (semI Γ it ρ).bind fun xs ρ1 =>
    if noOwn ρ1 is then (lcL (assignT Γ t) (fun ρ => semC Γ c ρ) (fun ρ => sem Γ e ρ) xs [] (wipeE ρ1 is)).bind fun ys ρ2 => .ofO (.list ys) (merge ρ1 ρ2) else .bad
  | .popAt i e, ρ => if (getL ρ i).isSome then (sem Γ e ρ).bind fun x ρ1 =>
      match getL ρ1 i, x with
      | some xs, .int k => if decide (0 ≤ k ∧ k < 2 ^ 63) then
          match xs[k.toNat]? with
          | some y => .ok y (ρ1.set i (some (.l (xs.eraseIdx k.toNat))))
          | none => .bad
        else .bad
      | _, _ => .bad
    else .bad
/-- a test -/
def semT (Γ : Gm) : IE → Env → Rs Bool
  | .and a b, ρ => (semT Γ a ρ).bind fun x ρ1 => if x then semT Γ b ρ1 else .ok false ρ1
  | .or a b, ρ => (semT Γ a ρ).bind fun x ρ1 => if x then .ok true ρ1 else semT Γ b ρ1
  | .not a, ρ => (semT Γ a ρ).bind fun x ρ1 => .ok (!x) ρ1
  | .var i, ρ => .of ((getD ρ i).bind truD) ρ
  | .ovar i, ρ => .of ((getL ρ i).map fun xs => !xs.isEmpty) ρ
  | .lit c, ρ => .of (truD c) ρ
  | .cmp o a b, ρ => (sem Γ a ρ).bind fun x ρ1 => (sem Γ b ρ1).bind fun y ρ2 => .of (cmpD o x y) ρ2
  | .chain o p a b c, ρ => (sem Γ a ρ).bind fun x ρ1 => (sem Γ b ρ1).bind fun y ρ2 =>
    match cmpD o x y with
    | some true => (sem Γ c ρ2).bind fun z ρ3 => .of (cmpD p y z) ρ3
    | some false => .ok false ρ2
    | none => .bad
  | .isN n a, ρ => (sem Γ a ρ).bind fun x ρ1 => .ok (n != isNoneD x) ρ1
  | .call f es, ρ => (semAr Γ es ρ).bind fun as ρ1 => (callR (Γ.fn f) as ρ1).bind fun r ρ2 => .of (r.data.bind truD) ρ2
  | .bi b es, ρ => (semL Γ es ρ).bind fun xs ρ1 => .of ((biD b xs).bind truD) ρ1
  | .ix a i, ρ => (sem Γ a ρ).bind fun x ρ1 => (sem Γ i ρ1).bind fun y ρ2 => .of ((ixD x y).bind truD) ρ2
  | _, _ => .bad
def semL (Γ : Gm) : List IE → Env → Rs (List PyData)
  | [], ρ => .ok [] ρ
  | e :: es, ρ => (sem Γ e ρ).bind fun x ρ1 => (semL Γ es ρ1).bind fun xs ρ2 => .ok (x :: xs) ρ2
/-- a call's arguments -/
def semAr (Γ : Gm) : List IE → Env → Rs (List Ar)
  | [], ρ => .ok [] ρ
  | .ovar i :: es, ρ => if isOwn ρ i then (semAr Γ es ρ).bind fun xs ρ2 => .ok (.o i :: xs) ρ2 else .bad
  | e :: es, ρ => (sem Γ e ρ).bind fun x ρ1 => (semAr Γ es ρ1).bind fun xs ρ2 => .ok (.v x :: xs) ρ2
def semO (Γ : Gm) : Option IE → Env → Rs (Option Int)
  | none, ρ => .ok none ρ
  | some e, ρ => (sem Γ e ρ).bind fun x ρ1 => match x with
    | .int i => .ok (some i) ρ1
    | _ => .bad
def semC (Γ : Gm) : Option IE → Env → Rs Bool
  | none, ρ => .ok true ρ
  | some e, ρ => semT Γ e ρ
/-- what is gone through -/
def semI (Γ : Gm) : II → Env → Rs (List PyData)
  | .seq e, ρ => (sem Γ e ρ).bind fun x ρ1 => .of (seqOf x) ρ1
  | .rng1 e, ρ => (sem Γ e ρ).bind fun x ρ1 => match x with
    | .int n => if small62 n then .ok (rngD 0 n.toNat) ρ1 else .bad
    | _ => .bad
  | .rng2 a b, ρ => (sem Γ a ρ).bind fun x ρ1 => (sem Γ b ρ1).bind fun y ρ2 => match x, y with
    | .int m, .int n => if small62 m && small62 n then .ok (rngD m (n - m).toNat) ρ2 else .bad
    | _, _ => .bad
  | .enum e, ρ => (sem Γ e ρ).bind fun x ρ1 => .of ((seqOf x).map fun xs => enumD xs 0) ρ1
  | .zip a b, ρ => (sem Γ a ρ).bind fun x ρ1 => (sem Γ b ρ1).bind fun y ρ2 => match x, y with
    | .list xs, .list ys => .ok (zipD xs ys) ρ2
    | .tuple xs, .tuple ys => .ok (zipD xs ys) ρ2
    | _, _ => .bad
end
def isOvar : IE → Bool
  | .ovar _ => true
  | _ => false
/-- a new list of one's own -/
def semF (Γ : Gm) : IE → Env → Rs AV
  | .lst es, ρ => (semL Γ es ρ).bind fun xs ρ1 => .ok (.l xs) ρ1
  | .lc is t it c e, ρ => (semI Γ it ρ).bind fun xs ρ1 =>
    if noOwn ρ1 is then (lcL (assignT Γ t) (fun ρ => semC Γ c ρ) (fun ρ => sem Γ e ρ) xs [] (wipeE ρ1 is)).bind fun ys ρ2 => .ofO (.l ys) (merge ρ1 ρ2) else .bad
  | .bi .lst [e], ρ => (sem Γ e ρ).bind fun x ρ1 => .of ((seqOf x).map .l) ρ1
  | .bi .rngL [e], ρ => (sem Γ e ρ).bind fun x ρ1 => match biD .rngL [x] with
    | some (.list xs) => .ok (.l xs) ρ1
    | _ => .bad
  | .or a b, ρ => (semF Γ a ρ).bind fun x ρ1 => match x with
    | .l xs => if xs.isEmpty then semF Γ b ρ1 else .ok x ρ1
    | _ => .bad
  | .call f es, ρ => (semAr Γ es ρ).bind fun as ρ1 => (callR (Γ.fn f) as ρ1).bind fun r ρ2 => match r with
    | .l xs => if (es.all fun i => !isOvar i) && (intsOf xs).isSome then .ok (.l xs) ρ2 else .bad
    | _ => .bad
  | _, _ => .bad

/-! ### statements -/
inductive Ss where
  | nx (ρ : Env)
  | bk (ρ : Env)
  | ct (ρ : Env)
  | rt (r : AV) (ρ : Env)
  | ex (c : Nat) (ρ : Env)
  | bad
def Rs.st {α : Type} (r : Rs α) (f : α → Env → Ss) : Ss :=
  match r with
  | .ok a ρ => f a ρ
  | .ex c ρ => .ex c ρ
  | .bad => .bad
def Ss.ofO : Option Env → Ss
  | some ρ => .nx ρ
  | none => .bad
/-- a name stored -/
def setV (Γ : Gm) (i : Nat) (av : AV) (ρ : Env) : Option Env := if Γ.fix i then none else if i < ρ.length then some (ρ.set i (some av)) else none
def forL (t : PyData → Env → Option Env) (b : Env → Ss) : List PyData → Env → Ss
  | [], ρ => .nx ρ
  | x :: xs, ρ =>
    match t x ρ with
    | none => .bad
    | some ρ1 =>
      match b ρ1 with
      | .nx ρ2 => forL t b xs ρ2
      | .ct ρ2 => forL t b xs ρ2
      | .bk ρ2 => .nx ρ2
      | r => r
def whileL (c : Env → Rs Bool) (b : Env → Ss) : Nat → Env → Ss
  | 0, _ => .bad
  | n + 1, ρ =>
    match c ρ with
    | .ok true ρ1 =>
      match b ρ1 with
      | .nx ρ2 => whileL c b n ρ2
      | .ct ρ2 => whileL c b n ρ2
      | .bk ρ2 => .nx ρ2
      | r => r
    | .ok false ρ1 => .nx ρ1
    | .ex e ρ1 => .ex e ρ1
    | .bad => .bad
def laps : Nat := 1000000000000
def semV (Γ : Gm) (o : Bool) (e : IE) (ρ : Env) : Rs AV := if o then semF Γ e ρ else (sem Γ e ρ).bind fun x ρ1 => .ok (.d x) ρ1
/-- several values, some of them new lists -/
def semM (Γ : Gm) : List (Bool × IE) → Env → Rs (List AV)
  | [], ρ => .ok [] ρ
  | p :: r, ρ => (semV Γ p.1 p.2 ρ).bind fun x ρ1 => (semM Γ r ρ1).bind fun xs ρ2 => .ok (x :: xs) ρ2
def setVs (Γ : Gm) : List Nat → List AV → Env → Option Env
  | [], [], ρ => some ρ
  | i :: is, x :: xs, ρ => (setV Γ i x ρ).bind fun ρ1 => setVs Γ is xs ρ1
  | _, _, _ => none
mutual
def exS (Γ : Gm) : IS → Env → Ss
  | .set i e, ρ => (sem Γ e ρ).st fun x ρ1 => .ofO (setV Γ i (.d x) ρ1)
  | .own i e, ρ => (semF Γ e ρ).st fun x ρ1 => .ofO (setV Γ i x ρ1)
  | .asg t e, ρ => (sem Γ e ρ).st fun x ρ1 => .ofO (assignT Γ t x ρ1)
  | .mul is es, ρ => (semM Γ es ρ).st fun xs ρ1 => if is.Nodup then .ofO ((merge ρ ρ1).bind fun ρ2 => setVs Γ is xs ρ2) else .bad
  | .put i k e, ρ => if (getL ρ i).isSome then (sem Γ e ρ).st fun x ρ1 => (sem Γ k ρ1).st fun y ρ2 =>
      match getL ρ2 i, y with
      | some xs, .int n => if decide (0 ≤ n ∧ n < xs.length) then .nx (ρ2.set i (some (.l (xs.set n.toNat x)))) else .bad
      | _, _ => .bad
    else .bad
  | .app i e, ρ => if (getL ρ i).isSome then (sem Γ e ρ).st fun x ρ1 =>
      match getL ρ1 i with
      | some xs => if fits (xs.length + 1) then .nx (ρ1.set i (some (.l (xs ++ [x])))) else .bad
      | none => .bad
    else .bad
  | .ext i e, ρ => if (getL ρ i).isSome then (sem Γ e ρ).st fun x ρ1 =>
      match getL ρ1 i, x with
      | some xs, .list ys => if fits (xs.length + ys.length) then .nx (ρ1.set i (some (.l (xs ++ ys)))) else .bad
      | _, _ => .bad
    else .bad
  | .pop i, ρ =>
    match getL ρ i with
    | some xs => if xs.isEmpty then .bad else .nx (ρ.set i (some (.l xs.dropLast)))
    | none => .bad
  | .ex e, ρ => (sem Γ e ρ).st fun _ ρ1 => .nx ρ1
  | .ret e, ρ => (sem Γ e ρ).st fun x ρ1 => .rt (.d x) ρ1
  | .retO e, ρ => (semF Γ e ρ).st fun x ρ1 => .rt x ρ1
  | .if_ c a b, ρ => (semT Γ c ρ).st fun x ρ1 => if x then exSs Γ a ρ1 else exSs Γ b ρ1
  | .while_ c b, ρ => whileL (semT Γ c) (exSs Γ b) laps ρ
  | .for_ t it b, ρ => (semI Γ it ρ).st fun xs ρ1 => forL (assignT Γ t) (exSs Γ b) xs ρ1
  | .raise c, ρ => .ex c ρ
  | .frz i, ρ => match getL ρ i with
    | some xs => .ofO (setV Γ i (.d (.list xs)) ρ)
    | none => .bad
  | .brk, ρ => .bk ρ
  | .cont, ρ => .ct ρ
  | .pass, ρ => .nx ρ
def exSs (Γ : Gm) : List IS → Env → Ss
  | [], ρ => .nx ρ
  | s :: r, ρ =>
    match exS Γ s ρ with
    | .nx ρ1 => exSs Γ r ρ1
    | q => q
end

/-! ### defs -/
structure FD where
  np : Nat
  ns : Nat
  body : List IS
/-- the own arguments behind a run -/
def outs : List AV → Env → Option (List AV)
  | [], _ => some []
  | a :: as, ρ =>
    match a, ρ with
    | .d x, _ :: r => (outs as r).map (.d x :: ·)
    | _, some av :: r => if av.own then (outs as r).map (av :: ·) else none
    | _, _ => none
def endF (as : List AV) : Ss → Fr
  | .nx ρ => match outs as ρ with
    | some ys => .ok (.d .none) ys
    | none => .bad
  | .rt r ρ => match outs as ρ with
    | some ys => .ok r ys
    | none => .bad
  | .ex c ρ => match outs as ρ with
    | some ys => .ex c ys
    | none => .bad
  | _ => .bad
def runD (cs : List Int) (fn : Nat → Fn) (D : FD) (as : List AV) : Fr :=
  if as.length == D.np && decide (D.np ≤ D.ns) then
    endF as (exSs ⟨fn, cs, as.map AV.own⟩ D.body (as.map some ++ List.replicate (D.ns - D.np) none))
  else .bad
/-- the defs of a program, to a depth -/
def run (cs : List Int) (T : List FD) : Nat → Nat → Fn
  | 0, _ => fun _ => .bad
  | k + 1, f => fun as => match T[f]? with
    | some D => runD cs (run cs T k) D as
    | none => .bad
end F3
end
section
namespace F3
open PySem PySem.Spec L2

/-- data, or a list that is read at once -/
def Dr (K : PySem.W.Frag) (A : Addr → Prop) (H : Hp) (v : V) (d : PyData) : Prop :=
  Dq K A H v d ∨ ∃ p vs xs, v = .ref p ∧ H p = some (.lst vs) ∧ DqA K A H vs xs ∧ d = .list xs
/-- what may be changed stands there -/
def Live (A : Addr → Prop) (H : Hp) : Prop := ∀ a, A a → ∃ o, H a = some o
theorem Live.no {A : Addr → Prop} {H : Hp} {a : Addr} (l : Live A H) (n : H a = none) : ¬ A a := fun z => by
  obtain ⟨o, e⟩ := l a z
  rw [n] at e; cases e
section
variable {K : PySem.W.Frag} {A : Addr → Prop} {H H' : Hp} {v : V} {d : PyData} {vs : List V} {ds : List PyData} {p : Addr}
theorem Dr.dp (h : Dr K A H v d) : Dp K H v d := by
  rcases h with h | ⟨p, vs, xs, rfl, e, t, rfl⟩
  · exact Dq.dp _ _ h
  · exact .lst (SqL.of e) (DqA.dp _ _ t)
theorem Dr.lay (h : Dr K A H v d) : d.canLay0 = true := by
  rcases h with h | ⟨p, vs, xs, rfl, e, t, rfl⟩
  · exact Dq.lay _ _ h
  · simp only [PyData.canLay0]; exact DqA.lay _ _ t
theorem Dr.list (h : Dr K A H v (.list ds)) : ∃ a xs, v = .ref a ∧ SqR K H a xs ∧ DqA K A H xs ds := by
  rcases h with h | ⟨p, vs, xs, rfl, e, t, e2⟩
  · cases h with
    | lst n r t => exact ⟨_, _, rfl, .inl r, t⟩
    | kl r t => exact ⟨_, _, rfl, .inr r, t⟩
  · cases e2
    exact ⟨_, _, rfl, .inl (.inl e), t⟩
theorem Dr.tuple (h : Dr K A H v (.tuple ds)) : ∃ a xs, v = .ref a ∧ SqT K H a xs ∧ DqA K A H xs ds := by
  rcases h with h | ⟨p, vs, xs, rfl, e, t, e2⟩
  · cases h with
    | tup r t => exact ⟨_, _, rfl, r, t⟩
  · cases e2
theorem Dr.int {i : Int} (h : Dr K A H v (.int i)) : v = .int i := by
  rcases h with h | ⟨p, vs, xs, rfl, e, t, e2⟩
  · cases h; rfl
  · cases e2
theorem Dr.bool {i : Bool} (h : Dr K A H v (.bool i)) : v = .bl i := by
  rcases h with h | ⟨p, vs, xs, rfl, e, t, e2⟩
  · cases h; rfl
  · cases e2
theorem Dr.none (h : Dr K A H v .none) : v = .non := by
  rcases h with h | ⟨p, vs, xs, rfl, e, t, e2⟩
  · cases h; rfl
  · cases e2
theorem Dr.str {x : Str} (h : Dr K A H v (.str x)) : v = .str x := by
  rcases h with h | ⟨p, vs, xs, rfl, e, t, e2⟩
  · cases h; rfl
  · cases e2
theorem Dr.same (h : Dr K A H v d) (k : Same H H') : Dr K A H' v d := by
  rcases h with h | ⟨p, vs, xs, rfl, e, t, rfl⟩
  · exact .inl (h.kp (.of_same k))
  · exact .inr ⟨p, vs, xs, rfl, k _ _ e, t.kp (.of_same k), rfl⟩
theorem newT (t : DqA K A H vs ds) (n : H p = none) : Dq K A (upd H p (.tup vs)) (.ref p) (.tuple ds) := .tup (SqT.of upd_same) (t.kp (Kp.laid n))
theorem newL (t : DqA K A H vs ds) (l : Live A H) (n : H p = none) : Dq K A (upd H p (.lst vs)) (.ref p) (.list ds) := .lst (l.no n) (.inl upd_same) (t.kp (Kp.laid n))
theorem SqL.rd {a : Addr} {xs : List V} (r : Rd H a (.lst xs)) : SqL K H a xs := .inl r
end

/-- an operation on data -/
def rG (K : PySem.W.Frag) (g : PyData → PyData → Option PyData) : R2 := fun x y H Q => ∃ A d e r, Live A H ∧ Dr K A H x d ∧ Dr K A H y e ∧ g d e = some r ∧ ∀ z H', Same H H' → Dq K A H' z r → Q z H'
def rG1 (K : PySem.W.Frag) (g : PyData → Option PyData) : V → Hp → VK → Prop := fun x H Q => ∃ A d r, Live A H ∧ Dr K A H x d ∧ g d = some r ∧ ∀ z H', Same H H' → Dq K A H' z r → Q z H'
def rGL (K : PySem.W.Frag) (g : List PyData → Option PyData) : List V → Hp → VK → Prop := fun xs H Q => ∃ A ds r, Live A H ∧ Paired (Dr K A H) xs ds ∧ g ds = some r ∧ ∀ z H', Same H H' → Dq K A H' z r → Q z H'

def pyOp : Op2 → Operator
  | .add => .Add | .sub => .Sub | .mul => .Mult | .mod => .Mod | .fdiv => .FloorDiv | .pow => .Pow

section
variable {X : Cx} {pins : List (Addr × Obj)} {σ : St} {H : Hp} {s : Shared}
/-- list + list, both read -/
theorem op_catR : OpR X (binaryOp .Add) (fun x y H Q => ∃ l b xs zs, x = .ref l ∧ y = .ref b ∧ SqR X.K H l xs ∧ SqR X.K H b zs ∧ xs.length + zs.length ≤ sizeLine ∧ ∀ p, H p = none → Q (.ref p) (upd H p (.lst (xs ++ zs)))) := by
  intro pins s σ H x y v u Q I rx ry h
  obtain ⟨l, b, xs, zs, rfl, rfl, hH, hB, hz, q⟩ := h
  cases rx
  cases ry
  obtain ⟨its, n, r, e, z⟩ := hH.obj I
  obtain ⟨its2, n2, r2, e2, z2⟩ := hB.obj I
  have hl := r.length
  have hl2 := r2.length
  refine PySem.P.add_list e e2 ?_ (by rw [List.size_toArray, List.size_toArray]; omega)
  have ea : its.toArray ++ its2.toArray = (its ++ its2).toArray := by simp
  rw [ea]
  exact ⟨.ref _, _, I.lnew (t' := s.toks) (r.append r2) (by rw [List.length_append]; omega), rfl, q _ I.fresh⟩

theorem mulOk_ok {i j : Int} (h : mulOk i j = true) : CMul i j ∨ CMulW i j := by
  have h := of_decide_eq_true h
  rcases h with h | h | h
  · exact .inl (.inl h)
  · exact .inl (.inr h)
  · exact .inr h
theorem fits_ok {n : Nat} (h : fits n = true) : n ≤ sizeLine := of_decide_eq_true h

theorem opG_add : OpR X (binaryOp .Add) (rG X.K (binD .add)) := by
  intro pins s σ H x y v u Q I rx ry ⟨A, d, e, r, L, hd, he, hg, q⟩
  cases d with
  | int i =>
    cases e with
    | int j =>
      cases hd.int; cases he.int; cases hg
      exact op_add pins s σ H _ _ v u Q I rx ry ⟨i, j, rfl, rfl, q _ _ (Same.refl _) (.int _)⟩
    | _ => cases hg
  | tuple xs =>
    cases e with
    | tuple ys =>
      simp only [binD] at hg
      split at hg
      · rename_i hf
        cases hg
        obtain ⟨a, vs, rfl, s1, t1⟩ := hd.tuple
        obtain ⟨b, ws, rfl, s2, t2⟩ := he.tuple
        refine op_catA pins s σ H _ _ v u Q I rx ry ⟨a, b, vs, ws, rfl, rfl, s1, s2, by rw [t1.length, t2.length]; exact fits_ok hf, fun z => ?_, fun _ z => ?_, fun _ _ p n => ?_⟩
        · rw [t1.nil_iff] at z; subst z
          exact q _ _ (Same.refl _) (.tup s2 t2)
        · rw [t2.nil_iff] at z; subst z
          rw [List.append_nil] at q
          exact q _ _ (Same.refl _) (.tup s1 t1)
        · exact q _ _ (Same.laid n) (newT (t1.app t2) n)
      · cases hg
    | _ => cases hg
  | list xs =>
    cases e with
    | list ys =>
      simp only [binD] at hg
      split at hg
      · rename_i hf
        cases hg
        obtain ⟨a, vs, rfl, s1, t1⟩ := hd.list
        obtain ⟨b, ws, rfl, s2, t2⟩ := he.list
        exact op_catR pins s σ H _ _ v u Q I rx ry ⟨a, b, vs, ws, rfl, rfl, s1, s2, by rw [t1.length, t2.length]; exact fits_ok hf, fun p n => q _ _ (Same.laid n) (newL (t1.app t2) L n)⟩
      · cases hg
    | _ => cases hg
  | _ => cases hg
theorem opG_int {op : Operator} {o : Op2} {C : Int → Int → Prop} {f : Int → Int → Int} (ho : OpR X (binaryOp op) (rI C fun i j => .int (f i j)))
    (hg : ∀ d e r, binD o d e = some r → ∃ i j, d = .int i ∧ e = .int j ∧ C i j ∧ r = .int (f i j)) : OpR X (binaryOp op) (rG X.K (binD o)) := by
  intro pins s σ H x y v u Q I rx ry ⟨A, d, e, r, L, hd, he, g, q⟩
  obtain ⟨i, j, rfl, rfl, c, rfl⟩ := hg d e r g
  cases hd.int; cases he.int
  exact ho pins s σ H _ _ v u Q I rx ry ⟨i, j, rfl, rfl, c, q _ _ (Same.refl _) (.int _)⟩
theorem opG_sub : OpR X (binaryOp .Sub) (rG X.K (binD .sub)) := by
  intro pins s σ H x y v u Q I rx ry ⟨A, d, e, r, L, hd, he, hg, q⟩
  cases d with
  | int i =>
    cases e with
    | int j =>
      cases hd.int; cases he.int; cases hg
      exact op_sub pins s σ H _ _ v u Q I rx ry ⟨i, j, rfl, rfl, q _ _ (Same.refl _) (.int _)⟩
    | _ => cases hg
  | _ => cases hg
theorem DqA.flat {K : PySem.W.Frag} {A : Addr → Prop} {H : Hp} {vs : List V} {ds : List PyData} (h : DqA K A H vs ds) : ∀ n : Nat, DqA K A H (List.replicate n vs).flatten (List.replicate n ds).flatten
  | 0 => by simp; exact .nil
  | n + 1 => by simp only [List.replicate_succ, List.flatten_cons]; exact h.app (DqA.flat h n)
theorem opG_mul : OpR X (binaryOp .Mult) (rG X.K (binD .mul)) := by
  intro pins s σ H x y v u Q I rx ry ⟨A, d, e, r, L, hd, he, hg, q⟩
  cases d with
  | int i =>
    cases e with
    | int j =>
      simp only [binD] at hg
      split at hg
      · rename_i hm
        cases hd.int; cases he.int; cases hg
        rcases mulOk_ok hm with hm | hm
        · exact op_mul pins s σ H _ _ v u Q I rx ry ⟨i, j, rfl, rfl, hm, q _ _ (Same.refl _) (.int _)⟩
        · exact op_mulW pins s σ H _ _ v u Q I rx ry ⟨i, j, rfl, rfl, hm, q _ _ (Same.refl _) (.int _)⟩
      · cases hg
    | _ => cases hg
  | tuple xs =>
    cases e with
    | int k =>
      simp only [binD] at hg
      split at hg
      · rename_i hm
        obtain ⟨h1, h2, h3, h4⟩ := of_decide_eq_true hm
        cases he.int; cases hg
        obtain ⟨a, vs, rfl, s1, t1⟩ := hd.tuple
        exact op_repT pins s σ H _ _ v u Q I rx ry ⟨a, k, vs, rfl, rfl, s1, fun z => h1 (t1.nil_iff.mp z), h2, h3, by rw [t1.length]; exact h4, fun p n => q _ _ (Same.laid n) (newT (DqA.flat t1 _) n)⟩
      · cases hg
    | _ => cases hg
  | _ => cases hg
theorem opG_mod : OpR X (binaryOp .Mod) (rG X.K (binD .mod)) := opG_int op_mod fun d e r h => by
  cases d <;> try cases h
  cases e <;> try cases h
  rename_i i j
  simp only [binD] at h
  split at h
  · rename_i hj
    cases h
    exact ⟨i, j, rfl, rfl, of_decide_eq_true hj, rfl⟩
  · cases h
theorem opG_fdiv : OpR X (binaryOp .FloorDiv) (rG X.K (binD .fdiv)) := opG_int op_fdivW fun d e r h => by
  cases d <;> try cases h
  cases e <;> try cases h
  rename_i i j
  simp only [binD] at h
  split at h
  · rename_i hj
    cases h
    have z : 0 < j ∧ j.natAbs.log2 < 9000 := of_decide_eq_true hj
    exact ⟨i, j, rfl, rfl, z, rfl⟩
  · cases h
theorem opG_pow : OpR X (binaryOp .Pow) (rG X.K (binD .pow)) := opG_int op_pow fun d e r h => by
  cases d <;> try cases h
  cases e <;> try cases h
  rename_i i j
  simp only [binD] at h
  split at h
  · rename_i hj
    cases h
    have z : 0 ≤ j ∧ j ≤ 1000000 ∧ i.natAbs < 2 ^ 64 := of_decide_eq_true hj
    exact ⟨i, j, rfl, rfl, z, rfl⟩
  · cases h
theorem opG : ∀ o : Op2, OpR X (binaryOp (pyOp o)) (rG X.K (binD o))
  | .add => opG_add
  | .sub => opG_sub
  | .mul => opG_mul
  | .mod => opG_mod
  | .fdiv => opG_fdiv
  | .pow => opG_pow

/-! ### comparisons -/
def pyCm : Cm → CmpOp
  | .eq => .Eq | .ne => .NotEq | .lt => .Lt | .le => .LtE | .gt => .Gt | .ge => .GtE | .in_ => .In | .notin => .NotIn
def cmpV (o : Cm) (x y : PyData) : Option PyData := (cmpD o x y).map .bool
theorem DqA.intsOf {K : PySem.W.Frag} {A : Addr → Prop} {H : Hp} : ∀ {ds : List PyData} {vs : List V} {ns : List Int}, DqA K A H vs ds → F3.intsOf ds = some ns → vs = ns.map V.int ∧ ds = ns.map PyData.int
  | [], _, ns, h, e => by cases h; cases e; exact ⟨rfl, rfl⟩
  | d :: ds, _, ns, h, e => by
    cases h with
    | cons a b =>
      cases d with
      | int i =>
        simp only [F3.intsOf] at e
        cases q : F3.intsOf ds with
        | none => rw [q] at e; cases e
        | some ms =>
          rw [q] at e; cases e
          cases a
          obtain ⟨h1, h2⟩ := DqA.intsOf b q
          exact ⟨by rw [h1]; rfl, by rw [h2]; rfl⟩
      | _ => cases e
theorem DqA.boolsOf {K : PySem.W.Frag} {A : Addr → Prop} {H : Hp} : ∀ {ds : List PyData} {vs : List V} {ns : List Bool}, DqA K A H vs ds → F3.boolsOf ds = some ns → vs = ns.map V.bl
  | [], _, ns, h, e => by cases h; cases e; rfl
  | d :: ds, _, ns, h, e => by
    cases h with
    | cons a b =>
      cases d with
      | bool i =>
        simp only [F3.boolsOf] at e
        cases q : F3.boolsOf ds with
        | none => rw [q] at e; cases e
        | some ms =>
          rw [q] at e; cases e
          cases a
          rw [DqA.boolsOf b q]; rfl
      | _ => cases e
theorem cmp_int {c : CmpOp} {o : Cm} {f : Int → Int → Bool} (hu : X.A.units + 200 < cLine) (ho : OpR X (compareOp c) (rI0 fun i j => .bl (f i j)))
    (hg : ∀ d e r, cmpV o d e = some r → ∃ i j, d = .int i ∧ e = .int j ∧ r = .bool (f i j)) : OpR X (compareOp c) (rG X.K (cmpV o)) := by
  intro pins s σ H x y v u Q I rx ry ⟨A, d, e, r, L, hd, he, g, q⟩
  obtain ⟨i, j, rfl, rfl, rfl⟩ := hg d e r g
  cases hd.int; cases he.int
  exact ho pins s σ H _ _ v u Q I rx ry ⟨i, j, rfl, rfl, q _ _ (Same.refl _) (.bl _)⟩
theorem cmpG_eq (hu : X.A.units + 200 < cLine) : OpR X (compareOp .Eq) (rG X.K (cmpV .eq)) := by
  intro pins s σ H x y v u Q I rx ry ⟨A, d, e, r, L, hd, he, g, q⟩
  simp only [cmpV, cmpD] at g
  split at g
  · rename_i hs
    cases g
    have hs := of_decide_eq_true hs
    obtain ⟨as, r1⟩ := Dp.reads I d x v hd.dp rx
    obtain ⟨bs, r2⟩ := Dp.reads I e y u he.dp ry
    exact PySem.SeqAt.compareEq_reads r1 r2 hd.lay he.lay (by omega) ⟨.bl _, H, I, rfl, q _ _ (Same.refl _) (.bl _)⟩
  · cases g
theorem cmpG_ne (hu : X.A.units + 200 < cLine) : OpR X (compareOp .NotEq) (rG X.K (cmpV .ne)) := by
  intro pins s σ H x y v u Q I rx ry ⟨A, d, e, r, L, hd, he, g, q⟩
  simp only [cmpV, cmpD] at g
  split at g
  · rename_i hs
    cases g
    have hs := of_decide_eq_true hs
    obtain ⟨as, r1⟩ := Dp.reads I d x v hd.dp rx
    obtain ⟨bs, r2⟩ := Dp.reads I e y u he.dp ry
    exact PySem.SeqAt.compareNe_reads r1 r2 hd.lay he.lay (by omega) ⟨.bl _, H, I, rfl, q _ _ (Same.refl _) (.bl _)⟩
  · cases g
theorem cmpG_in (hu : X.A.units + 200 < cLine) : OpR X (compareOp .In) (rG X.K (cmpV .in_)) := by
  intro pins s σ H x y v u Q I rx ry ⟨A, d, e, r, L, hd, he, g, q⟩
  obtain ⟨as, r1⟩ := Dp.reads I d x v hd.dp rx
  obtain ⟨bs, r2⟩ := Dp.reads I e y u he.dp ry
  have ly := he.lay
  cases e with
  | list ys =>
    simp only [cmpV, cmpD, inD] at g
    split at g
    · rename_i hs
      cases g
      have hs := of_decide_eq_true hs
      exact PySem.SeqAt.in_list_reads r2 r1 (by simpa [PyData.canLay0] using ly) hd.lay (by omega) ⟨.bl _, H, I, rfl, q _ _ (Same.refl _) (.bl _)⟩
    · cases g
  | tuple ys =>
    simp only [cmpV, cmpD, inD] at g
    split at g
    · rename_i hs
      cases g
      have hs := of_decide_eq_true hs
      exact PySem.SeqAt.in_tuple_reads r2 r1 (by simpa [PyData.canLay0] using ly) hd.lay (by omega) ⟨.bl _, H, I, rfl, q _ _ (Same.refl _) (.bl _)⟩
    · cases g
  | _ => cases d <;> cases g
theorem cmpG_notin (hu : X.A.units + 200 < cLine) : OpR X (compareOp .NotIn) (rG X.K (cmpV .notin)) := by
  intro pins s σ H x y v u Q I rx ry ⟨A, d, e, r, L, hd, he, g, q⟩
  obtain ⟨as, r1⟩ := Dp.reads I d x v hd.dp rx
  obtain ⟨bs, r2⟩ := Dp.reads I e y u he.dp ry
  have ly := he.lay
  cases e with
  | list ys =>
    simp only [cmpV, cmpD, inD] at g
    split at g
    · rename_i hs
      cases g
      have hs := of_decide_eq_true hs
      exact PySem.SeqAt.notIn_list_reads r2 r1 (by simpa [PyData.canLay0] using ly) hd.lay (by omega) ⟨.bl _, H, I, rfl, q _ _ (Same.refl _) (.bl _)⟩
    · cases g
  | tuple ys =>
    simp only [cmpV, cmpD, inD] at g
    split at g
    · rename_i hs
      cases g
      have hs := of_decide_eq_true hs
      exact PySem.SeqAt.notIn_tuple_reads r2 r1 (by simpa [PyData.canLay0] using ly) hd.lay (by omega) ⟨.bl _, H, I, rfl, q _ _ (Same.refl _) (.bl _)⟩
    · cases g
  | _ => cases d <;> cases g
theorem cmpG_lt (hu : X.A.units + 200 < cLine) : OpR X (compareOp .Lt) (rG X.K (cmpV .lt)) := by
  intro pins s σ H x y v u Q I rx ry ⟨A, d, e, r, L, hd, he, g, q⟩
  cases d with
  | int i =>
    cases e with
    | int j =>
      cases hd.int; cases he.int; cases g
      exact op_lt pins s σ H _ _ v u Q I rx ry ⟨i, j, rfl, rfl, q _ _ (Same.refl _) (.bl _)⟩
    | _ => cases g
  | tuple xs =>
    cases e with
    | tuple ys =>
      simp only [cmpV, cmpD] at g
      cases q1 : F3.intsOf xs with
      | none => rw [q1] at g; cases g
      | some ns =>
        cases q2 : F3.intsOf ys with
        | none => rw [q1, q2] at g; cases g
        | some ms =>
          rw [q1, q2] at g; cases g
          obtain ⟨a, vs, rfl, s1, t1⟩ := hd.tuple
          obtain ⟨b, ws, rfl, s2, t2⟩ := he.tuple
          obtain ⟨rfl, _⟩ := t1.intsOf q1
          obtain ⟨rfl, _⟩ := t2.intsOf q2
          exact op_ltT (by omega) pins s σ H _ _ v u Q I rx ry ⟨a, b, ns, ms, rfl, rfl, s1, s2, q _ _ (Same.refl _) (.bl _)⟩
    | _ => cases g
  | _ => cases e <;> cases g
theorem isNone_iff {K : PySem.W.Frag} {A : Addr → Prop} {H : Hp} {v : V} {d : PyData} (h : Dr K A H v d) : decide (v = .non) = isNoneD d := by
  cases d with
  | none => cases h.none; rfl
  | int i => cases h.int; rfl
  | bool i => cases h.bool; rfl
  | str i => cases h.str; rfl
  | list xs => obtain ⟨a, vs, rfl, _⟩ := h.list; rfl
  | tuple xs => obtain ⟨a, vs, rfl, _⟩ := h.tuple; rfl
  | dict xs =>
    rcases h with h | ⟨p, vs, xs, rfl, e, t, e2⟩
    · cases h
    · cases e2
theorem cmpG (hu : X.A.units + 200 < cLine) : ∀ o : Cm, OpR X (compareOp (pyCm o)) (rG X.K (cmpV o))
  | .eq => cmpG_eq hu
  | .ne => cmpG_ne hu
  | .lt => cmpG_lt hu
  | .le => cmp_int hu op_le (o := .le) (fun d e r g => by
      cases d <;> try cases g
      cases e <;> try cases g
      exact ⟨_, _, rfl, rfl, rfl⟩)
  | .gt => cmp_int hu op_gt (o := .gt) (fun d e r g => by
      cases d <;> try cases g
      cases e <;> try cases g
      exact ⟨_, _, rfl, rfl, rfl⟩)
  | .ge => cmp_int hu op_ge (o := .ge) (fun d e r g => by
      cases d <;> try cases g
      cases e <;> try cases g
      exact ⟨_, _, rfl, rfl, rfl⟩)
  | .in_ => cmpG_in hu
  | .notin => cmpG_notin hu

/-! ### truth -/
theorem truG {K : PySem.W.Frag} {A : Addr → Prop} {H : Hp} {x : V} {d : PyData} {b : Bool} (hd : Dr K A H x d) (h : truD d = some b) : TruV K x H b := by
  cases d with
  | none => cases hd.none; cases h; rfl
  | bool i => cases hd.bool; cases h; rfl
  | int i => cases hd.int; cases h; rfl
  | list xs =>
    obtain ⟨a, vs, rfl, r, t⟩ := hd.list
    cases h
    exact .inl ⟨vs, r.sql, by cases t <;> rfl⟩
  | tuple xs =>
    obtain ⟨a, vs, rfl, r, t⟩ := hd.tuple
    cases h
    exact .inr (.inl ⟨vs, r, by cases t <;> rfl⟩)
  | _ => cases h
end
end F3
end
section
namespace F3
open PySem PySem.Spec L2

section
variable {X : Cx} {K : PySem.W.Frag} {A : Addr → Prop} {H : Hp}
theorem one_of {xs : List V} {d : PyData} (h : Paired (Dr K A H) xs [d]) : ∃ x, xs = [x] ∧ Dr K A H x d := by
  cases h with
  | cons a b => cases b; exact ⟨_, rfl, a⟩
theorem two_of {xs : List V} {d e : PyData} (h : Paired (Dr K A H) xs [d, e]) : ∃ x y, xs = [x, y] ∧ Dr K A H x d ∧ Dr K A H y e := by
  cases h with
  | cons a b =>
    cases b with
    | cons c d => cases d; exact ⟨_, _, rfl, a, c⟩
theorem Dr.seq {v : V} {d : PyData} {ds : List PyData} (h : Dr K A H v d) (e : seqOf d = some ds) : ∃ a xs, v = .ref a ∧ (SqL K H a xs ∨ SqT K H a xs) ∧ DqA K A H xs ds := by
  cases d with
  | list ys => cases e; obtain ⟨a, xs, h1, h2, h3⟩ := h.list; exact ⟨a, xs, h1, .inl h2.sql, h3⟩
  | tuple ys => cases e; obtain ⟨a, xs, h1, h2, h3⟩ := h.tuple; exact ⟨a, xs, h1, .inr h2, h3⟩
  | _ => cases e
/-- sum of a tuple of ints -/
theorem sum_rawT {prog : Program} {w : World} {A : Around} {E : Value → Shared → Prop} {s : Shared} {l : Addr} {its : List Value} {ns : List Int} {Q : Value → Shared → Prop} (hh : A.handled = none) (hl : PyProof.Rows.IsTup s.heap l its.toArray) (hi : PyProof.Rows.IntsAre its ns)
    (h : ∀ h' tk t', (∀ b o, s.heap.get? b = some o → h'.get? b = some o) → Q (.int ns.sum t') { s with heap := h', toks := tk }) : wpAny (model prog w) A (call (.builtin "sum") [.ref l]) Q E s := by
  obtain ⟨xs, e⟩ := hi.allInts.items
  have hn : numsOf (intItems xs).toList = ns := by rw [← e]; exact hi.numsOf
  rw [nums_intItems] at hn
  rw [e] at hl
  have hl' : s.heap.IsTuple l (intItems xs) := hl
  have hlt : l < s.heap.objs.size := hl.lt
  refine PySem.call_sum_walkG (wpAny_pyIter_tuple hl' ?_)
  refine ⟨_, _, _, _, _, _, numAt xs, rfl, Walks.tuple (A := A.in1) hh _ l (Nat.ne_of_lt hlt) (intItems xs), ⟨⟨_, Heap.get?_push_size _ rfl, rfl, rfl⟩, hl'.push _⟩, fun b hb => ?_, (fun _ _ => intItems_at), fun h' tk t' hk => ?_⟩
  · show b < (s.heap.push _).objs.size
    rw [Heap.size_push]
    rcases List.mem_cons.mp hb with rfl | hb
    · exact Nat.lt_succ_self _
    · rcases List.mem_cons.mp hb with rfl | hb
      · exact Nat.lt_succ_of_lt hlt
      · cases hb
  · have := h h' tk t' fun b o e => hk b o (fun z => by
      have z : b = s.heap.objs.size := by simpa using z
      exact absurd (Heap.lt_size e) (by rw [z]; exact Nat.lt_irrefl _)) (Heap.get?_push_of_some _ e)
    have e2 : preSum (numAt xs) (intItems xs).size = ns.sum := by
      have e3 : (intItems xs).size = xs.size := by simp [intItems]
      rw [e3, preSum_eq, List.take_of_length_le (by simp), hn]
    rw [e2]; exact this

/-! ### built-in calls by values -/
def biId : BI → String
  | .len => "len" | .sum => "sum" | .all => "all" | .any => "any" | .abs => "abs" | .min2 => "min" | .max2 => "max"
  | _ => ""
theorem biG_len : CallR X (.builtin "len") (rGL X.K (biD .len)) := by
  intro pins s σ H xs us Q I r ⟨A, ds, res, L, hd, hg, q⟩
  match ds, hg with
  | [d], hg =>
    obtain ⟨x, rfl, hx⟩ := one_of hd
    simp only [biD] at hg
    cases e : seqOf d with
    | none => rw [e] at hg; cases hg
    | some ys =>
      rw [e] at hg; cases hg
      obtain ⟨a, vs, rfl, sq, t⟩ := hx.seq e
      exact call_len_seq pins s σ H _ us Q I r ⟨a, vs, rfl, sq, by rw [t.length]; exact q _ _ (Same.refl _) (.int _)⟩
theorem biG_sum (hc : X.calm = true) : CallR X (.builtin "sum") (rGL X.K (biD .sum)) := by
  intro pins s σ H xs us Q I r ⟨A, ds, res, L, hd, hg, q⟩
  match ds, hg with
  | [d], hg =>
    obtain ⟨x, rfl, hx⟩ := one_of hd
    simp only [biD] at hg
    cases e : seqOf d with
    | none => rw [e] at hg; cases hg
    | some ys =>
      rw [e] at hg
      cases e2 : F3.intsOf ys with
      | none => simp [e2] at hg
      | some ns =>
        simp only [Option.bind_some, e2, Option.map_some] at hg
        cases hg
        obtain ⟨a, vs, rfl, sq, t⟩ := hx.seq e
        obtain ⟨rfl, _⟩ := t.intsOf e2
        rcases sq with sq | sq
        · exact cr_sum hc pins s σ H _ us Q I r ⟨a, ns, rfl, sq, q _ _ (Same.refl _) (.int _)⟩
        · obtain ⟨its, rv, p1, _⟩ := I.tuple sq
          rw [Vals.ref1 r]
          exact sum_rawT (I.ok.hd hc) p1 (intsAre_of rv) fun h' tk t' hk => ⟨.int _, H, I.kept hk, ⟨_, rfl⟩, q _ _ (Same.refl _) (.int _)⟩
theorem biG_all (hc : X.calm = true) : CallR X (.builtin "all") (rGL X.K (biD .all)) := by
  intro pins s σ H xs us Q I r ⟨A, ds, res, L, hd, hg, q⟩
  match ds, hg with
  | [.list ys], hg =>
    obtain ⟨x, rfl, hx⟩ := one_of hd
    simp only [biD] at hg
    cases e : F3.boolsOf ys with
    | none => rw [e] at hg; cases hg
    | some bs =>
      rw [e] at hg; cases hg
      obtain ⟨a, vs, rfl, sq, t⟩ := hx.list
      have := t.boolsOf e
      subst this
      exact cr_all hc pins s σ H _ us Q I r ⟨a, bs, rfl, sq.sql, q _ _ (Same.refl _) (.bl _)⟩
theorem biG_any (hc : X.calm = true) : CallR X (.builtin "any") (rGL X.K (biD .any)) := by
  intro pins s σ H xs us Q I r ⟨A, ds, res, L, hd, hg, q⟩
  match ds, hg with
  | [.list ys], hg =>
    obtain ⟨x, rfl, hx⟩ := one_of hd
    simp only [biD] at hg
    cases e : F3.boolsOf ys with
    | none => rw [e] at hg; cases hg
    | some bs =>
      rw [e] at hg; cases hg
      obtain ⟨a, vs, rfl, sq, t⟩ := hx.list
      have := t.boolsOf e
      subst this
      exact cr_any hc pins s σ H _ us Q I r ⟨a, bs, rfl, sq.sql, q _ _ (Same.refl _) (.bl _)⟩
theorem biG_abs : CallR X (.builtin "abs") (rGL X.K (biD .abs)) := by
  intro pins s σ H xs us Q I r ⟨A, ds, res, L, hd, hg, q⟩
  match ds, hg with
  | [.int i], hg =>
    obtain ⟨x, rfl, hx⟩ := one_of hd
    cases hg
    cases hx.int
    exact call_abs pins s σ H _ us Q I r ⟨i, rfl, q _ _ (Same.refl _) (.int _)⟩
theorem biG_min2 (hc : X.calm = true) : CallR X (.builtin "min") (rGL X.K (biD .min2)) := by
  intro pins s σ H xs us Q I r ⟨A, ds, res, L, hd, hg, q⟩
  match ds, hg with
  | [.int i, .int j], hg =>
    obtain ⟨x, y, rfl, hx, hy⟩ := two_of hd
    cases hg
    cases hx.int; cases hy.int
    exact call_min2 hc pins s σ H _ us Q I r ⟨i, j, rfl, q _ _ (Same.refl _) (.int _)⟩
theorem biG_max2 (hc : X.calm = true) : CallR X (.builtin "max") (rGL X.K (biD .max2)) := by
  intro pins s σ H xs us Q I r ⟨A, ds, res, L, hd, hg, q⟩
  match ds, hg with
  | [.int i, .int j], hg =>
    obtain ⟨x, y, rfl, hx, hy⟩ := two_of hd
    cases hg
    cases hx.int; cases hy.int
    exact call_max2 hc pins s σ H _ us Q I r ⟨i, j, rfl, q _ _ (Same.refl _) (.int _)⟩
theorem biG_int : CallR X (.type "int") (rGL X.K (biD .int)) := by
  intro pins s σ H xs us Q I r ⟨A, ds, res, L, hd, hg, q⟩
  cases ds with
  | nil => cases hg
  | cons d ds =>
    cases ds with
    | cons _ _ => cases d <;> cases hg
    | nil =>
      obtain ⟨x, rfl, hx⟩ := one_of hd
      cases d with
      | int i =>
        cases hg
        cases hx.int
        exact call_int1 pins s σ H _ us Q I r (.inl ⟨i, rfl, q _ _ (Same.refl _) (.int _)⟩)
      | bool i =>
        cases hg
        cases hx.bool
        exact call_int1 pins s σ H _ us Q I r (.inr ⟨i, rfl, q _ _ (Same.refl _) (.int _)⟩)
      | _ => cases hg
theorem biG_tup : CallR X (.type "tuple") (rGL X.K (biD .tup)) := by
  intro pins s σ H xs us Q I r ⟨A, ds, res, L, hd, hg, q⟩
  cases ds with
  | nil => cases hg
  | cons d ds =>
    cases ds with
    | cons _ _ => cases d <;> cases hg
    | nil =>
      obtain ⟨x, rfl, hx⟩ := one_of hd
      cases d with
      | list ys =>
        cases hg
        obtain ⟨a, vs, rfl, sq, t⟩ := hx.list
        exact call_tuple_of pins s σ H _ us Q I r ⟨a, vs, rfl, .inl ⟨sq.sql, fun l n => q _ _ (Same.laid n) (newT t n)⟩⟩
      | tuple ys =>
        cases hg
        obtain ⟨a, vs, rfl, sq, t⟩ := hx.tuple
        exact call_tuple_of pins s σ H _ us Q I r ⟨a, vs, rfl, .inr ⟨sq, q _ _ (Same.refl _) (.tup sq t)⟩⟩
      | _ => cases hg
/-- list(xs): a new list -/
def rLst (K : PySem.W.Frag) : List V → Hp → VK → Prop := fun xs H Q => ∃ A d ds, Live A H ∧ Paired (Dr K A H) xs [d] ∧ seqOf d = some ds ∧ ∀ vs p, H p = none → DqA K A H vs ds → Q (.ref p) (upd H p (.lst vs))
theorem biG_lst0 : CallR X (.type "list") (rLst X.K) := by
  intro pins s σ H xs us Q I r ⟨A, d, ds, L, hd, hg, q⟩
  obtain ⟨x, rfl, hx⟩ := one_of hd
  obtain ⟨a, vs, rfl, sq, t⟩ := hx.seq hg
  exact call_list_of pins s σ H _ us Q I r ⟨a, vs, rfl, sq, fun l n => q vs l n t⟩
theorem biG_lst : CallR X (.type "list") (rGL X.K (biD .lst)) := by
  intro pins s σ H xs us Q I r ⟨A, ds, res, L, hd, hg, q⟩
  match ds, hg with
  | [d], hg =>
    simp only [biD] at hg
    cases e : seqOf d with
    | none => rw [e] at hg; cases hg
    | some ys =>
      rw [e] at hg; cases hg
      exact biG_lst0 pins s σ H xs us Q I r ⟨A, d, ys, L, hd, e, fun vs p n t => q _ _ (Same.laid n) (newL t L n)⟩

/-! ### isinstance -/
theorem Dr.tyx {v : V} {d : PyData} {t : String} (h : Dr K A H v d) (e : tyOf d = some t) : TyX K H v (.type t) := by
  cases d with
  | none => cases h.none; cases e; exact .base .non
  | bool b => cases h.bool; cases e; exact .base (.bl _)
  | int b => cases h.int; cases e; exact .base (.int _)
  | str b => cases h.str; cases e; exact .base (.str _)
  | list xs =>
    obtain ⟨a, vs, rfl, sq, t⟩ := h.list
    cases e
    rcases sq with (sq | ⟨o, sq⟩) | ⟨its, n, e, _⟩
    · exact .base (.lst sq)
    · exact .base (.frz sq)
    · exact .kList e rfl
  | tuple xs =>
    obtain ⟨a, vs, rfl, sq, t⟩ := h.tuple
    cases e
    rcases sq with (sq | ⟨o, sq⟩) | ⟨o, its, n, hk, hc, _⟩
    · exact .base (.tup sq)
    · exact .fTuple sq
    · exact .kTuple hk hc
  | _ => cases e
def okTy (t : String) : Bool := t == "int" || t == "bool" || t == "str" || t == "list" || t == "tuple"
theorem kitD (K : PySem.W.Frag) {d : PyData} {u t : String} {b : Bool} (e : tyOf d = some u) (ht : okTy t = true) (h : isiD d t = some b) : PySem.W.kitOne K (.type u) (.type t) = some b := by
  unfold isiD at h
  rw [e] at h
  have h : (u == t || (u == "bool" && t == "int")) = b := Option.some.inj h
  have hu : u = "NoneType" ∨ u = "bool" ∨ u = "int" ∨ u = "str" ∨ u = "list" ∨ u = "tuple" := by
    cases d with
    | none => cases e; simp
    | bool _ => cases e; simp
    | int _ => cases e; simp
    | str _ => cases e; simp
    | list _ => cases e; simp
    | tuple _ => cases e; simp
    | dict _ => cases e
  have ht : t = "int" ∨ t = "bool" ∨ t = "str" ∨ t = "list" ∨ t = "tuple" := by
    simp only [okTy, Bool.or_eq_true, beq_iff_eq] at ht
    rcases ht with (((h | h) | h) | h) | h <;> simp [h]
  subst h
  rcases hu with rfl | rfl | rfl | rfl | rfl | rfl <;> rcases ht with rfl | rfl | rfl | rfl | rfl <;> exact kit_ty (by decide +kernel)
/-- isinstance(x, T) -/
theorem biG_isi {t : String} (ht : okTy t = true) : CallR X (.builtin "isinstance") (fun xs H Q => ∃ x, xs = [x, .ty t] ∧ rGL X.K (biD (.isi t)) [x] H Q) := by
  intro pins s σ H xs us Q I r ⟨x, e, A, ds, res, L, hd, hg, q⟩
  subst e
  match ds, hg with
  | [d], hg =>
    obtain ⟨x, e, hx⟩ := one_of hd
    cases e
    simp only [biD] at hg
    cases e : isiD d t with
    | none => rw [e] at hg; cases hg
    | some b =>
      rw [e] at hg; cases hg
      cases e2 : tyOf d with
      | none => rw [isiD, e2] at e; cases e
      | some u => exact call_isi pins s σ H _ us Q I r ⟨x, .ty t, .type u, .type t, b, rfl, .ty t, hx.tyx e2, kitD X.K e2 ht e, q _ _ (Same.refl _) (.bl _)⟩
/-- isinstance(x, (S, T)) -/
theorem biG_isi2 {t1 t2 : String} {bi : BI} (h1 : okTy t1 = true) (h2 : okTy t2 = true) (hb : ∀ x, biD bi [x] = (isiD x t1).bind fun a => (isiD x t2).map fun b => .bool (a || b)) :
    CallR X (.builtin "isinstance") (fun xs H Q => ∃ x tp, xs = [x, .ref tp] ∧ H tp = some (.tup [.ty t1, .ty t2]) ∧ rGL X.K (biD bi) [x] H Q) := by
  intro pins s σ H xs us Q I r ⟨x, tp, e, htp, A, ds, res, L, hd, hg, q⟩
  subst e
  match ds, hg, hd with
  | [d], hg, hd =>
    obtain ⟨x, e, hx⟩ := one_of hd
    cases e
    rw [hb] at hg
    cases e1 : isiD d t1 with
    | none => rw [e1] at hg; cases hg
    | some b1 =>
      cases e3 : isiD d t2 with
      | none => rw [e1, e3] at hg; cases hg
      | some b2 =>
        rw [e1, e3] at hg; cases hg
        cases e2 : tyOf d with
        | none => rw [isiD, e2] at e1; cases e1
        | some u =>
          refine call_isiT pins s σ H _ us Q I r ⟨x, tp, [.ty t1, .ty t2], .type u, [.type t1, .type t2], b1 || b2, rfl, htp, .cons (.ty _) (.cons (.ty _) .nil), hx.tyx e2, ?_, q _ _ (Same.refl _) (.bl _)⟩
          refine kitAny_cons (kitD X.K e2 h1 e1) (fun z => ?_) (fun z => by rw [z]; rfl)
          subst z
          refine kitAny_cons (kitD X.K e2 h2 e3) (fun z => ?_) (fun z => by rw [z]; rfl)
          subst z
          rfl
  | [], hg, hd => cases hd
  | _ :: _ :: _, hg, hd => cases hd with | cons a b => cases b

/-! ### subscripts -/
theorem DqA.at_ {vs : List V} {ds : List PyData} {i : Int} {d : PyData} (t : DqA K A H vs ds) (h : atI ds i = some d) : ∃ v, atI vs i = some v ∧ Dq K A H v d := by
  unfold atI at h ⊢
  rw [t.length]
  cases e : ixN ds.length i with
  | none => rw [e] at h; cases h
  | some j => rw [e] at h; exact t.get h
theorem ixG : IxR X (rG X.K ixD) := by
  intro value slice pins s σ H x y v u Q I rx ry ⟨A, d, e, r, L, hd, he, hg, q⟩ hs
  cases e with
  | int i =>
    cases he.int
    simp only [ixD] at hg
    cases e1 : seqOf d with
    | none => rw [e1] at hg; cases hg
    | some ds =>
      rw [e1] at hg
      have hg : atI ds i = some r := hg
      obtain ⟨a, vs, rfl, sq, t⟩ := hd.seq e1
      obtain ⟨w, h1, h2⟩ := t.at_ hg
      rcases sq with sq | sq
      · exact ix_list value slice pins s σ H _ _ v u Q I rx ry ⟨a, vs, i, w, rfl, rfl, sq, h1, q _ _ (Same.refl _) h2⟩ hs
      · exact ix_tup value slice pins s σ H _ _ v u Q I rx ry ⟨a, vs, i, w, rfl, rfl, sq, h1, q _ _ (Same.refl _) h2⟩ hs
  | _ => cases hg
/-- slices -/
theorem DqA.cut {vs : List V} {ds : List PyData} (t : DqA K A H vs ds) (lo hi : Option Int) : DqA K A H (cutV vs lo hi) (cutD ds lo hi) := by
  unfold cutV cutD
  rw [t.length]
  exact (t.drop _).take _
theorem slG : SlR X (fun x lo hi H Q => ∃ A d r, Live A H ∧ Dr X.K A H x d ∧ slD d lo hi = some r ∧ ∀ z H', Same H H' → Dq X.K A H' z r → Q z H') := by
  intro pins s σ H x v vl vu lo hi sl Q I rx hs pl pu ⟨A, d, r, L, hd, hg, q⟩
  cases d with
  | list xs =>
    obtain ⟨a, vs, rfl, sq, t⟩ := hd.list
    cases hg
    exact sl_list pins s σ H _ v vl vu lo hi sl Q I rx hs pl pu ⟨a, vs, rfl, sq.sql, fun p n => q _ _ (Same.laid n) (newL (t.cut lo hi) L n)⟩
  | tuple xs =>
    obtain ⟨a, vs, rfl, sq, t⟩ := hd.tuple
    cases hg
    refine sl_tupA pins s σ H _ v vl vu lo hi sl Q I rx hs pl pu ⟨a, vs, rfl, sq, fun z => ?_, fun _ p n => q _ _ (Same.laid n) (newT (t.cut lo hi) n)⟩
    have e : cutD xs lo hi = xs := by
      unfold cutD
      rw [← t.length, z.1, z.2]
      simp [t.length]
    rw [e] at q
    exact q _ _ (Same.refl _) (.tup sq t)
  | _ => cases hg
end
end F3
end
section
namespace F3
open PySem PySem.Spec L2

/-! ### which expressions hand out what may be kept; which change nothing -/
def stE : IE → Bool
  | .ovar _ => false
  | .ite _ a b => stE a && stE b
  | .and a b => stE a && stE b
  | .or a b => stE a && stE b
  | _ => true
mutual
def puE : IE → Bool
  | .var _ => true
  | .ovar _ => true
  | .lit _ => true
  | .glob _ => true
  | .bin _ a b => puE a && puE b
  | .neg a => puE a
  | .cmp _ a b => puE a && puE b
  | .chain _ _ a b c => puE a && puE b && puE c
  | .isN _ a => puE a
  | .and a b => puE a && puE b
  | .or a b => puE a && puE b
  | .not a => puE a
  | .ite c a b => puE c && puE a && puE b
  | .tup es => puL es
  | .lst es => puL es
  | .ix a i => puE a && puE i
  | .sl a lo hi => puE a && puO lo && puO hi
  | .rev a => puE a
  | .bi _ es => puL es
  | .call _ es => puL es && es.all stE
  | .lc _ _ it c e => puI it && puO c && puE e
  | .popAt _ _ => false
def puL : List IE → Bool
  | [] => true
  | e :: es => puE e && puL es
def puO : Option IE → Bool
  | none => true
  | some e => puE e
def puI : II → Bool
  | .seq e => puE e
  | .rng1 e => puE e
  | .rng2 a b => puE a && puE b
  | .enum e => puE e
  | .zip a b => puE a && puE b
end

/-! ### what follows an evaluation -/
abbrev WE := Nat → St → Hp → Prop
def Post {α : Type} (C : FC) (A : Addr → Prop) (σ : St) (H : Hp) (W : WE) (G : α → Env → Hp → Prop) : Rs α → Prop
  | .ok a ρ' => ∀ H', Kp A H H' → SE C A σ H' ρ' → G a ρ' H'
  | .ex c ρ' => ∀ H', Kp A H H' → SE C A σ H' ρ' → W c σ H'
  | .bad => False
def VOk (s : Bool) (K : PySem.W.Frag) (A : Addr → Prop) (H : Hp) (v : V) (d : PyData) : Prop := Dr K A H v d ∧ (s = true → Dq K A H v d)
section
variable {α β : Type} {C : FC} {A : Addr → Prop} {σ : St} {H H1 H2 : Hp} {ρ ρ1 : Env} {W : WE} {G G' : α → Env → Hp → Prop} {r : Rs α}
theorem Post.shift (h : Post C A σ H W G r) (k : Kp A H H1) : Post C A σ H1 W G r := by
  cases r with
  | ok a ρ' => exact fun H' k' S => h H' (k.trans k') S
  | ex c ρ' => exact fun H' k' S => h H' (k.trans k') S
  | bad => exact h
theorem Post.imp (h : Post C A σ H W G r) (f : ∀ a ρ' H', Kp A H H' → SE C A σ H' ρ' → G a ρ' H' → G' a ρ' H') : Post C A σ H W G' r := by
  cases r with
  | ok a ρ' => exact fun H' k' S => f _ _ _ k' S (h H' k' S)
  | ex c ρ' => exact fun H' k' S => h H' k' S
  | bad => exact h
/-- behind a first part -/
theorem Post.bind {f : α → Env → Rs β} {G' : β → Env → Hp → Prop} (h : Post C A σ H W G' (r.bind f)) (g : ∀ a ρ1 H1, Kp A H H1 → SE C A σ H1 ρ1 → Post C A σ H1 W G' (f a ρ1) → G a ρ1 H1) : Post C A σ H W G r := by
  cases r with
  | ok a ρ' => exact fun H' k' S => g _ _ _ k' S (h.shift k')
  | ex c ρ' => exact h
  | bad => exact h
theorem Post.of {o : Option α} (h : Post C A σ H W G (Rs.of o ρ)) : ∃ a, o = some a ∧ Post C A σ H W G (Rs.ok a ρ) := by
  cases o with
  | none => exact h.elim
  | some a => exact ⟨a, rfl, h⟩
end

/-- an expression and what it is -/
structure EJ (X : Cx) (Γ : Gm) (C : FC) (W : WE) (e : Expr) (ir : IE) : Prop where
  ex : ∃ t, PE X e t ∧ ∀ A σ H ρ (Q : VK), SE C A σ H ρ →
    Post C A σ H W (fun d _ H' => ∀ v, (puE ir = true → Same H H') → VOk (stE ir) C.K A H' v d → Q v H') (sem Γ ir ρ) → t σ H Q
/-- a test -/
structure TJ (X : Cx) (Γ : Gm) (C : FC) (W : WE) (e : Expr) (ir : IE) : Prop where
  ex : ∃ t, PT X e t ∧ ∀ A σ H ρ (Q : Bool → Hp → Prop), SE C A σ H ρ →
    Post C A σ H W (fun b _ H' => (puE ir = true → Same H H') → Q b H') (semT Γ ir ρ) → t σ H Q
/-- several values, from the left -/
structure LJ (X : Cx) (Γ : Gm) (C : FC) (W : WE) (es : List Expr) (irs : List IE) : Prop where
  ex : ∃ t, PA X es t ∧ ∀ A σ H ρ (Q : List V → Hp → Prop), SE C A σ H ρ →
    Post C A σ H W (fun ds _ H' => ∀ vs, (puL irs = true → Same H H') → DqA C.K A H' vs ds → Q vs H') (semL Γ irs ρ) → t σ H Q

section
variable {X : Cx} {Γ : Gm} {C : FC} {W : WE} {a b c e : Expr} {ia ib ic ie : IE} {pos : Pos}
theorem ej_var {i : Nat} {x : Str} (hN : X.N[i]? = some x) (hv : Vis X.env.scope x) (hd : (x == ("__debug__" : Str)) = false) (hcd : (x == ("__classdict__" : Str)) = false) : EJ X Γ C W (.Name x pos) (.var i) := by
  refine ⟨_, pe_var hN hv hd hcd, fun A σ H ρ Q S h => ?_⟩
  obtain ⟨d, e1, h⟩ := Post.of h
  unfold getD at e1
  split at e1
  · rename_i x hx
    cases e1
    obtain ⟨v, hv, q⟩ := S.at_ i _ hx
    exact ⟨v, hv, h H Kp.refl S v (fun _ => Same.refl _) ⟨.inl q, fun _ => q⟩⟩
  · cases e1
theorem ej_ovar {i : Nat} {x : Str} (hN : X.N[i]? = some x) (hv : Vis X.env.scope x) (hd : (x == ("__debug__" : Str)) = false) (hcd : (x == ("__classdict__" : Str)) = false) : EJ X Γ C W (.Name x pos) (.ovar i) := by
  refine ⟨_, pe_var hN hv hd hcd, fun A σ H ρ Q S h => ?_⟩
  obtain ⟨d, e1, h⟩ := Post.of h
  unfold getL at e1
  split at e1
  · rename_i xs hx
    cases e1
    obtain ⟨v, hv, p, vs, rfl, ha, hp, t⟩ := S.at_ i _ hx
    exact ⟨_, hv, h H Kp.refl S _ (fun _ => Same.refl _) ⟨.inr ⟨p, vs, xs, rfl, hp, t, rfl⟩, fun z => by cases z⟩⟩
  · cases e1
theorem ej_int {i : Int} {j : Nat} : EJ X Γ C W (.Constant (.int i) j pos) (.lit (.int i)) :=
  ⟨_, pe_int, fun A σ H ρ Q S h => h H Kp.refl S _ (fun _ => Same.refl _) ⟨.inl (.int _), fun _ => .int _⟩⟩
theorem ej_bool {i : Bool} {j : Nat} : EJ X Γ C W (.Constant (.bool i) j pos) (.lit (.bool i)) :=
  ⟨_, pe_bl, fun A σ H ρ Q S h => h H Kp.refl S _ (fun _ => Same.refl _) ⟨.inl (.bl _), fun _ => .bl _⟩⟩
theorem ej_none {j : Nat} : EJ X Γ C W (.Constant .none j pos) (.lit .none) :=
  ⟨_, pe_non, fun A σ H ρ Q S h => h H Kp.refl S _ (fun _ => Same.refl _) ⟨.inl .non, fun _ => .non⟩⟩
theorem ej_str {x : Str} {j : Nat} (hx : PyData.strOk x = true) : EJ X Γ C W (.Constant (.str x) j pos) (.lit (.str x)) :=
  ⟨_, pe_str, fun A σ H ρ Q S h => h H Kp.refl S _ (fun _ => Same.refl _) ⟨.inl (.str _ hx), fun _ => .str _ hx⟩⟩
theorem ej_glob {x : Str} {i : Int} {u : Value} {g : Nat} (hg : Gl X x) (hm : X.mg x = some u) (r : RelV (.int i) u) (hd : (x == ("__debug__" : Str)) = false) (hc : Γ.cs[g]? = some i) : EJ X Γ C W (.Name x pos) (.glob g) := by
  refine ⟨_, pe_glob hg hm r hd, fun A σ H ρ Q S h => ?_⟩
  obtain ⟨d, e1, h⟩ := Post.of h
  rw [hc] at e1
  cases e1
  exact h H Kp.refl S _ (fun _ => Same.refl _) ⟨.inl (.int _), fun _ => .int _⟩

/-- what was read first still stands behind a second part -/
theorem VOk.later {s : Bool} {K : PySem.W.Frag} {A : Addr → Prop} {H1 H2 : Hp} {v : V} {d : PyData} {p : Bool} (h : VOk s K A H1 v d) (hs : (s || p) = true) (k : Kp A H1 H2) (sm : p = true → Same H1 H2) : Dr K A H2 v d := by
  cases s with
  | true => exact .inl ((h.2 rfl).kp k)
  | false => exact h.1.same (sm hs)
theorem vok {K : PySem.W.Frag} {A : Addr → Prop} {H : Hp} {v : V} {d : PyData} {s : Bool} (h : Dq K A H v d) : VOk s K A H v d := ⟨.inl h, fun _ => h⟩
theorem and_l {p q : Bool} (h : (p && q) = true) : p = true := (Bool.and_eq_true_iff.mp h).1
theorem and_r {p q : Bool} (h : (p && q) = true) : q = true := (Bool.and_eq_true_iff.mp h).2

/-- two parts, then an operation on data -/
theorem two_ok {g : PyData → PyData → Option PyData} {r : R2} (hK : X.K = C.K) {ta tb : TE} {ir : IE} (hr : ∀ x y H Q, rG C.K g x y H Q → r x y H Q)
    (qa : ∀ A σ H ρ (Q : VK), SE C A σ H ρ → Post C A σ H W (fun d _ H' => ∀ v, (puE ia = true → Same H H') → VOk (stE ia) C.K A H' v d → Q v H') (sem Γ ia ρ) → ta σ H Q)
    (qb : ∀ A σ H ρ (Q : VK), SE C A σ H ρ → Post C A σ H W (fun d _ H' => ∀ v, (puE ib = true → Same H H') → VOk (stE ib) C.K A H' v d → Q v H') (sem Γ ib ρ) → tb σ H Q)
    (hs : (stE ia || puE ib) = true) (hp : puE ir = (puE ia && puE ib))
    {A : Addr → Prop} {σ : St} {H : Hp} {ρ : Env} {Q : VK} {s : Bool} (S : SE C A σ H ρ)
    (h : Post C A σ H W (fun d _ H' => ∀ v, (puE ir = true → Same H H') → VOk s C.K A H' v d → Q v H') ((sem Γ ia ρ).bind fun x ρ1 => (sem Γ ib ρ1).bind fun y ρ2 => .of (g x y) ρ2)) : tOp r ta tb σ H Q := by
  refine qa A σ H ρ _ S (h.bind fun x ρ1 H1 k1 S1 h v s1 o1 => ?_)
  refine qb A σ H1 ρ1 _ S1 (h.bind fun y ρ2 H2 k2 S2 h w s2 o2 => ?_)
  obtain ⟨d, e1, h⟩ := Post.of h
  refine hr _ _ _ _ ⟨A, x, y, d, S2.live, o1.later hs k2 s2, o2.1, e1, fun z H' sm dq => ?_⟩
  exact h H' (.of_same sm) (S2.same sm) z (fun p => (s1 (and_l (hp ▸ p))).trans ((s2 (and_r (hp ▸ p))).trans sm)) (vok dq)
theorem ej_bin (hK : X.K = C.K) {o : Op2} (ha : EJ X Γ C W a ia) (hb : EJ X Γ C W b ib) (hs : (stE ia || puE ib) = true) : EJ X Γ C W (.BinOp a (pyOp o) b pos) (.bin o ia ib) := by
  obtain ⟨ta, pa, qa⟩ := ha.ex
  obtain ⟨tb, pb, qb⟩ := hb.ex
  exact ⟨_, pe_op (opG o) pa pb, fun A σ H ρ Q S h => two_ok hK (fun _ _ _ _ z => hK ▸ z) qa qb hs (by rw [puE]) S h⟩
theorem ej_neg (ha : EJ X Γ C W a ia) : EJ X Γ C W (.UnaryOp .USub a pos) (.neg ia) := by
  obtain ⟨ta, pa, qa⟩ := ha.ex
  refine ⟨_, pe_un un_neg pa, fun A σ H ρ Q S h => ?_⟩
  refine qa A σ H ρ _ S (Post.bind h fun x ρ1 H1 k1 S1 h v s1 o1 => ?_)
  cases x with
  | int i =>
    cases o1.1.int
    exact ⟨i, rfl, h H1 Kp.refl S1 _ s1 (vok (.int _))⟩
  | _ => exact h.elim
theorem ej_isN {n : Bool} {j : Nat} {pos' : Pos} (ha : EJ X Γ C W a ia) : EJ X Γ C W (.Compare a [if n then .IsNot else .Is] [.Constant .none j pos'] pos) (.isN n ia) := by
  obtain ⟨ta, pa, qa⟩ := ha.ex
  cases n with
  | true =>
    refine ⟨_, pe_cmp (pc_notN pa) rfl, fun A σ H ρ Q S h => ?_⟩
    refine qa A σ H ρ _ S (Post.bind h fun x ρ1 H1 k1 S1 h v s1 o1 => ?_)
    rw [isNone_iff o1.1]
    have h := h H1 Kp.refl S1 (.bl (true != isNoneD x)) s1 (vok (.bl _))
    simpa using h
  | false =>
    refine ⟨_, pe_cmp (pc_isN pa) rfl, fun A σ H ρ Q S h => ?_⟩
    refine qa A σ H ρ _ S (Post.bind h fun x ρ1 H1 k1 S1 h v s1 o1 => ?_)
    rw [isNone_iff o1.1]
    have h := h H1 Kp.refl S1 (.bl (false != isNoneD x)) s1 (vok (.bl _))
    simpa using h
theorem tj_isN {n : Bool} {j : Nat} {pos' : Pos} (ha : EJ X Γ C W a ia) : TJ X Γ C W (.Compare a [if n then .IsNot else .Is] [.Constant .none j pos'] pos) (.isN n ia) := by
  obtain ⟨ta, pa, qa⟩ := ha.ex
  cases n with
  | true =>
    refine ⟨_, pt_cmp (pc_notN pa) rfl, fun A σ H ρ Q S h => ?_⟩
    refine qa A σ H ρ _ S (Post.bind h fun x ρ1 H1 k1 S1 h v s1 o1 => ⟨_, rfl, ?_⟩)
    rw [isNone_iff o1.1]
    have h := h H1 Kp.refl S1 s1
    simpa using h
  | false =>
    refine ⟨_, pt_cmp (pc_isN pa) rfl, fun A σ H ρ Q S h => ?_⟩
    refine qa A σ H ρ _ S (Post.bind h fun x ρ1 H1 k1 S1 h v s1 o1 => ⟨_, rfl, ?_⟩)
    rw [isNone_iff o1.1]
    have h := h H1 Kp.refl S1 s1
    simpa using h
theorem Option.of_map {α β : Type} {o : Option α} {f : α → β} {b : β} (h : o.map f = some b) : ∃ a, o = some a ∧ f a = b := Option.map_eq_some_iff.mp h
theorem ej_cmp (hK : X.K = C.K) (hu : X.A.units + 200 < cLine) {o : Cm} (ha : EJ X Γ C W a ia) (hb : EJ X Γ C W b ib) (hs : (stE ia || puE ib) = true) (hm : behindInMarks (pyCm o) b = false) :
    EJ X Γ C W (.Compare a [pyCm o] [b] pos) (.cmp o ia ib) := by
  obtain ⟨ta, pa, qa⟩ := ha.ex
  obtain ⟨tb, pb, qb⟩ := hb.ex
  exact ⟨_, pe_cmpR (cmpG hu o) pa pb hm, fun A σ H ρ Q S h => two_ok (g := cmpV o) hK (fun _ _ _ _ z => hK ▸ z) qa qb hs (by rw [puE]) S h⟩
theorem tj_cmp (hK : X.K = C.K) (hu : X.A.units + 200 < cLine) {o : Cm} (ha : EJ X Γ C W a ia) (hb : EJ X Γ C W b ib) (hs : (stE ia || puE ib) = true) (hm : behindInMarks (pyCm o) b = false) :
    TJ X Γ C W (.Compare a [pyCm o] [b] pos) (.cmp o ia ib) := by
  obtain ⟨ta, pa, qa⟩ := ha.ex
  obtain ⟨tb, pb, qb⟩ := hb.ex
  refine ⟨_, pt_cmpR (cmpG hu o) pa pb hm, fun A σ H ρ Q S h => ?_⟩
  refine two_ok (ir := .cmp o ia ib) (s := true) (g := cmpV o) hK (fun _ _ _ _ z => hK ▸ z) qa qb hs (by rw [puE]) S ?_
  have e : semT Γ (.cmp o ia ib) ρ = (sem Γ ia ρ).bind fun x ρ1 => (sem Γ ib ρ1).bind fun y ρ2 => .of (cmpD o x y) ρ2 := by rw [semT]
  rw [e] at h
  revert h
  cases sem Γ ia ρ with
  | bad => exact fun h => h
  | ex c ρ1 => exact fun h => h
  | ok x ρ1 =>
    show Post _ _ _ _ _ _ ((sem Γ ib ρ1).bind _) → Post _ _ _ _ _ _ ((sem Γ ib ρ1).bind _)
    cases sem Γ ib ρ1 with
    | bad => exact fun h => h
    | ex c ρ1 => exact fun h => h
    | ok y ρ2 =>
      intro h
      obtain ⟨d, e1, h⟩ := Post.of h
      have e2 : cmpV o x y = some (.bool d) := by unfold cmpV; rw [e1]; rfl
      show Post _ _ _ _ _ _ (Rs.of (cmpV o x y) ρ2)
      rw [e2]
      intro H' k S v sm ok
      exact ⟨d, ok.1.bool, h H' k S sm⟩
end
end F3
end
section
namespace F3
open PySem PySem.Spec L2
section
variable {X : Cx} {Γ : Gm} {C : FC} {W : WE} {a b c e : Expr} {ia ib ic ie : IE} {pos : Pos}
/-- two comparisons in a row -/
theorem chain_ok (hK : X.K = C.K) {β : Type} {o o' : Cm} {ta tb tc : TE} {A : Addr → Prop} {σ : St} {H : Hp} {ρ : Env} {Q : VK} {G : β → Env → Hp → Prop} {k : Option Bool → Env → Rs β}
    (qa : ∀ A σ H ρ (Q : VK), SE C A σ H ρ → Post C A σ H W (fun d _ H' => ∀ v, (puE ia = true → Same H H') → VOk (stE ia) C.K A H' v d → Q v H') (sem Γ ia ρ) → ta σ H Q)
    (qb : ∀ A σ H ρ (Q : VK), SE C A σ H ρ → Post C A σ H W (fun d _ H' => ∀ v, (puE ib = true → Same H H') → VOk (stE ib) C.K A H' v d → Q v H') (sem Γ ib ρ) → tb σ H Q)
    (qc : ∀ A σ H ρ (Q : VK), SE C A σ H ρ → Post C A σ H W (fun d _ H' => ∀ v, (puE ic = true → Same H H') → VOk (stE ic) C.K A H' v d → Q v H') (sem Γ ic ρ) → tc σ H Q)
    (hs : (stE ia || puE ib) = true) (hs2 : (stE ib || puE ic) = true) (S : SE C A σ H ρ)
    (h : Post C A σ H W G ((sem Γ ia ρ).bind fun x ρ1 => (sem Γ ib ρ1).bind fun y ρ2 =>
      match cmpD o x y with
      | some true => (sem Γ ic ρ2).bind fun z ρ3 => k (cmpD o' y z) ρ3
      | some false => k (some false) ρ2
      | none => .bad))
    (fin : ∀ d ρ' H', Kp A H H' → SE C A σ H' ρ' → ((puE ia && puE ib && puE ic) = true → Same H H') → Post C A σ H' W G (k d ρ') → ∃ b, d = some b ∧ Q (.bl b) H') :
    tChain (rG X.K (cmpV o)) (rG X.K (cmpV o')) ta tb tc σ H Q := by
  rw [hK]
  refine qa A σ H ρ _ S (h.bind fun x ρ1 H1 k1 S1 h v s1 o1 => ?_)
  refine qb A σ H1 ρ1 _ S1 (h.bind fun y ρ2 H2 k2 S2 h w s2 o2 => ?_)
  have dx := o1.later hs k2 s2
  cases e1 : cmpD o x y with
  | none => rw [e1] at h; exact h.elim
  | some d =>
    rw [e1] at h
    refine ⟨A, x, y, .bool d, S2.live, dx, o2.1, by unfold cmpV; rw [e1]; rfl, fun z H3 sm dq => ?_⟩
    cases dq
    refine ⟨d, rfl, ?_⟩
    have S3 := S2.same sm
    have k3 : Kp A H H3 := k1.trans (k2.trans (.of_same sm))
    have o3 : VOk (stE ib) C.K A H3 w y := ⟨o2.1.same sm, fun z => (o2.2 z).kp (.of_same sm)⟩
    cases d with
    | false =>
      refine (iteF : _ → _) ?_
      have h := h.shift (Kp.of_same sm)
      obtain ⟨b, eb, q⟩ := fin (some false) ρ2 H3 k3 S3 (fun z => (s1 (and_l (and_l z))).trans ((s2 (and_r (and_l z))).trans sm)) h
      cases eb
      exact q
    | true =>
      refine (iteT : _ → _) ?_
      have h := h.shift (Kp.of_same sm)
      refine qc A σ H3 ρ2 _ S3 (Post.bind h fun z ρ3 H4 k4 S4 h u s4 o4 => ?_)
      have dy := o3.later hs2 k4 s4
      obtain ⟨b, eb, q⟩ := fin (cmpD o' y z) ρ3 H4 (k3.trans k4) S4 (fun z => (s1 (and_l (and_l z))).trans ((s2 (and_r (and_l z))).trans (sm.trans (s4 (and_r z))))) h
      refine ⟨A, y, z, .bool b, S4.live, dy, o4.1, by unfold cmpV; rw [eb]; rfl, fun z' H5 sm5 dq => ?_⟩
      cases dq
      obtain ⟨b', eb', q'⟩ := fin (cmpD o' y z) ρ3 H5 ((k3.trans k4).trans (.of_same sm5)) (S4.same sm5) (fun z => (s1 (and_l (and_l z))).trans ((s2 (and_r (and_l z))).trans (sm.trans ((s4 (and_r z)).trans sm5)))) (h.shift (Kp.of_same sm5))
      rw [eb] at eb'
      cases eb'
      exact q'
theorem ej_chain (hK : X.K = C.K) (hu : X.A.units + 200 < cLine) {o o' : Cm} (ha : EJ X Γ C W a ia) (hb : EJ X Γ C W b ib) (hc : EJ X Γ C W c ic) (hs : (stE ia || puE ib) = true) (hs2 : (stE ib || puE ic) = true)
    (hm : lastMarks [pyCm o, pyCm o'] [b, c] = false) : EJ X Γ C W (.Compare a [pyCm o, pyCm o'] [b, c] pos) (.chain o o' ia ib ic) := by
  obtain ⟨ta, pa, qa⟩ := ha.ex
  obtain ⟨tb, pb, qb⟩ := hb.ex
  obtain ⟨tc, pc, qc⟩ := hc.ex
  refine ⟨_, pe_chain (cmpG hu o) (cmpG hu o') pa pb pc hm, fun A σ H ρ Q S h => ?_⟩
  rw [sem] at h
  refine chain_ok (k := fun (o : Option Bool) ρ => Rs.of (o.map PyData.bool) ρ) (Q := Q) hK qa qb qc hs hs2 S h fun d ρ' H' k S' sm h => ?_
  obtain ⟨x, e1, h⟩ := Post.of h
  obtain ⟨b, e2, e3⟩ := Option.of_map e1
  subst e3
  exact ⟨b, e2, h H' Kp.refl S' _ (fun z => sm (by rw [puE] at z; exact z)) (vok (.bl _))⟩
theorem tj_chain (hK : X.K = C.K) (hu : X.A.units + 200 < cLine) {o o' : Cm} (ha : EJ X Γ C W a ia) (hb : EJ X Γ C W b ib) (hc : EJ X Γ C W c ic) (hs : (stE ia || puE ib) = true) (hs2 : (stE ib || puE ic) = true)
    (hm : lastMarks [pyCm o, pyCm o'] [b, c] = false) : TJ X Γ C W (.Compare a [pyCm o, pyCm o'] [b, c] pos) (.chain o o' ia ib ic) := by
  obtain ⟨ta, pa, qa⟩ := ha.ex
  obtain ⟨tb, pb, qb⟩ := hb.ex
  obtain ⟨tc, pc, qc⟩ := hc.ex
  refine ⟨_, pt_chain (cmpG hu o) (cmpG hu o') pa pb pc hm, fun A σ H ρ Q S h => ?_⟩
  rw [semT] at h
  refine chain_ok (k := fun (o : Option Bool) ρ => Rs.of o ρ) (Q := fun x H' => ∃ k, x = .bl k ∧ Q k H') hK qa qb qc hs hs2 S h fun d ρ' H' k S' sm h => ?_
  obtain ⟨b, e1, h⟩ := Post.of h
  exact ⟨b, e1, b, rfl, h H' Kp.refl S' (fun z => sm (by rw [puE] at z; exact z))⟩

/-! ### and, or, not -/
theorem VOk.weak {s s' : Bool} {K : PySem.W.Frag} {A : Addr → Prop} {H : Hp} {v : V} {d : PyData} (h : VOk s K A H v d) (f : s' = true → s = true) : VOk s' K A H v d := ⟨h.1, fun z => h.2 (f z)⟩
theorem ej_one {op : BoolOp} (ha : EJ X Γ C W a ia) : EJ X Γ C W (.BoolOp op [a] pos) ia := by
  obtain ⟨ta, pa, qa⟩ := ha.ex
  exact ⟨_, pe_one pa, qa⟩
theorem ej_and (hK : X.K = C.K) {rest : List Expr} (ha : EJ X Γ C W a ia) (hb : EJ X Γ C W (.BoolOp .And (b :: rest) pos) ib) : EJ X Γ C W (.BoolOp .And (a :: b :: rest) pos) (.and ia ib) := by
  obtain ⟨ta, pa, qa⟩ := ha.ex
  obtain ⟨tb, pb, qb⟩ := hb.ex
  refine ⟨_, pe_andT pa pb, fun A σ H ρ Q S h => ?_⟩
  rw [sem] at h
  refine qa A σ H ρ _ S (h.bind fun x ρ1 H1 k1 S1 h v s1 o1 => ?_)
  cases e1 : truD x with
  | none => rw [e1] at h; exact h.elim
  | some k =>
    rw [e1] at h
    refine ⟨k, hK ▸ truG o1.1 e1, ?_⟩
    cases k with
    | true => exact iteT (qb A σ H1 ρ1 _ S1 (h.imp fun d ρ2 H2 k2 S2 g w s2 o2 => g w (fun z => by rw [puE] at z; exact (s1 (and_l z)).trans (s2 (and_r z))) (o2.weak fun z => by rw [stE] at z; exact and_r z)))
    | false => exact iteF (h H1 Kp.refl S1 v (fun z => by rw [puE] at z; exact s1 (and_l z)) (o1.weak fun z => by rw [stE] at z; exact and_l z))
theorem ej_or (hK : X.K = C.K) {rest : List Expr} (ha : EJ X Γ C W a ia) (hb : EJ X Γ C W (.BoolOp .Or (b :: rest) pos) ib) : EJ X Γ C W (.BoolOp .Or (a :: b :: rest) pos) (.or ia ib) := by
  obtain ⟨ta, pa, qa⟩ := ha.ex
  obtain ⟨tb, pb, qb⟩ := hb.ex
  refine ⟨_, pe_orT pa pb, fun A σ H ρ Q S h => ?_⟩
  rw [sem] at h
  refine qa A σ H ρ _ S (h.bind fun x ρ1 H1 k1 S1 h v s1 o1 => ?_)
  cases e1 : truD x with
  | none => rw [e1] at h; exact h.elim
  | some k =>
    rw [e1] at h
    refine ⟨k, hK ▸ truG o1.1 e1, ?_⟩
    cases k with
    | false => exact iteF (qb A σ H1 ρ1 _ S1 (h.imp fun d ρ2 H2 k2 S2 g w s2 o2 => g w (fun z => by rw [puE] at z; exact (s1 (and_l z)).trans (s2 (and_r z))) (o2.weak fun z => by rw [stE] at z; exact and_r z)))
    | true => exact iteT (h H1 Kp.refl S1 v (fun z => by rw [puE] at z; exact s1 (and_l z)) (o1.weak fun z => by rw [stE] at z; exact and_l z))
theorem ej_not (hK : X.K = C.K) (ha : EJ X Γ C W a ia) : EJ X Γ C W (.UnaryOp .Not a pos) (.not ia) := by
  obtain ⟨ta, pa, qa⟩ := ha.ex
  refine ⟨_, pe_notT pa, fun A σ H ρ Q S h => ?_⟩
  rw [sem] at h
  refine qa A σ H ρ _ S (h.bind fun x ρ1 H1 k1 S1 h v s1 o1 => ?_)
  obtain ⟨d, e1, h⟩ := Post.of h
  obtain ⟨k, e2, e3⟩ := Option.of_map e1
  subst e3
  exact ⟨k, hK ▸ truG o1.1 e2, h H1 Kp.refl S1 _ (fun z => by rw [puE] at z; exact s1 z) (vok (.bl _))⟩
/-- tests of and, or -/
structure WJ (X : Cx) (Γ : Gm) (C : FC) (W : WE) (e : Expr) (ir : IE) : Prop where
  ex : ∃ t, PW X e t ∧ ∀ A σ H ρ (Q : Bool → Hp → Prop), SE C A σ H ρ →
    Post C A σ H W (fun b _ H' => (puE ir = true → Same H H') → Q b H') (semT Γ ir ρ) → t σ H Q
theorem WJ.tj (h : WJ X Γ C W e ie) : TJ X Γ C W e ie := by
  obtain ⟨t, p, q⟩ := h.ex
  exact ⟨t, p.pt, q⟩
theorem wj_and1 (ha : TJ X Γ C W a ia) : WJ X Γ C W (.BoolOp .And [a] pos) ia := by
  obtain ⟨t, p, q⟩ := ha.ex
  exact ⟨t, pw_and1 p, q⟩
theorem wj_or1 (ha : TJ X Γ C W a ia) : WJ X Γ C W (.BoolOp .Or [a] pos) ia := by
  obtain ⟨t, p, q⟩ := ha.ex
  exact ⟨t, pw_or1 p, q⟩
theorem wj_and {rest : List Expr} (ha : TJ X Γ C W a ia) (hb : WJ X Γ C W (.BoolOp .And (b :: rest) pos) ib) : WJ X Γ C W (.BoolOp .And (a :: b :: rest) pos) (.and ia ib) := by
  obtain ⟨ta, pa, qa⟩ := ha.ex
  obtain ⟨tb, pb, qb⟩ := hb.ex
  refine ⟨_, pw_and pa pb, fun A σ H ρ Q S h => ?_⟩
  rw [semT] at h
  refine qa A σ H ρ _ S (h.bind fun x ρ1 H1 k1 S1 h s1 => ?_)
  cases x with
  | true => exact iteT (qb A σ H1 ρ1 _ S1 (Post.imp h fun d ρ2 H2 k2 S2 g s2 => g fun z => by rw [puE] at z; exact (s1 (and_l z)).trans (s2 (and_r z))))
  | false => exact iteF (h H1 Kp.refl S1 fun z => by rw [puE] at z; exact s1 (and_l z))
theorem wj_or {rest : List Expr} (ha : TJ X Γ C W a ia) (hb : WJ X Γ C W (.BoolOp .Or (b :: rest) pos) ib) : WJ X Γ C W (.BoolOp .Or (a :: b :: rest) pos) (.or ia ib) := by
  obtain ⟨ta, pa, qa⟩ := ha.ex
  obtain ⟨tb, pb, qb⟩ := hb.ex
  refine ⟨_, pw_or pa pb, fun A σ H ρ Q S h => ?_⟩
  rw [semT] at h
  refine qa A σ H ρ _ S (h.bind fun x ρ1 H1 k1 S1 h s1 => ?_)
  cases x with
  | false => exact iteF (qb A σ H1 ρ1 _ S1 (Post.imp h fun d ρ2 H2 k2 S2 g s2 => g fun z => by rw [puE] at z; exact (s1 (and_l z)).trans (s2 (and_r z))))
  | true => exact iteT (h H1 Kp.refl S1 fun z => by rw [puE] at z; exact s1 (and_l z))
theorem tj_not (ha : TJ X Γ C W a ia) : TJ X Γ C W (.UnaryOp .Not a pos) (.not ia) := by
  obtain ⟨ta, pa, qa⟩ := ha.ex
  refine ⟨_, pt_not pa, fun A σ H ρ Q S h => ?_⟩
  rw [semT] at h
  exact qa A σ H ρ _ S (h.bind fun x ρ1 H1 k1 S1 h s1 => h H1 Kp.refl S1 fun z => by rw [puE] at z; exact s1 z)
/-- a value's truth as a test -/
def truE : IE → Bool
  | .var _ => true
  | .ovar _ => true
  | .lit _ => true
  | .call _ _ => true
  | .bi _ _ => true
  | .ix _ _ => true
  | _ => false
theorem Rs.bind_of {α β : Type} {o : Option α} {ρ : Env} {f : α → Option β} : ((Rs.of o ρ).bind fun x ρ1 => Rs.of (f x) ρ1) = Rs.of (o.bind f) ρ := by cases o <;> rfl
theorem Rs.bind_bind {α β γ : Type} {r : Rs α} {f : α → Env → Rs β} {g : β → Env → Rs γ} : (r.bind f).bind g = r.bind fun a ρ => (f a ρ).bind g := by cases r <;> rfl
theorem semT_tru {ρ : Env} (h : truE ia = true) : semT Γ ia ρ = (sem Γ ia ρ).bind fun x ρ1 => .of (truD x) ρ1 := by
  cases ia with
  | var i => rw [semT, sem, Rs.bind_of]
  | ovar i => rw [semT, sem, Rs.bind_of]; cases getL ρ i <;> rfl
  | lit c => rw [semT, sem]; rfl
  | call f es => rw [semT, sem, Rs.bind_bind]; simp only [Rs.bind_bind, Rs.bind_of]
  | bi b es => rw [semT, sem, Rs.bind_bind]; simp only [Rs.bind_of]
  | ix b es => rw [semT, sem, Rs.bind_bind]; simp only [Rs.bind_bind, Rs.bind_of]
  | _ => cases h
theorem tj_tru (hK : X.K = C.K) (ha : EJ X Γ C W a ia) (ht : truE ia = true) (he : ∀ whole, isTrue a X.env whole = (do let v ← whole; standAt a.pos; holding [v] (truthy v))) : TJ X Γ C W a ia := by
  obtain ⟨ta, pa, qa⟩ := ha.ex
  refine ⟨_, pt_truth pa he, fun A σ H ρ Q S h => ?_⟩
  rw [semT_tru ht] at h
  refine qa A σ H ρ _ S (h.bind fun x ρ1 H1 k1 S1 h v s1 o1 => ?_)
  obtain ⟨k, e1, h⟩ := Post.of h
  exact ⟨k, hK ▸ truG o1.1 e1, h H1 Kp.refl S1 s1⟩
theorem ej_ite (hc : TJ X Γ C W c ic) (ha : EJ X Γ C W a ia) (hb : EJ X Γ C W b ib) : EJ X Γ C W (.IfExp c a b pos) (.ite ic ia ib) := by
  obtain ⟨ta, pa, qa⟩ := ha.ex
  obtain ⟨tb, pb, qb⟩ := hb.ex
  obtain ⟨tc, pc, qc⟩ := hc.ex
  refine ⟨_, pe_ifExp pc pa pb, fun A σ H ρ Q S h => ?_⟩
  rw [sem] at h
  refine qc A σ H ρ _ S (h.bind fun x ρ1 H1 k1 S1 h s1 => ?_)
  cases x with
  | true => exact iteT (qa A σ H1 ρ1 _ S1 (Post.imp h fun d ρ2 H2 k2 S2 g w s2 o2 => g w (fun z => by rw [puE] at z; exact (s1 (and_l (and_l z))).trans (s2 (and_r (and_l z)))) (o2.weak fun z => by rw [stE] at z; exact and_l z)))
  | false => exact iteF (qb A σ H1 ρ1 _ S1 (Post.imp h fun d ρ2 H2 k2 S2 g w s2 o2 => g w (fun z => by rw [puE] at z; exact (s1 (and_l (and_l z))).trans (s2 (and_r z))) (o2.weak fun z => by rw [stE] at z; exact and_r z)))

/-! ### lists of values -/
def notStar : Expr → Bool
  | .Starred _ _ => false
  | _ => true
theorem star_cons {env : PySem.Env} {es : List Expr} (h : notStar e = true) : starEach (e :: es) env = (false, eval e env) :: starEach es env := by
  cases e <;> first | rfl | cases h
theorem star_plain {env : PySem.Env} : ∀ {es : List Expr}, es.all notStar = true → (backTo pos (starEach es env)).any (·.1) = false
  | [], _ => by rw [starEach]; rfl
  | e :: es, h => by
    rw [List.all_cons] at h
    rw [star_cons (and_l h)]
    have ih := star_plain (env := env) (and_r h)
    unfold backTo at ih ⊢
    rw [List.map_cons, List.any_cons, ih]
    rfl
end
end F3
end
section
namespace F3
open PySem PySem.Spec L2
section
variable {X : Cx} {Γ : Gm} {C : FC} {W : WE} {a b c e : Expr} {es : List Expr} {ia ib ic ie : IE} {irs : List IE} {pos : Pos}
/-- values, from the left; they may be kept, and are as many as written -/
structure VJ (X : Cx) (Γ : Gm) (C : FC) (W : WE) (es : List Expr) (irs : List IE) : Prop where
  ex : ∃ t, PA X es t ∧ ∀ A σ H ρ (Q : List V → Hp → Prop), SE C A σ H ρ →
    Post C A σ H W (fun ds _ H' => ∀ vs, (puL irs = true → Same H H') → DqA C.K A H' vs ds → vs.length = irs.length → Q vs H') (semL Γ irs ρ) → t σ H Q
/-- values that are used at once -/
structure RJ (X : Cx) (Γ : Gm) (C : FC) (W : WE) (es : List Expr) (irs : List IE) : Prop where
  ex : ∃ t, PA X es t ∧ ∀ A σ H ρ (Q : List V → Hp → Prop), SE C A σ H ρ →
    Post C A σ H W (fun ds _ H' => ∀ vs, (puL irs = true → Same H H') → Paired (Dr C.K A H') vs ds → Q vs H') (semL Γ irs ρ) → t σ H Q
theorem vj_nil : VJ X Γ C W [] [] := by
  refine ⟨_, pa_nil, fun A σ H ρ Q S h => ?_⟩
  rw [semL] at h
  exact h H Kp.refl S [] (fun _ => Same.refl _) .nil rfl
theorem vj_cons (ha : EJ X Γ C W a ia) (hs : stE ia = true) (hr : VJ X Γ C W es irs) (hn : notStar a = true) : VJ X Γ C W (a :: es) (ia :: irs) := by
  obtain ⟨ta, pa, qa⟩ := ha.ex
  obtain ⟨tb, pb, qb⟩ := hr.ex
  refine ⟨_, pa_cons pa pb (star_cons hn), fun A σ H ρ Q S h => ?_⟩
  rw [semL] at h
  refine qa A σ H ρ _ S (h.bind fun x ρ1 H1 k1 S1 h v s1 o1 => ?_)
  refine qb A σ H1 ρ1 _ S1 (Post.bind h fun xs ρ2 H2 k2 S2 h vs s2 o2 l2 => ?_)
  exact h H2 Kp.refl S2 (v :: vs) (fun z => by rw [puL] at z; exact (s1 (and_l z)).trans (s2 (and_r z))) (.cons ((o1.2 hs).kp k2) o2) (by simp [l2])
theorem DqA.paired {K : PySem.W.Frag} {A : Addr → Prop} {H : Hp} : ∀ {vs : List V} {ds : List PyData}, DqA K A H vs ds → Paired (Dr K A H) vs ds
  | _, _, .nil => .nil
  | _, _, .cons a b => .cons (.inl a) (DqA.paired b)
theorem VJ.rj (h : VJ X Γ C W es irs) : RJ X Γ C W es irs := by
  obtain ⟨t, p, q⟩ := h.ex
  exact ⟨t, p, fun A σ H ρ Q S h => q A σ H ρ Q S (h.imp fun ds ρ' H' k S' g vs s o l => g vs s o.paired)⟩
theorem rj_one (ha : EJ X Γ C W a ia) (hn : notStar a = true) : RJ X Γ C W [a] [ia] := by
  obtain ⟨ta, pa, qa⟩ := ha.ex
  refine ⟨_, pa_cons pa pa_nil (star_cons hn), fun A σ H ρ Q S h => ?_⟩
  rw [semL] at h
  refine qa A σ H ρ _ S (h.bind fun x ρ1 H1 k1 S1 h v s1 o1 => ?_)
  rw [semL] at h
  exact h H1 Kp.refl S1 [v] (fun z => by rw [puL] at z; exact s1 (and_l z)) (.cons o1.1 .nil)
theorem small_fits {n : Nat} (h : n ≤ 1000) : n ≤ sizeLine := Nat.le_of_lt (small1000 h)
theorem ej_tup (hl : VJ X Γ C W es irs) (hn : irs.length ≤ 1000) {k : Nat} : EJ X Γ C W (.Tuple es k pos) (.tup irs) := by
  obtain ⟨t, p, q⟩ := hl.ex
  refine ⟨_, pe_tup p, fun A σ H ρ Q S h => ?_⟩
  rw [sem] at h
  refine q A σ H ρ _ S (h.bind fun xs ρ1 H1 k1 S1 h vs s1 o1 l1 => ⟨by rw [l1]; exact small_fits hn, fun p np => ?_⟩)
  exact h _ (Kp.laid np) (S1.same (Same.laid np)) _ (fun z => by rw [puE] at z; exact (s1 z).trans (Same.laid np)) (vok (newT o1 np))
theorem ej_lst (hl : VJ X Γ C W es irs) (hn : irs.length ≤ 1000) : EJ X Γ C W (.List es pos) (.lst irs) := by
  obtain ⟨t, p, q⟩ := hl.ex
  refine ⟨_, pe_lst p, fun A σ H ρ Q S h => ?_⟩
  rw [sem] at h
  refine q A σ H ρ _ S (h.bind fun xs ρ1 H1 k1 S1 h vs s1 o1 l1 => ⟨by rw [l1]; exact small_fits hn, fun p np => ?_⟩)
  exact h _ (Kp.laid np) (S1.same (Same.laid np)) _ (fun z => by rw [puE] at z; exact (s1 z).trans (Same.laid np)) (vok (newL o1 S1.live np))

/-! ### subscripts -/
def notSlice : Expr → Bool
  | .Slice _ _ _ _ => false
  | _ => true
theorem plainIx (h : notSlice b = true) : PlainIx b := by
  intro o i
  cases b <;> first | rfl | cases h
theorem ej_ix (hK : X.K = C.K) (ha : EJ X Γ C W a ia) (hb : EJ X Γ C W b ib) (hs : (stE ia || puE ib) = true) (hn : notSlice b = true) : EJ X Γ C W (.Subscript a b pos) (.ix ia ib) := by
  obtain ⟨ta, pa, qa⟩ := ha.ex
  obtain ⟨tb, pb, qb⟩ := hb.ex
  refine ⟨_, pe_ix ixG pa pb (plainIx hn), fun A σ H ρ Q S h => ?_⟩
  rw [sem] at h
  exact two_ok (ir := .ix ia ib) (g := ixD) hK (fun _ _ _ _ z => hK ▸ z) qa qb hs (by rw [puE]) S h
/-- a slice's part -/
structure OJ (X : Cx) (Γ : Gm) (C : FC) (W : WE) (e : Option Expr) (ir : Option IE) : Prop where
  ex : ∃ t, PO X e t ∧ ∀ A σ H ρ (Q : Option Int → Hp → Prop), SE C A σ H ρ →
    Post C A σ H W (fun d _ H' => (puO ir = true → Same H H') → Q d H') (semO Γ ir ρ) → t σ H Q
theorem oj_none : OJ X Γ C W none none := by
  refine ⟨_, po_none, fun A σ H ρ Q S h => ?_⟩
  rw [semO] at h
  exact h H Kp.refl S fun _ => Same.refl _
theorem oj_some (ha : EJ X Γ C W a ia) : OJ X Γ C W (some a) (some ia) := by
  obtain ⟨t, p, q⟩ := ha.ex
  refine ⟨_, po_some p, fun A σ H ρ Q S h => ?_⟩
  rw [semO] at h
  refine q A σ H ρ _ S (h.bind fun x ρ1 H1 k1 S1 h v s1 o1 => ?_)
  cases x with
  | int i => exact ⟨i, o1.1.int, h H1 Kp.refl S1 fun z => by rw [puO] at z; exact s1 z⟩
  | _ => exact h.elim
theorem ej_sl (hK : X.K = C.K) {lo hi : Option Expr} {ilo ihi : Option IE} {p2 : Pos} (ha : EJ X Γ C W a ia) (hl : OJ X Γ C W lo ilo) (hh : OJ X Γ C W hi ihi) (hs : (stE ia || (puO ilo && puO ihi)) = true) :
    EJ X Γ C W (.Subscript a (.Slice lo hi none p2) pos) (.sl ia ilo ihi) := by
  obtain ⟨ta, pa, qa⟩ := ha.ex
  obtain ⟨tl, pl, ql⟩ := hl.ex
  obtain ⟨th, ph, qh⟩ := hh.ex
  refine ⟨_, pe_slice slG pa pl ph, fun A σ H ρ Q S h => ?_⟩
  rw [sem] at h
  refine qa A σ H ρ _ S (h.bind fun x ρ1 H1 k1 S1 h v s1 o1 => ?_)
  refine ql A σ H1 ρ1 _ S1 (Post.bind h fun l ρ2 H2 k2 S2 h s2 => ?_)
  refine qh A σ H2 ρ2 _ S2 (Post.bind h fun u ρ3 H3 k3 S3 h s3 => ?_)
  obtain ⟨d, e1, h⟩ := Post.of h
  refine ⟨A, x, d, S3.live, hK ▸ o1.later hs (k2.trans k3) (fun z => (s2 (and_l z)).trans (s3 (and_r z))), e1, fun z H' sm dq => ?_⟩
  exact h H' (.of_same sm) (S3.same sm) z (fun p => by rw [puE] at p; exact (s1 (and_l (and_l p))).trans ((s2 (and_r (and_l p))).trans ((s3 (and_r p)).trans sm))) (vok (hK ▸ dq))

/-! ### built-in calls -/
variable {x : Str} {p : Pos}
theorem ej_biB (hK : X.K = C.K) {bi : BI} {id : String} (hc : CallR X (.builtin id) (rGL X.K (biD bi))) (hg : Gl X x) (hm : X.mg x = none) (hv : bootBuiltins x = some (.builtin id)) (hl : RJ X Γ C W (e :: es) irs)
    (hn : notStar e = true) (hns : es.all notStar = true) (h1 : x ≠ "__name__") (h2 : (x == ("__debug__" : Str)) = false) : EJ X Γ C W (.Call (.Name x p) (e :: es) [] pos) (.bi bi irs) := by
  obtain ⟨t, pt, q⟩ := hl.ex
  refine ⟨_, pe_callB hc hg hm hv pt h1 h2 (star_cons hn) (star_plain hns), fun A σ H ρ Q S h => ?_⟩
  rw [sem] at h
  refine q A σ H ρ _ S (h.bind fun ds ρ1 H1 k1 S1 h vs s1 o1 => ?_)
  obtain ⟨d, e1, h⟩ := Post.of h
  refine ⟨A, ds, d, S1.live, hK ▸ o1, e1, fun z H' sm dq => ?_⟩
  exact h H' (.of_same sm) (S1.same sm) z (fun p => by rw [puE] at p; exact (s1 p).trans sm) (vok (hK ▸ dq))
theorem ej_biT (hK : X.K = C.K) {bi : BI} {id : String} (hc : CallR X (.type id) (rGL X.K (biD bi))) (hg : Gl X x) (hm : X.mg x = none) (hv : bootBuiltins x = some (.type id)) (hl : RJ X Γ C W (e :: es) irs)
    (hn : notStar e = true) (hns : es.all notStar = true) (h1 : x ≠ "__name__") (h2 : (x == ("__debug__" : Str)) = false) : EJ X Γ C W (.Call (.Name x p) (e :: es) [] pos) (.bi bi irs) := by
  obtain ⟨t, pt, q⟩ := hl.ex
  refine ⟨_, pe_callTy hc hg hm hv pt h1 h2 (star_cons hn) (star_plain hns), fun A σ H ρ Q S h => ?_⟩
  rw [sem] at h
  refine q A σ H ρ _ S (h.bind fun ds ρ1 H1 k1 S1 h vs s1 o1 => ?_)
  obtain ⟨d, e1, h⟩ := Post.of h
  refine ⟨A, ds, d, S1.live, hK ▸ o1, e1, fun z H' sm dq => ?_⟩
  exact h H' (.of_same sm) (S1.same sm) z (fun p => by rw [puE] at p; exact (s1 p).trans sm) (vok (hK ▸ dq))
theorem same_upd_of {H H1 H' : Hp} (a : Same H H1) (b : Same H1 H') : Same H H' := a.trans b
/-- isinstance(x, T) -/
theorem ej_isi (hK : X.K = C.K) {t : String} {y : Str} {p2 : Pos} (ht : okTy t = true) (hg : Gl X "isinstance") (hm : X.mg "isinstance" = none) (hg2 : Gl X y) (hm2 : X.mg y = none) (hv2 : bootBuiltins y = some (.type t))
    (ha : EJ X Γ C W a ia) (hn : notStar a = true) (h1 : y ≠ "__name__") (h2 : (y == ("__debug__" : Str)) = false) : EJ X Γ C W (.Call (.Name "isinstance" p) [a, .Name y p2] [] pos) (.bi (.isi t) [ia]) := by
  obtain ⟨ta, pa, q⟩ := ha.ex
  refine ⟨_, pe_callB (biG_isi ht) hg hm (by decide +kernel) (pa_cons pa (pa_cons (pe_bltn (v := .ty t) hg2 hm2 hv2 rfl h1 h2) pa_nil (star_cons rfl)) (star_cons hn)) (by decide) (by decide) (star_cons hn) (star_plain rfl), fun A σ H ρ Q S h => ?_⟩
  rw [sem, semL] at h
  simp only [semL] at h
  rw [Rs.bind_bind] at h
  refine q A σ H ρ _ S (h.bind fun x ρ1 H1 k1 S1 h v s1 o1 => ?_)
  · obtain ⟨d, e1, h⟩ := Post.of (o := biD (.isi t) [x]) h
    refine ⟨v, rfl, A, [x], d, S1.live, hK ▸ .cons o1.1 .nil, e1, fun z H' sm dq => ?_⟩
    exact h H' (.of_same sm) (S1.same sm) z (fun p => by rw [puE, puL] at p; exact (s1 (and_l p)).trans sm) (vok (hK ▸ dq))
theorem ej_isi2 (hK : X.K = C.K) {bi : BI} {t1 t2 : String} {y1 y2 : Str} {p2 p3 p4 : Pos} {k : Nat} (ht1 : okTy t1 = true) (ht2 : okTy t2 = true) (hb : ∀ x, biD bi [x] = (isiD x t1).bind fun a => (isiD x t2).map fun b => .bool (a || b))
    (hg : Gl X "isinstance") (hm : X.mg "isinstance" = none) (hg1 : Gl X y1) (hm1 : X.mg y1 = none) (hv1 : bootBuiltins y1 = some (.type t1)) (hg2 : Gl X y2) (hm2 : X.mg y2 = none) (hv2 : bootBuiltins y2 = some (.type t2))
    (ha : EJ X Γ C W a ia) (hn : notStar a = true) (h1 : y1 ≠ "__name__") (h1' : (y1 == ("__debug__" : Str)) = false) (h2 : y2 ≠ "__name__") (h2' : (y2 == ("__debug__" : Str)) = false) :
    EJ X Γ C W (.Call (.Name "isinstance" p) [a, .Tuple [.Name y1 p2, .Name y2 p3] k p4] [] pos) (.bi bi [ia]) := by
  obtain ⟨ta, pa, q⟩ := ha.ex
  refine ⟨_, pe_callB (biG_isi2 (bi := bi) ht1 ht2 hb) hg hm (by decide +kernel) (pa_cons pa (pa_cons (pe_tup (pa_cons (pe_bltn (v := .ty t1) hg1 hm1 hv1 rfl h1 h1') (pa_cons (pe_bltn (v := .ty t2) hg2 hm2 hv2 rfl h2 h2') pa_nil (star_cons rfl)) (star_cons rfl))) pa_nil (star_cons rfl)) (star_cons hn))
    (by decide) (by decide) (star_cons hn) (star_plain rfl), fun A σ H ρ Q S h => ?_⟩
  rw [sem, semL] at h
  simp only [semL] at h
  rw [Rs.bind_bind] at h
  refine q A σ H ρ _ S (h.bind fun x ρ1 H1 k1 S1 h v s1 o1 => ?_)
  · obtain ⟨d, e1, h⟩ := Post.of (o := biD bi [x]) h
    refine ⟨by show 2 ≤ sizeLine; decide, fun tp np => ?_⟩
    refine ⟨v, tp, rfl, upd_same, A, [x], d, (S1.same (Same.laid np)).live, hK ▸ .cons (o1.1.same (Same.laid np)) .nil, e1, fun z H' sm dq => ?_⟩
    have sm2 := (Same.laid np).trans sm
    exact h H' (.of_same sm2) (S1.same sm2) z (fun p => by rw [puE, puL] at p; exact (s1 (and_l p)).trans sm2) (vok (hK ▸ dq))
end
end F3
end
section
namespace F3
open PySem PySem.Spec L2

/-! ### what a def promises -/
def ownOf (vs : List V) (as : List AV) (p : Addr) : Prop := ∃ (i : Nat) (av : AV), as[i]? = some av ∧ av.own = true ∧ vs[i]? = some (.ref p)
structure ArgsOk (K : PySem.W.Frag) (A : Addr → Prop) (H : Hp) (vs : List V) (as : List AV) : Prop where
  all : Paired (AvOk K A H) vs as
  dis : ∀ (i j : Nat) (av aw : AV) (p : Addr), i ≠ j → as[i]? = some av → as[j]? = some aw → av.own = true → aw.own = true → vs[i]? = some (.ref p) → vs[j]? = some (.ref p) → False
/-- what is handed back: data, or a new list -/
def RetOk (K : PySem.W.Frag) (A : Addr → Prop) (H H' : Hp) (v : V) : AV → Prop
  | .d x => Dq K A H' v x
  | .l xs => ∃ p vs, v = .ref p ∧ H p = none ∧ H' p = some (.lst vs) ∧ DqA K A H' vs xs
  | .k kvs => ∃ p ws, v = .ref p ∧ H p = none ∧ H' p = some (.dK ws) ∧ DqK Key K A H' ws kvs
  | .t kvs => ∃ p ws, v = .ref p ∧ H p = none ∧ H' p = some (.dT ws) ∧ DqK (List Key) K A H' ws kvs
def PostF (K : PySem.W.Frag) (cl : Nat → Addr) (A : Addr → Prop) (vs : List V) (as : List AV) (H : Hp) (Q : VK) (E : XK) : Fr → Prop
  | .ok r ys => ∀ v H', Kp (ownOf vs as) H H' → ArgsOk K A H' vs ys → RetOk K A H H' v r → Q v H'
  | .ex c ys => ∀ H', Kp (ownOf vs as) H H' → ArgsOk K A H' vs ys → E (.ref (cl c)) none H'
  | .bad => False
def SpM (K : PySem.W.Frag) (cl : Nat → Addr) (n : Nat) (m : Fn) : Sp := fun vs H Q E => vs.length = n ∧ ∃ A as, Live A H ∧ ArgsOk K A H vs as ∧ PostF K cl A vs as H Q E (m as)

/-! ### arguments -/
def ArV (σ : St) (K : PySem.W.Frag) (A : Addr → Prop) (H : Hp) (w : V) : Ar → Prop
  | .v x => Dq K A H w x
  | .o i => σ[i]? = some (some w)
structure CJ (X : Cx) (Γ : Gm) (C : FC) (W : WE) (es : List Expr) (irs : List IE) : Prop where
  ex : ∃ t, PA X es t ∧ ∀ A σ H ρ (Q : List V → Hp → Prop), SE C A σ H ρ →
    Post C A σ H W (fun as _ H' => ∀ vs, (puL irs = true → Same H H') → Paired (ArV σ C.K A H') vs as → Q vs H') (semAr Γ irs ρ) → t σ H Q
structure KJ (X : Cx) (Γ : Gm) (C : FC) (W : WE) (es : List Keyword) (irs : List IE) : Prop where
  ex : ∃ t, PK X es t ∧ ∀ A σ H ρ (Q : List V → Hp → Prop), SE C A σ H ρ →
    Post C A σ H W (fun as _ H' => ∀ vs, (puL irs = true → Same H H') → Paired (ArV σ C.K A H') vs as → Q vs H') (semAr Γ irs ρ) → t σ H Q
section
variable {X : Cx} {Γ : Gm} {C : FC} {W : WE} {a b c e : Expr} {es : List Expr} {ia ib ic ie : IE} {irs : List IE} {pos : Pos}
theorem semAr_cons {ρ : Env} (h : isOvar ia = false) : semAr Γ (ia :: irs) ρ = (sem Γ ia ρ).bind fun x ρ1 => (semAr Γ irs ρ1).bind fun xs ρ2 => .ok (.v x :: xs) ρ2 := by
  cases ia <;> first | (rw [semAr]; intro i z; cases z) | cases h
theorem isOvar_of (h : stE ia = true) : isOvar ia = false := by
  cases ia <;> first | rfl | (rw [stE] at h; cases h)
theorem ArV.kp {σ : St} {K : PySem.W.Frag} {A : Addr → Prop} {H H' : Hp} (k : Kp A H H') {w : V} {x : Ar} (h : ArV σ K A H w x) : ArV σ K A H' w x := by
  cases x with
  | v d => exact Dq.kp h k
  | o i => exact h
theorem ArV.all {σ : St} {K : PySem.W.Frag} {A : Addr → Prop} {H H' : Hp} (k : Kp A H H') {ws : List V} {xs : List Ar} (h : Paired (ArV σ K A H) ws xs) : Paired (ArV σ K A H') ws xs := Paired.mapP h fun _ _ z => z.kp k
theorem cj_nil : CJ X Γ C W [] [] := by
  refine ⟨_, pa_nil, fun A σ H ρ Q S h => ?_⟩
  rw [semAr] at h
  exact h H Kp.refl S [] (fun _ => Same.refl _) .nil
theorem cj_cons (ha : EJ X Γ C W a ia) (hs : stE ia = true) (hr : CJ X Γ C W es irs) (hn : notStar a = true) : CJ X Γ C W (a :: es) (ia :: irs) := by
  obtain ⟨ta, pa, qa⟩ := ha.ex
  obtain ⟨tb, pb, qb⟩ := hr.ex
  refine ⟨_, pa_cons pa pb (star_cons hn), fun A σ H ρ Q S h => ?_⟩
  rw [semAr_cons (isOvar_of hs)] at h
  refine qa A σ H ρ _ S (h.bind fun x ρ1 H1 k1 S1 h v s1 o1 => ?_)
  refine qb A σ H1 ρ1 _ S1 (Post.bind h fun xs ρ2 H2 k2 S2 h vs s2 o2 => ?_)
  exact h H2 Kp.refl S2 (v :: vs) (fun z => by rw [puL] at z; exact (s1 (and_l z)).trans (s2 (and_r z))) (.cons ((o1.2 hs).kp k2) o2)
theorem cj_own {i : Nat} {x : Str} (hN : X.N[i]? = some x) (hv : Vis X.env.scope x) (hd : (x == ("__debug__" : Str)) = false) (hcd : (x == ("__classdict__" : Str)) = false) (hr : CJ X Γ C W es irs) :
    CJ X Γ C W (.Name x pos :: es) (.ovar i :: irs) := by
  obtain ⟨tb, pb, qb⟩ := hr.ex
  refine ⟨_, pa_cons (pe_var hN hv hd hcd) pb (star_cons rfl), fun A σ H ρ Q S h => ?_⟩
  rw [semAr] at h
  split at h
  · rename_i ho
    unfold isOwn at ho
    split at ho
    · rename_i av hav
      obtain ⟨v, hv, q⟩ := S.at_ i av hav
      refine ⟨v, hv, ?_⟩
      refine qb A σ H ρ _ S (Post.bind h fun xs ρ2 H2 k2 S2 h vs s2 o2 => ?_)
      exact h H2 Kp.refl S2 (v :: vs) (fun z => by rw [puL] at z; exact s2 (and_r z)) (.cons hv o2)
    · cases ho
  · exact h.elim
theorem kj_nil : KJ X Γ C W [] [] := by
  refine ⟨_, pk_nil, fun A σ H ρ Q S h => ?_⟩
  rw [semAr] at h
  exact h H Kp.refl S [] (fun _ => Same.refl _) .nil
theorem kj_cons {nm : Option Str} {kp : Pos} {kws : List Keyword} (ha : EJ X Γ C W a ia) (hs : stE ia = true) (hr : KJ X Γ C W kws irs) : KJ X Γ C W (⟨nm, a, kp⟩ :: kws) (ia :: irs) := by
  obtain ⟨ta, pa, qa⟩ := ha.ex
  obtain ⟨tb, pb, qb⟩ := hr.ex
  refine ⟨_, pk_cons pa pb, fun A σ H ρ Q S h => ?_⟩
  rw [semAr_cons (isOvar_of hs)] at h
  refine qa A σ H ρ _ S (h.bind fun x ρ1 H1 k1 S1 h v s1 o1 => ?_)
  refine qb A σ H1 ρ1 _ S1 (Post.bind h fun xs ρ2 H2 k2 S2 h vs s2 o2 => ?_)
  exact h H2 Kp.refl S2 (v :: vs) (fun z => by rw [puL] at z; exact (s1 (and_l z)).trans (s2 (and_r z))) (.cons ((o1.2 hs).kp k2) o2)
theorem semAr_app : ∀ (xs ys : List IE) (ρ : Env), semAr Γ (xs ++ ys) ρ = (semAr Γ xs ρ).bind fun as ρ1 => (semAr Γ ys ρ1).bind fun bs ρ2 => .ok (as ++ bs) ρ2
  | [], ys, ρ => by
    rw [List.nil_append, semAr]
    show _ = (semAr Γ ys ρ).bind fun bs ρ2 => .ok bs ρ2
    cases semAr Γ ys ρ <;> rfl
  | x :: xs, ys, ρ => by
    have ih := semAr_app xs ys
    rw [List.cons_append]
    by_cases hx : isOvar x = true
    · cases x with
      | ovar i =>
        rw [semAr, semAr]
        split
        · rw [ih]
          simp only [Rs.bind_bind]
          rfl
        · rfl
      | _ => cases hx
    · have hx : isOvar x = false := by simpa using hx
      rw [semAr_cons hx, semAr_cons hx]
      simp only [ih, Rs.bind_bind]
      rfl
end

/-! ### the own arguments behind a call -/
section
variable {ρ ρ' : Env}
theorem avs_get : ∀ {as : List Ar} {xs : List AV}, avs ρ as = some xs → as.length = xs.length ∧ ∀ (m : Nat) (a : Ar), as[m]? = some a → ∃ av, xs[m]? = some av ∧ a.av ρ = some av
  | [], xs, h => by cases h; exact ⟨rfl, fun m a e => by simp at e⟩
  | a :: r, xs, h => by
    rw [avs] at h
    cases e1 : a.av ρ with
    | none => rw [e1] at h; cases h
    | some y =>
      rw [e1] at h
      cases e2 : avs ρ r with
      | none => rw [e2] at h; cases h
      | some ys =>
        rw [e2] at h
        cases h
        obtain ⟨h1, h2⟩ := avs_get e2
        refine ⟨by simp [h1], fun m b e => ?_⟩
        cases m with
        | zero => simp at e; subst e; exact ⟨y, rfl, e1⟩
        | succ m => exact h2 m b (by simpa using e)
theorem mem_owns : ∀ {as : List Ar} {i : Nat}, i ∈ owns as → ∃ m : Nat, as[m]? = some (Ar.o i)
  | .v _ :: r, i, h => by
    obtain ⟨m, e⟩ := mem_owns (as := r) (by simpa [owns] using h)
    exact ⟨m + 1, by simpa using e⟩
  | .o j :: r, i, h => by
    rw [owns] at h
    rcases List.mem_cons.mp h with e | h
    · exact ⟨0, by simp [e]⟩
    · obtain ⟨m, e⟩ := mem_owns (as := r) h
      exact ⟨m + 1, by simpa using e⟩
theorem owns_mem : ∀ {as : List Ar} {m i : Nat}, as[m]? = some (.o i) → i ∈ owns as
  | a :: r, 0, i, h => by simp at h; subst h; simp [owns]
  | a :: r, m + 1, i, h => by
    have := owns_mem (as := r) (m := m) (i := i) (by simpa using h)
    cases a with
    | v x => simpa [owns] using this
    | o j => simp [owns, this]
theorem layBack_get : ∀ {as : List Ar} {ys : List AV} {ρ ρ' : Env}, (owns as).Nodup → layBack as ys ρ = some ρ' → ρ'.length = ρ.length ∧ (∀ j, j ∉ owns as → ρ'[j]? = ρ[j]?) ∧
    ∀ (m i : Nat), as[m]? = some (.o i) → i < ρ.length → ∃ av, ys[m]? = some av ∧ av.own = true ∧ ρ'[i]? = some (some av)
  | [], ys, ρ, ρ', _, h => by
    cases ys with
    | nil => cases h; exact ⟨rfl, fun _ _ => rfl, fun m i e => by simp at e⟩
    | cons _ _ => cases h
  | .v x :: r, ys, ρ, ρ', hn, h => by
    cases ys with
    | nil => cases h
    | cons y ys =>
      obtain ⟨h1, h2, h3⟩ := layBack_get (as := r) (by simpa [owns] using hn) (show layBack r ys ρ = some ρ' from h)
      refine ⟨h1, fun j hj => h2 j (by simpa [owns] using hj), fun m i e hi => ?_⟩
      cases m with
      | zero => simp at e
      | succ m => exact h3 m i (by simpa using e) hi
  | .o k :: r, ys, ρ, ρ', hn, h => by
    cases ys with
    | nil => cases h
    | cons y ys =>
      have h : (if y.own = true then layBack r ys (ρ.set k (some y)) else none) = some ρ' := h
      rw [owns, List.nodup_cons] at hn
      split at h
      · rename_i hy
        obtain ⟨h1, h2, h3⟩ := layBack_get (as := r) hn.2 h
        rw [List.length_set] at h1
        refine ⟨h1, fun j hj => ?_, fun m i e hi => ?_⟩
        · rw [owns, List.mem_cons, not_or] at hj
          rw [h2 j hj.2, List.getElem?_set_ne (Ne.symm hj.1)]
        · cases m with
          | zero =>
            simp at e
            subst e
            refine ⟨y, rfl, hy, ?_⟩
            rw [h2 k hn.1, List.getElem?_set_self hi]
          | succ m => exact h3 m i (by simpa using e) (by rw [List.length_set]; exact hi)
      · cases h
end
theorem Paired.get {α β : Type} {F : α → β → Prop} : ∀ {xs : List α} {ys : List β} {i : Nat} {y : β}, Paired F xs ys → ys[i]? = some y → ∃ x, xs[i]? = some x ∧ F x y
  | _, _, _, _, .nil, e => by simp at e
  | _, _, 0, _, .cons r _, e => by simp at e; subst e; exact ⟨_, rfl, r⟩
  | _, _, i + 1, y, .cons _ t, e => by
    obtain ⟨u, h1, h2⟩ := Paired.get (i := i) (y := y) t (by simpa using e)
    exact ⟨u, by simpa using h1, h2⟩
theorem Paired.getL {α β : Type} {F : α → β → Prop} : ∀ {xs : List α} {ys : List β} {i : Nat} {x : α}, Paired F xs ys → xs[i]? = some x → ∃ y, ys[i]? = some y ∧ F x y
  | _, _, _, _, .nil, e => by simp at e
  | _, _, 0, _, .cons r _, e => by simp at e; subst e; exact ⟨_, rfl, r⟩
  | _, _, i + 1, y, .cons _ t, e => by
    obtain ⟨u, h1, h2⟩ := Paired.getL (i := i) (x := y) t (by simpa using e)
    exact ⟨u, by simpa using h1, h2⟩
theorem Paired.of_get {α β : Type} {F : α → β → Prop} : ∀ {xs : List α} {ys : List β}, xs.length = ys.length → (∀ (i : Nat) (x : α) (y : β), xs[i]? = some x → ys[i]? = some y → F x y) → Paired F xs ys
  | [], [], _, _ => .nil
  | x :: xs, y :: ys, h, f => .cons (f 0 x y rfl rfl) (Paired.of_get (by simpa using h) fun i a b e1 e2 => f (i + 1) a b (by simpa using e1) (by simpa using e2))
/-- the arguments of a call stand as the callee wants them -/
theorem args_in {C : FC} {A : Addr → Prop} {σ : St} {H : Hp} {ρ : Env} {ws : List V} {as : List Ar} {xs : List AV} (S : SE C A σ H ρ) (hn : (owns as).Nodup) (ha : Paired (ArV σ C.K A H) ws as) (hx : avs ρ as = some xs) : ArgsOk C.K A H ws xs := by
  obtain ⟨hl, hg⟩ := avs_get hx
  have key : ∀ (m : Nat) (w : V) (av : AV), ws[m]? = some w → xs[m]? = some av → AvOk C.K A H w av ∧ (av.own = true → ∃ i, as[m]? = some (.o i) ∧ ρ[i]? = some (some av) ∧ σ[i]? = some (some w)) := fun m w av e1 e2 => by
    obtain ⟨a, e3, q⟩ := Paired.getL ha e1
    obtain ⟨av', e4, e5⟩ := hg m a e3
    rw [e2] at e4
    cases e4
    cases a with
    | v x =>
      cases e5
      exact ⟨q, fun z => by cases z⟩
    | o i =>
      have e5 : (match ρ[i]? with | some (some av) => if av.own then some av else none | _ => none) = some av := e5
      split at e5
      · rename_i av'' e6
        split at e5
        · cases e5
          obtain ⟨v, e7, q7⟩ := S.at_ i av e6
          have q : σ[i]? = some (some w) := q
          rw [q] at e7
          cases e7
          exact ⟨q7, fun _ => ⟨i, e3, e6, q⟩⟩
        · cases e5
      · cases e5
  refine ⟨Paired.of_get ((Paired.length ha).trans hl) fun m w av e1 e2 => (key m w av e1 e2).1, fun m n av aw p hmn e1 e2 o1 o2 e3 e4 => ?_⟩
  obtain ⟨i, a1, a2, a3⟩ := (key m _ av e3 e1).2 o1
  obtain ⟨j, b1, b2, b3⟩ := (key n _ aw e4 e2).2 o2
  by_cases hij : i = j
  · subst hij
    exact hmn (owns_inj hn a1 b1)
  · exact S.dis i j av aw p hij a2 b2 o1 o2 a3 b3
where
  owns_inj : ∀ {as : List Ar} {m n i : Nat}, (owns as).Nodup → as[m]? = some (.o i) → as[n]? = some (.o i) → m = n
    | [], m, n, i, _, h, _ => by simp at h
    | a :: r, 0, 0, i, _, _, _ => rfl
    | a :: r, 0, n + 1, i, hn, h1, h2 => by
      simp at h1
      subst h1
      rw [owns, List.nodup_cons] at hn
      exact absurd (owns_mem (m := n) (by simpa using h2)) hn.1
    | a :: r, m + 1, 0, i, hn, h1, h2 => by
      simp at h2
      subst h2
      rw [owns, List.nodup_cons] at hn
      exact absurd (owns_mem (m := m) (by simpa using h1)) hn.1
    | a :: r, m + 1, n + 1, i, hn, h1, h2 => by
      have hn' : (owns r).Nodup := by
        cases a with
        | v x => simpa [owns] using hn
        | o j => rw [owns, List.nodup_cons] at hn; exact hn.2
      exact congrArg (· + 1) (owns_inj hn' (by simpa using h1) (by simpa using h2))

/-- .. and behind it -/
theorem args_out {C : FC} {A : Addr → Prop} {σ : St} {H H' : Hp} {ρ ρ' : Env} {ws : List V} {as : List Ar} {xs ys : List AV} (S : SE C A σ H ρ) (hn : (owns as).Nodup) (ha : Paired (ArV σ C.K A H) ws as) (hx : avs ρ as = some xs)
    (kp : Kp (ownOf ws xs) H H') (ok : ArgsOk C.K A H' ws ys) (hb : layBack as ys ρ = some ρ') : Kp A H H' ∧ SE C A σ H' ρ' := by
  have ain := args_in S hn ha hx
  obtain ⟨hl, hg⟩ := avs_get hx
  obtain ⟨l1, l2, l3⟩ := layBack_get hn hb
  -- an own argument's address
  have ownA : ∀ p, ownOf ws xs p → ∃ (m i : Nat) (av : AV), as[m]? = some (.o i) ∧ ρ[i]? = some (some av) ∧ av.own = true ∧ σ[i]? = some (some (.ref p)) := fun p ⟨m, av, e1, o, e2⟩ => by
    obtain ⟨a, e3, q⟩ := Paired.getL ha e2
    obtain ⟨av', e4, e5⟩ := hg m a e3
    rw [e1] at e4
    cases e4
    cases a with
    | v x => cases e5; cases o
    | o i =>
      have e5 : (match ρ[i]? with | some (some av) => if av.own then some av else none | _ => none) = some av := e5
      split at e5
      · rename_i av'' e6
        split at e5
        · cases e5
          exact ⟨m, i, _, e3, e6, o, q⟩
        · cases e5
      · cases e5
  have ownIn : ∀ p, ownOf ws xs p → A p := fun p h => by
    obtain ⟨m, i, av, e1, e2, o, e3⟩ := ownA p h
    obtain ⟨v, e4, q⟩ := S.at_ i av e2
    rw [e3] at e4
    cases e4
    obtain ⟨p', e5, a, _⟩ := q.addr o
    cases e5
    exact a
  have kA : Kp A H H' := kp.mono ownIn
  have iLt : ∀ {i : Nat} {av : AV}, ρ[i]? = some (some av) → i < ρ.length := fun {i av} e => (List.getElem?_eq_some_iff.mp e).1
  -- a slot of the new frame, by the old one
  have slot : ∀ (i : Nat) (av : AV), ρ'[i]? = some (some av) → (i ∉ owns as ∧ ρ[i]? = some (some av)) ∨ (∃ (m : Nat) (w : V), as[m]? = some (Ar.o i) ∧ ys[m]? = some av ∧ av.own = true ∧ ws[m]? = some w ∧ σ[i]? = some (some w) ∧ ∃ av0, ρ[i]? = some (some av0) ∧ av0.own = true) := fun i av e => by
    by_cases hi : i ∈ owns as
    · obtain ⟨m, e1⟩ := mem_owns hi
      obtain ⟨w, e2, q⟩ := Paired.get ha e1
      have q : σ[i]? = some (some w) := q
      obtain ⟨av1, e3, e4⟩ := hg m _ e1
      have e4 : (match ρ[i]? with | some (some av) => if av.own then some av else none | _ => none) = some av1 := e4
      split at e4
      · rename_i av0 e5
        split at e4
        · rename_i o0
          obtain ⟨av2, e6, o2, e7⟩ := l3 m i e1 (iLt e5)
          rw [e] at e7
          cases e7
          exact .inr ⟨m, w, e1, e6, o2, e2, q, av0, e5, o0⟩
        · cases e4
      · cases e4
    · rw [l2 i hi] at e
      exact .inl ⟨hi, e⟩
  have was : ∀ (i : Nat) (av : AV), ρ'[i]? = some (some av) → av.own = true → ∃ av0, ρ[i]? = some (some av0) ∧ av0.own = true := fun i av e o => by
    rcases slot i av e with ⟨_, h⟩ | ⟨m, w, _, _, _, _, _, h⟩
    · exact ⟨av, h, o⟩
    · exact h
  have stays : ∀ (i : Nat) (av : AV) (p : Addr), i ∉ owns as → ρ[i]? = some (some av) → av.own = true → σ[i]? = some (some (.ref p)) → ¬ ownOf ws xs p := fun i av p hi e o e2 h => by
    obtain ⟨m, j, av', e3, e4, o', e5⟩ := ownA p h
    have hj := owns_mem e3
    exact S.dis i j av av' p (fun z => hi (z ▸ hj)) e e4 o o' e2 e5
  refine ⟨kA, l1 ▸ S.len, fun i av e => ?_, fun i j av aw p hij e1 e2 o1 o2 e3 e4 => ?_, fun a ha' => ?_, ⟨fun b o n e => ?_, fun b xs' e => kp.tup _ _ (S.keep.tup _ _ e), fun b o u e => kp.frz _ _ _ (S.keep.frz _ _ _ e)⟩, fun i av p e o e2 => ?_, fun i p e => ?_, S.sub⟩
  · rcases slot i av e with ⟨hi, h⟩ | ⟨m, w, e1, e2, o, e3, e4, _⟩
    · obtain ⟨v, e5, q⟩ := S.at_ i av h
      refine ⟨v, e5, q.kp kA fun p o ev => ?_⟩
      subst ev
      obtain ⟨p', ev, _, u, hu, _⟩ := q.addr o
      cases ev
      rw [hu]
      exact kp.keep p u (stays i av p hi h o e5) hu
    · obtain ⟨w', e5, q⟩ := Paired.get ok.all e2
      rw [e3] at e5
      cases e5
      exact ⟨w, e4, q⟩
  · obtain ⟨av0, f1, g1⟩ := was i av e1 o1
    obtain ⟨aw0, f2, g2⟩ := was j aw e2 o2
    exact S.dis i j av0 aw0 p hij f1 f2 g1 g2 e3 e4
  · by_cases h : ownOf ws xs a
    · obtain ⟨m, av, e1, o, e2⟩ := h
      obtain ⟨b, e3, _⟩ := Paired.getL ha e2
      obtain ⟨av1, e4, e5⟩ := hg m b e3
      obtain ⟨y, e6, q⟩ := Paired.getL ok.all e2
      rw [e1] at e4
      cases e4
      cases b with
      | v x => cases e5; cases o
      | o i =>
        have e5 : (match ρ[i]? with | some (some av) => if av.own then some av else none | _ => none) = some av := e5
        split at e5
        · rename_i av0 e7
          obtain ⟨av2, e8, o2, _⟩ := l3 m i e3 (iLt e7)
          rw [e6] at e8
          cases e8
          obtain ⟨p', ep, _, u, hu, _⟩ := q.addr o2
          cases ep
          exact ⟨u, hu⟩
        · cases e5
    · obtain ⟨o, e⟩ := S.live a ha'
      exact ⟨o, kp.keep a o h e⟩
  · refine kp.keep b o (fun h => ?_) (S.keep.keep b o n e)
    obtain ⟨m, i, av, e1, e2, o', e3⟩ := ownA b h
    rcases S.prm i av b e2 o' e3 with z | z
    · exact n z
    · rw [e] at z; cases z
  · obtain ⟨av0, f1, g1⟩ := was i av e o
    exact S.prm i av0 p f1 g1 e2
  · obtain ⟨h1, av, h2, h3⟩ := S.par i p e
    refine ⟨h1, ?_⟩
    by_cases hi : i ∈ owns as
    · obtain ⟨m, e1⟩ := mem_owns hi
      obtain ⟨av2, _, o2, e2⟩ := l3 m i e1 (iLt h2)
      exact ⟨av2, e2, o2⟩
    · exact ⟨av, (l2 i hi).trans h2, h3⟩
end F3
end
section
namespace F3
open PySem PySem.Spec L2

/-- the exceptions by their numbers -/
def wx (cl : Nat → Addr) (W : WE) : WX := fun cls d σ H => ∃ c, cls = .ref (cl c) ∧ d = none ∧ W c σ H
/-- n positional values, the other parameters by their names, in their order -/
def KBd (fd : FuncData) (ps : List Str) (n : Nat) : Prop := ∀ (s : Shared) (us ws : List Value), us.length = n → (us ++ ws).length = ps.length → BindsTo s fd ⟨us, (ps.drop n).zip ws⟩ (ps.zip (us ++ ws))
section
variable {X : Cx} {CX : CXT} {k n : Nat} {f : Addr} {fd : FuncData} {ps : List Str} {sp : Sp} {E : St → XK} {x : Str} {p pos : Pos} {es : List Expr} {kws : List Keyword} {t tk : TA}
theorem run_fnG {pins : List (Addr × Obj)} {σ : St} {H : Hp} {s : Shared} {Q : VK} {us ws : List Value} {vs zs : List V} {E : XK} (F : FnOk X.prog X.w X.K X.mg X.base CX k f fd ps sp) (hr : Room k X.A) (hb : KBd fd ps n) (hx : PassesAt CX X σ E)
    (I : Inv X pins σ H s) (r : Vals vs us) (rz : Vals zs ws) (hl : us.length = n) (h : sp (vs ++ zs) H Q E) : wpAny (model X.prog X.w) X.A (call (.ref f) us ((ps.drop n).zip ws)) (EP X pins σ Q) X.xe s := by
  have r2 : Vals (vs ++ zs) (us ++ ws) := r.append rz
  have hl2 : (us ++ ws).length = ps.length := by rw [← r2.length]; exact F.len _ _ _ _ h
  refine wpAny_call (codeAny_mono (F.run X.A X.stack s H ⟨us, (ps.drop n).zip ws⟩ (us ++ ws) (vs ++ zs) Q E hr I.env0 (hb s us ws hl hl2) r2 h) fun r s' hq => ?_)
  cases r with
  | error e => exact hx pins H s e s' I hq
  | ok fl =>
    cases fl with
    | ret u => exact I.after hq
    | next => exact False.elim hq
    | brk => exact False.elim hq
    | cont => exact False.elim hq
theorem kw_names (pos : Pos) (env : PySem.Env) : ∀ kws : List Keyword, (backToKw pos (keywordEach kws env)).filterMap (·.1) = kws.filterMap (·.arg)
  | [] => by rw [keywordEach]; rfl
  | ⟨nm, e, kp⟩ :: r => by
    have ih := kw_names pos env r
    rw [keywordEach]
    unfold backToKw at ih ⊢
    rw [List.map_cons, List.filterMap_cons, List.filterMap_cons, ih]
theorem kw_some (pos : Pos) (env : PySem.Env) : ∀ kws : List Keyword, (backToKw pos (keywordEach kws env)).all (·.1.isSome) = kws.all (·.arg.isSome)
  | [] => by rw [keywordEach]; rfl
  | ⟨nm, e, kp⟩ :: r => by
    have ih := kw_some pos env r
    rw [keywordEach]
    unfold backToKw at ih ⊢
    rw [List.map_cons, List.all_cons, List.all_cons, ih]
theorem kw_none (pos : Pos) (env : PySem.Env) : ∀ kws : List Keyword, kws.all (·.arg.isSome) = true → (backToKw pos (keywordEach kws env)).any (·.1.isNone) = false
  | [], _ => by rw [keywordEach]; rfl
  | ⟨nm, e, kp⟩ :: r, h => by
    rw [List.all_cons] at h
    have ih := kw_none pos env r (and_r h)
    have h0 : nm.isSome = true := and_l h
    rw [keywordEach]
    unfold backToKw at ih ⊢
    rw [List.map_cons, List.any_cons, ih]
    cases nm with
    | none => cases h0
    | some x => rfl
def tCallG (n : Nat) (sp : Sp) (E : St → XK) (t tk : TA) : TE := fun σ H Q => t σ H fun vs H1 => tk σ H1 fun zs H2 => vs.length = n ∧ sp (vs ++ zs) H2 Q (E σ)
theorem pe_callG {e : Expr} (F : FnOk X.prog X.w X.K X.mg X.base CX k f fd ps sp) (hr : Room k X.A) (hg : Gl X x) (hm : X.mg x = some (.ref f)) (hk : PySem.W.keepIn X.K (.ref f) = true) (hb : KBd fd ps n) (hx : ∀ σ, PassesAt CX X σ (E σ))
    (ha : PA X (e :: es) t) (hkw : PK X kws tk) (hall : kws.all (·.arg.isSome) = true) (hks : kws.filterMap (·.arg) = ps.drop n) (hn : notStar e = true) (hns : es.all notStar = true) (hdb : (x == ("__debug__" : Str)) = false) :
    PE X (.Call (.Name x p) (e :: es) kws pos) (tCallG n sp E t tk) := by
  refine ⟨fun pins s σ H Q I h => ?_⟩
  refine wpAny_Call_Name_kw (ld_glob I hg hm ?_ hdb)
  have hall' : (backToKw pos (keywordEach kws X.env)).all (·.1.isSome) = true := (kw_some pos X.env kws).trans hall
  have hks' := (kw_names pos X.env kws).trans hks
  refine PySem.W.callWith_KW (h₀ := X.base) I.ok.mod.kin hk hall' (thn (ha.run pos pins s σ H _ I h) fun us s1 ⟨vs, H1, I1, r, q⟩ => ?_) (by rw [star_plain (es := e :: es) (by rw [List.all_cons, hn, hns]; rfl), kw_none pos X.env kws hall]; rfl) (star_cons hn)
  refine thn (hkw.run pos pins s1 σ H1 _ I1 q) fun ws s2 ⟨zs, H2, I2, rz, l1, q2⟩ => ⟨I2.kIn, ?_⟩
  rw [hks']
  exact run_fnG F hr hb (hx σ) I2 r rz (r.length.symm.trans l1) q2
def tCallG0 (sp : Sp) (E : St → XK) (tk : TA) : TE := fun σ H Q => tk σ H fun zs H2 => sp zs H2 Q (E σ)
theorem pe_callG0 (F : FnOk X.prog X.w X.K X.mg X.base CX k f fd ps sp) (hr : Room k X.A) (hg : Gl X x) (hm : X.mg x = some (.ref f)) (hk : PySem.W.keepIn X.K (.ref f) = true) (hb : KBd fd ps 0) (hx : ∀ σ, PassesAt CX X σ (E σ))
    (hkw : PK X kws tk) (hall : kws.all (·.arg.isSome) = true) (hks : kws.filterMap (·.arg) = ps) (hdb : (x == ("__debug__" : Str)) = false) : PE X (.Call (.Name x p) [] kws pos) (tCallG0 sp E tk) := by
  refine ⟨fun pins s σ H Q I h => ?_⟩
  refine wpAny_Call_Name_kw (ld_glob I hg hm ?_ hdb)
  have hall' : (backToKw pos (keywordEach kws X.env)).all (·.1.isSome) = true := (kw_some pos X.env kws).trans hall
  have hks' := (kw_names pos X.env kws).trans hks
  refine PySem.W.callWith_KW0 (h₀ := X.base) I.ok.mod.kin hk hall' ?_ (by rw [star_plain (es := []) rfl, kw_none pos X.env kws hall]; rfl)
  refine thn (hkw.run pos pins s σ H _ I h) fun ws s2 ⟨zs, H2, I2, rz, q2⟩ => ⟨I2.kIn, ?_⟩
  rw [hks']
  exact run_fnG (us := []) (vs := []) F hr hb (hx σ) I2 .nil rz rfl q2
end

/-- what a body knows of its surroundings -/
structure FnF (X : Cx) (cl : Nat → Addr) (k : Nat) (fn : Fn) (x : Str) (ps : List Str) (pats : List Nat) : Prop where
  ex : ∃ a fd, X.mg x = some (.ref a) ∧ PySem.W.keepIn X.K (.ref a) = true ∧ FnOk X.prog X.w X.K X.mg X.base (L2.CX X.prog X.w) k a fd ps (SpM X.K cl ps.length fn) ∧ ∀ n ∈ pats, KBd fd ps n
section
variable {X : Cx} {Γ : Gm} {C : FC} {W : WE} {a b c e : Expr} {es : List Expr} {kws : List Keyword} {ia ib ic ie : IE} {irs jrs : List IE} {pos p : Pos} {cl : Nat → Addr} {k f n : Nat} {x : Str} {ps : List Str} {pats : List Nat}
theorem Paired.app {α β : Type} {F : α → β → Prop} : ∀ {xs ws : List α} {ys zs : List β}, Paired F xs ys → Paired F ws zs → Paired F (xs ++ ws) (ys ++ zs)
  | _, _, _, _, .nil, s => s
  | _, _, _, _, .cons r t, s => .cons r (Paired.app t s)
/-- the call itself: from the arguments to what is handed back -/
theorem call_post (hK : X.K = C.K) {A : Addr → Prop} {σ : St} {H H0 : Hp} {ρ : Env} {as : List Ar} {vs : List V} {Q : VK} {pu : Bool} (hl : vs.length = ps.length) (S : SE C A σ H ρ) (ha : Paired (ArV σ C.K A H) vs as) (sm : pu = true → Same H0 H) (hp : pu = true → owns as = [])
    (h : Post C A σ H W (fun r _ H' => ∀ v, (pu = true → Same H0 H') → RetOk C.K A H H' v r → Q v H') (callR (Γ.fn f) as ρ)) : SpM X.K cl ps.length (Γ.fn f) vs H Q (L2.WE (wx cl W) σ) := by
  rw [hK]
  unfold callR at h
  split at h
  · rename_i hn
    cases hx : avs ρ as with
    | none => rw [hx] at h; exact h.elim
    | some xs =>
      rw [hx] at h
      have ain := args_in S hn ha hx
      refine ⟨hl, A, xs, S.live, ain, ?_⟩
      have h : Post C A σ H W _ (match Γ.fn f xs with
        | .ok r ys => match layBack as ys ρ with
          | some ρ' => Rs.ok r ρ'
          | none => Rs.bad
        | .ex c ys => match layBack as ys ρ with
          | some ρ' => Rs.ex c ρ'
          | none => Rs.bad
        | .bad => Rs.bad) := h
      have none_own : pu = true → ∀ q, ¬ ownOf vs xs q := fun z q hq => by
        obtain ⟨hl2, hg⟩ := avs_get hx
        obtain ⟨m, av, e1, o, e2⟩ := hq
        obtain ⟨b, e3, _⟩ := Paired.getL ha e2
        obtain ⟨av1, e4, e5⟩ := hg m b e3
        rw [e1] at e4
        cases e4
        cases b with
        | v y => cases e5; cases o
        | o i =>
          have := owns_mem e3
          rw [hp z] at this
          cases this
      cases hf : Γ.fn f xs with
      | bad => rw [hf] at h; exact h.elim
      | ok r ys =>
        rw [hf] at h
        have h : Post C A σ H W _ (match layBack as ys ρ with
          | some ρ' => Rs.ok r ρ'
          | none => Rs.bad) := h
        intro v H' kp ok ro
        cases hb : layBack as ys ρ with
        | none => rw [hb] at h; exact h.elim
        | some ρ' =>
          rw [hb] at h
          obtain ⟨kA, S'⟩ := args_out S hn ha hx kp ok hb
          exact h H' kA S' v (fun z => (sm z).trans fun b o e => kp.keep b o (none_own z b) e) ro
      | ex c ys =>
        rw [hf] at h
        have h : Post C A σ H W _ (match layBack as ys ρ with
          | some ρ' => Rs.ex c ρ'
          | none => Rs.bad) := h
        intro H' kp ok
        cases hb : layBack as ys ρ with
        | none => rw [hb] at h; exact h.elim
        | some ρ' =>
          rw [hb] at h
          obtain ⟨kA, S'⟩ := args_out S hn ha hx kp ok hb
          exact ⟨c, rfl, rfl, h H' kA S'⟩
  · exact h.elim
theorem RetOk.data {K : PySem.W.Frag} {A : Addr → Prop} {H H' : Hp} {v : V} {r : AV} {d : PyData} (h : RetOk K A H H' v r) (l : Live A H) (e : r.data = some d) : Dq K A H' v d := by
  cases r with
  | d x => cases e; exact h
  | l xs =>
    cases e
    obtain ⟨p, vs, rfl, n, q, t⟩ := h
    exact .lst (l.no n) (.inl q) t
  | k _ => cases e
  | t _ => cases e
theorem semAr_owns : ∀ {irs : List IE} {ρ ρ' : Env} {as : List Ar}, irs.all stE = true → semAr Γ irs ρ = .ok as ρ' → owns as = []
  | [], ρ, ρ', as, _, h => by rw [semAr] at h; cases h; rfl
  | i :: r, ρ, ρ', as, hs, h => by
    rw [List.all_cons] at hs
    rw [semAr_cons (isOvar_of (and_l hs))] at h
    cases e1 : sem Γ i ρ with
    | bad => rw [e1] at h; cases h
    | ex c ρ1 => rw [e1] at h; cases h
    | ok x ρ1 =>
      rw [e1] at h
      have h : ((semAr Γ r ρ1).bind fun xs ρ2 => Rs.ok (.v x :: xs) ρ2) = .ok as ρ' := h
      cases e2 : semAr Γ r ρ1 with
      | bad => rw [e2] at h; cases h
      | ex c ρ1 => rw [e2] at h; cases h
      | ok xs ρ2 =>
        rw [e2] at h
        cases h
        show owns xs = []
        exact semAr_owns (irs := r) (and_r hs) e2
end
end F3
end
section
namespace F3
open PySem PySem.Spec L2

section
variable {α β : Type} {C : FC} {A : Addr → Prop} {σ : St} {H H1 H2 : Hp} {ρ ρ1 : Env} {W : WE} {G G' : α → Env → Hp → Prop} {r : Rs α}
theorem Post.bindE {f : α → Env → Rs β} {G' : β → Env → Hp → Prop} (h : Post C A σ H W G' (r.bind f)) (g : ∀ a ρ1, r = .ok a ρ1 → ∀ H1, Kp A H H1 → SE C A σ H1 ρ1 → Post C A σ H1 W G' (f a ρ1) → G a ρ1 H1) : Post C A σ H W G r := by
  cases r with
  | ok a ρ' => exact fun H' k' S => g _ _ rfl _ k' S (h.shift k')
  | ex c ρ' => exact h
  | bad => exact h
theorem Post.ofO {a : α} {o : Option Env} (h : Post C A σ H W G (Rs.ofO a o)) : ∃ ρ', o = some ρ' ∧ Post C A σ H W G (Rs.ok a ρ') := by
  cases o with
  | none => exact h.elim
  | some ρ' => exact ⟨ρ', rfl, h⟩
end

/-! ### the judgements in one form -/
def GE (C : FC) (A : Addr → Prop) (H : Hp) (ir : IE) (Q : VK) : PyData → Env → Hp → Prop := fun d _ H' => ∀ v, (puE ir = true → Same H H') → VOk (stE ir) C.K A H' v d → Q v H'
def tcE (Γ : Gm) (C : FC) (W : WE) (ir : IE) : TE := fun σ H Q => ∃ A ρ, SE C A σ H ρ ∧ Post C A σ H W (GE C A H ir Q) (sem Γ ir ρ)
def tcT (Γ : Gm) (C : FC) (W : WE) (ir : IE) : TT := fun σ H Q => ∃ A ρ, SE C A σ H ρ ∧ Post C A σ H W (fun b _ H' => (puE ir = true → Same H H') → Q b H') (semT Γ ir ρ)
section
variable {X : Cx} {Γ : Gm} {C : FC} {W : WE} {a b c e : Expr} {es : List Expr} {kws : List Keyword} {ia ib ic ie : IE} {irs jrs : List IE} {pos p : Pos} {cl : Nat → Addr} {k f n : Nat} {x : Str} {ps : List Str} {pats : List Nat}
theorem EJ.can (h : EJ X Γ C W e ie) : PE X e (tcE Γ C W ie) := ⟨fun pins s σ H Q I ⟨A, ρ, S, p⟩ => let ⟨t, pe, q⟩ := h.ex; pe.run pins s σ H Q I (q A σ H ρ Q S p)⟩
theorem TJ.can (h : TJ X Γ C W e ie) : PT X e (tcT Γ C W ie) := ⟨fun pins s σ H Q I ⟨A, ρ, S, p⟩ => let ⟨t, pe, q⟩ := h.ex; pe.run pins s σ H Q I (q A σ H ρ Q S p)⟩
theorem EJ.mk' {t : TE} (h : PE X e t) (q : ∀ A σ H ρ (Q : VK), SE C A σ H ρ → Post C A σ H W (GE C A H ie Q) (sem Γ ie ρ) → t σ H Q) : EJ X Γ C W e ie := ⟨t, h, q⟩

/-! ### calls -/
theorem semAr_len : ∀ {irs : List IE} {ρ ρ' : Env} {as : List Ar}, semAr Γ irs ρ = .ok as ρ' → as.length = irs.length
  | [], ρ, ρ', as, h => by rw [semAr] at h; cases h; rfl
  | i :: r, ρ, ρ', as, h => by
    by_cases hx : isOvar i = true
    · cases i with
      | ovar i =>
        rw [semAr] at h
        split at h
        · cases e2 : semAr Γ r ρ with
          | bad => rw [e2] at h; cases h
          | ex c ρ1 => rw [e2] at h; cases h
          | ok xs ρ2 =>
            rw [e2] at h
            cases h
            simp [semAr_len e2]
        · cases h
      | _ => cases hx
    · have hx : isOvar i = false := by simpa using hx
      rw [semAr_cons hx] at h
      cases e1 : sem Γ i ρ with
      | bad => rw [e1] at h; cases h
      | ex c ρ1 => rw [e1] at h; cases h
      | ok x ρ1 =>
        rw [e1] at h
        have h : ((semAr Γ r ρ1).bind fun xs ρ2 => Rs.ok (.v x :: xs) ρ2) = .ok as ρ' := h
        cases e2 : semAr Γ r ρ1 with
        | bad => rw [e2] at h; cases h
        | ex c ρ1 => rw [e2] at h; cases h
        | ok xs ρ2 =>
          rw [e2] at h
          cases h
          simp [semAr_len e2]
theorem semAr_noown : ∀ {irs : List IE} {ρ ρ' : Env} {as : List Ar}, (irs.all fun i => !isOvar i) = true → semAr Γ irs ρ = .ok as ρ' → owns as = []
  | [], ρ, ρ', as, _, h => by rw [semAr] at h; cases h; rfl
  | i :: r, ρ, ρ', as, hs, h => by
    rw [List.all_cons] at hs
    rw [semAr_cons (by simpa using and_l hs)] at h
    cases e1 : sem Γ i ρ with
    | bad => rw [e1] at h; cases h
    | ex c ρ1 => rw [e1] at h; cases h
    | ok x ρ1 =>
      rw [e1] at h
      have h : ((semAr Γ r ρ1).bind fun xs ρ2 => Rs.ok (.v x :: xs) ρ2) = .ok as ρ' := h
      cases e2 : semAr Γ r ρ1 with
      | bad => rw [e2] at h; cases h
      | ex c ρ1 => rw [e2] at h; cases h
      | ok xs ρ2 =>
        rw [e2] at h
        cases h
        show owns xs = []
        exact semAr_noown (irs := r) (and_r hs) e2
theorem noovar_of_stE : ∀ {irs : List IE}, irs.all stE = true → (irs.all fun i => !isOvar i) = true
  | [], _ => rfl
  | i :: r, h => by
    rw [List.all_cons] at h ⊢
    rw [isOvar_of (and_l h), noovar_of_stE (and_r h)]
    rfl
theorem layBack_nil : ∀ {as : List Ar} {ys : List AV} {ρ ρ' : Env}, owns as = [] → layBack as ys ρ = some ρ' → ρ' = ρ
  | [], [], ρ, ρ', _, h => by rw [layBack] at h; cases h; rfl
  | [], _ :: _, ρ, ρ', _, h => by rw [layBack] at h <;> first | cases h | simp
  | .v x :: r, [], ρ, ρ', _, h => by rw [layBack] at h <;> first | cases h | simp
  | .v x :: r, y :: ys, ρ, ρ', o, h => by rw [layBack] at h; exact layBack_nil (as := r) o h
  | .o i :: r, _, ρ, ρ', o, h => by rw [owns] at o; cases o
theorem callR_nil {fn : Fn} {as : List Ar} {ρ ρ' : Env} {r : AV} (o : owns as = []) (h : callR fn as ρ = .ok r ρ') : ρ' = ρ := by
  unfold callR at h
  split at h
  · split at h
    · split at h
      · split at h
        · rename_i e
          cases h
          exact layBack_nil o e
        · cases h
      · split at h <;> cases h
      · cases h
    · cases h
  · cases h
theorem Post.impE {α : Type} {A : Addr → Prop} {σ : St} {H : Hp} {G G' : α → Env → Hp → Prop} {r : Rs α} (h : Post C A σ H W G r) (f : ∀ a ρ', r = .ok a ρ' → ∀ H', Kp A H H' → SE C A σ H' ρ' → G a ρ' H' → G' a ρ' H') : Post C A σ H W G' r := by
  cases r with
  | ok a ρ' => exact fun H' k' S => f _ _ rfl _ k' S (h H' k' S)
  | ex c ρ' => exact h
  | bad => exact h
def semK (Γ : Gm) (f : Nat) (irs : List IE) (ρ : Env) : Rs AV := (semAr Γ irs ρ).bind fun as ρ1 => callR (Γ.fn f) as ρ1
/-- what a call's value is -/
def RetN (C : FC) (A : Addr → Prop) (σ : St) (irs : List IE) (Hs H' : Hp) (v : V) (r : AV) (ρ' : Env) : Prop := ∃ H0, Kp A Hs H0 ∧ RetOk C.K A H0 H' v r ∧ Live A H0 ∧ ((irs.all fun i => !isOvar i) = true → SE C A σ H0 ρ' ∧ Same H0 H')
/-- the transformer of a call -/
def tcC (Γ : Gm) (C : FC) (W : WE) (f : Nat) (irs : List IE) : TE := fun σ H Q => ∃ A ρ, SE C A σ H ρ ∧
  Post C A σ H W (fun r ρ' H' => ∀ v, ((puL irs && irs.all stE) = true → Same H H') → RetN C A σ irs H H' v r ρ' → Q v H') (semK Γ f irs ρ)
/-- after the arguments -/
theorem call_end (hK : X.K = C.K) {A : Addr → Prop} {σ : St} {H H2 : Hp} {ρ ρ1 : Env} {as : List Ar} {vs : List V} {Q : VK} (hl : vs.length = ps.length) (e1 : semAr Γ irs ρ = .ok as ρ1) (S : SE C A σ H2 ρ1) (ha : Paired (ArV σ C.K A H2) vs as)
    (sm : puL irs = true → Same H H2) (kk : Kp A H H2)
    (h : Post C A σ H2 W (fun r ρ' H' => ∀ v, ((puL irs && irs.all stE) = true → Same H H') → RetN C A σ irs H H' v r ρ' → Q v H') (callR (Γ.fn f) as ρ1)) : SpM X.K cl ps.length (Γ.fn f) vs H2 Q (L2.WE (wx cl W) σ) := by
  refine call_post (pu := irs.all fun i => !isOvar i) (H0 := H2) hK hl S ha (fun _ => Same.refl _) (fun z => semAr_noown z e1) (h.impE fun r ρ' e2 H' k S' g v sm2 ro => ?_)
  refine g v (fun z => (sm (and_l z)).trans (sm2 (noovar_of_stE (and_r z)))) ⟨H2, kk, ro, S.live, fun z => ⟨?_, sm2 z⟩⟩
  rw [callR_nil (semAr_noown z e1) e2]
  exact S
theorem pe_call (hK : X.K = C.K) (hr : Room k X.A) (tk : Takes X (wx cl W)) (hg : Gl X x) (F : FnF X cl k (Γ.fn f) x ps pats) (hn : n ∈ pats) (ha : CJ X Γ C W (e :: es) irs) (hkw : KJ X Γ C W kws jrs)
    (hall : kws.all (·.arg.isSome) = true) (hks : kws.filterMap (·.arg) = ps.drop n) (hl1 : irs.length = n) (hl2 : (irs ++ jrs).length = ps.length) (hns : (e :: es).all notStar = true) (hdb : (x == ("__debug__" : Str)) = false) :
    PE X (.Call (.Name x p) (e :: es) kws pos) (tcC Γ C W f (irs ++ jrs)) := by
  obtain ⟨a, fd, hm, hk, Fn, hb⟩ := F.ex
  obtain ⟨ta, pa, qa⟩ := ha.ex
  obtain ⟨tb, pb, qb⟩ := hkw.ex
  rw [List.all_cons] at hns
  refine ⟨fun pins s σ H Q I ⟨A, ρ, S, h⟩ => (pe_callG Fn hr hg hm hk (hb n hn) (fun σ => passAt tk σ) pa pb hall hks (and_l hns) (and_r hns) hdb).run pins s σ H Q I ?_⟩
  unfold semK at h
  rw [semAr_app] at h
  refine qa A σ H ρ _ S (Post.bindE (by rw [Rs.bind_bind] at h; exact h) fun as ρ1 e1 H1 k1 S1 h vs s1 o1 => ?_)
  refine qb A σ H1 ρ1 _ S1 (Post.bindE (by rw [Rs.bind_bind] at h; exact h) fun bs ρ2 e2 H2 k2 S2 h zs s2 o2 => ?_)
  have l1 : vs.length = irs.length := (Paired.length o1).trans (semAr_len e1)
  have l2 : zs.length = jrs.length := (Paired.length o2).trans (semAr_len e2)
  refine ⟨l1.trans hl1, call_end (ρ := ρ) (ρ1 := ρ2) (as := as ++ bs) hK (by rw [← hl2, List.length_append, List.length_append, l1, l2]) ?_ S2 (Paired.app (ArV.all k2 o1) o2) (fun z => ?_) (k1.trans k2) h⟩
  · rw [semAr_app, e1]
    show ((semAr Γ jrs ρ1).bind _) = _
    rw [e2]
    rfl
  · have hp : ∀ xs ys : List IE, puL (xs ++ ys) = (puL xs && puL ys) := fun xs ys => by
      induction xs with
      | nil => simp [puL]
      | cons a r ih => simp only [List.cons_append, puL, ih, Bool.and_assoc]
    rw [hp] at z
    exact (s1 (and_l z)).trans (s2 (and_r z))
theorem pe_call0 (hK : X.K = C.K) (hr : Room k X.A) (tk : Takes X (wx cl W)) (hg : Gl X x) (F : FnF X cl k (Γ.fn f) x ps pats) (hn : 0 ∈ pats) (hkw : KJ X Γ C W kws jrs)
    (hall : kws.all (·.arg.isSome) = true) (hks : kws.filterMap (·.arg) = ps) (hl2 : jrs.length = ps.length) (hdb : (x == ("__debug__" : Str)) = false) :
    PE X (.Call (.Name x p) [] kws pos) (tcC Γ C W f jrs) := by
  obtain ⟨a, fd, hm, hk, Fn, hb⟩ := F.ex
  obtain ⟨tb, pb, qb⟩ := hkw.ex
  refine ⟨fun pins s σ H Q I ⟨A, ρ, S, h⟩ => (pe_callG0 Fn hr hg hm hk (hb 0 hn) (fun σ => passAt tk σ) pb hall hks hdb).run pins s σ H Q I ?_⟩
  unfold semK at h
  refine qb A σ H ρ _ S (Post.bindE h fun bs ρ2 e2 H2 k2 S2 h zs s2 o2 => ?_)
  have l2 : zs.length = jrs.length := (Paired.length o2).trans (semAr_len e2)
  exact call_end (ρ := ρ) hK (l2.trans hl2) e2 S2 o2 s2 k2 h
/-- as data -/
theorem ej_call (h : PE X e (tcC Γ C W f irs)) : EJ X Γ C W e (.call f irs) := by
  refine ⟨_, h, fun A σ H ρ Q S h => ⟨A, ρ, S, ?_⟩⟩
  rw [sem] at h
  unfold semK
  refine Post.bind (f := fun r ρ2 => Rs.of r.data ρ2) (by rw [Rs.bind_bind]; exact h) fun r ρ1 H1 k1 S1 h v s1 ⟨H0, _, ro, lv, _⟩ => ?_
  obtain ⟨d, e1, h⟩ := Post.of h
  exact h H1 Kp.refl S1 v (fun z => s1 (by rw [puE] at z; exact z)) (vok (ro.data lv e1))
end
end F3
end
section
namespace PySem
open Sem (wp)
open AutoSeq1 (wpAny_loadPart')
theorem f3_meets_enum_tup (t : Addr) (items : Array Value) :
    Meets (Builtin.«enumerate.__new__» ⟨[.type "enumerate", .ref t], []⟩) (fun _ R s => s.heap.IsTuple t items ∧
      R (.ok (.ret (.ref (s.heap.push { cls := .type "tuple_iterator", data := .fields #[.ref t, .int 0 0] }).objs.size)))
        { s with heap := (s.heap.push { cls := .type "tuple_iterator", data := .fields #[.ref t, .int 0 0] }).push { cls := .type "enumerate", data := .fields #[.none, .bool false, .ref s.heap.objs.size, rawInt 0, .none, .none] } }) :=
  .of_wp fun prog w A R s h => by
    obtain ⟨hp, g, d, tk, os⟩ := s; obtain ⟨h1, h⟩ := h
    have hsub := sub_enumerate
    have q1 : ∀ {A' : Around} {E : Value → Shared → Prop} {Q : Value → Shared → Prop}, Q (.ref hp.objs.size) ⟨hp.push { cls := .type "tuple_iterator", data := .fields #[.ref t, .int 0 0] }, g, d, tk, os⟩ → wpAny (model prog w) A' (pyIter (.ref t)) Q E ⟨hp, g, d, tk, os⟩ :=
      fun q => (begins_tuple t items).iter prog w _ _ ⟨hp, g, d, tk, os⟩ _ h1 q
    wp_walk using q1
    refine wpAny_stack_any fun st => wpAny_pure ?_
    split
    · rename_i c _ _ _ _ _
      cases (c == Value.type "enumerate")
      · wp_walk using q1
        exact ⟨_, rfl, h⟩
      · wp_walk using q1
        exact ⟨_, rfl, h⟩
    · wp_walk using q1
      exact ⟨_, rfl, h⟩
theorem f3_call_enum_tup {prog : Program} {w : World} {A : Around} {E : Value → Shared → Prop} {s : Shared} {t : Addr} {items : Array Value} {Q : Value → Shared → Prop} (hL : s.heap.IsTuple t items)
    (h : ∀ h', IsEnum h' (s.heap.objs.size + 1) s.heap.objs.size 0 .none → h'.IsTupleIter s.heap.objs.size t 0 → h'.objs.size = s.heap.objs.size + 2 →
      (∀ b o, s.heap.get? b = some o → h'.get? b = some o) → Q (.ref (s.heap.objs.size + 1)) { s with heap := h' }) :
    wpAny (model prog w) A (call (.type "enumerate") [.ref t]) Q E s := by
  refine callType_new F.called_enumerate (by decide) (F.typeCall_enumerate_1 _) (F.newCall_enumerate_1 _) (fun obj => F.args_object_init_2 obj _) F.entry_enumerate_new
    (f3_meets_enum_tup t items) ⟨hL, ?_⟩
  have hz : (s.heap.push { cls := .type "tuple_iterator", data := .fields #[.ref t, .int 0 0] }).objs.size = s.heap.objs.size + 1 := Heap.size_push ..
  show _ ∧ _
  rw [hz]
  have he : IsEnum ((s.heap.push { cls := .type "tuple_iterator", data := .fields #[.ref t, .int 0 0] }).push
      { cls := .type "enumerate", data := .fields #[.none, .bool false, .ref s.heap.objs.size, rawInt 0, .none, .none] }) (s.heap.objs.size + 1) s.heap.objs.size 0 .none := by
    have := Heap.get?_push_size (s.heap.push { cls := .type "tuple_iterator", data := .fields #[.ref t, .int 0 0] })
      (o := { cls := .type "enumerate", data := .fields #[.none, .bool false, .ref s.heap.objs.size, rawInt 0, .none, .none] }) rfl
    rw [hz] at this; exact this
  refine ⟨⟨_, he, rfl⟩, h _ he ⟨_, Heap.get?_push_of_some _ (Heap.get?_push_size _ rfl), rfl, rfl⟩ (by rw [Heap.size_push, hz]) fun b o x => Heap.get?_push_of_some _ (Heap.get?_push_of_some _ x)⟩
end PySem
namespace F3
open PySem PySem.Spec L2

/-! ### enumerate over a tuple -/
def IteT (K : PySem.W.Frag) (a : Addr) : It :=
  ⟨fun i H => ∃ (xs : List V) (x : V), SqT K H a xs ∧ xs[i]? = some x, fun i H v H' => ∃ T x, v = .ref T ∧ H T = none ∧ H' = upd H T (.tup [.int (i : Nat), x]) ∧ ∀ xs, SqT K H a xs → xs[i]? = some x, fun i H => ∃ xs : List V, SqT K H a xs ∧ xs.length ≤ i⟩
theorem turn_enumT {P : Program} {w : World} {K : PySem.W.Frag} {elts : List Expr} {kk : Nat} {tpos : Pos} (a e it : Addr) (hat : a ≠ it) (hae : a ≠ e) :
    Turn P w K (.Tuple elts kk tpos) (IteT K a) [e, it] e (fun i h => (∃ old, IsEnum h e it ((i : Nat) : Int) old) ∧ h.IsTupleIter it a i ∧ e ≠ it) where
  mem := by simp
  obj := fun i h st b hb => by
    obtain ⟨⟨old, he⟩, ⟨o, ho, hc, hd⟩, _⟩ := st
    have e' : b = e ∨ b = it := by simpa using hb
    rcases e' with z | z
    · rw [z]; exact ⟨_, he, fun v q => nomatch q⟩
    · rw [z]; exact ⟨o, ho, fun v q => by rw [hd] at q; cases q⟩
  keep := fun i h h' st k => let ⟨⟨old, he⟩, hi, hne⟩ := st; ⟨⟨old, k e (by simp) _ he⟩, hi.at fun o q => k it (by simp) o q, hne⟩
  item := by
    intro X hP hw hK hc i pins s σ H E I hf st hg
    subst hP hw hK
    obtain ⟨⟨old, he⟩, hit, hne⟩ := st
    obtain ⟨xs, x, hq, hx⟩ := hg
    obtain ⟨its, rv, p, hz⟩ := I.tuple hq
    obtain ⟨u, hu, ru⟩ := rv.get hx
    have hel : e < s.heap.objs.size := Heap.lt_size he
    have hil : it < s.heap.objs.size := by obtain ⟨_, q, _⟩ := hit; exact Heap.lt_size q
    have hu' : its.toArray[i]? = some u := by simpa using hu
    have hlt : i < its.toArray.size := (Array.getElem?_eq_some_iff.mp hu').1
    have D := Draws.tuple (prog := X.prog) (w := X.w) (A := X.A.in1) (by exact I.ok.hd hc) it a hat its.toArray
    refine wpAny_pyNext_enum_itemD D he ⟨hit, p⟩ hlt hne (by simp [hne, Ne.symm hae]) fun x' h' tk hx' ho hit' hT hsz hk => ?_
    rw [hu'] at hx'
    cases hx'
    refine ⟨_, rfl, wpAny_letOwnedTupleGo_enum (s := { s with heap := h', toks := tk + 1 }) ho fun h'' he' sb => ?_⟩
    have hT2 : h''.get? s.heap.objs.size = some { cls := .type "tuple", data := .seq #[.int i tk, u] } := (sb.2 _ (Nat.ne_of_gt hel)).trans hT
    have new : ObjOk X.prog X.w (upd H s.heap.objs.size (.tup [.int (i : Nat), x])) h'' s.heap.objs.size (.tup [.int (i : Nat), x]) :=
      ⟨by show 2 ≤ sizeLine; decide, [.int i tk, u], .cons ⟨_, rfl⟩ (.cons ru .nil), ⟨_, hT2, rfl, _, rfl⟩⟩
    have I1 : Inv X pins σ (upd H s.heap.objs.size (.tup [.int (i : Nat), x])) { s with heap := h'', toks := tk + 1 } :=
      I.turnedNew (ch := [e, it]) (fun b ob hb q => (sb.2 b (fun z => hb (by simp [z]))).trans (hk b ob (fun z => hb (by simp [z])) (fun z => hb (by simp [z])) q)) hf (Nat.le_refl _) new
    refine ⟨.ref s.heap.objs.size, _, I1, rfl, ⟨_, x, rfl, I.hok.fresh (Nat.le_refl _), rfl, fun ys hy => by rw [I.tuple_inj hy hq]; exact hx⟩, ⟨⟨u, ?_⟩, hit'.1.at fun o q => (sb.2 it (Ne.symm hne)).trans q, hne⟩, fun b hb => ?_⟩
    · have e1 : ((i + 1 : Nat) : Int) = (i : Int) + 1 := by omega
      rw [e1]; exact he'
    · have hb' : b < s.heap.objs.size := by
        have e' : b = e ∨ b = it := by simpa using hb
        rcases e' with z | z
        · rw [z]; exact hel
        · rw [z]; exact hil
      rw [upd_ne (Nat.ne_of_lt hb')]
      exact (hf b hb).1
  done := by
    intro X hP hw hK hc i pins s σ H E I hf st hg
    subst hP hw hK
    obtain ⟨⟨old, he⟩, hit, hne⟩ := st
    obtain ⟨xs, hq, hx⟩ := hg
    obtain ⟨its, rv, p, hz⟩ := I.tuple hq
    obtain ⟨f0, f1, f2, f3, f4, f5⟩ := hf it (by simp)
    have hl := rv.length
    have hx' : its.toArray[i]? = none := by simp; omega
    have hT : s.TypeIs (.ref e) "enumerate" := ⟨_, he, rfl⟩
    have fin : ∀ h', Heap.ExtBut it s.heap h' → (none : Option Value) = none ∧ Inv X pins σ H { s with heap := h' } := fun h' eb => ⟨rfl, I.turned (t' := s.toks) (fun b o hb q => eb b o hb q) f0 f1 f3 f4 f5⟩
    unfold pyNext
    refine wpAny_bind (wpAny_attempt (wpAny_callSpecial?_slot (name := Str.ofString "__next__") hT F.slot_enumerate_next
      (wpAny_call_entry F.slot_enumerate_next hT F.entry_enumerate_next ?_ (F.args_enumerate_next_1 _))))
    show wpAny _ _ (field (.ref e) 2 >>= _) _ _ _
    refine wpAny_bind (wpAny_field he rfl (x := .ref it) rfl ?_)
    refine wpAny_bind (wpAny_nextOf_tuple_end (by exact I.ok.hd hc) hit p hx' fun h' x he' hx' => ?_)
    obtain ⟨o, ho, hc⟩ := hx'
    refine wpAny_bind (wpAny_isInstance (T := "StopIteration") (b := true) ⟨o, ho, hc⟩ isSubtype_stop ?_)
    exact wpAny_pure (fin _ he')
  self := fun A i s Q E st h => let ⟨⟨_, he⟩, _⟩ := st; wpAny_pyIter_enum he h
def iEnumA (K : PySem.W.Frag) (ta : TA) : TI := fun σ H R => ta σ H fun vs H1 => ∃ a xs, vs = [.ref a] ∧ ((SqL K H1 a xs ∧ R (Ite K a) H1) ∨ (SqT K H1 a xs ∧ R (IteT K a) H1))
theorem pi_enumA {X : Cx} {e : Expr} {ta : TA} {p pos tpos : Pos} {elts : List Expr} {kk : Nat} (hg : Gl X "enumerate") (hm : X.mg "enumerate" = none) (ha : PA X [e] ta) (hs : starEach [e] X.env = [(false, eval e X.env)]) :
    PI X (.Tuple elts kk tpos) (.Call (.Name "enumerate" p) [e] [] pos) (iEnumA X.K ta) := by
  refine ⟨fun pins s σ H R I h => ?_⟩
  refine PyProof.Rows.Call_ (ld_blt I hg hm PyProof.Rows.boot_enumerate (PyProof.Rows.callWith_type1 (thn (ha.run pos pins s σ H _ I h) fun us s1 ⟨vs, H1, I1, r1, q1⟩ => ?_) hs rfl))
  obtain ⟨a, xs, ex, q1⟩ := q1
  subst ex
  cases r1 with
  | cons r rr =>
    cases rr
    cases r
    have fr : ∀ b ∈ [s1.heap.objs.size + 1, s1.heap.objs.size], FpOk X pins H1 b := fun b hb => by
      have e' : b = s1.heap.objs.size + 1 ∨ b = s1.heap.objs.size := by simpa using hb
      have hle : s1.heap.objs.size ≤ b := by
        rcases e' with z | z
        · rw [z]; exact Nat.le_add_right _ _
        · rw [z]; exact Nat.le_refl _
      exact I1.fpOk hle (I1.hok.fresh hle)
    rcases q1 with ⟨hq, q⟩ | ⟨hq, q⟩
    · obtain ⟨its, rv, p', hz⟩ := I1.list hq
      refine call_enumerate_list p'.isList fun h' he hit hsz hk => wpAny_pyIter_enum he ?_
      have I2 : Inv X pins σ H1 { s1 with heap := h' } := I1.kept (t' := s1.toks) hk
      exact ⟨s1.heap.objs.size + 1, [s1.heap.objs.size + 1, s1.heap.objs.size], _, _, H1, rfl, I2, turn_enum a (s1.heap.objs.size + 1) s1.heap.objs.size, ⟨⟨.none, he⟩, hit, Nat.succ_ne_self _⟩, fr, q⟩
    · obtain ⟨its, rv, p', hz⟩ := I1.tuple hq
      obtain ⟨o, ho, _⟩ := id p'
      have la : a < s1.heap.objs.size := Heap.lt_size ho
      refine f3_call_enum_tup (show s1.heap.IsTuple a its.toArray from p') fun h' he hit hsz hk => wpAny_pyIter_enum he ?_
      have I2 : Inv X pins σ H1 { s1 with heap := h' } := I1.kept (t' := s1.toks) hk
      exact ⟨s1.heap.objs.size + 1, [s1.heap.objs.size + 1, s1.heap.objs.size], _, _, H1, rfl, I2, turn_enumT a (s1.heap.objs.size + 1) s1.heap.objs.size (Nat.ne_of_lt la) (Nat.ne_of_lt (Nat.lt_succ_of_lt la)), ⟨⟨.none, he⟩, hit, Nat.succ_ne_self _⟩, fr, q⟩
/-- a list or a tuple -/
def iSeq (K : PySem.W.Frag) (tl : TE) : TI := fun σ H R => tl σ H fun x H1 => ∃ a, x = .ref a ∧ ((∃ xs, SqL K H1 a xs ∧ R (Itl K a) H1) ∨ (∃ xs, SqT K H1 a xs ∧ R (Itt K a) H1))
theorem pi_seq {X : Cx} {tg l : Expr} {tl : TE} (hl : PE X l tl) : PI X tg l (iSeq X.K tl) := by
  refine ⟨fun pins s σ H R I h => ?_⟩
  refine thn (hl.run pins s σ H _ I h) fun v s1 ⟨x, H1, I1, r1, q1⟩ => ?_
  obtain ⟨a, e, q1⟩ := q1
  subst e
  cases r1
  rcases q1 with ⟨xs, hq, q⟩ | ⟨xs, hq, q⟩
  · obtain ⟨its, rv, p, hz⟩ := I1.list hq
    refine wpAny_pyIter_list p.isList ?_
    refine ⟨s1.heap.objs.size, [s1.heap.objs.size], _, _, H1, rfl, I1.kept (t' := s1.toks) fun b o e => Heap.get?_push_of_some _ e, turn_list a _, ⟨_, Heap.get?_push_size _ rfl, rfl, rfl⟩, fun b hb => ?_, q⟩
    have e : b = s1.heap.objs.size := by simpa using hb
    subst e
    exact I1.fpOk (Nat.le_refl _) (I1.hok.fresh (Nat.le_refl _))
  · obtain ⟨its, rv, p, hz⟩ := I1.tuple hq
    refine wpAny_pyIter_tuple (show s1.heap.IsTuple a its.toArray from p) ?_
    refine ⟨s1.heap.objs.size, [s1.heap.objs.size], _, _, H1, rfl, I1.kept (t' := s1.toks) fun b o e => Heap.get?_push_of_some _ e, turn_tuple a _, ⟨_, Heap.get?_push_size _ rfl, rfl, rfl⟩, fun b hb => ?_, q⟩
    have e : b = s1.heap.objs.size := by simpa using hb
    subst e
    exact I1.fpOk (Nat.le_refl _) (I1.hok.fresh (Nat.le_refl _))

/-! ### what stays true later -/
structure Gr (A : Addr → Prop) (H : Hp) (A' : Addr → Prop) (H' : Hp) : Prop where
  kp : Kp A H H'
  new : ∀ a, A' a → A a ∨ H a = none
section
variable {K : PySem.W.Frag} {A A1 A2 : Addr → Prop} {H H1 H2 : Hp} {v : V} {d : PyData} {vs : List V} {ds : List PyData} {a : Addr}
theorem Gr.refl : Gr A H A H := ⟨Kp.refl, fun _ h => .inl h⟩
theorem Gr.of_kp (k : Kp A H H1) : Gr A H A H1 := ⟨k, fun _ h => .inl h⟩
theorem Gr.trans (g : Gr A H A1 H1) (g' : Gr A1 H1 A2 H2) : Gr A H A2 H2 := by
  have nn : ∀ a o, ¬ A a → H a = some o → ¬ A1 a := fun a o n e z => (g.new a z).elim n fun q => by rw [e] at q; cases q
  refine ⟨⟨fun a o n e => g'.kp.keep a o (nn a o n e) (g.kp.keep a o n e), fun a xs e => g'.kp.tup a xs (g.kp.tup a xs e), fun a o u e => g'.kp.frz a o u (g.kp.frz a o u e)⟩, fun a h => ?_⟩
  rcases g'.new a h with z | z
  · exact g.new a z
  · by_cases q : A a
    · exact .inl q
    · refine .inr ?_
      cases e : H a with
      | none => rfl
      | some o => rw [g.kp.keep a o q e] at z; cases z
mutual
theorem Dq.gr (g : Gr A H A1 H1) : ∀ (d : PyData) (v : V), Dq K A H v d → Dq K A1 H1 v d
  | .none, _, q => by cases q; exact .non
  | .bool b, _, q => by cases q; exact .bl _
  | .int b, _, q => by cases q; exact .int _
  | .str b, _, q => by cases q with | str _ z => exact .str _ z
  | .list ds, _, q => by
    cases q with
    | kl r t => exact .kl r (DqA.gr g ds _ t)
    | lst n r t =>
      refine .lst (fun z => ?_) (g.kp.rdL n r) (DqA.gr g ds _ t)
      rcases g.new _ z with z | z
      · exact n z
      · rcases r with r | ⟨o, r⟩
        · rw [z] at r; cases r
        · rw [z] at r; cases r
  | .tuple ds, _, q => by
    cases q with
    | tup r t => exact .tup (g.kp.sqT r) (DqA.gr g ds _ t)
  | .dict _, _, q => by cases q
theorem DqA.gr (g : Gr A H A1 H1) : ∀ (ds : List PyData) (vs : List V), DqA K A H vs ds → DqA K A1 H1 vs ds
  | [], _, q => by cases q; exact .nil
  | d :: ds, _, q => by
    cases q with
    | cons q1 q2 => exact .cons (Dq.gr g d _ q1) (DqA.gr g ds _ q2)
end
/-- the heap goes on as it is -/
theorem Gr.same (g : Gr A H A1 H1) (s : Same H1 H2) : Gr A H A1 H2 := ⟨g.kp.trans (.of_same s), g.new⟩
end
end F3
end
section
namespace F3
open PySem PySem.Spec L2

/-! ### what is gone through -/
def stI : II → Bool
  | .seq e => stE e
  | .rng1 _ => true
  | .rng2 _ _ => true
  | .enum e => stE e
  | .zip a b => stE a && stE b
def GW (A : Addr → Prop) (H : Hp) (s : Bool) : Hp → Prop := fun H2 => (∃ A2, Gr A H A2 H2) ∧ (s = false → Same H H2)
def YW (K : PySem.W.Frag) (A : Addr → Prop) (H : Hp) (ds : List PyData) : Nat → Hp → V → Hp → Prop := fun i H2 x H3 => Same H2 H3 ∧ ∀ A2, Gr A H A2 H2 → ∃ d, ds[i]? = some d ∧ Dq K A2 H3 x d
structure IJ (X : Cx) (Γ : Gm) (C : FC) (W : WE) (tg iter : Expr) (ii : II) : Prop where
  ex : ∃ wi, PI X tg iter wi ∧ ∀ A σ H ρ (R : It → Hp → Prop), SE C A σ H ρ →
    Post C A σ H W (fun ds _ H1 => ∀ J, (puI ii = true → Same H H1) → L2.Walk J ds.length (GW A H1 (stI ii)) (YW C.K A H1 ds) → R J H1) (semI Γ ii ρ) → wi σ H R
  fs : ∀ x, foldedSetIterable iter X.env x = pure x
def notSet : Expr → Bool
  | .Set _ _ _ => false
  | _ => true
theorem folded_of {e : Expr} {env : PySem.Env} (h : notSet e = true) (x : Value) : foldedSetIterable e env x = pure x := by
  cases e <;> first | rfl | cases h
section
variable {K : PySem.W.Frag} {A A2 : Addr → Prop} {H H2 : Hp} {s : Bool} {v w : V} {d : PyData} {ds es : List PyData} {xs ys : List V} {a b : Addr}
/-- the list as it stands later -/
theorem sq_later (o : VOk s K A H v (.list ds)) : ∃ a xs, v = .ref a ∧ SqL K H a xs ∧ DqA K A H xs ds ∧ ∀ H2, GW A H s H2 → SqL K H2 a xs := by
  cases s with
  | true =>
    have q := o.2 rfl
    cases q with
    | kl r t => exact ⟨_, _, rfl, r.sql, t, fun H2 g => r.sql⟩
    | lst n r t =>
      refine ⟨_, _, rfl, .inl r, t, fun H2 g => ?_⟩
      obtain ⟨⟨A2, g⟩, _⟩ := g
      exact .inl (g.kp.rdL n r)
  | false =>
    obtain ⟨a, xs, e, r, t⟩ := o.1.list
    refine ⟨a, xs, e, r.sql, t, fun H2 g => ?_⟩
    rcases r with (r | ⟨o, r⟩) | r
    · exact .inl (.inl (g.2 rfl _ _ r))
    · exact .inl (.inr ⟨o, g.2 rfl _ _ r⟩)
    · exact r.sql
theorem sqT_later (o : VOk s K A H v (.tuple ds)) : ∃ a xs, v = .ref a ∧ SqT K H a xs ∧ DqA K A H xs ds ∧ ∀ H2, GW A H s H2 → SqT K H2 a xs := by
  obtain ⟨a, xs, e, r, t⟩ := o.1.tuple
  exact ⟨a, xs, e, r, t, fun H2 ⟨⟨A2, g⟩, _⟩ => g.kp.sqT r⟩
theorem GW.mono {s t : Bool} (h : GW A H (s && t) H2) : GW A H s H2 ∧ GW A H t H2 := ⟨⟨h.1, fun z => h.2 (by rw [z]; rfl)⟩, ⟨h.1, fun z => h.2 (by rw [z]; simp)⟩⟩
/-- the i-th item of a list later -/
theorem item_later (t : DqA K A H xs ds) (g : Gr A H A2 H2) {i : Nat} {x : V} (e : xs[i]? = some x) : ∃ d, ds[i]? = some d ∧ Dq K A2 H2 x d := (DqA.gr g ds xs t).getV e
theorem yat_yw (t : DqA K A H xs ds) {i : Nat} {x : V} {H3 : Hp} (y : YAt xs i H2 x H3) : YW K A H ds i H2 x H3 := by
  obtain ⟨rfl, e⟩ := y
  exact ⟨Same.refl _, fun A2 g => item_later t g e⟩
theorem enumD_length : ∀ (ds : List PyData) (n : Nat), (enumD ds n).length = ds.length
  | [], _ => rfl
  | d :: r, n => by simp [enumD, enumD_length r]
theorem enumD_get : ∀ (ds : List PyData) (n i : Nat) (d : PyData), ds[i]? = some d → (enumD ds n)[i]? = some (.tuple [.int ((n + i : Nat) : Int), d])
  | [], _, _, _, h => by simp at h
  | x :: r, n, 0, d, h => by simp at h; subst h; simp [enumD]
  | x :: r, n, i + 1, d, h => by
    have := enumD_get r (n + 1) i d (by simpa using h)
    simp only [enumD, List.getElem?_cons_succ, this]
    congr 4
    omega
theorem zipD_length : ∀ (xs ys : List PyData), (zipD xs ys).length = min xs.length ys.length
  | [], _ => by simp [zipD]
  | _ :: _, [] => by simp [zipD]
  | x :: xs, y :: ys => by rw [zipD, List.length_cons, List.length_cons, List.length_cons, zipD_length xs ys]; omega
theorem zipD_get : ∀ (xs ys : List PyData) (i : Nat) (x y : PyData), xs[i]? = some x → ys[i]? = some y → (zipD xs ys)[i]? = some (.tuple [x, y])
  | [], _, _, _, _, h, _ => by simp at h
  | _ :: _, [], _, _, _, _, h => by simp at h
  | x :: xs, y :: ys, 0, _, _, h, h' => by simp at h h'; subst h h'; simp [zipD]
  | x :: xs, y :: ys, i + 1, a, b, h, h' => by simpa [zipD] using zipD_get xs ys i a b (by simpa using h) (by simpa using h')
theorem rngD_length : ∀ (n : Nat) (lo : Int), (rngD lo n).length = n
  | 0, _ => rfl
  | n + 1, lo => by simp [rngD, rngD_length n]
theorem rngD_get : ∀ (n : Nat) (lo : Int) (i : Nat), i < n → (rngD lo n)[i]? = some (.int (lo + i))
  | 0, _, _, h => by omega
  | n + 1, lo, 0, h => by simp [rngD]
  | n + 1, lo, i + 1, h => by
    have := rngD_get n (lo + 1) i (by omega)
    simp only [rngD, List.getElem?_cons_succ, this]
    congr 2
    omega
/-- a new pair -/
theorem pair_later {T : Addr} {x y : V} {d e : PyData} (nT : H T = none) (q1 : Dq K A H x d) (q2 : Dq K A H y e) : Dq K A (upd H T (.tup [x, y])) (.ref T) (.tuple [d, e]) := by
  have k : Kp A H (upd H T (.tup [x, y])) := Kp.laid nT
  refine .tup (xs := [x, y]) (.inl (.inl upd_same)) (.cons (q1.kp k) (.cons (q2.kp k) .nil))
theorem walk_enumL (o : VOk s K A H v (.list ds)) : ∃ a xs, v = .ref a ∧ SqL K H a xs ∧ L2.Walk (Ite K a) (enumD ds 0).length (GW A H s) (YW K A H (enumD ds 0)) := by
  obtain ⟨a, xs, e, q, t, lt⟩ := sq_later o
  refine ⟨a, xs, e, q, ⟨fun i H2 hi g => ?_, fun H2 g => ?_, fun i H2 x H3 hi g y => ?_⟩⟩
  · rw [enumD_length, ← t.length] at hi
    exact ⟨xs, xs[i], lt H2 g, by simp [hi]⟩
  · exact ⟨xs, lt H2 g, by rw [enumD_length, t.length]; exact Nat.le_refl _⟩
  · obtain ⟨T, x', rfl, nT, rfl, f⟩ := y
    refine ⟨Same.laid nT, fun A2 g2 => ?_⟩
    obtain ⟨d, e1, q1⟩ := item_later t g2 (f xs (lt H2 g))
    refine ⟨_, by have := enumD_get ds 0 i d e1; rw [Nat.zero_add] at this; exact this, pair_later nT (.int _) q1⟩
theorem walk_enumT (o : VOk s K A H v (.tuple ds)) : ∃ a xs, v = .ref a ∧ SqT K H a xs ∧ L2.Walk (IteT K a) (enumD ds 0).length (GW A H s) (YW K A H (enumD ds 0)) := by
  obtain ⟨a, xs, e, q, t, lt⟩ := sqT_later o
  refine ⟨a, xs, e, q, ⟨fun i H2 hi g => ?_, fun H2 g => ?_, fun i H2 x H3 hi g y => ?_⟩⟩
  · rw [enumD_length, ← t.length] at hi
    exact ⟨xs, xs[i], lt H2 g, by simp [hi]⟩
  · exact ⟨xs, lt H2 g, by rw [enumD_length, t.length]; exact Nat.le_refl _⟩
  · obtain ⟨T, x', rfl, nT, rfl, f⟩ := y
    refine ⟨Same.laid nT, fun A2 g2 => ?_⟩
    obtain ⟨d, e1, q1⟩ := item_later t g2 (f xs (lt H2 g))
    refine ⟨_, by have := enumD_get ds 0 i d e1; rw [Nat.zero_add] at this; exact this, pair_later nT (.int _) q1⟩
theorem walk_zipL {t : Bool} (o : VOk s K A H v (.list ds)) (o' : VOk t K A H w (.list es)) :
    ∃ a b xs ys, v = .ref a ∧ w = .ref b ∧ SqL K H a xs ∧ SqL K H b ys ∧ L2.Walk (Itz K a b) (zipD ds es).length (GW A H (s && t)) (YW K A H (zipD ds es)) := by
  obtain ⟨a, xs, e, q, t1, lt⟩ := sq_later o
  obtain ⟨b, ys, e', q', t2, lt'⟩ := sq_later o'
  refine ⟨a, b, xs, ys, e, e', q, q', ⟨fun i H2 hi g => ?_, fun H2 g => ?_, fun i H2 x H3 hi g y => ?_⟩⟩
  · rw [zipD_length, ← t1.length, ← t2.length] at hi
    have h1 : i < xs.length := by omega
    have h2 : i < ys.length := by omega
    exact ⟨xs, ys, xs[i], ys[i], lt H2 g.mono.1, lt' H2 g.mono.2, by simp [h1], by simp [h2]⟩
  · refine ⟨xs, ys, lt H2 g.mono.1, lt' H2 g.mono.2, ?_⟩
    rw [zipD_length, ← t1.length, ← t2.length]
    omega
  · obtain ⟨T, x', y', rfl, nT, rfl, f, f'⟩ := y
    refine ⟨Same.laid nT, fun A2 g2 => ?_⟩
    obtain ⟨d, e1, q1⟩ := item_later t1 g2 (f xs (lt H2 g.mono.1))
    obtain ⟨d', e2, q2⟩ := item_later t2 g2 (f' ys (lt' H2 g.mono.2))
    exact ⟨_, zipD_get ds es i d d' e1 e2, pair_later nT q1 q2⟩
theorem walk_zipT {t : Bool} (o : VOk s K A H v (.tuple ds)) (o' : VOk t K A H w (.tuple es)) :
    ∃ a b xs ys, v = .ref a ∧ w = .ref b ∧ SqT K H a xs ∧ SqT K H b ys ∧ L2.Walk (RZ.ItzT K a b) (zipD ds es).length (GW A H (s && t)) (YW K A H (zipD ds es)) := by
  obtain ⟨a, xs, e, q, t1, lt⟩ := sqT_later o
  obtain ⟨b, ys, e', q', t2, lt'⟩ := sqT_later o'
  refine ⟨a, b, xs, ys, e, e', q, q', ⟨fun i H2 hi g => ?_, fun H2 g => ?_, fun i H2 x H3 hi g y => ?_⟩⟩
  · rw [zipD_length, ← t1.length, ← t2.length] at hi
    have h1 : i < xs.length := by omega
    have h2 : i < ys.length := by omega
    exact ⟨xs, ys, xs[i], ys[i], lt H2 g.mono.1, lt' H2 g.mono.2, by simp [h1], by simp [h2]⟩
  · refine ⟨xs, ys, lt H2 g.mono.1, lt' H2 g.mono.2, ?_⟩
    rw [zipD_length, ← t1.length, ← t2.length]
    omega
  · obtain ⟨T, x', y', rfl, nT, rfl, f, f'⟩ := y
    refine ⟨Same.laid nT, fun A2 g2 => ?_⟩
    obtain ⟨d, e1, q1⟩ := item_later t1 g2 (f xs (lt H2 g.mono.1))
    obtain ⟨d', e2, q2⟩ := item_later t2 g2 (f' ys (lt' H2 g.mono.2))
    exact ⟨_, zipD_get ds es i d d' e1 e2, pair_later nT q1 q2⟩
theorem walk_rng {lo : Int} {n : Nat} : L2.Walk (Itr lo n) (rngD lo n).length (GW A H s) (YW K A H (rngD lo n)) := by
  refine ⟨fun i H2 hi g => ?_, fun H2 g => ?_, fun i H2 x H3 hi g y => ?_⟩
  · rw [rngD_length] at hi; exact hi
  · rw [rngD_length]; exact Nat.le_refl _
  · rw [rngD_length] at hi
    obtain ⟨rfl, rfl⟩ := y
    exact ⟨Same.refl _, fun A2 g2 => ⟨_, rngD_get n lo i hi, .int _⟩⟩
end

section
variable {X : Cx} {Γ : Gm} {C : FC} {W : WE} {a b c e tg : Expr} {es elts : List Expr} {ia ib ic ie : IE} {irs : List IE} {pos p tpos : Pos} {kk : Nat}
theorem VOk.kp {s : Bool} {K : PySem.W.Frag} {A : Addr → Prop} {H H1 : Hp} {v : V} {d : PyData} (h : VOk true K A H v d) (k : Kp A H H1) : VOk true K A H1 v d := vok ((h.2 rfl).kp k)
theorem ij_seq (hK : X.K = C.K) (ha : EJ X Γ C W a ia) (hs : notSet a = true) : IJ X Γ C W tg a (.seq ia) := by
  obtain ⟨ta, pa, qa⟩ := ha.ex
  refine ⟨⟨_, pi_seq pa, fun A σ H ρ R S h => ?_⟩, folded_of hs⟩
  rw [semI] at h
  rw [hK]
  refine qa A σ H ρ _ S (Post.bind h fun x ρ1 H1 k1 S1 h v s1 o1 => ?_)
  obtain ⟨ds, e1, h⟩ := Post.of h
  have h2 : ∀ J, L2.Walk J ds.length (GW A H1 (stE ia)) (YW C.K A H1 ds) → R J H1 := fun J => h H1 Kp.refl S1 J (fun z => by rw [puI] at z; exact s1 z)
  cases x with
  | list xs =>
    cases e1
    obtain ⟨a', ys, rfl, q, t, lt⟩ := sq_later o1
    refine ⟨a', rfl, .inl ⟨ys, q, h2 _ ?_⟩⟩
    exact Walk.mono (by rw [← t.length]; exact walk_list) lt fun i H2 x H3 hi g y => yat_yw t y
  | tuple xs =>
    cases e1
    obtain ⟨a', ys, rfl, q, t, lt⟩ := sqT_later o1
    refine ⟨a', rfl, .inr ⟨ys, q, h2 _ ?_⟩⟩
    exact Walk.mono (by rw [← t.length]; exact walk_tup) lt fun i H2 x H3 hi g y => yat_yw t y
  | _ => cases e1
theorem small62_iff {i : Int} (h : small62 i = true) : -(2 ^ 62) ≤ i ∧ i < 2 ^ 62 := by
  unfold small62 at h
  simpa using h
theorem ij_rng1 (hg : Gl X "range") (hm : X.mg "range" = none) (ha : EJ X Γ C W a ia) (hn : notStar a = true) : IJ X Γ C W tg (.Call (.Name "range" p) [a] [] pos) (.rng1 ia) := by
  obtain ⟨ta, pa, qa⟩ := ha.ex
  refine ⟨⟨_, pi_range1 hg hm (pa_cons pa pa_nil (star_cons hn)) (by rw [star_cons hn]; rfl), fun A σ H ρ R S h => ?_⟩, fun _ => rfl⟩
  rw [semI] at h
  refine qa A σ H ρ _ S (Post.bind h fun x ρ1 H1 k1 S1 h v s1 o1 => ?_)
  cases x with
  | int n =>
    have h : Post C A σ H1 W _ (if small62 n then Rs.ok (rngD 0 n.toNat) ρ1 else .bad) := h
    split at h
    · rename_i hn
      cases o1.1.int
      obtain ⟨q1, q2⟩ := small62_iff hn
      refine ⟨n, rfl, q1, q2, ?_⟩
      exact h H1 Kp.refl S1 _ (fun z => by rw [puI] at z; exact s1 z) walk_rng
    · exact h.elim
  | _ => exact h.elim
theorem ij_rng2 (hg : Gl X "range") (hm : X.mg "range" = none) (ha : EJ X Γ C W a ia) (hb : EJ X Γ C W b ib) (hs : (stE ia || puE ib) = true) (hn : notStar a = true) (hn2 : notStar b = true) : IJ X Γ C W tg (.Call (.Name "range" p) [a, b] [] pos) (.rng2 ia ib) := by
  obtain ⟨ta, pa, qa⟩ := ha.ex
  obtain ⟨tb, pb, qb⟩ := hb.ex
  refine ⟨⟨_, pi_range2 hg hm (pa_cons pa (pa_cons pb pa_nil (star_cons hn2)) (star_cons hn)) (by rw [star_cons hn, star_cons hn2]; rfl) (by rw [star_cons hn2]; rfl), fun A σ H ρ R S h => ?_⟩, fun _ => rfl⟩
  rw [semI] at h
  refine qa A σ H ρ _ S (Post.bind h fun x ρ1 H1 k1 S1 h v s1 o1 => ?_)
  refine qb A σ H1 ρ1 _ S1 (Post.bind h fun y ρ2 H2 k2 S2 h w s2 o2 => ?_)
  have o1' := (o1.later hs k2 s2)
  cases x with
  | int m =>
    cases y with
    | int n =>
      have h : Post C A σ H2 W _ (if small62 m && small62 n then Rs.ok (rngD m (n - m).toNat) ρ2 else .bad) := h
      split at h
      · rename_i hn
        cases o1'.int
        cases o2.1.int
        obtain ⟨q1, q2⟩ := small62_iff (and_l hn)
        obtain ⟨q3, q4⟩ := small62_iff (and_r hn)
        refine ⟨m, n, rfl, ⟨q1, q2, q3, q4⟩, ?_⟩
        exact h H2 Kp.refl S2 _ (fun z => by rw [puI] at z; exact (s1 (and_l z)).trans (s2 (and_r z))) walk_rng
      · exact h.elim
    | _ => exact h.elim
  | _ => exact h.elim
theorem ij_enum (hK : X.K = C.K) (hg : Gl X "enumerate") (hm : X.mg "enumerate" = none) (ha : EJ X Γ C W a ia) (hn : notStar a = true) : IJ X Γ C W (.Tuple elts kk tpos) (.Call (.Name "enumerate" p) [a] [] pos) (.enum ia) := by
  obtain ⟨ta, pa, qa⟩ := ha.ex
  refine ⟨⟨_, pi_enumA hg hm (pa_cons pa pa_nil (star_cons hn)) (by rw [star_cons hn]; rfl), fun A σ H ρ R S h => ?_⟩, fun _ => rfl⟩
  rw [semI] at h
  rw [hK]
  refine qa A σ H ρ _ S (Post.bind h fun x ρ1 H1 k1 S1 h v s1 o1 => ?_)
  obtain ⟨ds, e1, h⟩ := Post.of h
  have h2 : ∀ J, L2.Walk J ds.length (GW A H1 (stE ia)) (YW C.K A H1 ds) → R J H1 := fun J => h H1 Kp.refl S1 J (fun z => by rw [puI] at z; exact s1 z)
  cases x with
  | list xs =>
    cases e1
    obtain ⟨a', ys, rfl, q, w⟩ := walk_enumL o1
    exact ⟨a', ys, rfl, .inl ⟨q, h2 _ w⟩⟩
  | tuple xs =>
    cases e1
    obtain ⟨a', ys, rfl, q, w⟩ := walk_enumT o1
    exact ⟨a', ys, rfl, .inr ⟨q, h2 _ w⟩⟩
  | _ => cases e1
theorem VOk.stay {s p : Bool} {K : PySem.W.Frag} {A : Addr → Prop} {H1 H2 : Hp} {v : V} {d : PyData} (h : VOk s K A H1 v d) (hs : (s || p) = true) (k : Kp A H1 H2) (sm : p = true → Same H1 H2) : VOk s K A H2 v d := ⟨h.later hs k sm, fun z => (h.2 z).kp k⟩
theorem ij_zip (hK : X.K = C.K) (hg : Gl X "zip") (hm : X.mg "zip" = none) (ha : EJ X Γ C W a ia) (hb : EJ X Γ C W b ib) (hs : (stE ia || puE ib) = true) (hn : notStar a = true) (hn2 : notStar b = true) :
    IJ X Γ C W (.Tuple elts kk tpos) (.Call (.Name "zip" p) [a, b] [] pos) (.zip ia ib) := by
  obtain ⟨ta, pa, qa⟩ := ha.ex
  obtain ⟨tb, pb, qb⟩ := hb.ex
  refine ⟨⟨_, RZ.pi_zipA hg hm (pa_cons pa (pa_cons pb pa_nil (star_cons hn2)) (star_cons hn)) (star_cons hn) (by rw [star_cons hn2]; rfl), fun A σ H ρ R S h => ?_⟩, fun _ => rfl⟩
  rw [semI] at h
  rw [hK]
  refine qa A σ H ρ _ S (Post.bind h fun x ρ1 H1 k1 S1 h v s1 o1 => ?_)
  refine qb A σ H1 ρ1 _ S1 (Post.bind h fun y ρ2 H2 k2 S2 h w s2 o2 => ?_)
  have o1' := o1.stay hs k2 s2
  cases x with
  | list xs =>
    cases y with
    | list ys =>
      obtain ⟨a', b', us, ws, rfl, rfl, q1, q2, wk⟩ := walk_zipL o1' o2
      exact ⟨a', b', us, ws, rfl, .inl ⟨q1, q2, h H2 Kp.refl S2 _ (fun z => by rw [puI] at z; exact (s1 (and_l z)).trans (s2 (and_r z))) wk⟩⟩
    | _ => exact h.elim
  | tuple xs =>
    cases y with
    | tuple ys =>
      obtain ⟨a', b', us, ws, rfl, rfl, q1, q2, wk⟩ := walk_zipT o1' o2
      exact ⟨a', b', us, ws, rfl, .inr ⟨q1, q2, h H2 Kp.refl S2 _ (fun z => by rw [puI] at z; exact (s1 (and_l z)).trans (s2 (and_r z))) wk⟩⟩
    | _ => exact h.elim
  | _ => exact h.elim
end
end F3
end
section
namespace F3
open PySem PySem.Spec L2

/-! ### targets -/
mutual
def tgS : Tg → List Nat
  | .n i => [i]
  | .t ts => tgSs ts
def tgSs : List Tg → List Nat
  | [] => []
  | t :: ts => tgS t ++ tgSs ts
end
/-- the own parameters are marked -/
def ParOk (Γ : Gm) (C : FC) : Prop := ∀ i p, C.par i = some p → Γ.fix i = true
section
variable {Γ : Gm} {C : FC} {A : Addr → Prop} {σ : St} {H : Hp} {ρ : Env} {v : V} {d : PyData} {i : Nat}
theorem set_get {α : Type} {xs : List α} {i j : Nat} {x y : α} (h : (xs.set i x)[j]? = some y) : (j = i ∧ y = x) ∨ (j ≠ i ∧ xs[j]? = some y) := by
  by_cases e : j = i
  · subst e
    have hl : j < xs.length := by
      have := (List.getElem?_eq_some_iff.mp h).1
      simpa using this
    rw [List.getElem?_set_self hl] at h
    cases h
    exact .inl ⟨rfl, rfl⟩
  · rw [List.getElem?_set_ne (Ne.symm e)] at h
    exact .inr ⟨e, h⟩
/-- a slot set to data -/
theorem SE.setD (S : SE C A σ H ρ) (hi : i < ρ.length) (q : Dq C.K A H v d) (hp : C.par i = none) : SE C A (σ.set i (some v)) H (ρ.set i (some (.d d))) := by
  have hσ : i < σ.length := by rw [S.len]; exact hi
  refine ⟨by simp [S.len], fun j av e => ?_, fun j k av aw p n e1 e2 o1 o2 e3 e4 => ?_, S.live, S.keep, fun j av p e o e2 => ?_, fun j p e => ?_, S.sub⟩
  · rcases set_get e with ⟨rfl, e'⟩ | ⟨n, e⟩
    · cases e'
      exact ⟨v, List.getElem?_set_self hσ, q⟩
    · obtain ⟨w, e1, q1⟩ := S.at_ j av e
      exact ⟨w, by rw [List.getElem?_set_ne (Ne.symm n)]; exact e1, q1⟩
  · rcases set_get e1 with ⟨rfl, e'⟩ | ⟨n1, e1⟩
    · cases e'; cases o1
    · rcases set_get e2 with ⟨rfl, e'⟩ | ⟨n2, e2⟩
      · cases e'; cases o2
      · rw [List.getElem?_set_ne (Ne.symm n1)] at e3
        rw [List.getElem?_set_ne (Ne.symm n2)] at e4
        exact S.dis j k av aw p n e1 e2 o1 o2 e3 e4
  · rcases set_get e with ⟨rfl, e'⟩ | ⟨n, e⟩
    · cases e'; cases o
    · rw [List.getElem?_set_ne (Ne.symm n)] at e2
      exact S.prm j av p e o e2
  · have n : j ≠ i := fun z => by subst z; rw [hp] at e; cases e
    obtain ⟨e1, av, e2, o⟩ := S.par j p e
    exact ⟨by rw [List.getElem?_set_ne (Ne.symm n)]; exact e1, av, by rw [List.getElem?_set_ne (Ne.symm n)]; exact e2, o⟩
/-- a slot set to an object of one's own -/
theorem SE.setO {av : AV} {p : Addr} (S : SE C A σ H ρ) (hi : i < ρ.length) (q : AvOk C.K A H (.ref p) av) (o : av.own = true) (hp : C.par i = none) (hn : ∀ (j : Nat) (aw : AV), ρ[j]? = some (some aw) → aw.own = true → σ[j]? ≠ some (some (.ref p)))
    (hf : C.Fp p ∨ C.H0 p = none) : SE C A (σ.set i (some (.ref p))) H (ρ.set i (some av)) := by
  have hσ : i < σ.length := by rw [S.len]; exact hi
  refine ⟨by simp [S.len], fun j av e => ?_, fun j k av aw p n e1 e2 o1 o2 e3 e4 => ?_, S.live, S.keep, fun j av p e o e2 => ?_, fun j p e => ?_, S.sub⟩
  · rcases set_get e with ⟨rfl, e'⟩ | ⟨n, e⟩
    · cases e'
      exact ⟨_, List.getElem?_set_self hσ, q⟩
    · obtain ⟨w, e1, q1⟩ := S.at_ j av e
      exact ⟨w, by rw [List.getElem?_set_ne (Ne.symm n)]; exact e1, q1⟩
  · rcases set_get e1 with ⟨rfl, e1'⟩ | ⟨n1, f1⟩
    · rcases set_get e2 with ⟨rfl, e2'⟩ | ⟨n2, e2⟩
      · exact n rfl
      · rw [List.getElem?_set_self hσ] at e3
        cases e3
        rw [List.getElem?_set_ne (Ne.symm n2)] at e4
        exact hn k aw e2 o2 e4
    · rcases set_get e2 with ⟨rfl, e2'⟩ | ⟨n2, e2⟩
      · rw [List.getElem?_set_self hσ] at e4
        cases e4
        rw [List.getElem?_set_ne (Ne.symm n1)] at e3
        exact hn j av f1 o1 e3
      · rw [List.getElem?_set_ne (Ne.symm n1)] at e3
        rw [List.getElem?_set_ne (Ne.symm n2)] at e4
        exact S.dis j k av aw p n f1 e2 o1 o2 e3 e4
  · rcases set_get e with ⟨rfl, e'⟩ | ⟨n, e⟩
    · rw [List.getElem?_set_self hσ] at e2
      cases e2
      exact hf
    · rw [List.getElem?_set_ne (Ne.symm n)] at e2
      exact S.prm j av p e o e2
  · have n : j ≠ i := fun z => by subst z; rw [hp] at e; cases e
    obtain ⟨e1, av, e2, o⟩ := S.par j p e
    exact ⟨by rw [List.getElem?_set_ne (Ne.symm n)]; exact e1, av, by rw [List.getElem?_set_ne (Ne.symm n)]; exact e2, o⟩
theorem ParOk.none (h : ParOk Γ C) (e : Γ.fix i = false) : C.par i = none := by
  cases q : C.par i with
  | none => rfl
  | some p => rw [h i p q] at e; cases e
end

structure GJ (X : Cx) (Γ : Gm) (C : FC) (tg : Expr) (it : Tg) : Prop where
  ex : ∃ g, PG X tg g ∧ ∀ A σ H ρ v d ρ' (Q : St → Hp → Prop), SE C A σ H ρ → Dq C.K A H v d → assignT Γ it d ρ = some ρ' →
    (∀ σ', σ'.length = σ.length → (∀ i, i ∉ tgS it → σ'[i]? = σ[i]?) → SE C A σ' H ρ' → Q σ' H) → g v σ H Q
structure GsJ (X : Cx) (Γ : Gm) (C : FC) (tgs : List Expr) (its : List Tg) : Prop where
  ex : ∃ g, PGs X tgs g ∧ ∀ A σ H ρ vs ds ρ' (Q : St → Hp → Prop), SE C A σ H ρ → DqA C.K A H vs ds → assignTs Γ its ds ρ = some ρ' →
    (∀ σ', σ'.length = σ.length → (∀ i, i ∉ tgSs its → σ'[i]? = σ[i]?) → SE C A σ' H ρ' → Q σ' H) → g vs σ H Q
  len : (assignEach tgs X.env).length = its.length
  star : (assignEach tgs X.env).findIdx? (·.1) = none
section
variable {X : Cx} {Γ : Gm} {C : FC} {W : WE} {a b c e tg : Expr} {es elts : List Expr} {it : Tg} {its : List Tg} {pos p tpos : Pos} {kk : Nat}
theorem asg_cons {env : PySem.Env} (h : notStar e = true) : assignEach (e :: es) env = (false, assign e env) :: assignEach es env := by
  cases e <;> first | rfl | cases h
theorem gj_name {i : Nat} {x : Str} (P : ParOk Γ C) (hN : X.N.Nodup) (hi : X.N[i]? = some x) (hx : Loc X.env.scope x) (hf : X.fn x = true ∨ X.env.scope.names.lookup x = some .local) : GJ X Γ C (.Name x pos) (.n i) := by
  refine ⟨_, pg_name hN hi hx hf, fun A σ H ρ v d ρ' Q S q h g => ?_⟩
  rw [assignT] at h
  split at h
  · cases h
  · rename_i h1
    split at h
    · rename_i h2
      cases h
      exact g _ (by simp) (fun j hj => List.getElem?_set_ne (Ne.symm (by simpa [tgS] using hj))) (S.setD h2 q (P.none (by simpa using h1)))
    · cases h
theorem gsj_nil : GsJ X Γ C [] [] := by
  refine ⟨⟨_, pgs_nil, fun A σ H ρ vs ds ρ' Q S q h g => ?_⟩, rfl, rfl⟩
  cases q with
  | nil => rw [assignTs] at h; cases h; exact ⟨rfl, g σ rfl (fun _ _ => rfl) S⟩
  | cons _ _ => simp [assignTs] at h
theorem gsj_cons (h1 : GJ X Γ C e it) (h2 : GsJ X Γ C es its) (hn : notStar e = true) : GsJ X Γ C (e :: es) (it :: its) := by
  obtain ⟨g1, p1, q1⟩ := h1.ex
  obtain ⟨g2, p2, q2⟩ := h2.ex
  refine ⟨⟨_, pgs_cons p1 p2 (by rw [asg_cons hn]; rfl), fun A σ H ρ vs ds ρ' Q S q h g => ?_⟩, by rw [asg_cons hn, List.length_cons, List.length_cons, h2.len], by rw [asg_cons hn, List.findIdx?_cons, h2.star]; rfl⟩
  cases q with
  | nil => simp [assignTs] at h
  | cons r t =>
    rw [assignTs] at h
    rename_i v vs d ds
    cases e1 : assignT Γ it d ρ with
    | none => rw [e1] at h; cases h
    | some ρ1 =>
      rw [e1] at h
      have h : assignTs Γ its ds ρ1 = some ρ' := h
      refine ⟨v, vs, rfl, q1 A σ H ρ v d ρ1 _ S r e1 fun σ1 l1 k1 S1 => ?_⟩
      exact q2 A σ1 H ρ1 vs ds ρ' Q S1 t h fun σ2 l2 k2 S2 => g σ2 (l2.trans l1) (fun i hi => by
        rw [tgSs, List.mem_append] at hi
        exact (k2 i fun z => hi (.inr z)).trans (k1 i fun z => hi (.inl z))) S2
theorem PG.or {tg : Expr} {g1 g2 : TG} (h1 : PG X tg g1) (h2 : PG X tg g2) : PG X tg (fun v σ H Q => g1 v σ H Q ∨ g2 v σ H Q) :=
  ⟨fun pins s σ H v u Q I r h => h.elim (h1.run pins s σ H v u Q I r) (h2.run pins s σ H v u Q I r)⟩
theorem gj_tup (hK : X.K = C.K) (hc : X.calm = true) (h : GsJ X Γ C es its) : GJ X Γ C (.Tuple es kk pos) (.t its) := by
  obtain ⟨g, p, q⟩ := h.ex
  refine ⟨_, PG.or (pg_tup (n := its.length) hc p h.len h.star) (pg_lst (n := its.length) hc p h.len h.star), fun A σ H ρ v d ρ' Q S qd h g => ?_⟩
  have len : ∀ {its : List Tg} {ds : List PyData} {ρ ρ' : Env}, assignTs Γ its ds ρ = some ρ' → its.length = ds.length := fun {its} => by
    induction its with
    | nil => intro ds ρ ρ' h; cases ds with
      | nil => rfl
      | cons _ _ => simp [assignTs] at h
    | cons t ts ih => intro ds ρ ρ' h; cases ds with
      | nil => simp [assignTs] at h
      | cons d ds =>
        rw [assignTs] at h
        cases e1 : assignT Γ t d ρ with
        | none => rw [e1] at h; cases h
        | some ρ1 => rw [e1] at h; simp [ih (show assignTs Γ ts ds ρ1 = some ρ' from h)]
  cases qd with
  | tup r t =>
    rw [assignT] at h
    exact .inl ⟨_, _, rfl, hK ▸ r, t.length.trans (len h).symm, q A σ H ρ _ _ ρ' Q S t h fun σ1 l1 k1 S1 => g σ1 l1 (fun i hi => k1 i (by simpa [tgS] using hi)) S1⟩
  | kl r t =>
    rw [assignT] at h
    exact .inr ⟨_, _, rfl, hK ▸ r.sql, t.length.trans (len h).symm, q A σ H ρ _ _ ρ' Q S t h fun σ1 l1 k1 S1 => g σ1 l1 (fun i hi => k1 i (by simpa [tgS] using hi)) S1⟩
  | lst n r t =>
    rw [assignT] at h
    exact .inr ⟨_, _, rfl, .inl r, t.length.trans (len h).symm, q A σ H ρ _ _ ρ' Q S t h fun σ1 l1 k1 S1 => g σ1 l1 (fun i hi => k1 i (by simpa [tgS] using hi)) S1⟩
  | _ => simp [assignT] at h
end
end F3
end
section
namespace F3
open PySem PySem.Spec L2

/-! ### more own objects; the same slots later -/
section
variable {κ : Type} {K : PySem.W.Frag} {C C' : FC} {A A' : Addr → Prop} {σ σ' : St} {H H' : Hp} {ρ ρ' ρ2 : Env} {v : V} {av : AV} {p : Addr}
theorem DqK.gr {ws : List (κ × V)} {kvs : List (κ × PyData)} (g : Gr A H A' H') (q : DqK κ K A H ws kvs) : DqK κ K A' H' ws kvs := Paired.mapP q fun p r z => ⟨z.1, Dq.gr g _ _ z.2⟩
theorem AvOk.gr (q : AvOk K A H v av) (g : Gr A H A' H') (s : ∀ p, av.own = true → v = .ref p → A' p ∧ H' p = H p) : AvOk K A' H' v av := by
  cases av with
  | d x => exact Dq.gr g _ _ q
  | l xs => obtain ⟨p, vs, e, a, q, r⟩ := q; exact ⟨p, vs, e, (s p rfl e).1, (s p rfl e).2.trans q, DqA.gr g _ _ r⟩
  | k xs => obtain ⟨p, vs, e, a, q, r⟩ := q; exact ⟨p, vs, e, (s p rfl e).1, (s p rfl e).2.trans q, DqK.gr g r⟩
  | t xs => obtain ⟨p, vs, e, a, q, r⟩ := q; exact ⟨p, vs, e, (s p rfl e).1, (s p rfl e).2.trans q, DqK.gr g r⟩
theorem AvOk.narrow (q : AvOk K A' H v av) (s : ∀ a, A a → A' a) (hp : ∀ p, av.own = true → v = .ref p → A p) : AvOk K A H v av := by
  cases av with
  | d x => exact Dq.less q s
  | l xs => obtain ⟨p, vs, e, a, q, r⟩ := q; exact ⟨p, vs, e, hp p rfl e, q, r.less s⟩
  | k xs => obtain ⟨p, vs, e, a, q, r⟩ := q; exact ⟨p, vs, e, hp p rfl e, q, DqK.mono r Kp.refl s⟩
  | t xs => obtain ⟨p, vs, e, a, q, r⟩ := q; exact ⟨p, vs, e, hp p rfl e, q, DqK.mono r Kp.refl s⟩
/-- a new object is one's own -/
theorem SE.grow (S : SE C A σ H ρ) (n : H p = none) (s : Same H H') (ho : ∃ o, H' p = some o) : SE C (fun a => A a ∨ a = p) σ H' ρ := by
  have g : Gr A H (fun a => A a ∨ a = p) H' := ⟨.of_same s, fun a h => h.imp id fun e => by rw [e]; exact n⟩
  refine ⟨S.len, fun i av e => ?_, S.dis, fun a h => ?_, S.keep.trans (.of_same s), S.prm, S.par, fun a h => .inl (S.sub a h)⟩
  · obtain ⟨v, e1, q⟩ := S.at_ i av e
    refine ⟨v, e1, q.gr g fun p' o e2 => ?_⟩
    obtain ⟨p2, e3, ha, u, hu, _⟩ := q.addr o
    rw [e2] at e3
    cases e3
    exact ⟨.inl ha, by rw [hu]; exact s _ _ hu⟩
  · rcases h with h | h
    · obtain ⟨o, q⟩ := S.live a h
      exact ⟨o, s _ _ q⟩
    · rw [h]; exact ho
theorem mrg1_get {a b x : Option AV} {av : AV} (h : mrg1 a b = some x) (e : x = some av) : (av.own = false ∧ a = some av) ∨ (av.own = true ∧ b = some av ∧ ∃ c : AV, c.own = true ∧ a = some c) := by
  subst e
  cases a with
  | none => cases h
  | some a =>
    by_cases oa : a.own = true
    · cases b with
      | none => simp [mrg1, oa] at h
      | some b =>
        by_cases ob : b.own = true
        · simp [mrg1, oa, ob] at h
          subst h
          exact .inr ⟨ob, rfl, a, oa, rfl⟩
        · simp [mrg1, oa, ob] at h
    · simp [mrg1, oa] at h
      subst h
      exact .inl ⟨by simpa using oa, rfl⟩
theorem mrg1_own {b x : Option AV} {a : AV} (h : mrg1 (some a) b = some x) (o : a.own = true) : ∃ c : AV, x = some c ∧ c.own = true := by
  unfold mrg1 at h
  dsimp only at h
  rw [if_pos o] at h
  cases b with
  | none => cases h
  | some b =>
    dsimp only at h
    split at h
    · rename_i ob
      cases h
      exact ⟨b, rfl, ob⟩
    · cases h
theorem merge_cons {a b : Option AV} {r s : Env} (h : merge (a :: r) (b :: s) = some ρ2) : ∃ x ρ3, mrg1 a b = some x ∧ merge r s = some ρ3 ∧ ρ2 = x :: ρ3 := by
  rw [merge] at h
  cases e1 : mrg1 a b with
  | none => rw [e1] at h; cases h
  | some x =>
    rw [e1] at h
    cases e2 : merge r s with
    | none => rw [e2] at h; cases h
    | some ρ3 => rw [e2] at h; cases h; exact ⟨x, ρ3, rfl, rfl, rfl⟩
theorem merge_get : ∀ {ρ ρ' ρ2 : Env}, merge ρ ρ' = some ρ2 → ρ2.length = ρ.length ∧ ∀ (i : Nat) (av : AV), ρ2[i]? = some (some av) →
    (av.own = false ∧ ρ[i]? = some (some av)) ∨ (av.own = true ∧ ρ'[i]? = some (some av) ∧ ∃ a : AV, a.own = true ∧ ρ[i]? = some (some a))
  | [], [], _, h => by cases h; exact ⟨rfl, fun i av e => by simp at e⟩
  | [], _ :: _, _, h => by simp [merge] at h
  | _ :: _, [], _, h => by simp [merge] at h
  | a :: r, b :: s, ρ2, h => by
    obtain ⟨x, ρ3, e1, e2, rfl⟩ := merge_cons h
    obtain ⟨h1, h2⟩ := merge_get e2
    refine ⟨by simp [h1], fun i av e => ?_⟩
    cases i with
    | zero =>
      rcases mrg1_get e1 (by simpa using e) with ⟨o, e⟩ | ⟨o, e, c, oc, ec⟩
      · exact .inl ⟨o, by simp [e]⟩
      · exact .inr ⟨o, by simp [e], c, oc, by simp [ec]⟩
    | succ i => exact h2 i av (by simpa using e)
theorem merge_own : ∀ {ρ ρ' ρ2 : Env}, merge ρ ρ' = some ρ2 → ∀ (i : Nat) (a : AV), ρ[i]? = some (some a) → a.own = true → ∃ b : AV, ρ2[i]? = some (some b) ∧ b.own = true
  | [], _, _, h => by intro i a e; simp at e
  | _ :: _, [], _, h => by simp [merge] at h
  | a :: r, b :: s, ρ2, h => by
    obtain ⟨x, ρ3, e1, e2, rfl⟩ := merge_cons h
    intro i a' e o
    cases i with
    | zero =>
      have e : a = some a' := by simpa using e
      subst e
      obtain ⟨c, rfl, oc⟩ := mrg1_own e1 o
      exact ⟨c, rfl, oc⟩
    | succ i => simpa using merge_own e2 i a' (by simpa using e) o
/-- the slots of ρ behind a part that ran with other slots -/
theorem SE.merge (S : SE C A σ H ρ) (S' : SE C' A' σ' H' ρ') (hK : C'.K = C.K) (sub : ∀ a, A a → A' a) (k : Kp A H H') (kk : Kp C.Fp C.H0 H') (hm : merge ρ ρ' = some ρ2)
    (hσ : ∀ (i : Nat) (a : AV) (p : Addr), ρ[i]? = some (some a) → a.own = true → σ[i]? = some (some (.ref p)) → σ'[i]? = some (some (.ref p))) : SE C A σ H' ρ2 := by
  obtain ⟨hl, hg⟩ := merge_get hm
  have ownP : ∀ (i : Nat) (av : AV), ρ2[i]? = some (some av) → av.own = true → ∃ a : AV, a.own = true ∧ ρ[i]? = some (some a) := fun i av e o => by
    rcases hg i av e with ⟨o', _⟩ | ⟨_, _, a, oa, ea⟩
    · rw [o] at o'; cases o'
    · exact ⟨a, oa, ea⟩
  refine ⟨S.len.trans hl.symm, fun i av e => ?_, fun i j av aw p n e1 e2 o1 o2 e3 e4 => ?_, fun a h => S'.live a (sub a h), kk, fun i av p e o e2 => ?_, fun i p e => ?_, S.sub⟩
  · rcases hg i av e with ⟨o, e1⟩ | ⟨o, e1, a, oa, ea⟩
    · obtain ⟨v, e2, q⟩ := S.at_ i av e1
      refine ⟨v, e2, q.kp k fun p o' _ => ?_⟩
      rw [o] at o'; cases o'
    · obtain ⟨v, e2, q⟩ := S.at_ i a ea
      obtain ⟨p, rfl, ha, _⟩ := q.addr oa
      obtain ⟨w, e3, q'⟩ := S'.at_ i av e1
      rw [hσ i a p ea oa e2] at e3
      cases e3
      rw [hK] at q'
      exact ⟨_, e2, q'.narrow sub fun p' _ e => by cases e; exact ha⟩
  · obtain ⟨a, oa, ea⟩ := ownP i av e1 o1
    obtain ⟨b, ob, eb⟩ := ownP j aw e2 o2
    exact S.dis i j a b p n ea eb oa ob e3 e4
  · obtain ⟨a, oa, ea⟩ := ownP i av e o
    exact S.prm i a p ea oa e2
  · obtain ⟨e1, a, ea, oa⟩ := S.par i p e
    obtain ⟨b, eb, ob⟩ := merge_own hm i a ea oa
    exact ⟨e1, b, eb, ob⟩
/-- the slots forgotten -/
theorem wipeE_get {i : Nat} {av : AV} : ∀ {is : List Nat}, (wipeE ρ is)[i]? = some (some av) → ρ[i]? = some (some av) ∧ i ∉ is
  | [], h => ⟨h, by simp⟩
  | j :: r, h => by
    rw [wipeE] at h
    rcases set_get h with ⟨_, e⟩ | ⟨n, e⟩
    · cases e
    · obtain ⟨h1, h2⟩ := wipeE_get e
      exact ⟨h1, by simp [n, h2]⟩
theorem wipeE_length : ∀ {is : List Nat}, (wipeE ρ is).length = ρ.length
  | [] => rfl
  | j :: r => by rw [wipeE, List.length_set, wipeE_length]
theorem wipeE_out {i : Nat} : ∀ {is : List Nat}, i ∉ is → (wipeE ρ is)[i]? = ρ[i]?
  | [], _ => rfl
  | j :: r, h => by
    have h1 : j ≠ i := fun e => h (by simp [e])
    rw [wipeE, List.getElem?_set_ne h1]
    exact wipeE_out fun z => h (by simp [z])
theorem SE.wiped {is : List Nat} (S : SE C A σ H ρ) (h : noOwn ρ is = true) : SE C A (wipe σ is) H (wipeE ρ is) := by
  refine ⟨by rw [wipe_length, wipeE_length]; exact S.len, fun i av e => ?_, fun i j av aw p n e1 e2 o1 o2 e3 e4 => ?_, S.live, S.keep, fun i av p e o e2 => ?_, fun i p e => ?_, S.sub⟩
  · obtain ⟨e1, hn⟩ := wipeE_get e
    obtain ⟨v, e2, q⟩ := S.at_ i av e1
    exact ⟨v, by rw [wipe_out hn]; exact e2, q⟩
  · exact S.dis i j av aw p n (wipeE_get e1).1 (wipeE_get e2).1 o1 o2 (wipe_some e3).1 (wipe_some e4).1
  · exact S.prm i av p (wipeE_get e).1 o (wipe_some e2).1
  · obtain ⟨e1, a, ea, oa⟩ := S.par i p e
    have hn : i ∉ is := fun z => by
      unfold noOwn at h
      have := List.all_eq_true.mp h i z
      unfold isOwn at this
      rw [ea] at this
      simp [oa] at this
    exact ⟨by rw [wipe_out hn]; exact e1, a, by rw [wipeE_out hn]; exact ea, oa⟩
/-- the own slots' addresses -/
def Ow (σ : St) (ρ : Env) : Addr → Prop := fun p => ∃ (i : Nat) (av : AV), ρ[i]? = some (some av) ∧ av.own = true ∧ σ[i]? = some (some (.ref p))
/-- the same run seen from here -/
def FC.here (C : FC) (σ : St) (H : Hp) (ρ : Env) : FC := ⟨C.K, Ow σ ρ, H, C.A0, C.par⟩
theorem SE.here (S : SE C A σ H ρ) : SE (C.here σ H ρ) A σ H ρ := ⟨S.len, S.at_, S.dis, S.live, Kp.refl, fun i av p e o e2 => .inl ⟨i, av, e, o, e2⟩, S.par, S.sub⟩
/-- what was kept since then -/
theorem SE.keep_here (S : SE C A σ H ρ) (k : Kp (Ow σ ρ) H H') : Kp C.Fp C.H0 H' := by
  refine ⟨fun a o n e => k.keep a o (fun ⟨i, av, e1, o1, e2⟩ => ?_) (S.keep.keep a o n e), fun a xs e => k.tup a xs (S.keep.tup a xs e), fun a o u e => k.frz a o u (S.keep.frz a o u e)⟩
  rcases S.prm i av a e1 o1 e2 with z | z
  · exact n z
  · rw [z] at e; cases e
theorem Ow.sub (S : SE C A σ H ρ) {p : Addr} (h : Ow σ ρ p) : A p := by
  obtain ⟨i, av, e1, o, e2⟩ := h
  obtain ⟨v, e3, q⟩ := S.at_ i av e1
  obtain ⟨p', rfl, ha, _⟩ := q.addr o
  rw [e2] at e3
  cases e3
  exact ha
end
end F3
end
section
namespace F3
open PySem PySem.Spec L2

abbrev W0 : WE := fun _ _ _ => False
/-- a new object, its own address apart -/
def Fresh (C : FC) (A : Addr → Prop) (σ : St) (ρ : Env) (Hs H : Hp) (v : V) (av : AV) : Prop := ∃ p, v = .ref p ∧ ¬ A p ∧ Hs p = none ∧ AvOk C.K (fun a => A a ∨ a = p) H v av ∧ av.own = true ∧ SE C (fun a => A a ∨ a = p) σ H ρ ∧ (C.Fp p ∨ C.H0 p = none)
structure FJ (X : Cx) (Γ : Gm) (C : FC) (W : WE) (e : Expr) (ir : IE) : Prop where
  ex : ∃ t, PE X e t ∧ ∀ A σ H ρ (Q : VK), SE C A σ H ρ →
    Post C A σ H W (fun av ρ' H' => ∀ v, (puE ir = true → Same H H') → Fresh C A σ ρ' H H' v av → Q v H') (semF Γ ir ρ) → t σ H Q
section
variable {C : FC} {A : Addr → Prop} {σ : St} {H H1 H' : Hp} {ρ : Env} {p : Addr} {o : HO} {v : V}
theorem SE.newp (S : SE C A σ H ρ) (n : H p = none) : C.Fp p ∨ C.H0 p = none := by
  by_cases z : C.Fp p
  · exact .inl z
  · refine .inr ?_
    cases e : C.H0 p with
    | none => rfl
    | some o => rw [S.keep.keep p o z e] at n; cases n
theorem SE.notA (S : SE C A σ H ρ) (n : H p = none) : ¬ A p := fun a => by obtain ⟨o, e⟩ := S.live p a; rw [n] at e; cases e
theorem Kp.back (k : Kp A H1 H) (nA : ¬ A p) (n : H p = none) : H1 p = none := by
  cases e : H1 p with
  | none => rfl
  | some o => rw [k.keep p o nA e] at n; cases n
theorem Same.updNew (s : Same H1 H) (n : H1 p = none) : Same H1 (upd H p o) := fun b u e => by rw [upd_ne (ne_of_none e n)]; exact s b u e
theorem Kp.updNew (k : Kp A H1 H) (n : H1 p = none) : Kp A H1 (upd H p o) :=
  ⟨fun a u na e => by rw [upd_ne (ne_of_none e n)]; exact k.keep a u na e, fun a xs e => by rw [upd_ne (ne_of_none e n)]; exact k.tup a xs e, fun a u w e => by rw [upd_ne (ne_of_none e n)]; exact k.frz a u w e⟩
theorem ne_mut {u : HO} (h : H p = some u) (m : Mut (some u)) {a : Addr} {xs : List V} (e : H a = some (.tup xs)) : a ≠ p := fun z => by rw [z, h] at e; cases e; exact m
theorem ne_mutF {u : HO} (h : H p = some u) (m : Mut (some u)) {a : Addr} {ob : Obj} {w : HO} (e : H a = some (.frz ob w)) : a ≠ p := fun z => by rw [z, h] at e; cases e; exact m
/-- an object that is no slot's is written -/
theorem SE.putNew {u : HO} (S : SE C A σ H ρ) (a : A p) (h : H p = some u) (m : Mut (some u)) (hf : C.Fp p ∨ C.H0 p = none) (no : ¬ Ow σ ρ p) : SE C A σ (upd H p o) ρ := by
  have k : Kp A H (upd H p o) := Kp.written a h m
  refine ⟨S.len, fun i av e => ?_, S.dis, fun b hb => ?_, ?_, S.prm, S.par, S.sub⟩
  · obtain ⟨v, e1, q⟩ := S.at_ i av e
    refine ⟨v, e1, q.kp k fun p' o' e2 => ?_⟩
    have n : p' ≠ p := fun z => no ⟨i, av, e, o', by rw [← z, ← e2]; exact e1⟩
    exact upd_ne n
  · by_cases e : b = p
    · exact ⟨o, by rw [e]; exact upd_same⟩
    · obtain ⟨w, q⟩ := S.live b hb
      exact ⟨w, by rw [upd_ne e]; exact q⟩
  · refine ⟨fun b w n e => ?_, fun b xs e => ?_, fun b w z e => ?_⟩
    · have nb : b ≠ p := fun z => by
        rcases hf with f | f
        · exact n (by rw [z]; exact f)
        · rw [z, f] at e; cases e
      rw [upd_ne nb]; exact S.keep.keep b w n e
    · have q := S.keep.tup b xs e
      rw [upd_ne (ne_mut h m q)]; exact q
    · have q := S.keep.frz b w z e
      rw [upd_ne (ne_mutF h m q)]; exact q
end

/-! ### a block's parts -/
def tbG (Γ : Gm) (K : PySem.W.Frag) (it : Tg) : TG := fun v σ H Q => ∃ (C : FC) (A : Addr → Prop) (ρ : Env) (d : PyData) (ρ' : Env), C.K = K ∧ ParOk Γ C ∧ SE C A σ H ρ ∧ Dq C.K A H v d ∧ assignT Γ it d ρ = some ρ' ∧
  ∀ σ', σ'.length = σ.length → (∀ i, i ∉ tgS it → σ'[i]? = σ[i]?) → SE C A σ' H ρ' → Q σ' H
def tbC (Γ : Gm) (K : PySem.W.Frag) (ic : Option IE) : TT := fun σ H Q => ∃ (C : FC) (A : Addr → Prop) (ρ : Env), C.K = K ∧ ParOk Γ C ∧ SE C A σ H ρ ∧ Post C A σ H W0 (fun b _ H' => (puO ic = true → Same H H') → Q b H') (semC Γ ic ρ)
def tbE (Γ : Gm) (K : PySem.W.Frag) (ie : IE) : TE := fun σ H Q => ∃ (C : FC) (A : Addr → Prop) (ρ : Env), C.K = K ∧ ParOk Γ C ∧ SE C A σ H ρ ∧ Post C A σ H W0 (GE C A H ie Q) (sem Γ ie ρ)
section
variable {X : Cx} {Γ : Gm} {K : PySem.W.Frag} {tg e : Expr} {it : Tg} {ie : IE}
theorem pg_b (h : ∀ C : FC, C.K = K → ParOk Γ C → GJ X Γ C tg it) : PG X tg (tbG Γ K it) := by
  refine ⟨fun pins s σ H v u Q I r ⟨C, A, ρ, d, ρ', hK, P, S, q, e1, g⟩ => ?_⟩
  obtain ⟨gg, pg, qg⟩ := (h C hK P).ex
  exact pg.run pins s σ H v u Q I r (qg A σ H ρ v d ρ' Q S q e1 g)
theorem pe_b (h : ∀ C : FC, C.K = K → ParOk Γ C → EJ X Γ C W0 e ie) : PE X e (tbE Γ K ie) := by
  refine ⟨fun pins s σ H Q I ⟨C, A, ρ, hK, P, S, p⟩ => ?_⟩
  obtain ⟨t, pe, q⟩ := (h C hK P).ex
  exact pe.run pins s σ H Q I (q A σ H ρ Q S p)
theorem pts_b0 : PTs X [] (tbC Γ K none) := by
  refine ⟨fun pins s σ H Q I ⟨C, A, ρ, hK, P, S, p⟩ => pts_nil.run pins s σ H Q I ?_⟩
  rw [semC] at p
  exact p H Kp.refl S (fun _ => Same.refl _)
theorem pts_b1 (h : ∀ C : FC, C.K = K → ParOk Γ C → TJ X Γ C W0 e ie) : PTs X [e] (tbC Γ K (some ie)) := by
  refine ⟨fun pins s σ H Q I ⟨C, A, ρ, hK, P, S, p⟩ => ?_⟩
  obtain ⟨t, pe, q⟩ := (h C hK P).ex
  refine (pts_one pe).run pins s σ H Q I (q A σ H ρ Q S ?_)
  rw [semC] at p
  exact p
end

/-! ### a comprehension -/
section
variable {t : PyData → Env → Option Env} {c : Env → Rs Bool} {f : Env → Rs PyData}
theorem lcL_cons {x : PyData} {xs acc ys : List PyData} {ρ ρN : Env} (h : lcL t c f (x :: xs) acc ρ = .ok ys ρN) : ∃ ρ1 b ρ2, t x ρ = some ρ1 ∧ c ρ1 = .ok b ρ2 ∧
    ((b = false ∧ ∃ ρ4, merge ρ ρ2 = some ρ4 ∧ lcL t c f xs acc ρ4 = .ok ys ρN) ∨ (b = true ∧ ∃ y ρ3 ρ4, f ρ2 = .ok y ρ3 ∧ fits (acc.length + 1) = true ∧ merge ρ ρ3 = some ρ4 ∧ lcL t c f xs (acc ++ [y]) ρ4 = .ok ys ρN)) := by
  rw [lcL] at h
  cases e1 : t x ρ with
  | none => rw [e1] at h; cases h
  | some ρ1 =>
    rw [e1] at h
    dsimp only at h
    cases e2 : c ρ1 with
    | bad => rw [e2] at h; cases h
    | ex k ρ2 => rw [e2] at h; cases h
    | ok b ρ2 =>
      rw [e2] at h
      refine ⟨ρ1, b, ρ2, rfl, e2, ?_⟩
      cases b with
      | false =>
        dsimp only at h
        cases e3 : merge ρ ρ2 with
        | none => rw [e3] at h; cases h
        | some ρ4 => rw [e3] at h; exact .inl ⟨rfl, ρ4, rfl, h⟩
      | true =>
        dsimp only at h
        cases e4 : f ρ2 with
        | bad => rw [e4] at h; cases h
        | ex k ρ3 => rw [e4] at h; cases h
        | ok y ρ3 =>
          rw [e4] at h
          dsimp only at h
          split at h
          · rename_i hf
            cases e3 : merge ρ ρ3 with
            | none => rw [e3] at h; cases h
            | some ρ4 => rw [e3] at h; exact .inr ⟨rfl, y, ρ3, ρ4, rfl, hf, e3, h⟩
          · cases h
theorem lcL_noex : ∀ {xs acc : List PyData} {ρ ρN : Env} {k : Nat}, lcL t c f xs acc ρ ≠ .ex k ρN
  | [], acc, ρ, ρN, k, h => by rw [lcL] at h; cases h
  | x :: xs, acc, ρ, ρN, k, h => by
    rw [lcL] at h
    cases e1 : t x ρ with
    | none => rw [e1] at h; cases h
    | some ρ1 =>
      rw [e1] at h
      dsimp only at h
      cases e2 : c ρ1 with
      | bad => rw [e2] at h; cases h
      | ex k ρ2 => rw [e2] at h; cases h
      | ok b ρ2 =>
        rw [e2] at h
        cases b with
        | false =>
          dsimp only at h
          cases e3 : merge ρ ρ2 with
          | none => rw [e3] at h; cases h
          | some ρ4 => rw [e3] at h; exact lcL_noex h
        | true =>
          dsimp only at h
          cases e4 : f ρ2 with
          | bad => rw [e4] at h; cases h
          | ex k ρ3 => rw [e4] at h; cases h
          | ok y ρ3 =>
            rw [e4] at h
            dsimp only at h
            split at h
            · cases e3 : merge ρ ρ3 with
              | none => rw [e3] at h; cases h
              | some ρ4 => rw [e3] at h; exact lcL_noex h
            · cases h
end
theorem wipe_eq {σ σ2 : St} {vs : List Nat} (hl : σ2.length = σ.length) (h : ∀ i, i ∉ vs → σ2[i]? = (wipe σ vs)[i]?) : wipe σ2 vs = wipe σ vs := by
  refine List.ext_getElem? fun i => ?_
  by_cases hi : i ∈ vs
  · have g : ∀ (τ : St) (ws : List Nat), i ∈ ws → (wipe τ ws)[i]? = if i < τ.length then some none else none := fun τ ws => by
      induction ws with
      | nil => intro h; cases h
      | cons w ws ih =>
        intro hm
        unfold wipe
        by_cases e : w = i
        · subst e
          by_cases hlt : w < τ.length
          · rw [if_pos hlt, List.getElem?_set_self (by rw [wipe_length]; exact hlt)]
          · rw [if_neg hlt, List.getElem?_eq_none (by rw [List.length_set, wipe_length]; omega)]
        · rw [List.getElem?_set_ne e]
          exact ih ((List.mem_cons.mp hm).elim (fun z => absurd z.symm e) id)
    rw [g σ2 vs hi, g σ vs hi, hl]
  · rw [wipe_out hi]
    exact h i hi
def lcS (Γ : Gm) (vs : List Nat) (it : Tg) (ii : II) (ic : Option IE) (ie : IE) (ρ : Env) : Rs (List PyData) :=
  (semI Γ ii ρ).bind fun xs ρ1 => if noOwn ρ1 vs then (lcL (assignT Γ it) (fun ρ => semC Γ ic ρ) (fun ρ => sem Γ ie ρ) xs [] (wipeE ρ1 vs)).bind fun ys ρ2 => .ofO ys (merge ρ1 ρ2) else .bad
theorem lc_run {Γ : Gm} {C : FC} {A : Addr → Prop} {σ : St} {H : Hp} {ρ : Env} {W : WE} {wi : TI} {ii : II} {it : Tg} {ic : Option IE} {ie : IE} {vs : List Nat} {Q : VK}
    (S : SE C A σ H ρ) (P : ParOk Γ C) (hst : stE ie = true) (hpi : (stI ii || (puO ic && puE ie)) = true) (htg : ∀ i ∈ tgS it, i ∈ vs)
    (hw : ∀ R : It → Hp → Prop, Post C A σ H W (fun ds _ H1 => ∀ J, (puI ii = true → Same H H1) → L2.Walk J ds.length (GW A H1 (stI ii)) (YW C.K A H1 ds) → R J H1) (semI Γ ii ρ) → wi σ H R)
    (h : Post C A σ H W (fun ys ρ' H' => ∀ v, ((puI ii && puO ic && puE ie) = true → Same H H') → Fresh C A σ ρ' H H' v (.l ys) → Q v H') (lcS Γ vs it ii ic ie ρ)) :
    tLc wi (tbG Γ C.K it) (tbC Γ C.K ic) (tbE Γ C.K ie) vs σ H Q := by
  unfold lcS at h
  refine hw _ (h.bind fun xs ρ1 H1 k1 S1 h J s1 wk D nD => ?_)
  have hno : noOwn ρ1 vs = true := by
    cases z : noOwn ρ1 vs with
    | true => rfl
    | false => rw [z] at h; exact h.elim
  rw [if_pos hno] at h
  cases hR : lcL (assignT Γ it) (fun ρ => semC Γ ic ρ) (fun ρ => sem Γ ie ρ) xs [] (wipeE ρ1 vs) with
  | bad => rw [hR] at h; exact h.elim
  | ex k ρ2 => exact absurd hR lcL_noex
  | ok ys ρN =>
    rw [hR] at h
    obtain ⟨ρ3, hm, h⟩ := Post.ofO h
    have nA : ¬ A D := S1.notA nD
    have fD := S1.newp nD
    have sub : ∀ a, A a → (A a ∨ a = D) := fun a z => .inl z
    refine lc_it wk (Pv := fun i H2 => ∃ (acc : List PyData) (ρ2 : Env) (as : List V), SE C (fun a => A a ∨ a = D) (wipe σ vs) H2 ρ2 ∧ Kp A H1 H2 ∧ H2 D = some (.lst as) ∧ DqA C.K (fun a => A a ∨ a = D) H2 as acc ∧
      lcL (assignT Γ it) (fun ρ => semC Γ ic ρ) (fun ρ => sem Γ ie ρ) (xs.drop i) acc ρ2 = .ok ys ρN ∧ (∀ p, Ow (wipe σ vs) ρ2 p → A p) ∧ ((puO ic && puE ie) = true → Same H1 H2)) ?_ ?_ ?_ ?_
    · refine ⟨[], wipeE ρ1 vs, [], (S1.wiped hno).grow nD (Same.laid nD) ⟨_, upd_same⟩, Kp.laid nD, upd_same, .nil, hR, fun p z => Ow.sub (S1.wiped hno) z, fun _ => Same.laid nD⟩
    · rintro i H2 hi ⟨acc, ρ2, as, S2, k2, eD, tD, eq, ow, sm⟩
      refine ⟨⟨fun a => A a ∨ a = D, k2, fun a z => z.imp id fun e => by rw [e]; exact nD⟩, fun z => sm ?_⟩
      rw [z] at hpi
      simpa using hpi
    · rintro i x H2 H3 hi ⟨acc, ρ2, as, S2, k2, eD, tD, eq, ow, sm⟩ ⟨s3, y⟩
      obtain ⟨d, ed, qd⟩ := y (fun a => A a ∨ a = D) ⟨k2, fun a z => z.imp id fun e => by rw [e]; exact nD⟩
      have hdrop : xs.drop i = d :: xs.drop (i + 1) := by
        obtain ⟨hl, he⟩ := List.getElem?_eq_some_iff.mp ed
        rw [← he]
        exact List.drop_eq_getElem_cons hl
      rw [hdrop] at eq
      obtain ⟨ρa, b, ρb, e1, e2, e3⟩ := lcL_cons eq
      have S3 := S2.same s3
      have P3 : ParOk Γ (C.here (wipe σ vs) H3 ρ2) := P
      have notOw : ¬ Ow (wipe σ vs) ρ2 D := fun z => nA (ow D z)
      refine ⟨C.here (wipe σ vs) H3 ρ2, fun a => A a ∨ a = D, ρ2, d, ρa, rfl, P3, S3.here, qd, e1, fun σ2 l2 g2 S4 => ⟨wipe_eq (by rw [l2, wipe_length]) (fun j hj => g2 j fun z => hj (htg j z)), ?_⟩⟩
      refine ⟨C.here (wipe σ vs) H3 ρ2, fun a => A a ∨ a = D, ρa, rfl, P3, S4, ?_⟩
      have e2' : semC Γ ic ρa = .ok b ρb := e2
      rw [e2']
      intro H4 k4 S5 sm4
      -- the next turn's state
      have nextS : ∀ {H5 : Hp} {ρe ρ4 : Env}, Kp (fun a => A a ∨ a = D) H3 H5 → SE (C.here (wipe σ vs) H3 ρ2) (fun a => A a ∨ a = D) σ2 H5 ρe → merge ρ2 ρe = some ρ4 → SE C (fun a => A a ∨ a = D) (wipe σ vs) H5 ρ4 ∧ H5 D = some (.lst as) ∧ Kp A H1 H5 ∧ (∀ p, Ow (wipe σ vs) ρ4 p → A p) := fun {H5 ρe ρ4} k5 S6 hm4 => by
        refine ⟨S3.merge S6 rfl (fun _ z => z) k5 (S3.keep_here S6.keep) hm4 fun j a p ea oa ep => ?_, ?_, ?_, ?_⟩
        · have hj : j ∉ vs := (wipe_some ep).2
          rw [g2 j fun z => hj (htg j z)]
          exact ep
        · exact S6.keep.keep D _ notOw (s3 _ _ eD)
        · exact (k2.trans (.of_same s3)).trans (S6.keep.mono ow)
        · rintro p ⟨j, av, ea, oa, ep⟩
          rcases (merge_get hm4).2 j av ea with ⟨z, _⟩ | ⟨_, _, a, oa', ea'⟩
          · rw [oa] at z; cases z
          · exact ow p ⟨j, a, ea', oa', ep⟩
      rcases e3 with ⟨rfl, ρ4, hm4, eq⟩ | ⟨rfl, yv, ρe, ρ4, ef, hf, hm4, eq⟩
      · rw [if_neg (by decide)]
        obtain ⟨n1, n2, n3, n4⟩ := nextS k4 S5 hm4
        refine ⟨acc, ρ4, as, n1, n3, n2, (tD.kp (.of_same s3)).kp k4, eq, n4, fun z => ((sm z).trans s3).trans (sm4 (and_l z))⟩
      · rw [if_pos rfl]
        refine ⟨C.here (wipe σ vs) H3 ρ2, fun a => A a ∨ a = D, ρb, rfl, P3, S5, ?_⟩
        have ef' : sem Γ ie ρb = .ok yv ρe := ef
        rw [ef']
        intro H5 k5 S6 w sm5 ov
        obtain ⟨n1, n2, n3, n4⟩ := nextS (k4.trans k5) S6 hm4
        have tD5 := ((tD.kp (.of_same s3)).kp k4).kp k5
        have kw : Kp (fun a => A a ∨ a = D) H5 (upd H5 D (.lst (as ++ [w]))) := Kp.written (.inr rfl) n2 trivial
        refine ⟨as, n2, ?_, acc ++ [yv], ρ4, as ++ [w], n1.putNew (.inr rfl) n2 trivial fD (fun z => nA (n4 D z)), n3.updNew nD, upd_same, (tD5.kp kw).app (.cons ((ov.2 hst).kp kw) .nil), eq, n4, fun z => Same.updNew ((((sm z).trans s3).trans (sm4 (and_l z))).trans (sm5 (and_r z))) nD⟩
        rw [tD.length]
        unfold fits at hf
        have := of_decide_eq_true hf
        omega
    · rintro H2 ⟨acc, ρ2, as, S2, k2, eD, tD, eq, ow, sm⟩
      rw [List.drop_length, lcL] at eq
      cases eq
      have hσ : ∀ (i : Nat) (a : AV) (p : Addr), ρ1[i]? = some (some a) → a.own = true → σ[i]? = some (some (.ref p)) → (wipe σ vs)[i]? = some (some (.ref p)) := fun i a p ea oa ep => by
        have hn : i ∉ vs := fun z => by
          unfold noOwn at hno
          have := List.all_eq_true.mp hno i z
          unfold isOwn at this
          rw [ea] at this
          simp [oa] at this
        rw [wipe_out hn]
        exact ep
      have kg : Kp (fun a => A a ∨ a = D) (upd H1 D (.lst [])) H2 := by
        refine ⟨fun a o n e => ?_, fun a zs e => ?_, fun a o u e => ?_⟩
        · have na : a ≠ D := fun z => n (.inr z)
          rw [upd_ne na] at e
          exact k2.keep a o (fun z => n (.inl z)) e
        · have na : a ≠ D := fun z => by rw [z, upd_same] at e; cases e
          rw [upd_ne na] at e
          exact k2.tup a zs e
        · have na : a ≠ D := fun z => by rw [z, upd_same] at e; cases e
          rw [upd_ne na] at e
          exact k2.frz a o u e
      refine h H2 k2 (S1.merge S2 rfl sub k2 S2.keep hm hσ) (.ref D) (fun z => (s1 (and_l (and_l z))).trans (sm (by rw [and_r (and_l z), and_r z]; rfl))) ⟨D, rfl, nA, k1.back nA nD, ⟨D, as, rfl, .inr rfl, eD, tD⟩, rfl, ?_, fD⟩
      exact (S1.grow nD (Same.laid nD) ⟨_, upd_same⟩).merge S2 rfl (fun _ z => z) kg S2.keep hm hσ
end F3
end
section
namespace F3
open PySem PySem.Spec L2

/-! ### statements -/
def PostS (C : FC) (A : Addr → Prop) (H : Hp) (W : WE) (D : Ends) : Ss → Prop
  | .nx ρ' => ∀ A' σ' H', Gr A H A' H' → SE C A' σ' H' ρ' → D.nx σ' H'
  | .bk ρ' => ∀ A' σ' H', Gr A H A' H' → SE C A' σ' H' ρ' → D.bk σ' H'
  | .ct ρ' => ∀ A' σ' H', Gr A H A' H' → SE C A' σ' H' ρ' → D.ct σ' H'
  | .rt r ρ' => ∀ A' σ' H' v, Gr A H A' H' → SE C A' σ' H' ρ' → RetOk C.K A' C.H0 H' v r → D.rt v H'
  | .ex c ρ' => ∀ A' σ' H', Gr A H A' H' → SE C A' σ' H' ρ' → W c σ' H'
  | .bad => False
structure SJ (X : Cx) (Γ : Gm) (C : FC) (W : WE) (st : Stmt) (is : IS) : Prop where
  ex : ∃ t, PS X st t ∧ ∀ A σ H ρ D, SE C A σ H ρ → PostS C A H W D (exS Γ is ρ) → t D σ H
structure SsJ (X : Cx) (Γ : Gm) (C : FC) (W : WE) (sts : List Stmt) (iss : List IS) : Prop where
  ex : ∃ t, PSs X sts t ∧ ∀ A σ H ρ D, SE C A σ H ρ → PostS C A H W D (exSs Γ iss ρ) → t D σ H
/-- what expressions want -/
structure EOk (X : Cx) (Γ : Gm) (C : FC) : Prop where
  hK : X.K = C.K
  hP : ParOk Γ C
  calm : X.calm = true
  nodup : X.N.Nodup
/-- the run's own things -/
structure CtxOk (X : Cx) (Γ : Gm) (C : FC) : Prop where
  hK : X.K = C.K
  hP : ParOk Γ C
  hF : ∀ p, C.Fp p → ∃ i, C.par i = some p
  hL : ∀ a, C.A0 a → ∃ o, C.H0 a = some o
  calm : X.calm = true
  nodup : X.N.Nodup
  passes : PassesOwn (model X.prog X.w) X.A X.env X.xe
theorem CtxOk.e {X : Cx} {Γ : Gm} {C : FC} (O : CtxOk X Γ C) : EOk X Γ C := ⟨O.hK, O.hP, O.calm, O.nodup⟩
section
variable {Γ : Gm} {C : FC} {A A1 : Addr → Prop} {σ : St} {H H1 : Hp} {ρ : Env} {W : WE} {D : Ends} {s : Ss}
theorem PostS.gr (h : PostS C A H W D s) (g : Gr A H A1 H1) : PostS C A1 H1 W D s := by
  cases s with
  | nx ρ' => exact fun A' σ' H' g' S => h A' σ' H' (g.trans g') S
  | bk ρ' => exact fun A' σ' H' g' S => h A' σ' H' (g.trans g') S
  | ct ρ' => exact fun A' σ' H' g' S => h A' σ' H' (g.trans g') S
  | rt r ρ' => exact fun A' σ' H' v g' S => h A' σ' H' v (g.trans g') S
  | ex c ρ' => exact fun A' σ' H' g' S => h A' σ' H' (g.trans g') S
  | bad => exact h
theorem PostS.st {α : Type} {r : Rs α} {f : α → Env → Ss} {G : α → Env → Hp → Prop} (h : PostS C A H W D (r.st f)) (g : ∀ a ρ1 H1, Kp A H H1 → SE C A σ H1 ρ1 → PostS C A H1 W D (f a ρ1) → G a ρ1 H1) : Post C A σ H W G r := by
  cases r with
  | ok a ρ' => exact fun H' k S => g a ρ' H' k S (PostS.gr (s := f a ρ') h (.of_kp k))
  | ex c ρ' => exact fun H' k S => h A σ H' (.of_kp k) S
  | bad => exact h
theorem PostS.stU {α : Type} {r : Rs α} {f : α → Env → Ss} {G : α → Env → Hp → Prop} (h : PostS C A H W D (r.st f)) (g : ∀ a ρ1 H1, Kp A H H1 → SE C A σ H1 ρ1 → PostS C A H W D (f a ρ1) → G a ρ1 H1) : Post C A σ H W G r := by
  cases r with
  | ok a ρ' => exact fun H' k S => g a ρ' H' k S h
  | ex c ρ' => exact fun H' k S => h A σ H' (.of_kp k) S
  | bad => exact h
theorem PostS.ofO {o : Option Env} (h : PostS C A H W D (Ss.ofO o)) : ∃ ρ', o = some ρ' ∧ ∀ A' σ' H', Gr A H A' H' → SE C A' σ' H' ρ' → D.nx σ' H' := by
  cases o with
  | none => exact h.elim
  | some ρ' => exact ⟨ρ', rfl, h⟩
theorem setV_of {i : Nat} {av : AV} {ρ' : Env} (h : setV Γ i av ρ = some ρ') : Γ.fix i = false ∧ i < ρ.length ∧ ρ' = ρ.set i (some av) := by
  unfold setV at h
  split at h
  · cases h
  · rename_i h1
    split at h
    · rename_i h2
      cases h
      exact ⟨by simpa using h1, h2, rfl⟩
    · cases h
theorem getL_of {i : Nat} {xs : List PyData} (h : getL ρ i = some xs) : ρ[i]? = some (some (.l xs)) := by
  unfold getL at h
  split at h
  · rename_i e
    cases h
    exact e
  · cases h
/-- an own list's contents rewritten -/
theorem SE.putL {i : Nat} {xs ys : List PyData} {p : Addr} {vs ws : List V} (S : SE C A σ H ρ) (e : ρ[i]? = some (some (.l xs))) (ev : σ[i]? = some (some (.ref p))) (ha : A p) (hp : H p = some (.lst vs)) (t : DqA C.K A H ws ys) :
    SE C A σ (upd H p (.lst ws)) (ρ.set i (some (.l ys))) := by
  have k : Kp A H (upd H p (.lst ws)) := Kp.written ha hp trivial
  have hi : i < ρ.length := (List.getElem?_eq_some_iff.mp e).1
  have other : ∀ (j : Nat) (av : AV) (q : Addr), j ≠ i → ρ[j]? = some (some av) → av.own = true → σ[j]? = some (some (.ref q)) → q ≠ p := fun j av q n e1 o e2 z => S.dis j i av (.l xs) p n e1 e o rfl (by rw [← z]; exact e2) ev
  refine ⟨by simp [S.len], fun j av e1 => ?_, fun j k av aw q n e1 e2 o1 o2 e3 e4 => ?_, fun b hb => ?_, ?_, fun j av q e1 o e2 => ?_, fun j q e1 => ?_, S.sub⟩
  · rcases set_get e1 with ⟨rfl, e'⟩ | ⟨n, e'⟩
    · cases e'
      exact ⟨_, ev, p, ws, rfl, ha, upd_same, t.kp k⟩
    · obtain ⟨v, e2, q⟩ := S.at_ j av e'
      refine ⟨v, e2, q.kp k fun p' o e3 => ?_⟩
      subst e3
      exact upd_ne (other j av p' n e' o e2)
  · have f : ∀ (j : Nat) (av : AV), (ρ.set i (some (.l ys)))[j]? = some (some av) → av.own = true → ∃ a : AV, ρ[j]? = some (some a) ∧ a.own = true := fun j av e1 o => by
      rcases set_get e1 with ⟨rfl, e'⟩ | ⟨n, e'⟩
      · exact ⟨_, e, rfl⟩
      · exact ⟨av, e', o⟩
    obtain ⟨a, ea, oa⟩ := f j av e1 o1
    obtain ⟨b, eb, ob⟩ := f k aw e2 o2
    exact S.dis j k a b q n ea eb oa ob e3 e4
  · by_cases z : b = p
    · exact ⟨.lst ws, by rw [z]; exact upd_same⟩
    · obtain ⟨o, q⟩ := S.live b hb
      exact ⟨o, by rw [upd_ne z]; exact q⟩
  · have fp := S.prm i _ p e rfl ev
    refine ⟨fun b w n e1 => ?_, fun b zs e1 => ?_, fun b w z e1 => ?_⟩
    · have nb : b ≠ p := fun z => by
        rcases fp with f | f
        · exact n (by rw [z]; exact f)
        · rw [z, f] at e1; cases e1
      rw [upd_ne nb]; exact S.keep.keep b w n e1
    · have q := S.keep.tup b zs e1
      rw [upd_ne (ne_mut hp trivial q)]; exact q
    · have q := S.keep.frz b w z e1
      rw [upd_ne (ne_mutF hp trivial q)]; exact q
  · rcases set_get e1 with ⟨rfl, e'⟩ | ⟨n, e'⟩
    · exact S.prm j _ q e rfl e2
    · exact S.prm j av q e' o e2
  · obtain ⟨e2, av, e3, o⟩ := S.par j q e1
    by_cases z : j = i
    · subst z
      exact ⟨e2, .l ys, List.getElem?_set_self hi, rfl⟩
    · exact ⟨e2, av, by rw [List.getElem?_set_ne (Ne.symm z)]; exact e3, o⟩
/-- an own list becomes data -/
theorem SE.freeze {i : Nat} {xs : List PyData} (S : SE C A σ H ρ) (e : ρ[i]? = some (some (.l xs))) (hp : C.par i = none) (hF : ∀ p, C.Fp p → ∃ i, C.par i = some p) (hL : ∀ a, C.A0 a → ∃ o, C.H0 a = some o) :
    ∃ A', (∀ a, A' a → A a) ∧ SE C A' σ H (ρ.set i (some (.d (.list xs)))) := by
  obtain ⟨v, ev, p, vs, rfl, ha, q, t⟩ := S.at_ i _ e
  have s : ∀ a, (A a ∧ a ≠ p) → A a := fun a z => z.1
  have hi : i < ρ.length := (List.getElem?_eq_some_iff.mp e).1
  refine ⟨fun a => A a ∧ a ≠ p, s, by simp [S.len], fun j av e1 => ?_, fun j k av aw r n e1 e2 o1 o2 e3 e4 => ?_, fun b hb => S.live b hb.1, S.keep, fun j av r e1 o e2 => ?_, fun j r e1 => ?_, fun a h => ⟨S.sub a h, fun z => ?_⟩⟩
  · rcases set_get e1 with ⟨rfl, e'⟩ | ⟨n, e'⟩
    · cases e'
      exact ⟨_, ev, .lst (fun z => z.2 rfl) (.inl q) (t.less s)⟩
    · obtain ⟨v, e2, r⟩ := S.at_ j av e'
      refine ⟨v, e2, r.narrow s fun p' o e3 => ?_⟩
      subst e3
      obtain ⟨p2, e4, ha2, _⟩ := r.addr o
      cases e4
      exact ⟨ha2, fun z => S.dis j i av _ p n e' e o rfl (by rw [← z]; exact e2) ev⟩
  · rcases set_get e1 with ⟨rfl, e'⟩ | ⟨n1, f1⟩
    · cases e'; cases o1
    · rcases set_get e2 with ⟨rfl, e'⟩ | ⟨n2, f2⟩
      · cases e'; cases o2
      · exact S.dis j k av aw r n f1 f2 o1 o2 e3 e4
  · rcases set_get e1 with ⟨rfl, e'⟩ | ⟨n, e'⟩
    · cases e'; cases o
    · exact S.prm j av r e' o e2
  · have n : j ≠ i := fun z => by subst z; rw [hp] at e1; cases e1
    obtain ⟨e2, av, e3, o⟩ := S.par j r e1
    exact ⟨e2, av, by rw [List.getElem?_set_ne (Ne.symm n)]; exact e3, o⟩
  · rcases S.prm i _ p e rfl ev with f | f
    · obtain ⟨j, ej⟩ := hF p f
      obtain ⟨e2, av, e3, o⟩ := S.par j p ej
      have n : j ≠ i := fun z => by subst z; rw [hp] at ej; cases ej
      exact S.dis j i av _ p n e3 e o rfl e2 ev
    · obtain ⟨o, eo⟩ := hL a h
      rw [z, f] at eo
      cases eo
end

section
variable {X : Cx} {Γ : Gm} {C : FC} {W : WE} {a b c e tg iter : Expr} {es : List Expr} {ia ib ic ie : IE} {it : Tg} {ii : II} {irs : List IE} {pos p pos' : Pos} {i : Nat} {x : Str} {st : Stmt} {sts us : List Stmt} {is : IS} {iss jss : List IS}
theorem ssj_nil : SsJ X Γ C W [] [] := ⟨_, pss_nil, fun A σ H ρ D S h => by rw [exSs] at h; exact h A σ H .refl S⟩
theorem ssj_cons (h1 : SJ X Γ C W st is) (h2 : SsJ X Γ C W sts iss) : SsJ X Γ C W (st :: sts) (is :: iss) := by
  obtain ⟨t, pt, qt⟩ := h1.ex
  obtain ⟨u, pu, qu⟩ := h2.ex
  refine ⟨_, pss_cons pt pu, fun A σ H ρ D S h => ?_⟩
  rw [exSs] at h
  refine qt A σ H ρ _ S ?_
  cases e : exS Γ is ρ with
  | nx ρ1 => rw [e] at h; exact fun A' σ' H' g S' => qu A' σ' H' ρ1 D S' (PostS.gr h g)
  | bk ρ1 => rw [e] at h; exact h
  | ct ρ1 => rw [e] at h; exact h
  | rt r ρ1 => rw [e] at h; exact h
  | ex k ρ1 => rw [e] at h; exact h
  | bad => rw [e] at h; exact h
theorem ssj_frz (O : CtxOk X Γ C) (h : SsJ X Γ C W sts iss) : SsJ X Γ C W sts (.frz i :: iss) := by
  obtain ⟨t, pt, qt⟩ := h.ex
  refine ⟨t, pt, fun A σ H ρ D S h => ?_⟩
  rw [exSs, exS] at h
  cases e : getL ρ i with
  | none => rw [e] at h; exact h.elim
  | some xs =>
    rw [e] at h
    dsimp only at h
    cases e2 : setV Γ i (.d (.list xs)) ρ with
    | none => rw [e2] at h; exact h.elim
    | some ρ1 =>
      rw [e2] at h
      obtain ⟨h1, h2, rfl⟩ := setV_of e2
      obtain ⟨A', sA, S'⟩ := S.freeze (getL_of e) (O.hP.none h1) O.hF O.hL
      exact qt A' σ H _ D S' (PostS.gr h ⟨Kp.refl, fun a z => .inl (sA a z)⟩)
/-- a list literal's comprehension stands apart -/
def notLc : Expr → Bool
  | .ListComp _ _ _ _ => false
  | .SetComp _ _ _ _ => false
  | .DictComp _ _ _ _ _ => false
  | _ => true
theorem swaps_no {t : Option Expr} {l : Nat} {env : PySem.Env} (h : notLc e = true) : swapsWith e t l env = pure false := by
  cases e <;> first | rfl | cases h
theorem sj_set' {te : TE} (O : CtxOk X Γ C) (pt : PS X st (tAsg te (gName i))) (q : ∀ A σ H ρ (Q : VK), SE C A σ H ρ → Post C A σ H W (GE C A H ie Q) (sem Γ ie ρ) → te σ H Q) (hs : stE ie = true) : SJ X Γ C W st (.set i ie) := by
  refine ⟨_, pt, fun A σ H ρ D S h => ?_⟩
  rw [exS] at h
  refine q A σ H ρ _ S (PostS.st h fun d ρ1 H1 k1 S1 h v s1 o1 => ?_)
  obtain ⟨ρ2, e2, h⟩ := PostS.ofO h
  obtain ⟨h1, h2, rfl⟩ := setV_of e2
  exact h A _ H1 .refl (S1.setD h2 (o1.2 hs) (O.hP.none h1))
theorem sj_own' {te : TE} (O : CtxOk X Γ C) (pt : PS X st (tAsg te (gName i))) (q : ∀ A σ H ρ (Q : VK), SE C A σ H ρ →
    Post C A σ H W (fun av ρ' H' => ∀ v, (puE ie = true → Same H H') → Fresh C A σ ρ' H H' v av → Q v H') (semF Γ ie ρ) → te σ H Q) : SJ X Γ C W st (.own i ie) := by
  refine ⟨_, pt, fun A σ H ρ D S h => ?_⟩
  rw [exS] at h
  refine q A σ H ρ _ S (PostS.stU h fun av ρ1 H1 k1 S1 h v s1 fr => ?_)
  obtain ⟨ρ2, e2, h⟩ := PostS.ofO h
  obtain ⟨h1, h2, rfl⟩ := setV_of e2
  obtain ⟨p, rfl, nA, np, q, o, S2, fp⟩ := fr
  refine h (fun a => A a ∨ a = p) _ H1 ⟨k1, fun a z => z.imp id fun z => by rw [z]; exact np⟩ (S2.setO h2 q o (O.hP.none h1) (fun j aw e1 o1 e3 => ?_) fp)
  · exact nA (Ow.sub S1 ⟨j, aw, e1, o1, e3⟩)
theorem sj_set {y : Str} {py spos : Pos} (O : CtxOk X Γ C) (hi : X.N[i]? = some y) (hx : Loc X.env.scope y) (hf : X.fn y = true ∨ X.env.scope.names.lookup y = some .local) (he : EJ X Γ C W e ie) (hs : stE ie = true) (hl : notLc e = true) :
    SJ X Γ C W (.Assign [.Name y py] e spos) (.set i ie) := by
  obtain ⟨t, pt, q⟩ := he.ex
  exact sj_set' O (ps_set O.nodup hi hx pt (swaps_no hl) hf) q hs
theorem sj_own {y : Str} {py spos : Pos} (O : CtxOk X Γ C) (hi : X.N[i]? = some y) (hx : Loc X.env.scope y) (hf : X.fn y = true ∨ X.env.scope.names.lookup y = some .local) (he : FJ X Γ C W e ie) (hl : notLc e = true) :
    SJ X Γ C W (.Assign [.Name y py] e spos) (.own i ie) := by
  obtain ⟨t, pt, q⟩ := he.ex
  exact sj_own' O (ps_set O.nodup hi hx pt (swaps_no hl) hf) q
/-- a target of several names, or one -/
theorem sj_asg {spos : Pos} (O : CtxOk X Γ C) (he : EJ X Γ C W e ie) (hs : stE ie = true) (hg : GJ X Γ C tg it) (h1 : swapsWithSole [tg] e spos.line X.env = pure false) (h2 : swappedStores [tg] e X.env = pure none) (hn : notStar tg = true) :
    SJ X Γ C W (.Assign [tg] e spos) (.asg it ie) := by
  obtain ⟨t, pt, q⟩ := he.ex
  obtain ⟨g, pg, qg⟩ := hg.ex
  refine ⟨_, ps_asg pt pg h1 h2 (by rw [asg_cons hn]; rfl), fun A σ H ρ D S h => ?_⟩
  rw [exS] at h
  refine q A σ H ρ _ S (PostS.st h fun d ρ1 H1 k1 S1 h v s1 o1 => ?_)
  obtain ⟨ρ2, e2, h⟩ := PostS.ofO h
  exact qg A σ H1 ρ1 v d ρ2 _ S1 (o1.2 hs) e2 fun σ' l k S' => h A σ' H1 .refl S'
theorem sj_ret {spos : Pos} (he : EJ X Γ C W e ie) (hs : stE ie = true) : SJ X Γ C W (.Return (some e) spos) (.ret ie) := by
  obtain ⟨t, pt, q⟩ := he.ex
  refine ⟨_, ps_ret pt, fun A σ H ρ D S h => ?_⟩
  rw [exS] at h
  exact q A σ H ρ _ S (PostS.st h fun d ρ1 H1 k1 S1 h v s1 o1 => h A σ H1 v .refl S1 (o1.2 hs))
theorem RetOk.of_fresh {A : Addr → Prop} {σ : St} {ρ : Env} {Hs H : Hp} {v : V} {av : AV} (S0 : SE C A σ H ρ) (h : Fresh C A σ ρ Hs H v av) (hF : ∀ p, C.Fp p → ∃ i, C.par i = some p) : ∃ A', (∀ a, A' a → A a ∨ Hs a = none) ∧ SE C A' σ H ρ ∧ RetOk C.K A' C.H0 H v av := by
  obtain ⟨p, rfl, nA, np, q, o, S, fp⟩ := h
  have f0 : C.H0 p = none := by
    rcases fp with f | f
    · obtain ⟨i, e⟩ := hF p f
      obtain ⟨e1, aw, e2, o2⟩ := S0.par i p e
      exact absurd (Ow.sub S0 ⟨i, aw, e2, o2, e1⟩) nA
    · exact f
  refine ⟨fun a => A a ∨ a = p, fun a z => z.imp id fun z => by rw [z]; exact np, S, ?_⟩
  cases av with
  | d x => cases o
  | l xs => obtain ⟨p', vs, e, _, q, t⟩ := q; cases e; exact ⟨p, vs, rfl, f0, q, t⟩
  | k xs => obtain ⟨p', vs, e, _, q, t⟩ := q; cases e; exact ⟨p, vs, rfl, f0, q, t⟩
  | t xs => obtain ⟨p', vs, e, _, q, t⟩ := q; cases e; exact ⟨p, vs, rfl, f0, q, t⟩
theorem sj_ex {spos : Pos} (he : EJ X Γ C W e ie) (hl : notLc e = true) : SJ X Γ C W (.Expr e spos) (.ex ie) := by
  obtain ⟨t, pt, q⟩ := he.ex
  refine ⟨_, ps_expr pt (swaps_no hl), fun A σ H ρ D S h => ?_⟩
  rw [exS] at h
  exact q A σ H ρ _ S (PostS.st h fun d ρ1 H1 k1 S1 h v s1 o1 => h A σ H1 .refl S1)
theorem sj_if {spos : Pos} (hc : TJ X Γ C W c ic) (ha : SsJ X Γ C W sts iss) (hb : SsJ X Γ C W us jss) : SJ X Γ C W (.If c sts us spos) (.if_ ic iss jss) := by
  obtain ⟨t, pt, q⟩ := hc.ex
  obtain ⟨ta, pa, qa⟩ := ha.ex
  obtain ⟨tb, pb, qb⟩ := hb.ex
  refine ⟨_, ps_if pt pa pb, fun A σ H ρ D S h => ?_⟩
  rw [exS] at h
  refine q A σ H ρ _ S (PostS.st h fun d ρ1 H1 k1 S1 h s1 => ?_)
  cases d with
  | true => exact qa A σ H1 ρ1 D S1 h
  | false => exact qb A σ H1 ρ1 D S1 h
theorem sj_brk {spos : Pos} : SJ X Γ C W (.Break spos) .brk := ⟨_, ps_break, fun A σ H ρ D S h => by rw [exS] at h; exact h A σ H .refl S⟩
theorem sj_cont {spos : Pos} : SJ X Γ C W (.Continue spos) .cont := ⟨_, ps_continue, fun A σ H ρ D S h => by rw [exS] at h; exact h A σ H .refl S⟩
theorem sj_pass {spos : Pos} : SJ X Γ C W (.Pass spos) .pass := ⟨_, ps_pass, fun A σ H ρ D S h => by rw [exS] at h; exact h A σ H .refl S⟩
theorem sj_for {spos : Pos} (O : CtxOk X Γ C) (hi : IJ X Γ C W tg iter ii) (hs : stI ii = true) (hg : GJ X Γ C tg it) (hb : SsJ X Γ C W sts iss) : SJ X Γ C W (.For tg iter sts [] spos) (.for_ it ii iss) := by
  obtain ⟨wi, pi, qi⟩ := hi.ex
  obtain ⟨g, pg, qg⟩ := hg.ex
  obtain ⟨tb, pb, qb⟩ := hb.ex
  refine ⟨_, ps_for O.passes O.calm pi pg pb hi.fs, fun A σ H ρ D S h => ?_⟩
  rw [exS] at h
  refine qi A σ H ρ _ S (PostS.st h fun xs ρ1 H1 k1 S1 h J s1 wk => ?_)
  rw [hs] at wk
  refine for_it wk (Pv := fun i σ2 H2 => ∃ A2 ρ2, Gr A H1 A2 H2 ∧ SE C A2 σ2 H2 ρ2 ∧ PostS C A2 H2 W D (forL (assignT Γ it) (exSs Γ iss) (xs.drop i) ρ2)) ⟨A, ρ1, .refl, S1, h⟩ ?_ ?_ ?_
  · rintro i σ2 H2 hi ⟨A2, ρ2, g2, S2, h2⟩
    exact ⟨⟨A2, g2⟩, fun z => by cases z⟩
  · rintro i x σ2 H2 H3 hi ⟨A2, ρ2, g2, S2, h2⟩ ⟨s3, y⟩
    obtain ⟨d, ed, qd⟩ := y A2 g2
    have hdrop : xs.drop i = d :: xs.drop (i + 1) := by
      obtain ⟨hl, he⟩ := List.getElem?_eq_some_iff.mp ed
      rw [← he]
      exact List.drop_eq_getElem_cons hl
    rw [hdrop, forL] at h2
    cases e1 : assignT Γ it d ρ2 with
    | none => rw [e1] at h2; exact h2.elim
    | some ρ3 =>
      rw [e1] at h2
      dsimp only at h2
      have h2 := PostS.gr h2 (Gr.of_kp (.of_same s3))
      have g3 := g2.same s3
      refine qg A2 σ2 H3 ρ2 x d ρ3 _ (S2.same s3) qd e1 fun σ4 l4 k4 S4 => ?_
      refine qb A2 σ4 H3 ρ3 _ S4 ?_
      cases e2 : exSs Γ iss ρ3 with
      | nx ρ4 => rw [e2] at h2; exact fun A' σ' H' g' S' => ⟨A', ρ4, g3.trans g', S', PostS.gr h2 g'⟩
      | ct ρ4 => rw [e2] at h2; exact fun A' σ' H' g' S' => ⟨A', ρ4, g3.trans g', S', PostS.gr h2 g'⟩
      | bk ρ4 => rw [e2] at h2; exact h2
      | rt r ρ4 => rw [e2] at h2; exact h2
      | ex k ρ4 => rw [e2] at h2; exact h2
      | bad => rw [e2] at h2; exact h2
  · rintro σ2 H2 ⟨A2, ρ2, g2, S2, h2⟩
    rw [List.drop_length, forL] at h2
    exact h2 A2 σ2 H2 .refl S2
theorem sj_while {spos : Pos} (O : CtxOk X Γ C) (hc : TJ X Γ C W c ic) (hb : SsJ X Γ C W sts iss) : SJ X Γ C W (.While c sts [] spos) (.while_ ic iss) := by
  obtain ⟨tb, pb, qb⟩ := hb.ex
  refine ⟨_, ps_while O.passes hc.can pb, fun A σ H ρ D S h => ?_⟩
  rw [exS] at h
  refine ⟨fun m σ2 H2 => ∃ A2 ρ2, SE C A2 σ2 H2 ρ2 ∧ PostS C A2 H2 W D (whileL (semT Γ ic) (exSs Γ iss) m ρ2), ⟨laps, A, ρ, S, h⟩, ?_⟩
  rintro m σ2 H2 ⟨A2, ρ2, S2, h2⟩
  cases m with
  | zero => rw [whileL] at h2; exact h2.elim
  | succ n =>
    rw [whileL] at h2
    refine ⟨A2, ρ2, S2, ?_⟩
    cases e1 : semT Γ ic ρ2 with
    | bad => rw [e1] at h2; exact h2.elim
    | ex k ρ3 => rw [e1] at h2; exact fun H3 k3 S3 => h2 A2 σ2 H3 (.of_kp k3) S3
    | ok b ρ3 =>
      rw [e1] at h2
      intro H3 k3 S3 s3
      cases b with
      | false =>
        dsimp only at h2
        rw [if_neg (by decide)]
        exact h2 A2 σ2 H3 (.of_kp k3) S3
      | true =>
        dsimp only at h2
        rw [if_pos rfl]
        have h2 := PostS.gr h2 (Gr.of_kp k3)
        refine ⟨fun σ' H' => ∃ A' ρ', SE C A' σ' H' ρ' ∧ PostS C A' H' W D (whileL (semT Γ ic) (exSs Γ iss) n ρ'), fun σ' H' z => ⟨n, Nat.lt_succ_self n, z⟩, ?_⟩
        refine qb A2 σ2 H3 ρ3 _ S3 ?_
        cases e2 : exSs Γ iss ρ3 with
        | nx ρ4 => rw [e2] at h2; exact fun A' σ' H' g' S' => ⟨A', ρ4, S', PostS.gr h2 g'⟩
        | ct ρ4 => rw [e2] at h2; exact fun A' σ' H' g' S' => ⟨A', ρ4, S', PostS.gr h2 g'⟩
        | bk ρ4 => rw [e2] at h2; exact h2
        | rt r ρ4 => rw [e2] at h2; exact h2
        | ex k ρ4 => rw [e2] at h2; exact h2
        | bad => rw [e2] at h2; exact h2
end
end F3
end
section
namespace F3
open PySem PySem.Spec L2

/-! ### new lists -/
section
variable {C : FC} {A : Addr → Prop} {σ : St} {H H1 H' : Hp} {ρ ρ1 : Env} {p : Addr} {vs : List V} {xs : List PyData}
theorem Fresh.lay (k : Kp A H H1) (S1 : SE C A σ H1 ρ1) (n : H1 p = none) (t : DqA C.K A H1 vs xs) : Fresh C A σ ρ1 H (upd H1 p (.lst vs)) (.ref p) (.l xs) := by
  have nA := S1.notA n
  refine ⟨p, rfl, nA, k.back nA n, ⟨p, vs, rfl, .inr rfl, upd_same, DqA.gr ⟨Kp.laid n, fun a z => z.imp id fun z => by rw [z]; exact n⟩ _ _ t⟩, rfl, S1.grow n (Same.laid n) ⟨_, upd_same⟩, S1.newp n⟩
/-- read as data -/
theorem Fresh.dq {ρ' : Env} {v : V} (h : Fresh C A σ ρ' H H' v (.l xs)) : Dq C.K A H' v (.list xs) := by
  obtain ⟨p, rfl, nA, np, ⟨p', vs, e, _, q, t⟩, o, S, fp⟩ := h
  cases e
  exact .lst nA (.inl q) (t.less fun a z => .inl z)
theorem Fresh.start {ρ' : Env} {v : V} {av : AV} (h : Fresh C A σ ρ' H1 H' v av) (k : Kp A H H1) : Fresh C A σ ρ' H H' v av := by
  obtain ⟨p, e, nA, np, r⟩ := h
  exact ⟨p, e, nA, k.back nA np, r⟩
theorem rg_data {K : PySem.W.Frag} : ∀ (n : Nat) (lo : Nat), DqA K A H ((List.range n).map fun i => V.int ((0 : Int) + (i : Nat))) ((List.range n).map fun (i : Nat) => PyData.int i) := fun n _ => by
  have g : ∀ l : List Nat, DqA K A H (l.map fun i => V.int ((0 : Int) + (i : Nat))) (l.map fun (i : Nat) => PyData.int i) := fun l => by
    induction l with
    | nil => exact .nil
    | cons a r ih =>
      refine .cons ?_ ih
      show Dq K A H (V.int ((0 : Int) + (a : Nat))) (.int a)
      rw [Int.zero_add]
      exact .int _
  exact g _
end
section
variable {X : Cx} {Γ : Gm} {C : FC} {W : WE} {a b c e tg iter : Expr} {es ifs : List Expr} {ia ib ic ie : IE} {oc : Option IE} {it : Tg} {ii : II} {irs jrs : List IE} {pos p pos' spos apos cpos : Pos} {i f : Nat} {x : Str} {st : Stmt} {sts us : List Stmt} {is : IS} {iss jss : List IS}
theorem fj_lst (hl : VJ X Γ C W es irs) (hn : irs.length ≤ 1000) : FJ X Γ C W (.List es pos) (.lst irs) := by
  obtain ⟨t, p, q⟩ := hl.ex
  refine ⟨_, pe_lst p, fun A σ H ρ Q S h => ?_⟩
  rw [semF] at h
  refine q A σ H ρ _ S (h.bind fun xs ρ1 H1 k1 S1 h vs s1 o1 l1 => ⟨by rw [l1]; exact small_fits hn, fun p np => ?_⟩)
  exact h _ (Kp.laid np) (S1.same (Same.laid np)) _ (fun z => by rw [puE] at z; exact (s1 z).trans (Same.laid np)) (.lay k1 S1 np o1)
theorem fj_list (hK : X.K = C.K) (hg : Gl X "list") (hm : X.mg "list" = none) (ha : EJ X Γ C W a ia) (hn : notStar a = true) : FJ X Γ C W (.Call (.Name "list" p) [a] [] pos) (.bi .lst [ia]) := by
  obtain ⟨t, pt, q⟩ := ha.ex
  refine ⟨_, pe_callTy (biG_lst0) hg hm (by decide +kernel) (pa_cons pt pa_nil (star_cons hn)) (by decide) (by decide) (star_cons hn) (star_plain rfl), fun A σ H ρ Q S h => ?_⟩
  rw [semF] at h
  refine q A σ H ρ _ S (h.bind fun d ρ1 H1 k1 S1 h v s1 o1 => ?_)
  obtain ⟨av, e1, h⟩ := Post.of h
  obtain ⟨ds, e2, rfl⟩ := Option.of_map e1
  refine ⟨A, d, ds, S1.live, hK ▸ .cons o1.1 .nil, e2, fun vs p np t => ?_⟩
  exact h _ (Kp.laid np) (S1.same (Same.laid np)) _ (fun z => by rw [puE, puL] at z; exact (s1 (and_l z)).trans (Same.laid np)) (.lay k1 S1 np (hK ▸ t))
theorem rngL_of {n : Int} {d : PyData} (h : biD .rngL [.int n] = some d) : 0 ≤ n ∧ n ≤ 100000 ∧ d = .list ((List.range n.toNat).map fun (i : Nat) => PyData.int i) := by
  rw [biD] at h
  split at h
  · rename_i z
    cases h
    have := of_decide_eq_true z
    exact ⟨this.1, this.2, rfl⟩
  · cases h
theorem rgV_eq {n : Int} : rgV 0 n = (List.range n.toNat).map fun i => V.int ((0 : Int) + (i : Nat)) := by
  unfold rgV
  rw [Int.sub_zero]
theorem rng_no {d : PyData} {r : PyData} (h : biD .rngL [d] = some r) : ∃ n, d = .int n := by
  cases d <;> first | exact ⟨_, rfl⟩ | cases h
theorem ej_rngL (O : EOk X Γ C) {p2 pos2 : Pos} (hg : Gl X "list") (hm : X.mg "list" = none) (hg2 : Gl X "range") (hm2 : X.mg "range" = none) (ha : EJ X Γ C W a ia) (hn : notStar a = true) :
    EJ X Γ C W (.Call (.Name "list" p) [.Call (.Name "range" p2) [a] [] pos2] [] pos) (.bi .rngL [ia]) := by
  obtain ⟨t, pt, q⟩ := ha.ex
  refine ⟨_, pe_listRg O.calm hg hm (prg_1 hg2 hm2 pt (star_cons hn)) (star_cons rfl), fun A σ H ρ Q S h => ?_⟩
  rw [sem, semL] at h
  simp only [semL] at h
  rw [Rs.bind_bind] at h
  refine q A σ H ρ _ S (h.bind fun d ρ1 H1 k1 S1 h v s1 o1 => ?_)
  obtain ⟨r, e1, h⟩ := Post.of (o := biD .rngL [d]) h
  obtain ⟨n, rfl⟩ := rng_no e1
  obtain ⟨z1, z2, rfl⟩ := rngL_of e1
  cases o1.1.int
  refine ⟨n, rfl, RgOk.of_le (by omega) (by omega) (by omega) (by omega), fun p np => ?_⟩
  refine h _ (Kp.laid np) (S1.same (Same.laid np)) _ (fun z => by rw [puE, puL] at z; exact (s1 (and_l z)).trans (Same.laid np)) (vok (newL ?_ S1.live np))
  rw [rgV_eq]
  exact rg_data _ 0
theorem fj_rngL (O : EOk X Γ C) {p2 pos2 : Pos} (hg : Gl X "list") (hm : X.mg "list" = none) (hg2 : Gl X "range") (hm2 : X.mg "range" = none) (ha : EJ X Γ C W a ia) (hn : notStar a = true) :
    FJ X Γ C W (.Call (.Name "list" p) [.Call (.Name "range" p2) [a] [] pos2] [] pos) (.bi .rngL [ia]) := by
  obtain ⟨t, pt, q⟩ := ha.ex
  refine ⟨_, pe_listRg O.calm hg hm (prg_1 hg2 hm2 pt (star_cons hn)) (star_cons rfl), fun A σ H ρ Q S h => ?_⟩
  rw [semF] at h
  refine q A σ H ρ _ S (h.bind fun d ρ1 H1 k1 S1 h v s1 o1 => ?_)
  cases e1 : biD .rngL [d] with
  | none => rw [e1] at h; exact h.elim
  | some r =>
    rw [e1] at h
    obtain ⟨n, rfl⟩ := rng_no e1
    obtain ⟨z1, z2, rfl⟩ := rngL_of e1
    cases o1.1.int
    refine ⟨n, rfl, RgOk.of_le (by omega) (by omega) (by omega) (by omega), fun p np => ?_⟩
    refine h _ (Kp.laid np) (S1.same (Same.laid np)) _ (fun z => by rw [puE, puL] at z; exact (s1 (and_l z)).trans (Same.laid np)) (.lay k1 S1 np ?_)
    rw [rgV_eq]
    exact rg_data _ 0
theorem fj_or (hK : X.K = C.K) {rest : List Expr} (ha : FJ X Γ C W a ia) (hb : FJ X Γ C W (.BoolOp .Or (b :: rest) pos) ib) : FJ X Γ C W (.BoolOp .Or (a :: b :: rest) pos) (.or ia ib) := by
  obtain ⟨ta, pa, qa⟩ := ha.ex
  obtain ⟨tb, pb, qb⟩ := hb.ex
  refine ⟨_, pe_orT pa pb, fun A σ H ρ Q S h => ?_⟩
  rw [semF] at h
  refine qa A σ H ρ _ S (h.bind fun x ρ1 H1 k1 S1 h v s1 o1 => ?_)
  cases x with
  | l xs =>
    dsimp only at h
    refine ⟨!xs.isEmpty, hK ▸ truG (.inl o1.dq) rfl, ?_⟩
    cases e : xs.isEmpty with
    | true =>
      rw [e, if_pos rfl] at h
      exact iteF (qb A σ H1 ρ1 _ S1 (h.imp fun d ρ2 H2 k2 S2 g w s2 o2 => g w (fun z => by rw [puE] at z; exact (s1 (and_l z)).trans (s2 (and_r z))) (o2.start k1)))
    | false =>
      rw [e] at h
      exact iteT (h H1 Kp.refl S1 v (fun z => by rw [puE] at z; exact s1 (and_l z)) o1)
  | _ => exact h.elim
theorem fj_one (ha : FJ X Γ C W a ia) : FJ X Γ C W (.BoolOp .Or [a] pos) ia := by
  obtain ⟨ta, pa, qa⟩ := ha.ex
  exact ⟨_, pe_one pa, qa⟩
/-- the ints of a new list, whatever is one's own -/
theorem dqA_any {K : PySem.W.Frag} {A B : Addr → Prop} {H : Hp} : ∀ {vs : List V} {ds : List PyData} {ns : List Int}, DqA K A H vs ds → intsOf ds = some ns → DqA K B H vs ds
  | _, [], _, h, _ => by cases h; exact .nil
  | _, .int i :: r, ns, h, e => by
    cases h with
    | cons q t =>
      cases q
      rw [intsOf] at e
      obtain ⟨ms, e1, _⟩ := Option.of_map e
      exact .cons (.int _) (dqA_any t e1)
  | _, .none :: _, _, _, e => by simp [intsOf] at e
  | _, .bool _ :: _, _, _, e => by simp [intsOf] at e
  | _, .str _ :: _, _, _, e => by simp [intsOf] at e
  | _, .list _ :: _, _, _, e => by simp [intsOf] at e
  | _, .tuple _ :: _, _, _, e => by simp [intsOf] at e
  | _, .dict _ :: _, _, _, e => by simp [intsOf] at e
theorem fj_call (h : PE X e (tcC Γ C W f irs)) : FJ X Γ C W e (.call f irs) := by
  refine ⟨_, h, fun A σ H ρ Q S h => ⟨A, ρ, S, ?_⟩⟩
  rw [semF] at h
  unfold semK
  refine Post.bind (f := fun r ρ2 => match r with
    | .l xs => if (irs.all fun i => !isOvar i) && (intsOf xs).isSome then Rs.ok (AV.l xs) ρ2 else Rs.bad
    | _ => Rs.bad) (by rw [Rs.bind_bind]; exact h) fun r ρ1 H1 k1 S1 h v s1 ⟨H0, k0, ro, lv, z0⟩ => ?_
  cases r with
  | l xs =>
    dsimp only at h
    split at h
    · rename_i z
      obtain ⟨S0, s0⟩ := z0 (and_l z)
      obtain ⟨p, vs, rfl, n, q, t⟩ := ro
      cases e2 : intsOf xs with
      | none => have := and_r z; rw [e2] at this; cases this
      | some ns =>
        have nA0 : ¬ A p := S0.notA n
        have np : H p = none := k0.back nA0 n
        exact h H1 Kp.refl S1 _ (fun z => s1 (by rw [puE] at z; exact z)) ⟨p, rfl, nA0, np, ⟨p, vs, rfl, .inr rfl, q, dqA_any t e2⟩, rfl, S0.grow n s0 ⟨_, q⟩, S0.newp n⟩
    · exact h.elim
  | _ => exact h.elim

/-! ### comprehensions -/
/-- what a comprehension stands on -/
structure LcOk (X : Cx) (Γ : Gm) (C : FC) (W : WE) (elt tg iter : Expr) (ifs : List Expr) (scope : Scope) (own : List (Str × Nat)) (it : Tg) (ii : II) (oc : Option IE) (ie : IE) : Prop where
  iter : IJ X Γ C W tg iter ii
  blk : BlkOk X.N X.env.scope scope own
  st : stE ie = true
  pi : (stI ii || (puO oc && puE ie)) = true
  tgs : ∀ i ∈ tgS it, i ∈ own.map (·.2)
  g : ∀ (s : Shared) (H : Hp) (Cc : Addr) (cl : List (Str × Addr)) (fp : List Addr) (C' : FC), C'.K = C.K → ParOk Γ C' → GJ (X.blk s H scope (compEnvC scope cl Cc X.env) fp) Γ C' tg it
  c : ∀ (s : Shared) (H : Hp) (Cc : Addr) (cl : List (Str × Addr)) (fp : List Addr), PTs (X.blk s H scope (compEnvC scope cl Cc X.env) fp) ifs (tbC Γ C.K oc)
  e : ∀ (s : Shared) (H : Hp) (Cc : Addr) (cl : List (Str × Addr)) (fp : List Addr) (C' : FC), C'.K = C.K → ParOk Γ C' → EJ (X.blk s H scope (compEnvC scope cl Cc X.env) fp) Γ C' W0 elt ie
variable {elt : Expr} {scope : Scope} {own : List (Str × Nat)}
theorem lc_pe (O : EOk X Γ C) (L : LcOk X Γ C W elt tg iter ifs scope own it ii oc ie) : ∃ wi, PE X (.ListComp elt [⟨tg, iter, ifs, 0⟩] scope pos) (tLc wi (tbG Γ C.K it) (tbC Γ C.K oc) (tbE Γ C.K ie) (own.map (·.2))) ∧
    (∀ (i : Nat) (y : Str) (py spos : Pos), X.N[i]? = some y → X.env.scope.names.lookup y = some .local → swapsWith (.ListComp elt [⟨tg, iter, ifs, 0⟩] scope pos) (some (.Name y py)) spos.line X.env = pure true →
      PS X (.Assign [.Name y py] (.ListComp elt [⟨tg, iter, ifs, 0⟩] scope pos) spos) (tAsg (tLc wi (tbG Γ C.K it) (tbC Γ C.K oc) (tbE Γ C.K ie) (own.map (·.2))) (gName i))) ∧
    ∀ A σ H ρ (Q : VK), SE C A σ H ρ → Post C A σ H W (fun ys ρ' H' => ∀ v, ((puI ii && puO oc && puE ie) = true → Same H H') → Fresh C A σ ρ' H H' v (.l ys) → Q v H') (lcS Γ (own.map (·.2)) it ii oc ie ρ) →
      tLc wi (tbG Γ C.K it) (tbC Γ C.K oc) (tbE Γ C.K ie) (own.map (·.2)) σ H Q := by
  obtain ⟨wi, pi, qi⟩ := L.iter.ex
  refine ⟨wi, pe_lc O.calm O.nodup pi L.blk (fun s H Cc cl fp => pg_b (L.g s H Cc cl fp)) L.c (fun s H Cc cl fp => pe_b (L.e s H Cc cl fp)) L.iter.fs, fun i y py spos hy hyl hsw => ?_, fun A σ H ρ Q S h => ?_⟩
  · exact ps_setLc O.calm O.nodup hy hyl hsw pi L.blk (fun s H Cc cl fp => pg_b (L.g s H Cc cl fp)) L.c (fun s H Cc cl fp => pe_b (L.e s H Cc cl fp)) L.iter.fs
  · exact lc_run S O.hP L.st L.pi L.tgs (fun R => qi A σ H ρ R S) h
theorem lcS_eq {ρ : Env} : sem Γ (.lc (own.map (·.2)) it ii oc ie) ρ = (lcS Γ (own.map (·.2)) it ii oc ie ρ).bind fun ys ρ1 => .ok (.list ys) ρ1 := by
  rw [sem]
  unfold lcS
  rw [Rs.bind_bind]
  congr 1
  funext xs ρ1
  split
  · rw [Rs.bind_bind]
    congr 1
    funext ys ρ2
    cases merge ρ1 ρ2 <;> rfl
  · rfl
theorem lcS_eqF {ρ : Env} : semF Γ (.lc (own.map (·.2)) it ii oc ie) ρ = (lcS Γ (own.map (·.2)) it ii oc ie ρ).bind fun ys ρ1 => .ok (.l ys) ρ1 := by
  rw [semF]
  unfold lcS
  rw [Rs.bind_bind]
  congr 1
  funext xs ρ1
  split
  · rw [Rs.bind_bind]
    congr 1
    funext ys ρ2
    cases merge ρ1 ρ2 <;> rfl
  · rfl
theorem ej_lc (O : EOk X Γ C) (L : LcOk X Γ C W elt tg iter ifs scope own it ii oc ie) : EJ X Γ C W (.ListComp elt [⟨tg, iter, ifs, 0⟩] scope pos) (.lc (own.map (·.2)) it ii oc ie) := by
  obtain ⟨wi, pe, _, q⟩ := lc_pe (pos := pos) O L
  refine ⟨_, pe, fun A σ H ρ Q S h => q A σ H ρ Q S ?_⟩
  rw [lcS_eq] at h
  exact h.bind fun ys ρ1 H1 k1 S1 h v s1 fr => h H1 Kp.refl S1 v (fun z => s1 (by rw [puE] at z; exact z)) (vok fr.dq)
theorem fj_lc (O : EOk X Γ C) (L : LcOk X Γ C W elt tg iter ifs scope own it ii oc ie) : FJ X Γ C W (.ListComp elt [⟨tg, iter, ifs, 0⟩] scope pos) (.lc (own.map (·.2)) it ii oc ie) := by
  obtain ⟨wi, pe, _, q⟩ := lc_pe (pos := pos) O L
  refine ⟨_, pe, fun A σ H ρ Q S h => q A σ H ρ Q S ?_⟩
  rw [lcS_eqF] at h
  exact h.bind fun ys ρ1 H1 k1 S1 h v s1 fr => h H1 Kp.refl S1 v (fun z => s1 (by rw [puE] at z; exact z)) fr
theorem sj_setLc {y : Str} {py : Pos} (O : CtxOk X Γ C) (L : LcOk X Γ C W elt tg iter ifs scope own it ii oc ie) (hy : X.N[i]? = some y) (hyl : X.env.scope.names.lookup y = some .local)
    (hsw : swapsWith (.ListComp elt [⟨tg, iter, ifs, 0⟩] scope pos) (some (.Name y py)) spos.line X.env = pure true) :
    SJ X Γ C W (.Assign [.Name y py] (.ListComp elt [⟨tg, iter, ifs, 0⟩] scope pos) spos) (.set i (.lc (own.map (·.2)) it ii oc ie)) := by
  obtain ⟨wi, pe, ps, q⟩ := lc_pe (pos := pos) O.e L
  refine sj_set' O (ps i y py spos hy hyl hsw) (fun A σ H ρ Q S h => q A σ H ρ Q S ?_) rfl
  rw [lcS_eq] at h
  exact h.bind fun ys ρ1 H1 k1 S1 h v s1 fr => h H1 Kp.refl S1 v (fun z => s1 (by rw [puE] at z; exact z)) (vok fr.dq)
theorem sj_ownLc {y : Str} {py : Pos} (O : CtxOk X Γ C) (L : LcOk X Γ C W elt tg iter ifs scope own it ii oc ie) (hy : X.N[i]? = some y) (hyl : X.env.scope.names.lookup y = some .local)
    (hsw : swapsWith (.ListComp elt [⟨tg, iter, ifs, 0⟩] scope pos) (some (.Name y py)) spos.line X.env = pure true) :
    SJ X Γ C W (.Assign [.Name y py] (.ListComp elt [⟨tg, iter, ifs, 0⟩] scope pos) spos) (.own i (.lc (own.map (·.2)) it ii oc ie)) := by
  obtain ⟨wi, pe, ps, q⟩ := lc_pe (pos := pos) O.e L
  refine sj_own' O (ps i y py spos hy hyl hsw) (fun A σ H ρ Q S h => q A σ H ρ Q S ?_)
  rw [lcS_eqF] at h
  exact h.bind fun ys ρ1 H1 k1 S1 h v s1 fr => h H1 Kp.refl S1 v (fun z => s1 (by rw [puE] at z; exact z)) fr
end
end F3
end
section
namespace F3
open PySem PySem.Spec L2

/-! ### list methods -/
section
variable {X : Cx}
def rExtR (K : PySem.W.Frag) : V → List V → Hp → VK → Prop := fun x vs H Q => ∃ l b xs zs, x = .ref l ∧ vs = [.ref b] ∧ H l = some (.lst xs) ∧ SqR K H b zs ∧ xs.length + zs.length ≤ sizeLine ∧ Q .non (upd H l (.lst (xs ++ zs)))
theorem mt_extR : MtM X "list.extend" (rExtR X.K) := by
  intro pins s σ H x vs v us Q I rx rv h
  obtain ⟨l, b, xs, zs, rfl, rfl, hH, hB, hz, q⟩ := h
  cases rx
  obtain ⟨u, rfl, ru⟩ := rv.one
  cases ru
  obtain ⟨z, its, n, r, hl, e⟩ := I.lstM hH
  obtain ⟨its2, n2, r2, e2, z2⟩ := hB.obj I
  have hl2 := r2.length
  have hsz : its.toArray.size + its2.toArray.size ≤ sizeLine := by rw [List.size_toArray, List.size_toArray]; omega
  have hlong : ¬ (!its.toArray.isEmpty && Builtin.List.listTooLong (its.toArray.size + its2.toArray.size)) = true := by
    rw [notLongL hsz, Bool.and_false]
    exact Bool.false_ne_true
  refine call_meets F.slot_list_extend ⟨_, e, rfl⟩ F.entry_list_extend (F.args_list_extend_2 _ _)
    (AutoSeq1.list_extend_list_list_0 l its.toArray n b its2.toArray n2 hlong (by rw [List.size_toArray]; omega) (by omega)) ⟨e, e2, ?_⟩
  refine ⟨.non, _, I.lset (its' := its ++ its2) hH e (by simp) (r.append r2) ?_, rfl, q⟩
  rw [List.length_append]
  omega
end
section
variable {X : Cx} {Γ : Gm} {C : FC} {W : WE} {a b c e tg iter k : Expr} {es ifs : List Expr} {ia ib ic ie ik : IE} {it : Tg} {ii : II} {irs jrs : List IE} {pos p pos' spos apos cpos : Pos} {i f : Nat} {x : Str} {st : Stmt} {sts us : List Stmt} {is : IS} {iss jss : List IS}
theorem base_var {m : Str} : attributeBase (.Name x p) m X.env (eval (.Name x p) X.env) = eval (.Name x p) X.env := rfl
theorem few_one (hn : notStar e = true) : ((backTo cpos (starEach [e] X.env)).all (fun x => !x.1) && (backToKw cpos (keywordEach [] X.env)).all (fun x => x.1.isSome)
      && decide (([e] : List Expr).length + ([] : List Keyword).length + (if ([] : List Keyword).isEmpty then 0 else 1) < 30)) = true := by
  rw [star_cons hn]; rfl
theorem own_at {A : Addr → Prop} {σ : St} {H : Hp} {ρ : Env} {xs : List PyData} (S : SE C A σ H ρ) (h : getL ρ i = some xs) : ∃ p vs, σ[i]? = some (some (.ref p)) ∧ A p ∧ H p = some (.lst vs) ∧ DqA C.K A H vs xs := by
  obtain ⟨v, ev, p, vs, rfl, ha, q, t⟩ := S.at_ i _ (getL_of h)
  exact ⟨p, vs, ev, ha, q, t⟩
theorem isSome_of {α : Type} {o : Option α} (h : o.isSome = true) : ∃ a, o = some a := Option.isSome_iff_exists.mp h
theorem sj_app (O : CtxOk X Γ C) (hN : X.N[i]? = some x) (hv : Vis X.env.scope x) (hd : (x == ("__debug__" : Str)) = false) (hcd : (x == ("__classdict__" : Str)) = false) (he : EJ X Γ C W e ie) (hs : stE ie = true) (hn : notStar e = true) (hline : (apos.endLine == cpos.line) = true) :
    SJ X Γ C W (.Expr (.Call (.Attribute (.Name x p) "append" apos) [e] [] cpos) spos) (.app i ie) := by
  obtain ⟨t, pt, q⟩ := he.ex
  refine ⟨_, ps_expr (pe_bm PySem.F.plainAttrs_list PySem.F.slot_list_append PySem.F.type_list_append mt_append (pe_var hN hv hd hcd) (pa_cons pt pa_nil (star_cons hn)) base_var (few_one hn) hline (star_cons hn) (star_plain rfl)) (swaps_no rfl), fun A σ H ρ D S h => ?_⟩
  rw [exS] at h
  split at h
  · rename_i z
    obtain ⟨xs0, z⟩ := isSome_of z
    obtain ⟨p0, vs0, ev, ha, hp, t0⟩ := own_at S z
    refine ⟨_, ev, .inl ⟨rfl, vs0, .inl (.inl hp)⟩, q A σ H ρ _ S (PostS.st h fun d ρ1 H1 k1 S1 h v s1 o1 => ?_)⟩
    cases z1 : getL ρ1 i with
    | none => rw [z1] at h; exact h.elim
    | some xs =>
      rw [z1] at h
      dsimp only at h
      split at h
      · rename_i hf
        obtain ⟨p1, vs, ev1, ha1, hp1, t1⟩ := own_at S1 z1
        rw [ev] at ev1
        cases ev1
        refine ⟨p0, vs, v, rfl, rfl, hp1, ?_, ?_⟩
        · rw [t1.length]
          unfold fits at hf
          have := of_decide_eq_true hf
          omega
        · exact h A σ _ (.of_kp (Kp.written ha hp1 trivial)) (S1.putL (getL_of z1) ev ha hp1 (t1.app (.cons (o1.2 hs) .nil)))
      · exact h.elim
  · exact h.elim
theorem sj_ext (O : CtxOk X Γ C) (hN : X.N[i]? = some x) (hv : Vis X.env.scope x) (hd : (x == ("__debug__" : Str)) = false) (hcd : (x == ("__classdict__" : Str)) = false) (he : EJ X Γ C W e ie) (hs : stE ie = true) (hn : notStar e = true) (hline : (apos.endLine == cpos.line) = true) :
    SJ X Γ C W (.Expr (.Call (.Attribute (.Name x p) "extend" apos) [e] [] cpos) spos) (.ext i ie) := by
  obtain ⟨t, pt, q⟩ := he.ex
  refine ⟨_, ps_expr (pe_bm PySem.F.plainAttrs_list PySem.F.slot_list_extend PySem.F.type_list_extend mt_extR (pe_var hN hv hd hcd) (pa_cons pt pa_nil (star_cons hn)) base_var (few_one hn) hline (star_cons hn) (star_plain rfl)) (swaps_no rfl), fun A σ H ρ D S h => ?_⟩
  rw [exS] at h
  split at h
  · rename_i z
    obtain ⟨xs0, z⟩ := isSome_of z
    obtain ⟨p0, vs0, ev, ha, hp, t0⟩ := own_at S z
    refine ⟨_, ev, .inl ⟨rfl, vs0, .inl (.inl hp)⟩, q A σ H ρ _ S (PostS.st h fun d ρ1 H1 k1 S1 h v s1 o1 => ?_)⟩
    cases z1 : getL ρ1 i with
    | none => rw [z1] at h; exact h.elim
    | some xs =>
      rw [z1] at h
      cases d with
      | list ys =>
        dsimp only at h
        split at h
        · rename_i hf
          obtain ⟨p1, vs, ev1, ha1, hp1, t1⟩ := own_at S1 z1
          rw [ev] at ev1
          cases ev1
          have qd := o1.2 hs
          have hq : ∃ b ws, v = .ref b ∧ SqR C.K H1 b ws ∧ DqA C.K A H1 ws ys := by
            cases qd with
            | lst nA r t2 => exact ⟨_, _, rfl, .inl r, t2⟩
            | kl r t2 => exact ⟨_, _, rfl, .inr r, t2⟩
          obtain ⟨b, ws, rfl, r, t2⟩ := hq
          refine ⟨p0, b, vs, ws, rfl, rfl, hp1, O.hK ▸ r, ?_, ?_⟩
          · rw [t1.length, t2.length]
            unfold fits at hf
            exact of_decide_eq_true hf
          · exact h A σ _ (.of_kp (Kp.written ha hp1 trivial)) (S1.putL (getL_of z1) ev ha hp1 (t1.app t2))
        · exact h.elim
      | _ => exact h.elim
  · exact h.elim
theorem dropLast_at {α : Type} {xs : List α} (h : xs ≠ []) : ∃ y, xs[xs.length - 1]? = some y := by
  have : xs.length - 1 < xs.length := by
    cases xs with
    | nil => exact absurd rfl h
    | cons a r => simp
  exact ⟨_, List.getElem?_eq_getElem this⟩
theorem DqA.dropLast {K : PySem.W.Frag} {A : Addr → Prop} {H : Hp} : ∀ {vs : List V} {ds : List PyData}, DqA K A H vs ds → DqA K A H vs.dropLast ds.dropLast := fun {vs ds} h => by
  rw [List.dropLast_eq_take, List.dropLast_eq_take, h.length]
  exact h.take _
theorem sj_pop (O : CtxOk X Γ C) (hN : X.N[i]? = some x) (hv : Vis X.env.scope x) (hd : (x == ("__debug__" : Str)) = false) (hcd : (x == ("__classdict__" : Str)) = false) (hline : (apos.endLine == cpos.line) = true) :
    SJ X Γ C W (.Expr (.Call (.Attribute (.Name x p) "pop" apos) [] [] cpos) spos) (.pop i) := by
  refine ⟨_, ps_expr (pe_bm0 PySem.F.plainAttrs_list PySem.F.slot_list_pop PySem.F.type_list_pop mt_pop (pe_var hN hv hd hcd) base_var hline) (swaps_no rfl), fun A σ H ρ D S h => ?_⟩
  rw [exS] at h
  cases z : getL ρ i with
  | none => rw [z] at h; exact h.elim
  | some xs =>
    rw [z] at h
    dsimp only at h
    obtain ⟨p0, vs, ev, ha, hp, t0⟩ := own_at S z
    split at h
    · exact h.elim
    · rename_i hne
      have hv0 : vs ≠ [] := fun z => by
        rw [t0.nil_iff] at z
        rw [z] at hne
        exact hne rfl
      obtain ⟨y, ey⟩ := dropLast_at hv0
      refine ⟨_, ev, .inl ⟨rfl, vs, .inl (.inl hp)⟩, p0, vs, y, rfl, rfl, hp, ey, ?_⟩
      exact h A σ _ (.of_kp (Kp.written ha hp trivial)) (S.putL (getL_of z) ev ha hp t0.dropLast)
theorem ej_popAt (hN : X.N[i]? = some x) (hv : Vis X.env.scope x) (hd : (x == ("__debug__" : Str)) = false) (hcd : (x == ("__classdict__" : Str)) = false) (he : EJ X Γ C W e ie) (hn : notStar e = true) (hline : (apos.endLine == cpos.line) = true) :
    EJ X Γ C W (.Call (.Attribute (.Name x p) "pop" apos) [e] [] cpos) (.popAt i ie) := by
  obtain ⟨t, pt, q⟩ := he.ex
  refine ⟨_, pe_bm PySem.F.plainAttrs_list PySem.F.slot_list_pop PySem.F.type_list_pop mt_popAt (pe_var hN hv hd hcd) (pa_cons pt pa_nil (star_cons hn)) base_var (few_one hn) hline (star_cons hn) (star_plain rfl), fun A σ H ρ Q S h => ?_⟩
  rw [sem] at h
  split at h
  · rename_i z
    obtain ⟨xs0, z⟩ := isSome_of z
    obtain ⟨p0, vs0, ev, ha, hp, t0⟩ := own_at S z
    refine ⟨_, ev, .inl ⟨rfl, vs0, .inl (.inl hp)⟩, q A σ H ρ _ S (Post.bind h fun d ρ1 H1 k1 S1 h v s1 o1 => ?_)⟩
    cases z1 : getL ρ1 i with
    | none => rw [z1] at h; exact h.elim
    | some xs =>
      rw [z1] at h
      cases d with
      | int k =>
        dsimp only at h
        split at h
        · rename_i hk
          have hk := of_decide_eq_true hk
          cases ey : xs[k.toNat]? with
          | none => rw [ey] at h; exact h.elim
          | some y =>
            rw [ey] at h
            dsimp only at h
            obtain ⟨p1, vs, ev1, ha1, hp1, t1⟩ := own_at S1 z1
            rw [ev] at ev1
            cases ev1
            cases o1.1.int
            obtain ⟨w, ew, qw⟩ := t1.get ey
            have hlt : k.toNat < vs.length := (List.getElem?_eq_some_iff.mp ew).1
            have kw : Kp A H1 (upd H1 p0 (.lst (vs.eraseIdx k.toNat))) := Kp.written ha hp1 trivial
            refine ⟨p0, vs, k, k.toNat, w, rfl, rfl, hp1, by omega, hk.2, ?_, ew, ?_⟩
            · exact seqIndex_of hk.1 (by omega)
            · exact h _ kw (S1.putL (getL_of z1) ev ha hp1 (t1.eraseIdx _)) w (fun z => by rw [puE] at z; cases z) (vok (qw.kp kw))
        · exact h.elim
      | _ => exact h.elim
  · exact h.elim
theorem sub_asg (h : notSlice k = true) (v : Value) : assign (.Subscript a k pos) X.env v = (do
      let ov ← holding [v] (eval a X.env)
      let iv ← holding [v, ov] (eval k X.env)
      standAt pos
      holding [v, ov, iv] (setItem ov iv v)
      release [v, ov, iv] []) := by
  cases k <;> first | rfl | cases h
/-- xs[k] = e -/
theorem sj_put (O : CtxOk X Γ C) (hN : X.N[i]? = some x) (hv : Vis X.env.scope x) (hd : (x == ("__debug__" : Str)) = false) (hcd : (x == ("__classdict__" : Str)) = false) (he : EJ X Γ C W e ie) (hs : stE ie = true) (hk : EJ X Γ C W k ik) (hl : notLc e = true) (hns : notSlice k = true) :
    SJ X Γ C W (.Assign [.Subscript (.Name x p) k pos] e spos) (.put i ik ie) := by
  obtain ⟨t, pt, q⟩ := he.ex
  obtain ⟨tk, pk, qk⟩ := hk.ex
  have h1 : swapsWithSole [.Subscript (.Name x p) k pos] e spos.line X.env = pure false := by unfold swapsWithSole; exact swaps_no hl
  have h2 : swappedStores [.Subscript (.Name x p) k pos] e X.env = pure none := by cases e <;> rfl
  refine ⟨_, ps_asg pt (pg_sub (pe_var hN hv hd hcd) pk set_list (sub_asg hns)) h1 h2 rfl, fun A σ H ρ D S h => ?_⟩
  rw [exS] at h
  split at h
  · rename_i z
    obtain ⟨xs0, z⟩ := isSome_of z
    obtain ⟨p0, vs0, ev, ha, hp, t0⟩ := own_at S z
    refine q A σ H ρ _ S (PostS.st h fun d ρ1 H1 k1 S1 h v s1 o1 => ?_)
    refine ⟨_, ev, qk A σ H1 ρ1 _ S1 (PostS.st h fun y ρ2 H2 k2 S2 h w s2 o2 => ?_)⟩
    cases z1 : getL ρ2 i with
    | none => rw [z1] at h; exact h.elim
    | some xs =>
      rw [z1] at h
      cases y with
      | int n =>
        dsimp only at h
        split at h
        · rename_i hk
          have hk := of_decide_eq_true hk
          obtain ⟨p1, vs, ev1, ha1, hp1, t1⟩ := own_at S2 z1
          rw [ev] at ev1
          cases ev1
          cases o2.1.int
          have hl1 := t1.length
          refine ⟨p0, vs, n, n.toNat, rfl, rfl, hp1, ?_, ?_⟩
          · unfold ixN
            rw [if_pos hk.1, if_pos (by omega)]
          · exact h A σ _ (.of_kp (Kp.written ha hp1 trivial)) (S2.putL (getL_of z1) ev ha hp1 (t1.set _ ((o1.2 hs).kp k2)))
        · exact h.elim
      | _ => exact h.elim
  · exact h.elim

/-! ### several names at once -/
/-- values, some of them new -/
def PM (C : FC) (A : Addr → Prop) (σ : St) (H : Hp) (W : WE) (Q : List V → Hp → Prop) : Rs (List AV) → Prop
  | .ok xs ρ' => ∀ A' H' vs, Gr A H A' H' → (∀ a, A a → A' a) → SE C A' σ H' ρ' → Paired (AvOk C.K A' H') vs xs → (∀ (i : Nat) (av : AV) (p : Addr), xs[i]? = some av → av.own = true → vs[i]? = some (.ref p) → ¬ A p ∧ A' p ∧ (C.Fp p ∨ C.H0 p = none)) →
      (∀ (i j : Nat) (av aw : AV) (p : Addr), i ≠ j → xs[i]? = some av → xs[j]? = some aw → av.own = true → aw.own = true → vs[i]? = some (.ref p) → vs[j]? = some (.ref p) → False) → Q vs H'
  | .ex c ρ' => ∀ A' H', Gr A H A' H' → SE C A' σ H' ρ' → W c σ H'
  | .bad => False
def puM (es : List (Bool × IE)) : Bool := es.all fun p => puE p.2
structure MJ (X : Cx) (Γ : Gm) (C : FC) (W : WE) (es : List Expr) (os : List (Bool × IE)) : Prop where
  ex : ∃ t, PA X es t ∧ ∀ A σ H ρ (Q : List V → Hp → Prop), SE C A σ H ρ → PM C A σ H W (fun vs H' => (puM os = true → Same H H') → Q vs H') (semM Γ os ρ) → t σ H Q
theorem mj_nil : MJ X Γ C W [] [] := by
  refine ⟨_, pa_nil, fun A σ H ρ Q S h => ?_⟩
  rw [semM] at h
  exact h A H [] .refl (fun _ z => z) S .nil (fun i av p e => by simp at e) (fun i j av aw p n e => by simp at e) (fun _ => Same.refl _)
variable {os : List (Bool × IE)}
theorem mj_d (ha : EJ X Γ C W a ia) (hs : stE ia = true) (hr : MJ X Γ C W es os) (hn : notStar a = true) : MJ X Γ C W (a :: es) ((false, ia) :: os) := by
  obtain ⟨ta, pa, qa⟩ := ha.ex
  obtain ⟨tb, pb, qb⟩ := hr.ex
  refine ⟨_, pa_cons pa pb (star_cons hn), fun A σ H ρ Q S h => ?_⟩
  rw [semM] at h
  have e0 : semV Γ (false, ia).1 (false, ia).2 ρ = (sem Γ ia ρ).bind fun x ρ1 => .ok (.d x) ρ1 := rfl
  rw [e0, Rs.bind_bind] at h
  refine qa A σ H ρ _ S ?_
  cases e1 : sem Γ ia ρ with
  | bad => rw [e1] at h; exact h.elim
  | ex c ρ1 => rw [e1] at h; exact fun H1 k1 S1 => h A H1 (.of_kp k1) S1
  | ok x ρ1 =>
    rw [e1] at h
    intro H1 k1 S1 v s1 o1
    refine qb A σ H1 ρ1 _ S1 ?_
    have h : PM C A σ H W _ ((semM Γ os ρ1).bind fun xs ρ2 => Rs.ok (AV.d x :: xs) ρ2) := h
    cases e2 : semM Γ os ρ1 with
    | bad => rw [e2] at h; exact h.elim
    | ex c ρ2 => rw [e2] at h; exact fun A' H' g S' => h A' H' ((Gr.of_kp k1).trans g) S'
    | ok xs ρ2 =>
      rw [e2] at h
      intro A' H' vs g sub S' pr ow di s2
      refine h A' H' (v :: vs) ((Gr.of_kp k1).trans g) sub S' (.cons (Dq.gr g _ _ (o1.2 hs)) pr) (fun i av p e o ep => ?_) (fun i j av aw p n e1 e2 o1 o2 e3 e4 => ?_) (fun z => ?_)
      · cases i with
        | zero => simp at e; subst e; cases o
        | succ i => exact ow i av p (by simpa using e) o (by simpa using ep)
      · cases i with
        | zero => simp at e1; subst e1; cases o1
        | succ i =>
          cases j with
          | zero => simp at e2; subst e2; cases o2
          | succ j => exact di i j av aw p (fun z => n (by rw [z])) (by simpa using e1) (by simpa using e2) o1 o2 (by simpa using e3) (by simpa using e4)
      · unfold puM at z s2
        rw [List.all_cons] at z
        exact (s1 (and_l z)).trans (s2 (and_r z))
theorem mj_o (ha : FJ X Γ C W a ia) (hr : MJ X Γ C W es os) (hp : puM os = true) (hn : notStar a = true) : MJ X Γ C W (a :: es) ((true, ia) :: os) := by
  obtain ⟨ta, pa, qa⟩ := ha.ex
  obtain ⟨tb, pb, qb⟩ := hr.ex
  refine ⟨_, pa_cons pa pb (star_cons hn), fun A σ H ρ Q S h => ?_⟩
  rw [semM] at h
  have e0 : semV Γ (true, ia).1 (true, ia).2 ρ = semF Γ ia ρ := rfl
  rw [e0] at h
  refine qa A σ H ρ _ S ?_
  cases e1 : semF Γ ia ρ with
  | bad => rw [e1] at h; exact h.elim
  | ex c ρ1 => rw [e1] at h; exact fun H1 k1 S1 => h A H1 (.of_kp k1) S1
  | ok x ρ1 =>
    rw [e1] at h
    intro H1 k1 S1 v s1 fr
    obtain ⟨p, rfl, nA, np, q, o, S2, fp⟩ := fr
    have g1 : Gr A H (fun a => A a ∨ a = p) H1 := ⟨k1, fun a z => z.imp id fun z => by rw [z]; exact np⟩
    refine qb (fun a => A a ∨ a = p) σ H1 ρ1 _ S2 ?_
    have h : PM C A σ H W _ ((semM Γ os ρ1).bind fun xs ρ2 => Rs.ok (x :: xs) ρ2) := h
    cases e2 : semM Γ os ρ1 with
    | bad => rw [e2] at h; exact h.elim
    | ex c ρ2 => rw [e2] at h; exact fun A' H' g S' => h A' H' (g1.trans g) S'
    | ok xs ρ2 =>
      rw [e2] at h
      intro A' H' vs g sub S' pr ow di s2
      have q' : AvOk C.K A' H' (.ref p) x := q.gr g fun p' o' e => by
        cases e
        obtain ⟨p2, e3, _, u, hu, _⟩ := q.addr o
        cases e3
        exact ⟨sub p (.inr rfl), by rw [hu]; exact s2 hp _ _ hu⟩
      refine h A' H' (.ref p :: vs) (g1.trans g) (fun a z => sub a (.inl z)) S' (.cons q' pr) (fun i av p' e o ep => ?_) (fun i j av aw p' n e1 e2 o1 o2 e3 e4 => ?_) (fun z => ?_)
      · cases i with
        | zero => simp at e ep; subst ep; exact ⟨nA, sub p (.inr rfl), fp⟩
        | succ i =>
          obtain ⟨n1, n2, n3⟩ := ow i av p' (by simpa using e) o (by simpa using ep)
          exact ⟨fun z => n1 (.inl z), n2, n3⟩
      · cases i with
        | zero =>
          cases j with
          | zero => exact n rfl
          | succ j =>
            have e3 : p = p' := by simpa using e3
            subst e3
            exact (ow j aw p (by simpa using e2) o2 (by simpa using e4)).1 (.inr rfl)
        | succ i =>
          cases j with
          | zero =>
            have e4 : p = p' := by simpa using e4
            subst e4
            exact (ow i av p (by simpa using e1) o1 (by simpa using e3)).1 (.inr rfl)
          | succ j => exact di i j av aw p' (fun z => n (by rw [z])) (by simpa using e1) (by simpa using e2) o1 o2 (by simpa using e3) (by simpa using e4)
      · unfold puM at z
        rw [List.all_cons] at z
        exact (s1 (and_l z)).trans (s2 hp)
end
end F3
end
section
namespace F3
open PySem PySem.Spec L2

section
variable {C : FC} {Γ : Gm} {A A' : Addr → Prop} {σ : St} {H H' : Hp} {ρ ρ' ρ2 : Env}
theorem se_mergeG (S : SE C A σ H ρ) (S' : SE C A' σ H' ρ') (g : Gr A H A' H') (sub : ∀ a, A a → A' a) (hm : merge ρ ρ' = some ρ2) : SE C A' σ H' ρ2 ∧ ∀ p, Ow σ ρ2 p → A p := by
  obtain ⟨hl, hg⟩ := merge_get hm
  have ownP : ∀ (i : Nat) (av : AV), ρ2[i]? = some (some av) → av.own = true → ∃ a : AV, a.own = true ∧ ρ[i]? = some (some a) := fun i av e o => by
    rcases hg i av e with ⟨o', _⟩ | ⟨_, _, a, oa, ea⟩
    · rw [o] at o'; cases o'
    · exact ⟨a, oa, ea⟩
  refine ⟨⟨S.len.trans hl.symm, fun i av e => ?_, fun i j av aw p n e1 e2 o1 o2 e3 e4 => ?_, S'.live, S'.keep, fun i av p e o e2 => ?_, fun i p e => ?_, fun a h => sub a (S.sub a h)⟩, fun p ⟨i, av, e, o, e2⟩ => ?_⟩
  · rcases hg i av e with ⟨o, e1⟩ | ⟨o, e1, a, oa, ea⟩
    · obtain ⟨v, e2, q⟩ := S.at_ i av e1
      refine ⟨v, e2, q.gr g fun p o' _ => ?_⟩
      rw [o] at o'; cases o'
    · exact S'.at_ i av e1
  · obtain ⟨a, oa, ea⟩ := ownP i av e1 o1
    obtain ⟨b, ob, eb⟩ := ownP j aw e2 o2
    exact S.dis i j a b p n ea eb oa ob e3 e4
  · obtain ⟨a, oa, ea⟩ := ownP i av e o
    exact S.prm i a p ea oa e2
  · obtain ⟨e1, a, ea, oa⟩ := S.par i p e
    obtain ⟨b, eb, ob⟩ := merge_own hm i a ea oa
    exact ⟨e1, b, eb, ob⟩
  · obtain ⟨a, oa, ea⟩ := ownP i av e o
    exact Ow.sub S ⟨i, a, ea, oa, e2⟩
def setAll : St → List Nat → List V → St
  | σ, i :: is, v :: vs => setAll (σ.set i (some v)) is vs
  | σ, _, _ => σ
theorem setVs_run (P : ParOk Γ C) : ∀ (is : List Nat) (xs : List AV) (vs : List V) {σ : St} {ρ ρ' : Env}, SE C A σ H ρ → Paired (AvOk C.K A H) vs xs →
    (∀ (i : Nat) (av : AV) (p : Addr), xs[i]? = some av → av.own = true → vs[i]? = some (.ref p) → ¬ Ow σ ρ p ∧ (C.Fp p ∨ C.H0 p = none)) →
    (∀ (i j : Nat) (av aw : AV) (p : Addr), i ≠ j → xs[i]? = some av → xs[j]? = some aw → av.own = true → aw.own = true → vs[i]? = some (.ref p) → vs[j]? = some (.ref p) → False) →
    setVs Γ is xs ρ = some ρ' → SE C A (setAll σ is vs) H ρ'
  | [], [], vs, σ, ρ, ρ', S, pr, ow, di, h => by
    cases h
    cases pr
    exact S
  | [], x :: xs, vs, σ, ρ, ρ', S, pr, ow, di, h => by simp [setVs] at h
  | i :: is, [], vs, σ, ρ, ρ', S, pr, ow, di, h => by simp [setVs] at h
  | i :: is, x :: xs, vs, σ, ρ, ρ', S, pr, ow, di, h => by
    cases pr with
    | cons q pr =>
      rename_i v vs
      rw [setVs] at h
      cases e1 : setV Γ i x ρ with
      | none => rw [e1] at h; cases h
      | some ρ1 =>
        rw [e1] at h
        have h : setVs Γ is xs ρ1 = some ρ' := h
        obtain ⟨h1, h2, rfl⟩ := setV_of e1
        have di' : ∀ (i j : Nat) (av aw : AV) (p : Addr), i ≠ j → xs[i]? = some av → xs[j]? = some aw → av.own = true → aw.own = true → vs[i]? = some (.ref p) → vs[j]? = some (.ref p) → False := fun i j av aw p n a b c d e f =>
          di (i + 1) (j + 1) av aw p (fun z => n (by omega)) (by simpa using a) (by simpa using b) c d (by simpa using e) (by simpa using f)
        by_cases o : x.own = true
        · obtain ⟨p, rfl, ha, _⟩ := q.addr o
          obtain ⟨n0, fp⟩ := ow 0 x p rfl o rfl
          refine setVs_run P is xs vs (S.setO h2 q o (P.none h1) (fun j aw ej oj es => n0 ⟨j, aw, ej, oj, es⟩) fp) pr (fun k av p' ek ok ep => ?_) di' h
          obtain ⟨n1, fp1⟩ := ow (k + 1) av p' (by simpa using ek) ok (by simpa using ep)
          refine ⟨fun ⟨j, aw, ej, oj, es⟩ => ?_, fp1⟩
          rcases set_get ej with ⟨rfl, ej'⟩ | ⟨n, ej'⟩
          · have hσ : j < σ.length := by rw [S.len]; exact h2
            rw [List.getElem?_set_self hσ] at es
            cases es
            exact di 0 (k + 1) x av p (by omega) rfl (by simpa using ek) o ok rfl (by simpa using ep)
          · rw [List.getElem?_set_ne (Ne.symm n)] at es
            exact n1 ⟨j, aw, ej', oj, es⟩
        · cases x with
          | d y =>
            refine setVs_run P is xs vs (S.setD h2 q (P.none h1)) pr (fun k av p' ek ok ep => ?_) di' h
            obtain ⟨n1, fp1⟩ := ow (k + 1) av p' (by simpa using ek) ok (by simpa using ep)
            refine ⟨fun ⟨j, aw, ej, oj, es⟩ => ?_, fp1⟩
            rcases set_get ej with ⟨rfl, ej'⟩ | ⟨n, ej'⟩
            · cases ej'; cases oj
            · rw [List.getElem?_set_ne (Ne.symm n)] at es
              exact n1 ⟨j, aw, ej', oj, es⟩
          | _ => exact absurd rfl o
end
theorem setVs_len {Γ : Gm} : ∀ {is : List Nat} {xs : List AV} {ρ ρ' : Env}, setVs Γ is xs ρ = some ρ' → is.length = xs.length
  | [], [], _, _, _ => rfl
  | [], _ :: _, _, _, h => by simp [setVs] at h
  | _ :: _, [], _, _, h => by simp [setVs] at h
  | i :: is, x :: xs, ρ, ρ', h => by
    rw [setVs] at h
    cases e : setV Γ i x ρ with
    | none => rw [e] at h; cases h
    | some ρ1 => rw [e] at h; simp [setVs_len (show setVs Γ is xs ρ1 = some ρ' from h)]

section
variable {X : Cx} {Γ : Gm} {C : FC} {W : WE} {a b c e : Expr} {es : List Expr} {ie : IE} {os : List (Bool × IE)} {is : List Nat} {pos p spos px py pz pt pt2 : Pos} {i j l : Nat} {x y z : Str} {st : Stmt}
/-- from the values to the slots -/
theorem mul_run {t : TA} (O : CtxOk X Γ C) (ps : PS X st fun D σ H => t σ H fun vs H1 => vs.length = is.length ∧ ∀ H2, Same H1 H2 → (∃ n, H2 = H1 ∨ (H1 n = none ∧ H2 = upd H1 n (.tup vs))) → D.nx (setAll σ is vs) H2)
    (q : ∀ A σ H ρ (Q : List V → Hp → Prop), SE C A σ H ρ → PM C A σ H W (fun vs H' => (puM os = true → Same H H') → Q vs H') (semM Γ os ρ) → t σ H Q) : SJ X Γ C W st (.mul is os) := by
  refine ⟨_, ps, fun A σ H ρ D S h => ?_⟩
  rw [exS] at h
  refine q A σ H ρ _ S ?_
  cases e1 : semM Γ os ρ with
  | bad => rw [e1] at h; exact h.elim
  | ex c ρ1 => rw [e1] at h; exact fun A' H' g S' => h A' σ H' g S'
  | ok xs ρ1 =>
    rw [e1] at h
    intro A' H' vs g sub S' pr ow di _
    have h : PostS C A H W D (if is.Nodup then Ss.ofO ((merge ρ ρ1).bind fun ρ2 => setVs Γ is xs ρ2) else .bad) := h
    split at h
    · obtain ⟨ρ3, e3, h⟩ := PostS.ofO h
      cases e2 : merge ρ ρ1 with
      | none => rw [e2] at e3; cases e3
      | some ρ2 =>
        rw [e2] at e3
        have e3 : setVs Γ is xs ρ2 = some ρ3 := e3
        obtain ⟨S2, oA⟩ := se_mergeG S S' g sub e2
        have S3 := setVs_run O.hP is xs vs S2 pr (fun i av p e o ep => ⟨fun z => (ow i av p e o ep).1 (oA p z), (ow i av p e o ep).2.2⟩) di e3
        refine ⟨(Paired.length pr).trans (setVs_len e3).symm, fun H2 s2 _ => ?_⟩
        exact h A' _ H2 (g.same s2) (S3.same s2)
    · exact h.elim
theorem two_len {α : Type} {xs : List α} (h : xs.length = 2) : ∃ a b, xs = [a, b] := by
  match xs, h with
  | [a, b], _ => exact ⟨a, b, rfl⟩
theorem three_len {α : Type} {xs : List α} (h : xs.length = 3) : ∃ a b c, xs = [a, b, c] := by
  match xs, h with
  | [a, b, c], _ => exact ⟨a, b, c, rfl⟩
theorem PA.mono {t u : TA} (h : PA X es t) (f : ∀ σ H Q, u σ H Q → t σ H Q) : PA X es u := ⟨fun pos pins s σ H Q I z => h.run pos pins s σ H Q I (f σ H Q z)⟩
theorem PS.mono {t u : TS} (h : PS X st t) (f : ∀ D σ H, u D σ H → t D σ H) : PS X st u := ⟨fun pins s σ H D I z => h.run pins s σ H D I (f D σ H z)⟩
/-- what a list of values says may be weakened -/
structure MonoA (t : TA) : Prop where
  imp : ∀ σ H (Q Q' : List V → Hp → Prop), (∀ vs H', Q vs H' → Q' vs H') → t σ H Q → t σ H Q'
def tMn (t : TA) : TA := fun σ H Q => ∃ Q0 : List V → Hp → Prop, t σ H Q0 ∧ ∀ vs H', Q0 vs H' → Q vs H'
theorem pa_mn {t : TA} (h : PA X es t) : PA X es (tMn t) := ⟨fun pos pins s σ H Q I ⟨Q0, z, f⟩ => thn (h.run pos pins s σ H Q0 I z) fun us s1 ⟨vs, H1, I1, r, q⟩ => ⟨vs, H1, I1, r, f vs H1 q⟩⟩
theorem sj_mul2 {kt k2 : Nat} (O : CtxOk X Γ C) (hi : X.N[i]? = some x) (hj : X.N[j]? = some y) (hij : i ≠ j) (hx : X.env.scope.names.lookup x = some .local) (hy : X.env.scope.names.lookup y = some .local)
    (hw : swappedStores [.Tuple [.Name x px, .Name y py] kt pt] (.Tuple [a, b] k2 pt2) X.env = pure (some [x, y])) (hm : MJ X Γ C W [a, b] os) :
    SJ X Γ C W (.Assign [.Tuple [.Name x px, .Name y py] kt pt] (.Tuple [a, b] k2 pt2) spos) (.mul [i, j] os) := by
  obtain ⟨t, pt, q⟩ := hm.ex
  refine mul_run (is := [i, j]) O (PS.mono (ps_par O.calm O.nodup hi hj hij hx hy (pa_mn pt) hw rfl) fun D σ H h => ⟨_, h, fun vs H' z => ?_⟩) q
  obtain ⟨v, w, rfl⟩ := two_len z.1
  exact ⟨v, w, rfl, z.2 H' (Same.refl _) ⟨0, .inl rfl⟩⟩
theorem sj_mul3 {kt k2 : Nat} (O : CtxOk X Γ C) (hi : X.N[i]? = some x) (hj : X.N[j]? = some y) (hl : X.N[l]? = some z) (hij : i ≠ j) (hil : i ≠ l) (hjl : j ≠ l) (hx : X.env.scope.names.lookup x = some .local) (hy : X.env.scope.names.lookup y = some .local) (hz : X.env.scope.names.lookup z = some .local)
    (hw : swappedStores [.Tuple [.Name x px, .Name y py, .Name z pz] kt pt] (.Tuple [a, b, c] k2 pt2) X.env = pure (some [x, y, z])) (hm : MJ X Γ C W [a, b, c] os) :
    SJ X Γ C W (.Assign [.Tuple [.Name x px, .Name y py, .Name z pz] kt pt] (.Tuple [a, b, c] k2 pt2) spos) (.mul [i, j, l] os) := by
  obtain ⟨t, pt, q⟩ := hm.ex
  refine mul_run (is := [i, j, l]) O (PS.mono (ps_par3 O.calm O.nodup hi hj hl hij hil hjl hx hy hz (pa_mn pt) hw rfl) fun D σ H h => ⟨_, h, fun vs H' z => ?_⟩) q
  obtain ⟨v, w, u, rfl⟩ := three_len z.1
  exact ⟨v, w, u, rfl, z.2 H' (Same.refl _) ⟨0, .inl rfl⟩⟩
/-- the tuple is made, then taken apart -/
theorem sj_mulA {kt k2 : Nat} {tgs : List Expr} {g : TGs} (O : CtxOk X Γ C) (hm : MJ X Γ C W es os) (hn : is.length ≤ 1000) (hw : swappedStores [.Tuple tgs kt pt] (.Tuple es k2 pt2) X.env = pure none)
    (pg : PGs X tgs g) (gl : (assignEach tgs X.env).length = is.length) (gs : (assignEach tgs X.env).findIdx? (·.1) = none) (qg : ∀ (vs : List V) (σ : St) (H : Hp) (Q : St → Hp → Prop), vs.length = is.length → Q (setAll σ is vs) H → g vs σ H Q) :
    SJ X Γ C W (.Assign [.Tuple tgs kt pt] (.Tuple es k2 pt2) spos) (.mul is os) := by
  obtain ⟨t, pt', q⟩ := hm.ex
  refine mul_run (is := is) O (PS.mono (ps_asg (pe_tup (pa_mn pt')) (pg_tup (n := is.length) O.calm pg gl gs) rfl hw rfl) fun D σ H h => ⟨_, h, fun vs H' z => ?_⟩) q
  refine ⟨by rw [z.1]; exact small_fits hn, fun n hn => ?_⟩
  refine ⟨n, vs, rfl, .inl (.inl upd_same), z.1, qg vs σ _ _ z.1 (z.2 _ (Same.laid hn) ⟨n, .inr ⟨hn, rfl⟩⟩)⟩
theorem sj_retO {spos : Pos} (O : CtxOk X Γ C) (he : FJ X Γ C W e ie) : SJ X Γ C W (.Return (some e) spos) (.retO ie) := by
  obtain ⟨t, pt, q⟩ := he.ex
  refine ⟨_, ps_ret pt, fun A σ H ρ D S h => ?_⟩
  rw [exS] at h
  refine q A σ H ρ _ S (PostS.stU h fun av ρ1 H1 k1 S1 h v s1 fr => ?_)
  obtain ⟨A', nw, S2, ro⟩ := RetOk.of_fresh S1 fr O.hF
  exact h A' σ H1 v ⟨k1, nw⟩ S2 ro
/-- raise X() -/
structure RaF (X : Cx) (cl : Nat → Addr) (x : Str) (k : Nat) : Prop where
  made : ∀ (p pos : Pos), PMk X (.Call (.Name x p) [] [] pos) (fun _ H Q => Q (.ref (cl k)) none H)
theorem raF_of {cl : Nat → Addr} {k : Nat} {bmB : List Value} {B newId initId : String} (F : ExcBaseFacts B newId initId bmB) (q : PySem.W.excIn X.K (cl k) bmB newId = true) (gC : X.mg x = some (.ref (cl k))) (kC : PySem.W.keepIn X.K (.ref (cl k)) = true) (r : Raises X (.ref (cl k))) (hg : Gl X x)
    (hdb : (x == ("__debug__" : Str)) = false) : RaF X cl x k := by
  refine ⟨fun p pos pins s σ H Q I h => ?_⟩
  refine wpAny_Call_Name_kw (ld_glob I hg gC ?_ hdb)
  refine PySem.W.callWith_K0 I.kIn kC ?_
  show wpAny _ _ (call (.ref (cl k)) []) _ _ _
  obtain ⟨bm, N, nm, qn, bs, hdct, sn, sub, ab, col, dd, k0, k1, k2, k3, k5, mN, hC, hN, hni, T⟩ := exc_obj I.kIn q
  refine wpAny_call_exc_subT F T hC hN hni (fun h' e hm => ?_) (by show 0 ≤ sizeLine; exact Nat.zero_le _)
  exact mk_of I hm r h (I.hok.gone hm.new)
theorem sj_raise {cl : Nat → Addr} {k : Nat} (O : CtxOk X Γ C) (tk : Takes X (wx cl W)) (F : RaF X cl x k) : SJ X Γ C W (.Raise (some (.Call (.Name x p) [] [] pos)) none spos) (.raise k) := by
  refine ⟨_, ps_raise O.calm tk (F.made p pos), fun A σ H ρ D S h => ?_⟩
  rw [exS] at h
  exact ⟨k, rfl, rfl, h A σ H .refl S⟩
end
end F3
end
section
namespace F3
open PySem PySem.Spec L2

/-! ### the checker: does the text say what the small language says -/
structure Ck where
  N : List Str
  sc : Scope
  cs : List (Str × Nat)
  fs : List (Str × Nat × List Str × List Nat)
  ex : List (Str × Nat)
  fb : Option Scope
def bltNames : List Str := ["range", "enumerate", "zip", "len", "sum", "all", "any", "abs", "int", "min", "max", "tuple", "list", "isinstance", "bool", "str", "sorted", "dict", "set"]
/-- what stands behind the check, for expressions -/
structure CkX (k : Ck) (X : Cx) (Γ : Gm) (C : FC) (W : WE) (cl : Nat → Addr) (lv : Nat) : Prop where
  e : EOk X Γ C
  hN : X.N = k.N
  hs : X.env.scope = k.sc
  fn : ∀ x, (match k.fb with | none => true | some sc => sc.names.lookup x == some .cell) = true → X.fn x = true
  room : Room lv X.A
  tk : Takes X (wx cl W)
  blt : ∀ x ∈ bltNames, X.mg x = none
  con : ∀ x g, k.cs.lookup x = some g → ∃ i u, X.mg x = some u ∧ RelV (.int i) u ∧ Γ.cs[g]? = some i
  fun_ : ∀ x f ps pats, k.fs.lookup x = some (f, ps, pats) → FnF X cl lv (Γ.fn f) x ps pats
inductive Job where
  | E (e : Expr) (i : IE)
  | T (e : Expr) (i : IE)
  | Wt (e : Expr) (i : IE)
  | F (e : Expr) (i : IE)
  | L (es : List Expr) (is : List IE)
  | R (es : List Expr) (is : List IE)
  | A (es : List Expr) (is : List IE)
  | Kw (ks : List Keyword) (is : List IE)
  | O (e : Option Expr) (i : Option IE)
  | I (tg iter : Expr) (ii : II)
  | G (tg : Expr) (t : Tg)
  | Gs (tgs : List Expr) (ts : List Tg)
  | M (es : List Expr) (os : List (Bool × IE))
def Snd (X : Cx) (Γ : Gm) (C : FC) (W : WE) : Job → Prop
  | .E e i => EJ X Γ C W e i
  | .T e i => TJ X Γ C W e i
  | .Wt e i => WJ X Γ C W e i
  | .F e i => FJ X Γ C W e i
  | .L es is => VJ X Γ C W es is
  | .R es is => RJ X Γ C W es is
  | .A es is => CJ X Γ C W es is
  | .Kw ks is => KJ X Γ C W ks is
  | .O e i => OJ X Γ C W e i
  | .I tg iter ii => IJ X Γ C W tg iter ii
  | .G tg t => GJ X Γ C tg t
  | .Gs tgs ts => GsJ X Γ C tgs ts
  | .M es os => MJ X Γ C W es os
def okName (x : Str) : Bool := !(x == ("__debug__" : Str)) && !(x == ("__classdict__" : Str)) && decide (x ≠ "__name__")
def kindB (k : Ck) (x : Str) : Option NameKind := k.sc.names.lookup x
def visB (k : Ck) (i : Nat) (x : Str) : Bool := decide (k.N[i]? = some x) && okName x && (decide (kindB k x = some .local) || decide (kindB k x = some .cell) || decide (kindB k x = some .free))
def locB (k : Ck) (i : Nat) (x : Str) : Bool := decide (k.N[i]? = some x) && (decide (kindB k x = some .local) || (decide (kindB k x = some .cell) && (match k.fb with | none => true | some sc => sc.names.lookup x == some .cell)))
def glB (k : Ck) (x : Str) : Bool := okName x && decide (kindB k x = some .globalImplicit)
def opB : Op2 → Operator → Bool
  | .add, .Add => true | .sub, .Sub => true | .mul, .Mult => true | .mod, .Mod => true | .fdiv, .FloorDiv => true | .pow, .Pow => true
  | _, _ => false
def cmB : Cm → CmpOp → Bool
  | .eq, .Eq => true | .ne, .NotEq => true | .lt, .Lt => true | .le, .LtE => true | .gt, .Gt => true | .ge, .GtE => true | .in_, .In => true | .notin, .NotIn => true
  | _, _ => false
theorem opB_ok {o : Op2} {q : Operator} (h : opB o q = true) : q = pyOp o := by
  cases o <;> cases q <;> first | rfl | cases h
theorem cmB_ok {o : Cm} {q : CmpOp} (h : cmB o q = true) : q = pyCm o := by
  cases o <;> cases q <;> first | rfl | cases h
def litB : PyData → Const → Bool
  | .none, .none => true
  | .bool b, .bool c => b == c
  | .int i, .int j => decide (i = j)
  | .str x, .str y => decide (x = y) && PyData.strOk x
  | _, _ => false
/-- a test that is just read -/
def plainTest : Expr → Bool
  | .BoolOp _ _ _ => false
  | .UnaryOp _ _ _ => false
  | .Compare _ _ _ _ => false
  | .IfExp _ _ _ _ => false
  | .NamedExpr _ _ _ => false
  | _ => true
theorem plain_test {e : Expr} {env : PySem.Env} (h : plainTest e = true) (whole : Sem Value) : isTrue e env whole = (do let v ← whole; standAt e.pos; holding [v] (truthy v)) := by
  cases e <;> first | rfl | cases h
/-- the built-ins whose call is a rule by itself: name, function or type -/
def bltF : BI → Option Str
  | .len => some "len"
  | .sum => some "sum"
  | .all => some "all"
  | .any => some "any"
  | .abs => some "abs"
  | .min2 => some "min"
  | .max2 => some "max"
  | _ => none
def bltT : BI → Option Str
  | .int => some "int"
  | .tup => some "tuple"
  | .lst => some "list"
  | _ => none

section
variable (ih : Ck → Job → Bool) (k : Ck)
def isB : Bool → CmpOp → Bool
  | true, .IsNot => true
  | false, .Is => true
  | _, _ => false
def chkLc (e : Expr) (is : List Nat) (t : Tg) (it : II) (c : Option IE) (el : IE) : Bool :=
  match e with
  | .ListComp elt [⟨tg, iter, ifs, a⟩] scope _ =>
    let own := is.map fun i => (k.N.getD i ("" : Str), i)
    let k' : Ck := { k with sc := relS scope k.sc, fb := some scope }
    decide (a = 0) && blkC k.N k.sc scope own && ih k (.I tg iter it) && ih k' (.G tg t) && ih k' (.E elt el) && stE el && (stI it || (puO c && puE el)) && ((tgS t).all fun i => is.contains i) &&
      (match c, ifs with
        | none, [] => true
        | some ic, [ec] => ih k' (.T ec ic)
        | _, _ => false)
  | _ => false
def chkBi (e : Expr) (b : BI) (es : List IE) : Bool :=
  match b with
  | .isi t => match e, es with
    | .Call (.Name x _) [ea, .Name y _] [] _, [a] => decide (x = "isinstance") && glB k x && decide (y = Str.ofString t) && glB k y && okTy t && ih k (.E ea a) && notStar ea
    | _, _ => false
  | .isiTL => match e, es with
    | .Call (.Name x _) [ea, .Tuple [.Name y _, .Name z _] _ _] [] _, [a] => decide (x = "isinstance") && glB k x && decide (y = "list") && glB k y && decide (z = "tuple") && glB k z && ih k (.E ea a) && notStar ea
    | _, _ => false
  | .isiBS => match e, es with
    | .Call (.Name x _) [ea, .Tuple [.Name y _, .Name z _] _ _] [] _, [a] => decide (x = "isinstance") && glB k x && decide (y = "bool") && glB k y && decide (z = "str") && glB k z && ih k (.E ea a) && notStar ea
    | _, _ => false
  | .rngL => match e, es with
    | .Call (.Name x _) [.Call (.Name y _) [ea] [] _] [] _, [a] => decide (x = "list") && glB k x && decide (y = "range") && glB k y && ih k (.E ea a) && notStar ea
    | _, _ => false
  | b => match e with
    | .Call (.Name x _) (ea :: er) [] _ => (decide (bltF b = some x) || decide (bltT b = some x)) && glB k x && ih k (.R (ea :: er) es) && notStar ea && er.all notStar
    | _ => false
def chkCall (e : Expr) (f : Nat) (es : List IE) : Bool :=
  match e with
  | .Call (.Name x _) [] kws _ => match k.fs.lookup x with
    | some (f', ps, pats) => decide (f = f') && glB k x && pats.contains 0 && ih k (.Kw kws es) && kws.all (·.arg.isSome) && decide (kws.filterMap (·.arg) = ps) && decide (es.length = ps.length)
    | none => false
  | .Call (.Name x _) (ea :: er) kws _ => match k.fs.lookup x with
    | some (f', ps, pats) => let n := er.length + 1
      decide (f = f') && glB k x && pats.contains n && ih k (.A (ea :: er) (es.take n)) && ih k (.Kw kws (es.drop n)) && kws.all (·.arg.isSome) && decide (kws.filterMap (·.arg) = ps.drop n) && decide (n ≤ es.length) && decide (es.length = ps.length) && (ea :: er).all notStar
    | none => false
  | _ => false
def chkE (e : Expr) : IE → Bool
  | .var i => match e with
    | .Name x _ => visB k i x
    | _ => false
  | .ovar i => match e with
    | .Name x _ => visB k i x
    | _ => false
  | .lit c => match e with
    | .Constant q _ _ => litB c q
    | _ => false
  | .glob g => match e with
    | .Name x _ => glB k x && decide (k.cs.lookup x = some g)
    | _ => false
  | .bin o a b => match e with
    | .BinOp ea q eb _ => opB o q && ih k (.E ea a) && ih k (.E eb b) && (stE a || puE b)
    | _ => false
  | .neg a => match e with
    | .UnaryOp .USub ea _ => ih k (.E ea a)
    | _ => false
  | .cmp o a b => match e with
    | .Compare ea [q] [eb] _ => cmB o q && ih k (.E ea a) && ih k (.E eb b) && (stE a || puE b) && !behindInMarks (pyCm o) eb
    | _ => false
  | .chain o o' a b c => match e with
    | .Compare ea [q, q'] [eb, ec] _ => cmB o q && cmB o' q' && ih k (.E ea a) && ih k (.E eb b) && ih k (.E ec c) && (stE a || puE b) && (stE b || puE c) && !lastMarks [pyCm o, pyCm o'] [eb, ec]
    | _ => false
  | .isN n a => match e with
    | .Compare ea [q] [.Constant .none _ _] _ => isB n q && ih k (.E ea a)
    | _ => false
  | .and a b => match e with
    | .BoolOp .And (e1 :: e2 :: []) _ => ih k (.E e1 a) && ih k (.E e2 b)
    | .BoolOp .And (e1 :: e2 :: e3 :: r) p => ih k (.E e1 a) && ih k (.E (.BoolOp .And (e2 :: e3 :: r) p) b)
    | _ => false
  | .or a b => match e with
    | .BoolOp .Or (e1 :: e2 :: []) _ => ih k (.E e1 a) && ih k (.E e2 b)
    | .BoolOp .Or (e1 :: e2 :: e3 :: r) p => ih k (.E e1 a) && ih k (.E (.BoolOp .Or (e2 :: e3 :: r) p) b)
    | _ => false
  | .not a => match e with
    | .UnaryOp .Not ea _ => ih k (.E ea a)
    | _ => false
  | .ite c a b => match e with
    | .IfExp ec ea eb _ => ih k (.T ec c) && ih k (.E ea a) && ih k (.E eb b)
    | _ => false
  | .tup es => match e with
    | .Tuple el _ _ => ih k (.L el es) && decide (es.length ≤ 1000)
    | _ => false
  | .lst es => match e with
    | .List el _ => ih k (.L el es) && decide (es.length ≤ 1000)
    | _ => false
  | .ix a i => match e with
    | .Subscript ea ei _ => ih k (.E ea a) && ih k (.E ei i) && (stE a || puE i) && notSlice ei
    | _ => false
  | .sl a lo hi => match e with
    | .Subscript ea (.Slice l h none _) _ => ih k (.E ea a) && ih k (.O l lo) && ih k (.O h hi) && (stE a || (puO lo && puO hi))
    | _ => false
  | .rev _ => false
  | .bi b es => chkBi ih k e b es
  | .call f es => chkCall ih k e f es
  | .lc is t it c el => chkLc ih k e is t it c el
  | .popAt i a => match e with
    | .Call (.Attribute (.Name x _) m ap) [ea] [] cp => visB k i x && decide (m = "pop") && ih k (.E ea a) && notStar ea && (ap.endLine == cp.line)
    | _ => false
def chkT (e : Expr) (i : IE) : Bool :=
  match i with
  | .and a b => match e with
    | .BoolOp .And (e1 :: e2 :: r) p => ih k (.T e1 a) && ih k (.Wt (.BoolOp .And (e2 :: r) p) b)
    | _ => false
  | .or a b => match e with
    | .BoolOp .Or (e1 :: e2 :: r) p => ih k (.T e1 a) && ih k (.Wt (.BoolOp .Or (e2 :: r) p) b)
    | _ => false
  | .not a => match e with
    | .UnaryOp .Not ea _ => ih k (.T ea a)
    | _ => false
  | .cmp o a b => match e with
    | .Compare ea [q] [eb] _ => cmB o q && ih k (.E ea a) && ih k (.E eb b) && (stE a || puE b) && !behindInMarks (pyCm o) eb
    | _ => false
  | .chain o o' a b c => match e with
    | .Compare ea [q, q'] [eb, ec] _ => cmB o q && cmB o' q' && ih k (.E ea a) && ih k (.E eb b) && ih k (.E ec c) && (stE a || puE b) && (stE b || puE c) && !lastMarks [pyCm o, pyCm o'] [eb, ec]
    | _ => false
  | .isN n a => match e with
    | .Compare ea [q] [.Constant .none _ _] _ => isB n q && ih k (.E ea a)
    | _ => false
  | i => truE i && plainTest e && ih k (.E e i)
def chkW (e : Expr) (i : IE) : Bool :=
  match e with
  | .BoolOp .And [ea] _ => ih k (.T ea i)
  | .BoolOp .Or [ea] _ => ih k (.T ea i)
  | .BoolOp .And (e1 :: e2 :: r) p => match i with
    | .and a b => ih k (.T e1 a) && ih k (.Wt (.BoolOp .And (e2 :: r) p) b)
    | _ => false
  | .BoolOp .Or (e1 :: e2 :: r) p => match i with
    | .or a b => ih k (.T e1 a) && ih k (.Wt (.BoolOp .Or (e2 :: r) p) b)
    | _ => false
  | _ => false
def chkF (e : Expr) (i : IE) : Bool :=
  match i with
  | .lst es => match e with
    | .List el _ => ih k (.L el es) && decide (es.length ≤ 1000)
    | _ => false
  | .lc is t it c el => chkLc ih k e is t it c el
  | .bi .lst [a] => match e with
    | .Call (.Name x _) [ea] [] _ => decide (x = "list") && glB k x && ih k (.E ea a) && notStar ea
    | _ => false
  | .bi .rngL [a] => match e with
    | .Call (.Name x _) [.Call (.Name y _) [ea] [] _] [] _ => decide (x = "list") && glB k x && decide (y = "range") && glB k y && ih k (.E ea a) && notStar ea
    | _ => false
  | .or a b => match e with
    | .BoolOp .Or [e1, e2] _ => ih k (.F e1 a) && ih k (.F e2 b)
    | _ => false
  | .call f es => chkCall ih k e f es
  | _ => false
def chkI (tg iter : Expr) (ii : II) : Bool :=
  match ii with
  | .seq a => ih k (.E iter a) && notSet iter
  | .rng1 a => match iter with
    | .Call (.Name x _) [ea] [] _ => decide (x = "range") && glB k x && ih k (.E ea a) && notStar ea
    | _ => false
  | .rng2 a b => match iter with
    | .Call (.Name x _) [ea, eb] [] _ => decide (x = "range") && glB k x && ih k (.E ea a) && ih k (.E eb b) && (stE a || puE b) && notStar ea && notStar eb
    | _ => false
  | .enum a => match tg, iter with
    | .Tuple _ _ _, .Call (.Name x _) [ea] [] _ => decide (x = "enumerate") && glB k x && ih k (.E ea a) && notStar ea
    | _, _ => false
  | .zip a b => match tg, iter with
    | .Tuple _ _ _, .Call (.Name x _) [ea, eb] [] _ => decide (x = "zip") && glB k x && ih k (.E ea a) && ih k (.E eb b) && (stE a || puE b) && notStar ea && notStar eb
    | _, _ => false
def chk1 : Job → Bool
  | .E e i => chkE ih k e i
  | .T e i => chkT ih k e i
  | .Wt e i => chkW ih k e i
  | .F e i => chkF ih k e i
  | .L [] [] => true
  | .L (e :: es) (i :: is) => ih k (.E e i) && stE i && ih k (.L es is) && notStar e
  | .L _ _ => false
  | .R [e] [i] => ih k (.E e i) && notStar e
  | .R es is => ih k (.L es is)
  | .A [] [] => true
  | .A (e :: es) (i :: is) => (match i with
    | .ovar j => match e with
      | .Name x _ => visB k j x
      | _ => false
    | i => ih k (.E e i) && stE i && notStar e) && ih k (.A es is)
  | .A _ _ => false
  | .Kw [] [] => true
  | .Kw (⟨_, e, _⟩ :: ks) (i :: is) => ih k (.E e i) && stE i && ih k (.Kw ks is)
  | .Kw _ _ => false
  | .O none none => true
  | .O (some e) (some i) => ih k (.E e i)
  | .O _ _ => false
  | .I tg iter ii => chkI ih k tg iter ii
  | .G (.Name x _) (.n i) => locB k i x
  | .G (.Tuple es _ _) (.t ts) => ih k (.Gs es ts)
  | .G _ _ => false
  | .Gs [] [] => true
  | .Gs (e :: es) (t :: ts) => ih k (.G e t) && ih k (.Gs es ts) && notStar e
  | .Gs _ _ => false
  | .M [] [] => true
  | .M (e :: es) ((false, i) :: os) => ih k (.E e i) && stE i && ih k (.M es os) && notStar e
  | .M (e :: es) ((true, i) :: os) => ih k (.F e i) && puM os && ih k (.M es os) && notStar e
  | .M _ _ => false
end
def chk : Nat → Ck → Job → Bool
  | 0, _, _ => false
  | n + 1, k, j => chk1 (chk n) k j
end F3
end
section
namespace F3
open PySem PySem.Spec L2

/-! ### the checker is right -/
section
variable {k : Ck} {X : Cx} {Γ : Gm} {C : FC} {W : WE} {cl : Nat → Addr} {lv : Nat} {ih : Ck → Job → Bool}
theorem okName_d {x : Str} (h : okName x = true) : (x == ("__debug__" : Str)) = false ∧ (x == ("__classdict__" : Str)) = false ∧ x ≠ "__name__" := by
  unfold okName at h
  simp only [Bool.and_eq_true, Bool.not_eq_true', decide_eq_true_eq] at h
  exact ⟨h.1.1, h.1.2, h.2⟩
theorem CkX.vis (K : CkX k X Γ C W cl lv) {i : Nat} {x : Str} (h : visB k i x = true) : X.N[i]? = some x ∧ Vis X.env.scope x ∧ (x == ("__debug__" : Str)) = false ∧ (x == ("__classdict__" : Str)) = false := by
  unfold visB kindB at h
  simp only [Bool.and_eq_true, Bool.or_eq_true, decide_eq_true_eq] at h
  obtain ⟨⟨h1, h2⟩, h3⟩ := h
  obtain ⟨d1, d2, _⟩ := okName_d h2
  refine ⟨by rw [K.hN]; exact h1, ?_, d1, d2⟩
  rw [K.hs]
  rcases h3 with (h3 | h3) | h3
  · exact .inl h3
  · exact .inr (.inl h3)
  · exact .inr (.inr h3)
theorem CkX.loc (K : CkX k X Γ C W cl lv) {i : Nat} {x : Str} (h : locB k i x = true) : X.N[i]? = some x ∧ Loc X.env.scope x ∧ (X.fn x = true ∨ X.env.scope.names.lookup x = some .local) := by
  unfold locB kindB at h
  simp only [Bool.and_eq_true, Bool.or_eq_true, decide_eq_true_eq] at h
  obtain ⟨h1, h3⟩ := h
  refine ⟨by rw [K.hN]; exact h1, ?_⟩
  rw [K.hs]
  rcases h3 with h3 | ⟨h3, h4⟩
  · exact ⟨.inl h3, .inr h3⟩
  · exact ⟨.inr h3, .inl (K.fn x h4)⟩
theorem CkX.gl (K : CkX k X Γ C W cl lv) {x : Str} (h : glB k x = true) : Gl X x ∧ (x == ("__debug__" : Str)) = false ∧ x ≠ "__name__" := by
  unfold glB kindB at h
  simp only [Bool.and_eq_true, decide_eq_true_eq] at h
  obtain ⟨d1, _, d3⟩ := okName_d h.1
  refine ⟨?_, d1, d3⟩
  show X.env.scope.names.lookup x = _
  rw [K.hs]
  exact h.2
/-- a block's context -/
theorem CkX.blk (K : CkX k X Γ C W cl lv) {C' : FC} (hK : C'.K = C.K) (hP : ParOk Γ C') (s : Shared) (H : Hp) (scope : Scope) (Cc : Addr) (cl' : List (Str × Addr)) (fp : List Addr) :
    CkX { k with sc := relS scope k.sc, fb := some scope } (X.blk s H scope (compEnvC scope cl' Cc X.env) fp) Γ C' W0 cl lv := by
  refine ⟨⟨?_, hP, K.e.calm, K.e.nodup⟩, K.hN, ?_, fun x h => h, K.room, ?_, K.blt, K.con, fun x f ps pats h => ⟨(K.fun_ x f ps pats h).ex⟩⟩
  · rw [hK]; exact K.e.hK
  · show relS scope X.env.scope = _
    rw [K.hs]
  · intro u s' x
    obtain ⟨_, _, _, _, _, _, _, _, _, _, _, _, _, _, _, _, _, _, _, z⟩ := x
    exact z.elim
theorem CkX.hu (K : CkX k X Γ C W cl lv) : X.A.units + 200 < cLine := by
  have := K.room.un
  omega
/-- what the checks within are worth -/
def IhOk (ih : Ck → Job → Bool) (Γ : Gm) (cl : Nat → Addr) (lv : Nat) : Prop := ∀ (k : Ck) (X : Cx) (C : FC) (W : WE) (j : Job), CkX k X Γ C W cl lv → ih k j = true → Snd X Γ C W j
theorem boot_ty {t : String} (h : okTy t = true) : bootBuiltins (Str.ofString t) = some (.type t) ∧ Str.ofString t ∈ bltNames := by
  unfold okTy at h
  simp only [Bool.or_eq_true, beq_iff_eq] at h
  rcases h with (((h | h) | h) | h) | h <;> subst h <;> exact ⟨by decide +kernel, by decide +kernel⟩
theorem lcOk_of (K : CkX k X Γ C W cl lv) (I : IhOk ih Γ cl lv) {e : Expr} {is : List Nat} {t : Tg} {it : II} {c : Option IE} {el : IE} (h : chkLc ih k e is t it c el = true) :
    ∃ elt tg iter ifs scope pos own, e = .ListComp elt [⟨tg, iter, ifs, 0⟩] scope pos ∧ own.map (·.2) = is ∧ LcOk X Γ C W elt tg iter ifs scope own t it c el := by
  unfold chkLc at h
  split at h
  · rename_i elt tg iter ifs a scope pos
    simp only [Bool.and_eq_true, decide_eq_true_eq] at h
    obtain ⟨⟨⟨⟨⟨⟨⟨⟨ha, hb⟩, hi⟩, hg⟩, he⟩, hst⟩, hp⟩, ht⟩, hc⟩ := h
    subst ha
    refine ⟨elt, tg, iter, ifs, scope, pos, is.map fun i => (k.N.getD i ("" : Str), i), rfl, by rw [List.map_map]; exact List.map_id is, ?_⟩
    refine ⟨I k X C W _ K hi, ?_, hst, hp, fun i hi => ?_, fun s H Cc cl' fp C' hK hP => I _ _ C' W0 _ (K.blk hK hP s H scope Cc cl' fp) hg, fun s H Cc cl' fp => ?_, fun s H Cc cl' fp C' hK hP => I _ _ C' W0 _ (K.blk hK hP s H scope Cc cl' fp) he⟩
    · rw [K.hN, K.hs]
      exact blkOk_by hb
    · have := List.all_eq_true.mp ht i hi
      simpa using this
    · split at hc
      · exact pts_b0
      · exact pts_b1 fun C' hK hP => I _ _ C' W0 _ (K.blk hK hP s H scope Cc cl' fp) hc
      · cases hc
  · cases h
theorem call_of (K : CkX k X Γ C W cl lv) (I : IhOk ih Γ cl lv) {e : Expr} {f : Nat} {es : List IE} (h : chkCall ih k e f es = true) : PE X e (tcC Γ C W f es) := by
  unfold chkCall at h
  split at h
  · split at h
    · rename_i f' ps pats hl
      simp only [Bool.and_eq_true, decide_eq_true_eq] at h
      obtain ⟨⟨⟨⟨⟨⟨h1, h2⟩, h3⟩, h4⟩, h5⟩, h6⟩, h7⟩ := h
      subst h1
      obtain ⟨g1, g2, g3⟩ := K.gl h2
      exact pe_call0 K.e.hK K.room K.tk g1 (K.fun_ _ _ _ _ hl) (by simpa using h3) (I k X C W _ K h4) h5 h6 h7 g2
    · cases h
  · split at h
    · rename_i xx pp ea er kws pos oo f' ps pats hl
      simp only [Bool.and_eq_true, decide_eq_true_eq] at h
      obtain ⟨⟨⟨⟨⟨⟨⟨⟨⟨h1, h2⟩, h3⟩, h4⟩, h5⟩, h6⟩, h7⟩, h8⟩, h9⟩, h10⟩ := h
      subst h1
      obtain ⟨g1, g2, g3⟩ := K.gl h2
      have e1 : es = es.take (er.length + 1) ++ es.drop (er.length + 1) := (List.take_append_drop _ _).symm
      rw [e1]
      refine pe_call K.e.hK K.room K.tk g1 (K.fun_ _ _ _ _ hl) (by simpa using h3) (I k X C W _ K h4) (I k X C W _ K h5) h6 h7 (by rw [List.length_take]; omega) (by rw [← e1]; exact h9) h10 g2
    · cases h
  · cases h
end
end F3
end
section
namespace F3
open PySem PySem.Spec L2
section
variable {k : Ck} {X : Cx} {Γ : Gm} {C : FC} {W : WE} {cl : Nat → Addr} {lv : Nat} {ih : Ck → Job → Bool}
theorem lit_of {c : PyData} {q : Const} {j : Nat} {pos : Pos} (h : litB c q = true) : EJ X Γ C W (.Constant q j pos) (.lit c) := by
  unfold litB at h
  split at h
  · exact ej_none
  · have := eq_of_beq h
    subst this
    exact ej_bool
  · have := of_decide_eq_true h
    subst this
    exact ej_int
  · simp only [Bool.and_eq_true, decide_eq_true_eq] at h
    obtain ⟨h1, h2⟩ := h
    subst h1
    exact ej_str h2
  · cases h
theorem isB_ok {n : Bool} {q : CmpOp} (h : isB n q = true) : q = (if n then .IsNot else .Is) := by
  cases n <;> cases q <;> first | rfl | cases h
theorem bi_gen (K : CkX k X Γ C W cl lv) (I : IhOk ih Γ cl lv) {b : BI} {es : List IE} {x : Str} {p pos : Pos} {ea : Expr} {er : List Expr} (h : ((decide (bltF b = some x) || decide (bltT b = some x)) && glB k x && ih k (.R (ea :: er) es) && notStar ea && er.all notStar) = true) :
    EJ X Γ C W (.Call (.Name x p) (ea :: er) [] pos) (.bi b es) := by
  simp only [Bool.and_eq_true, Bool.or_eq_true, decide_eq_true_eq] at h
  obtain ⟨⟨⟨⟨h1, h2⟩, h3⟩, h4⟩, h5⟩ := h
  obtain ⟨g1, g2, g3⟩ := K.gl h2
  have r : RJ X Γ C W (ea :: er) es := I k X C W _ K h3
  have hc := K.e.calm
  rcases h1 with h1 | h1
  · cases b with
    | len => cases h1; exact ej_biB K.e.hK biG_len g1 (K.blt _ (by decide +kernel)) (by decide +kernel) r h4 h5 g3 g2
    | sum => cases h1; exact ej_biB K.e.hK (biG_sum hc) g1 (K.blt _ (by decide +kernel)) (by decide +kernel) r h4 h5 g3 g2
    | all => cases h1; exact ej_biB K.e.hK (biG_all hc) g1 (K.blt _ (by decide +kernel)) (by decide +kernel) r h4 h5 g3 g2
    | any => cases h1; exact ej_biB K.e.hK (biG_any hc) g1 (K.blt _ (by decide +kernel)) (by decide +kernel) r h4 h5 g3 g2
    | abs => cases h1; exact ej_biB K.e.hK biG_abs g1 (K.blt _ (by decide +kernel)) (by decide +kernel) r h4 h5 g3 g2
    | min2 => cases h1; exact ej_biB K.e.hK (biG_min2 hc) g1 (K.blt _ (by decide +kernel)) (by decide +kernel) r h4 h5 g3 g2
    | max2 => cases h1; exact ej_biB K.e.hK (biG_max2 hc) g1 (K.blt _ (by decide +kernel)) (by decide +kernel) r h4 h5 g3 g2
    | _ => cases h1
  · cases b with
    | int => cases h1; exact ej_biT K.e.hK biG_int g1 (K.blt _ (by decide +kernel)) (by decide +kernel) r h4 h5 g3 g2
    | tup => cases h1; exact ej_biT K.e.hK biG_tup g1 (K.blt _ (by decide +kernel)) (by decide +kernel) r h4 h5 g3 g2
    | lst => cases h1; exact ej_biT K.e.hK biG_lst g1 (K.blt _ (by decide +kernel)) (by decide +kernel) r h4 h5 g3 g2
    | _ => cases h1
theorem bi_of (K : CkX k X Γ C W cl lv) (I : IhOk ih Γ cl lv) {e : Expr} {b : BI} {es : List IE} (h : chkBi ih k e b es = true) : EJ X Γ C W e (.bi b es) := by
  unfold chkBi at h
  split at h
  · split at h
    · simp only [Bool.and_eq_true, decide_eq_true_eq] at h
      obtain ⟨⟨⟨⟨⟨⟨h1, h2⟩, h3⟩, h4⟩, h5⟩, h6⟩, h7⟩ := h
      subst h1 h3
      obtain ⟨g1, _, _⟩ := K.gl h2
      obtain ⟨g4, g5, g6⟩ := K.gl h4
      obtain ⟨b1, b2⟩ := boot_ty h5
      exact ej_isi K.e.hK h5 g1 (K.blt _ (by decide +kernel)) g4 (K.blt _ b2) b1 (I k X C W _ K h6) h7 g6 g5
    · cases h
  · split at h
    · simp only [Bool.and_eq_true, decide_eq_true_eq] at h
      obtain ⟨⟨⟨⟨⟨⟨⟨h1, h2⟩, h3⟩, h4⟩, h5⟩, h6⟩, h7⟩, h8⟩ := h
      subst h1 h3 h5
      obtain ⟨g1, _, _⟩ := K.gl h2
      obtain ⟨g4, g5, g6⟩ := K.gl h4
      obtain ⟨g7, g8, g9⟩ := K.gl h6
      exact ej_isi2 (t1 := "list") (t2 := "tuple") K.e.hK rfl rfl (fun _ => rfl) g1 (K.blt _ (by decide +kernel)) g4 (K.blt _ (by decide +kernel)) (by decide +kernel) g7 (K.blt _ (by decide +kernel)) (by decide +kernel) (I k X C W _ K h7) h8 g6 g5 g9 g8
    · cases h
  · split at h
    · simp only [Bool.and_eq_true, decide_eq_true_eq] at h
      obtain ⟨⟨⟨⟨⟨⟨⟨h1, h2⟩, h3⟩, h4⟩, h5⟩, h6⟩, h7⟩, h8⟩ := h
      subst h1 h3 h5
      obtain ⟨g1, _, _⟩ := K.gl h2
      obtain ⟨g4, g5, g6⟩ := K.gl h4
      obtain ⟨g7, g8, g9⟩ := K.gl h6
      exact ej_isi2 (t1 := "bool") (t2 := "str") K.e.hK rfl rfl (fun _ => rfl) g1 (K.blt _ (by decide +kernel)) g4 (K.blt _ (by decide +kernel)) (by decide +kernel) g7 (K.blt _ (by decide +kernel)) (by decide +kernel) (I k X C W _ K h7) h8 g6 g5 g9 g8
    · cases h
  · split at h
    · simp only [Bool.and_eq_true, decide_eq_true_eq] at h
      obtain ⟨⟨⟨⟨⟨h1, h2⟩, h3⟩, h4⟩, h5⟩, h6⟩ := h
      subst h1 h3
      obtain ⟨g1, _, _⟩ := K.gl h2
      obtain ⟨g4, _, _⟩ := K.gl h4
      exact ej_rngL K.e g1 (K.blt _ (by decide +kernel)) g4 (K.blt _ (by decide +kernel)) (I k X C W _ K h5) h6
    · cases h
  · split at h
    · exact bi_gen K I h
    · cases h
theorem not_true {b : Bool} (h : (!b) = true) : b = false := by simpa using h
theorem e_of (K : CkX k X Γ C W cl lv) (I : IhOk ih Γ cl lv) {e : Expr} {i : IE} (h : chkE ih k e i = true) : EJ X Γ C W e i := by
  cases i with
  | var i =>
    dsimp only [chkE] at h
    split at h
    · obtain ⟨h1, h2, h3, h4⟩ := K.vis h
      exact ej_var h1 h2 h3 h4
    · cases h
  | ovar i =>
    dsimp only [chkE] at h
    split at h
    · obtain ⟨h1, h2, h3, h4⟩ := K.vis h
      exact ej_ovar h1 h2 h3 h4
    · cases h
  | lit c =>
    dsimp only [chkE] at h
    split at h
    · exact lit_of h
    · cases h
  | glob g =>
    dsimp only [chkE] at h
    split at h
    · simp only [Bool.and_eq_true, decide_eq_true_eq] at h
      obtain ⟨g1, g2, g3⟩ := K.gl h.1
      obtain ⟨i, u, h1, h2, h3⟩ := K.con _ _ h.2
      exact ej_glob g1 h1 h2 g2 h3
    · cases h
  | bin o a b =>
    dsimp only [chkE] at h
    split at h
    · simp only [Bool.and_eq_true] at h
      obtain ⟨⟨⟨h1, h2⟩, h3⟩, h4⟩ := h
      rw [opB_ok h1]
      exact ej_bin K.e.hK (I k X C W _ K h2) (I k X C W _ K h3) h4
    · cases h
  | neg a =>
    dsimp only [chkE] at h
    split at h
    · exact ej_neg (I k X C W _ K h)
    · cases h
  | cmp o a b =>
    dsimp only [chkE] at h
    split at h
    · simp only [Bool.and_eq_true] at h
      obtain ⟨⟨⟨⟨h1, h2⟩, h3⟩, h4⟩, h5⟩ := h
      rw [cmB_ok h1]
      exact ej_cmp K.e.hK K.hu (I k X C W _ K h2) (I k X C W _ K h3) h4 (not_true h5)
    · cases h
  | chain o o' a b c =>
    dsimp only [chkE] at h
    split at h
    · simp only [Bool.and_eq_true] at h
      obtain ⟨⟨⟨⟨⟨⟨⟨h1, h2⟩, h3⟩, h4⟩, h5⟩, h6⟩, h7⟩, h8⟩ := h
      rw [cmB_ok h1, cmB_ok h2]
      exact ej_chain K.e.hK K.hu (I k X C W _ K h3) (I k X C W _ K h4) (I k X C W _ K h5) h6 h7 (not_true h8)
    · cases h
  | isN n a =>
    dsimp only [chkE] at h
    split at h
    · simp only [Bool.and_eq_true] at h
      rw [isB_ok h.1]
      exact ej_isN (I k X C W _ K h.2)
    · cases h
  | and a b =>
    dsimp only [chkE] at h
    split at h
    · simp only [Bool.and_eq_true] at h
      exact ej_and K.e.hK (I k X C W _ K h.1) (ej_one (I k X C W _ K h.2))
    · simp only [Bool.and_eq_true] at h
      exact ej_and K.e.hK (I k X C W _ K h.1) (I k X C W _ K h.2)
    · cases h
  | or a b =>
    dsimp only [chkE] at h
    split at h
    · simp only [Bool.and_eq_true] at h
      exact ej_or K.e.hK (I k X C W _ K h.1) (ej_one (I k X C W _ K h.2))
    · simp only [Bool.and_eq_true] at h
      exact ej_or K.e.hK (I k X C W _ K h.1) (I k X C W _ K h.2)
    · cases h
  | not a =>
    dsimp only [chkE] at h
    split at h
    · exact ej_not K.e.hK (I k X C W _ K h)
    · cases h
  | ite c a b =>
    dsimp only [chkE] at h
    split at h
    · simp only [Bool.and_eq_true] at h
      exact ej_ite (I k X C W _ K h.1.1) (I k X C W _ K h.1.2) (I k X C W _ K h.2)
    · cases h
  | tup es =>
    dsimp only [chkE] at h
    split at h
    · simp only [Bool.and_eq_true, decide_eq_true_eq] at h
      exact ej_tup (I k X C W _ K h.1) h.2
    · cases h
  | lst es =>
    dsimp only [chkE] at h
    split at h
    · simp only [Bool.and_eq_true, decide_eq_true_eq] at h
      exact ej_lst (I k X C W _ K h.1) h.2
    · cases h
  | ix a i =>
    dsimp only [chkE] at h
    split at h
    · simp only [Bool.and_eq_true] at h
      exact ej_ix K.e.hK (I k X C W _ K h.1.1.1) (I k X C W _ K h.1.1.2) h.1.2 h.2
    · cases h
  | sl a lo hi =>
    dsimp only [chkE] at h
    split at h
    · simp only [Bool.and_eq_true] at h
      exact ej_sl K.e.hK (I k X C W _ K h.1.1.1) (I k X C W _ K h.1.1.2) (I k X C W _ K h.1.2) h.2
    · cases h
  | rev a => cases h
  | bi b es => exact bi_of K I h
  | call f es => exact ej_call (call_of K I h)
  | lc is t it c el =>
    obtain ⟨elt, tg, iter, ifs, scope, pos, own, rfl, rfl, L⟩ := lcOk_of K I (show chkLc ih k e is t it c el = true from h)
    exact ej_lc K.e L
  | popAt i a =>
    dsimp only [chkE] at h
    split at h
    · simp only [Bool.and_eq_true, decide_eq_true_eq] at h
      obtain ⟨⟨⟨⟨h1, h2⟩, h3⟩, h4⟩, h5⟩ := h
      subst h2
      obtain ⟨v1, v2, v3, v4⟩ := K.vis h1
      exact ej_popAt v1 v2 v3 v4 (I k X C W _ K h3) h4 h5
    · cases h
theorem t_of (K : CkX k X Γ C W cl lv) (I : IhOk ih Γ cl lv) {e : Expr} {i : IE} (h : chkT ih k e i = true) : TJ X Γ C W e i := by
  unfold chkT at h
  split at h
  · split at h
    · simp only [Bool.and_eq_true] at h
      exact (wj_and (I k X C W _ K h.1) (I k X C W _ K h.2)).tj
    · cases h
  · split at h
    · simp only [Bool.and_eq_true] at h
      exact (wj_or (I k X C W _ K h.1) (I k X C W _ K h.2)).tj
    · cases h
  · split at h
    · exact tj_not (I k X C W _ K h)
    · cases h
  · split at h
    · simp only [Bool.and_eq_true] at h
      obtain ⟨⟨⟨⟨h1, h2⟩, h3⟩, h4⟩, h5⟩ := h
      rw [cmB_ok h1]
      exact tj_cmp K.e.hK K.hu (I k X C W _ K h2) (I k X C W _ K h3) h4 (not_true h5)
    · cases h
  · split at h
    · simp only [Bool.and_eq_true] at h
      obtain ⟨⟨⟨⟨⟨⟨⟨h1, h2⟩, h3⟩, h4⟩, h5⟩, h6⟩, h7⟩, h8⟩ := h
      rw [cmB_ok h1, cmB_ok h2]
      exact tj_chain K.e.hK K.hu (I k X C W _ K h3) (I k X C W _ K h4) (I k X C W _ K h5) h6 h7 (not_true h8)
    · cases h
  · split at h
    · simp only [Bool.and_eq_true] at h
      rw [isB_ok h.1]
      exact tj_isN (I k X C W _ K h.2)
    · cases h
  · simp only [Bool.and_eq_true] at h
    exact tj_tru K.e.hK (I k X C W _ K h.2) h.1.1 (fun w => plain_test h.1.2 w)
theorem w_of (K : CkX k X Γ C W cl lv) (I : IhOk ih Γ cl lv) {e : Expr} {i : IE} (h : chkW ih k e i = true) : WJ X Γ C W e i := by
  unfold chkW at h
  split at h
  · exact wj_and1 (I k X C W _ K h)
  · exact wj_or1 (I k X C W _ K h)
  · split at h
    · simp only [Bool.and_eq_true] at h
      exact wj_and (I k X C W _ K h.1) (I k X C W _ K h.2)
    · cases h
  · split at h
    · simp only [Bool.and_eq_true] at h
      exact wj_or (I k X C W _ K h.1) (I k X C W _ K h.2)
    · cases h
  · cases h
theorem f_of (K : CkX k X Γ C W cl lv) (I : IhOk ih Γ cl lv) {e : Expr} {i : IE} (h : chkF ih k e i = true) : FJ X Γ C W e i := by
  unfold chkF at h
  split at h
  · split at h
    · simp only [Bool.and_eq_true, decide_eq_true_eq] at h
      exact fj_lst (I k X C W _ K h.1) h.2
    · cases h
  · obtain ⟨elt, tg, iter, ifs, scope, pos, own, rfl, rfl, L⟩ := lcOk_of K I h
    exact fj_lc K.e L
  · split at h
    · simp only [Bool.and_eq_true, decide_eq_true_eq] at h
      obtain ⟨⟨⟨h1, h2⟩, h3⟩, h4⟩ := h
      subst h1
      obtain ⟨g1, _, _⟩ := K.gl h2
      exact fj_list K.e.hK g1 (K.blt _ (by decide +kernel)) (I k X C W _ K h3) h4
    · cases h
  · split at h
    · simp only [Bool.and_eq_true, decide_eq_true_eq] at h
      obtain ⟨⟨⟨⟨⟨h1, h2⟩, h3⟩, h4⟩, h5⟩, h6⟩ := h
      subst h1 h3
      obtain ⟨g1, _, _⟩ := K.gl h2
      obtain ⟨g4, _, _⟩ := K.gl h4
      exact fj_rngL K.e g1 (K.blt _ (by decide +kernel)) g4 (K.blt _ (by decide +kernel)) (I k X C W _ K h5) h6
    · cases h
  · split at h
    · simp only [Bool.and_eq_true] at h
      exact fj_or K.e.hK (I k X C W _ K h.1) (fj_one (I k X C W _ K h.2))
    · cases h
  · exact fj_call (call_of K I h)
  · cases h
theorem i_of (K : CkX k X Γ C W cl lv) (I : IhOk ih Γ cl lv) {tg iter : Expr} {ii : II} (h : chkI ih k tg iter ii = true) : IJ X Γ C W tg iter ii := by
  unfold chkI at h
  split at h
  · simp only [Bool.and_eq_true] at h
    exact ij_seq K.e.hK (I k X C W _ K h.1) h.2
  · split at h
    · simp only [Bool.and_eq_true, decide_eq_true_eq] at h
      obtain ⟨⟨⟨h1, h2⟩, h3⟩, h4⟩ := h
      subst h1
      exact ij_rng1 (K.gl h2).1 (K.blt _ (by decide +kernel)) (I k X C W _ K h3) h4
    · cases h
  · split at h
    · simp only [Bool.and_eq_true, decide_eq_true_eq] at h
      obtain ⟨⟨⟨⟨⟨⟨h1, h2⟩, h3⟩, h4⟩, h5⟩, h6⟩, h7⟩ := h
      subst h1
      exact ij_rng2 (K.gl h2).1 (K.blt _ (by decide +kernel)) (I k X C W _ K h3) (I k X C W _ K h4) h5 h6 h7
    · cases h
  · split at h
    · simp only [Bool.and_eq_true, decide_eq_true_eq] at h
      obtain ⟨⟨⟨h1, h2⟩, h3⟩, h4⟩ := h
      subst h1
      exact ij_enum K.e.hK (K.gl h2).1 (K.blt _ (by decide +kernel)) (I k X C W _ K h3) h4
    · cases h
  · split at h
    · simp only [Bool.and_eq_true, decide_eq_true_eq] at h
      obtain ⟨⟨⟨⟨⟨⟨h1, h2⟩, h3⟩, h4⟩, h5⟩, h6⟩, h7⟩ := h
      subst h1
      exact ij_zip K.e.hK (K.gl h2).1 (K.blt _ (by decide +kernel)) (I k X C W _ K h3) (I k X C W _ K h4) h5 h6 h7
    · cases h
theorem chk1_ok (I : IhOk ih Γ cl lv) : IhOk (chk1 ih) Γ cl lv := by
  intro k X C W j K h
  unfold chk1 at h
  split at h
  · exact e_of K I h
  · exact t_of K I h
  · exact w_of K I h
  · exact f_of K I h
  · exact vj_nil
  · simp only [Bool.and_eq_true] at h
    exact vj_cons (I k X C W _ K h.1.1.1) h.1.1.2 (I k X C W _ K h.1.2) h.2
  · cases h
  · simp only [Bool.and_eq_true] at h
    exact rj_one (I k X C W _ K h.1) h.2
  · exact VJ.rj (I k X C W _ K h)
  · exact cj_nil
  · simp only [Bool.and_eq_true] at h
    obtain ⟨h1, h2⟩ := h
    split at h1
    · split at h1
      · obtain ⟨v1, v2, v3, v4⟩ := K.vis h1
        exact cj_own v1 v2 v3 v4 (I k X C W _ K h2)
      · cases h1
    · simp only [Bool.and_eq_true] at h1
      exact cj_cons (I k X C W _ K h1.1.1) h1.1.2 (I k X C W _ K h2) h1.2
  · cases h
  · exact kj_nil
  · simp only [Bool.and_eq_true] at h
    exact kj_cons (I k X C W _ K h.1.1) h.1.2 (I k X C W _ K h.2)
  · cases h
  · exact oj_none
  · exact oj_some (I k X C W _ K h)
  · cases h
  · exact i_of K I h
  · obtain ⟨h1, h2, h3⟩ := K.loc h
    exact gj_name K.e.hP K.e.nodup h1 h2 h3
  · exact gj_tup K.e.hK K.e.calm (I k X C W _ K h)
  · cases h
  · exact gsj_nil
  · simp only [Bool.and_eq_true] at h
    exact gsj_cons (I k X C W _ K h.1.1) (I k X C W _ K h.1.2) h.2
  · cases h
  · exact mj_nil
  · simp only [Bool.and_eq_true] at h
    exact mj_d (I k X C W _ K h.1.1.1) h.1.1.2 (I k X C W _ K h.1.2) h.2
  · simp only [Bool.and_eq_true] at h
    exact mj_o (I k X C W _ K h.1.1.1) (I k X C W _ K h.1.2) h.1.1.2 h.2
  · cases h
theorem chk_ok : ∀ n, IhOk (chk n) Γ cl lv
  | 0 => fun k X C W j K h => by cases h
  | n + 1 => chk1_ok (chk_ok n)
end
end F3
end
section
namespace F3
open PySem PySem.Spec L2

/-! ### statements -/
structure CkS (k : Ck) (X : Cx) (Γ : Gm) (C : FC) (W : WE) (cl : Nat → Addr) (lv : Nat) : Prop where
  x : CkX k X Γ C W cl lv
  o : CtxOk X Γ C
  exc : ∀ y c, k.ex.lookup y = some c → Gl X y → RaF X cl y c
  kind : k.sc.kind = .function
def notTup : Expr → Bool
  | .Tuple _ _ _ => false
  | _ => true
theorem stores_no {tg e : Expr} {env : PySem.Env} (h : notTup e = true) : swappedStores [tg] e env = pure none := by
  cases e <;> first | (cases tg <;> rfl) | cases h
/-- how a pair, a triple is stored: a part of swappedStores -/
def lineOf : Expr → Nat
  | e => e.pos.line
def star? : Expr → Bool
  | .Starred .. => true
  | _ => false
def swNames (sc : Scope) (line : Nat) : List Expr → List Str
  | [] => []
  | .Name x p :: r => if (sc.names.lookup x == some .local && p.line == line) then x :: swNames sc line r else swNames sc line r
  | _ :: r => swNames sc line r
inductive SwR where
  | no
  | yes
  | bad
  deriving DecidableEq
def swS (sc : Scope) (ts vs : List Expr) : SwR :=
  if (!(ts.length == 2 || ts.length == 3) || vs.length != ts.length) = true then .no
  else if vs.any star? = true then .no
  else
    let line := (ts.head?.map (·.pos.line)).getD 0
    let names := swNames sc line ts
    if (names.length != ts.length || names.eraseDups.length != names.length) = true then .no
    else if vs.all (foldedForSure 8) = true then .no
    else if vs.all (constantsAlone 8) = true then .bad
    else .yes
theorem swNames_eq {env : PySem.Env} {line : Nat} : ∀ ts : List Expr, (ts.filterMap fun | .Name id pos => if env.kindOf id == some .local && pos.line == line then some id else none | _ => none) = swNames env.scope line ts
  | [] => rfl
  | e :: r => by
    have ih := swNames_eq (env := env) (line := line) r
    cases e with
    | Name x p =>
      rw [List.filterMap_cons]
      unfold swNames
      by_cases z : (env.kindOf x == some .local && p.line == line) = true
      · have z' : (env.scope.names.lookup x == some .local && p.line == line) = true := z
        simp only [z, z', if_true]
        rw [← ih]
      · have z' : ¬ (env.scope.names.lookup x == some .local && p.line == line) = true := z
        simp only [z, z', if_false]
        rw [← ih]
        rfl
    | _ => rw [List.filterMap_cons]; unfold swNames; exact ih
theorem swS_ok {env : PySem.Env} {ts vs : List Expr} {kt k2 : Nat} {pt p2 : Pos} (hk : env.scope.kind = .function) :
    (swS env.scope ts vs = .no → swappedStores [.Tuple ts kt pt] (.Tuple vs k2 p2) env = pure none) ∧
    (swS env.scope ts vs = .yes → swappedStores [.Tuple ts kt pt] (.Tuple vs k2 p2) env = pure (some (swNames env.scope ((ts.head?.map (·.pos.line)).getD 0) ts)) ∧ (swNames env.scope ((ts.head?.map (·.pos.line)).getD 0) ts).length = ts.length ∧ vs.length = ts.length) := by
  have hb : env.blockKind = .function := by unfold Env.blockKind; rw [hk]; rfl
  have h2 : (env.blockKind != .function) = false := by rw [hb]; rfl
  have e3 := swNames_eq (env := env) (line := (ts.head?.map (·.pos.line)).getD 0) ts
  have go : swappedStores [.Tuple ts kt pt] (.Tuple vs k2 p2) env = (if (!(ts.length == 2 || ts.length == 3) || vs.length != ts.length) = true then pure none
    else if vs.any star? = true then pure none
    else if ((swNames env.scope ((ts.head?.map (·.pos.line)).getD 0) ts).length != ts.length || (swNames env.scope ((ts.head?.map (·.pos.line)).getD 0) ts).eraseDups.length != (swNames env.scope ((ts.head?.map (·.pos.line)).getD 0) ts).length) = true then pure none
    else if vs.all (foldedForSure 8) = true then pure none
    else if vs.all (constantsAlone 8) = true then (do
      unsupported "assign.tuple-of-constant-expressions:order-of-the-stores"
      pure (some (swNames env.scope ((ts.head?.map (·.pos.line)).getD 0) ts)))
    else pure (some (swNames env.scope ((ts.head?.map (·.pos.line)).getD 0) ts))) := by
    rw [← e3]
    unfold swappedStores
    simp only [h2, Bool.or_false]
    rfl
  rw [go]
  unfold swS
  refine ⟨fun h => ?_, fun h => ?_⟩
  · split at h
    · rename_i z; exact if_pos z
    · rename_i z
      refine (if_neg z).trans ?_
      split at h
      · rename_i z; exact if_pos z
      · rename_i z
        refine (if_neg z).trans ?_
        dsimp only at h
        split at h
        · rename_i z; exact if_pos z
        · rename_i z
          refine (if_neg z).trans ?_
          split at h
          · rename_i z; exact if_pos z
          · split at h <;> cases h
  · split at h
    · cases h
    · rename_i z
      split at h
      · cases h
      · rename_i z2
        dsimp only at h
        split at h
        · cases h
        · rename_i z3
          split at h
          · cases h
          · rename_i z4
            split at h
            · cases h
            · rename_i z5
              refine ⟨(if_neg z).trans ((if_neg z2).trans ((if_neg z3).trans ((if_neg z4).trans (if_neg z5)))), ?_⟩
              simp only [Bool.or_eq_true, not_or, bne_iff_ne, ne_eq, Decidable.not_not] at z3 z
              exact ⟨z3.1, z.2⟩
def swLc (k : Ck) (y : Str) (py : Pos) (scope : Scope) (pos : Pos) : SwR := if (decide (k.sc.names.lookup y = some .local)) = true then (if ((py.line == pos.line) && !(scope.names.any fun (n, k) => n == y && (k == .local || k == .cell))) = true then .yes else .bad) else .no
def swB (k : Ck) (y : Str) (py : Pos) : Expr → SwR
  | .ListComp _ _ scope pos => swLc k y py scope pos
  | .SetComp _ _ _ _ => .bad
  | .DictComp _ _ _ _ _ => .bad
  | _ => .no
theorem swB_no {k : Ck} {y : Str} {py : Pos} {e : Expr} {env : PySem.Env} {l : Nat} (hs : env.scope = k.sc) (h : swB k y py e = .no) : swapsWith e (some (.Name y py)) l env = pure false := by
  cases e with
  | ListComp elt gs scope pos =>
    have h : swLc k y py scope pos = .no := h
    unfold swLc at h
    split at h
    · split at h <;> cases h
    · rename_i z
      have z2 : (env.kindOf y == some .local) = false := by
        have z3 : ¬ env.scope.names.lookup y = some .local := by rw [hs]; simpa using z
        have : (env.scope.names.lookup y == some NameKind.local) = false := by simpa using z3
        exact this
      unfold swapsWith
      simp only [z2, Bool.and_false, Bool.false_and]
  | SetComp _ _ _ _ => cases h
  | DictComp _ _ _ _ _ => cases h
  | _ => rfl
def mkNames : List Str → List Pos → List Expr
  | x :: xs, p :: ps => .Name x p :: mkNames xs ps
  | _, _ => []
theorem swNames_le {sc : Scope} {l : Nat} : ∀ ts : List Expr, (swNames sc l ts).length ≤ ts.length
  | [] => Nat.le_refl _
  | e :: r => by
    have ih := swNames_le (sc := sc) (l := l) r
    cases e with
    | Name x p =>
      unfold swNames
      split
      · simp; omega
      · simp; omega
    | _ => unfold swNames; simp; omega
theorem swNames_pre {k : Ck} {l : Nat} : ∀ (xs : List Str) (ps : List Pos), xs.length = ps.length → (swNames k.sc l (mkNames xs ps)).length = (mkNames xs ps).length → swNames k.sc l (mkNames xs ps) = xs
  | [], [], _, _ => rfl
  | [], _ :: _, h, _ => by simp at h
  | _ :: _, [], h, _ => by simp at h
  | x :: xs, p :: ps, h, h2 => by
    rw [mkNames] at h2 ⊢
    unfold swNames at h2 ⊢
    have le := swNames_le (sc := k.sc) (l := l) (mkNames xs ps)
    split at h2
    · rename_i z
      rw [if_pos z, swNames_pre xs ps (by simpa using h) (by simpa using h2)]
    · simp at h2
      omega
def isName : Expr → Bool
  | .Name _ _ => true
  | _ => false
def namesB (k : Ck) : List Expr → List Nat → Bool
  | [], [] => true
  | .Name x _ :: ts, i :: is => locB k i x && namesB k ts is
  | _, _ => false
inductive SJob where
  | S (st : Stmt) (i : IS)
  | Ss (sts : List Stmt) (is : List IS)
section
variable (n : Nat) (ih : Ck → SJob → Bool) (k : Ck)
def parB (ts : List Expr) (is : List Nat) : Bool :=
  match ts, is with
  | [.Name x _, .Name y _], [i, j] => decide (k.N[i]? = some x) && decide (k.N[j]? = some y) && decide (i ≠ j) && decide (k.sc.names.lookup x = some .local) && decide (k.sc.names.lookup y = some .local)
  | [.Name x _, .Name y _, .Name z _], [i, j, l] => decide (k.N[i]? = some x) && decide (k.N[j]? = some y) && decide (k.N[l]? = some z) && decide (i ≠ j) && decide (i ≠ l) && decide (j ≠ l) && decide (k.sc.names.lookup x = some .local) && decide (k.sc.names.lookup y = some .local) && decide (k.sc.names.lookup z = some .local)
  | _, _ => false
def chkStm (st : Stmt) : IS → Bool
  | .set i e => match st with
    | .Assign [.Name y py] ex _ => locB k i y && stE e && (match swB k y py ex with
      | .no => chk n k (.E ex e)
      | .yes => (match e with
        | .lc is t it c el => chkLc (chk n) k ex is t it c el
        | _ => false)
      | .bad => false)
    | _ => false
  | .own i e => match st with
    | .Assign [.Name y py] ex _ => locB k i y && (match swB k y py ex with
      | .no => chk n k (.F ex e)
      | .yes => (match e with
        | .lc is t it c el => chkLc (chk n) k ex is t it c el
        | _ => false)
      | .bad => false)
    | _ => false
  | .asg t e => match st with
    | .Assign [tg] ex _ => notTup ex && notLc ex && chk n k (.G tg t) && chk n k (.E ex e) && stE e && notStar tg
    | _ => false
  | .mul is os => match st with
    | .Assign [.Tuple ts _ _] (.Tuple es _ _) _ => chk n k (.M es os) && (match swS k.sc ts es with
      | .yes => parB k ts is
      | .no => namesB k ts is && decide (is.length ≤ 1000)
      | .bad => false)
    | _ => false
  | .put i kx e => match st with
    | .Assign [.Subscript (.Name x _) kk _] ex _ => visB k i x && chk n k (.E ex e) && stE e && chk n k (.E kk kx) && notLc ex && notSlice kk
    | _ => false
  | .app i e => match st with
    | .Expr (.Call (.Attribute (.Name x _) m ap) [ea] [] cp) _ => visB k i x && decide (m = "append") && chk n k (.E ea e) && stE e && notStar ea && (ap.endLine == cp.line)
    | _ => false
  | .ext i e => match st with
    | .Expr (.Call (.Attribute (.Name x _) m ap) [ea] [] cp) _ => visB k i x && decide (m = "extend") && chk n k (.E ea e) && stE e && notStar ea && (ap.endLine == cp.line)
    | _ => false
  | .pop i => match st with
    | .Expr (.Call (.Attribute (.Name x _) m ap) [] [] cp) _ => visB k i x && decide (m = "pop") && (ap.endLine == cp.line)
    | _ => false
  | .ex e => match st with
    | .Expr ex _ => chk n k (.E ex e) && notLc ex
    | _ => false
  | .ret e => match st with
    | .Return (some ex) _ => chk n k (.E ex e) && stE e
    | _ => false
  | .retO e => match st with
    | .Return (some ex) _ => chk n k (.F ex e)
    | _ => false
  | .if_ c a b => match st with
    | .If ce sa sb _ => chk n k (.T ce c) && ih k (.Ss sa a) && ih k (.Ss sb b)
    | _ => false
  | .while_ c b => match st with
    | .While ce sb [] _ => chk n k (.T ce c) && ih k (.Ss sb b)
    | _ => false
  | .for_ t it b => match st with
    | .For tg iter sb [] _ => chk n k (.I tg iter it) && stI it && chk n k (.G tg t) && ih k (.Ss sb b)
    | _ => false
  | .raise c => match st with
    | .Raise (some (.Call (.Name x _) [] [] _)) none _ => glB k x && decide (k.ex.lookup x = some c)
    | _ => false
  | .frz _ => false
  | .brk => match st with
    | .Break _ => true
    | _ => false
  | .cont => match st with
    | .Continue _ => true
    | _ => false
  | .pass => match st with
    | .Pass _ => true
    | _ => false
def chkS1 : SJob → Bool
  | .S st i => chkStm n ih k st i
  | .Ss [] [] => true
  | .Ss sts (.frz _ :: is) => ih k (.Ss sts is)
  | .Ss (st :: sts) (i :: is) => ih k (.S st i) && ih k (.Ss sts is)
  | .Ss _ _ => false
end
def chkS (n : Nat) : Nat → Ck → SJob → Bool
  | 0, _, _ => false
  | m + 1, k, j => chkS1 n (chkS n m) k j
def SndS (X : Cx) (Γ : Gm) (C : FC) (W : WE) : SJob → Prop
  | .S st i => SJ X Γ C W st i
  | .Ss sts is => SsJ X Γ C W sts is
section
variable {k : Ck} {X : Cx} {Γ : Gm} {C : FC} {W : WE} {cl : Nat → Addr} {lv n : Nat} {ih : Ck → SJob → Bool}
theorem pgs_names (K : CkX k X Γ C W cl lv) : ∀ {ts : List Expr} {is : List Nat}, namesB k ts is = true → ∃ g, PGs X ts g ∧ (assignEach ts X.env).length = is.length ∧ (assignEach ts X.env).findIdx? (·.1) = none ∧
    ∀ (vs : List V) (σ : St) (H : Hp) (Q : St → Hp → Prop), vs.length = is.length → Q (setAll σ is vs) H → g vs σ H Q
  | [], [], _ => ⟨_, pgs_nil, rfl, rfl, fun vs σ H Q hl h => by
      cases vs with
      | nil => exact ⟨rfl, h⟩
      | cons _ _ => simp at hl⟩
  | [], _ :: _, h => by simp [namesB] at h
  | .Name x p :: ts, [], h => by simp [namesB] at h
  | .Name x p :: ts, i :: is, h => by
    rw [namesB, Bool.and_eq_true] at h
    obtain ⟨h1, h2, h3⟩ := K.loc h.1
    obtain ⟨g, pg, gl, gs, qg⟩ := pgs_names K h.2
    refine ⟨_, pgs_cons (pg_name K.e.nodup h1 h2 h3) pg rfl, ?_, ?_, fun vs σ H Q hl q => ?_⟩
    · rw [asg_cons rfl, List.length_cons, List.length_cons, gl]
    · rw [asg_cons rfl, List.findIdx?_cons, gs]; rfl
    · cases vs with
      | nil => simp at hl
      | cons v vs => exact ⟨v, vs, rfl, qg vs _ H Q (by simpa using hl) q⟩
def IhS (ih : Ck → SJob → Bool) (Γ : Gm) (C : FC) (W : WE) (cl : Nat → Addr) (lv : Nat) : Prop := ∀ (k : Ck) (X : Cx) (j : SJob), CkS k X Γ C W cl lv → ih k j = true → SndS X Γ C W j
theorem stm_of (K : CkS k X Γ C W cl lv) (I : IhS ih Γ C W cl lv) {st : Stmt} {i : IS} (h : chkStm n ih k st i = true) : SJ X Γ C W st i := by
  have J := chk_ok (Γ := Γ) (cl := cl) (lv := lv) n
  cases i with
  | set i e =>
    dsimp only [chkStm] at h
    split at h
    · rename_i y py ex sp
      simp only [Bool.and_eq_true] at h
      obtain ⟨⟨h1, h2⟩, h3⟩ := h
      obtain ⟨v1, v2, v3⟩ := K.x.loc h1
      split at h3
      · rename_i z
        obtain ⟨t, pt, q⟩ := (show EJ X Γ C W ex e from J k X C W _ K.x h3).ex
        exact sj_set' K.o (ps_set K.o.nodup v1 v2 pt (swB_no K.x.hs z) v3) q h2
      · rename_i z
        split at h3
        · rename_i is t it c el
          obtain ⟨elt, tg, iter, ifs, scope, pos, own, rfl, rfl, L⟩ := lcOk_of K.x J h3
          have z : swLc k y py scope pos = .yes := z
          unfold swLc at z
          split at z
          · rename_i z1
            split at z
            · rename_i z2
              simp only [Bool.and_eq_true, Bool.not_eq_true'] at z2
              have z1 : X.env.scope.names.lookup y = some .local := by rw [K.x.hs]; exact of_decide_eq_true z1
              exact sj_setLc K.o L v1 z1 (sw_true (by rw [K.x.hs]; exact K.kind) z1 z2.1 z2.2)
            · cases z
          · cases z
        · cases h3
      · cases h3
    · cases h
  | own i e =>
    dsimp only [chkStm] at h
    split at h
    · rename_i y py ex sp
      simp only [Bool.and_eq_true] at h
      obtain ⟨h1, h3⟩ := h
      obtain ⟨v1, v2, v3⟩ := K.x.loc h1
      split at h3
      · rename_i z
        obtain ⟨t, pt, q⟩ := (show FJ X Γ C W ex e from J k X C W _ K.x h3).ex
        exact sj_own' K.o (ps_set K.o.nodup v1 v2 pt (swB_no K.x.hs z) v3) q
      · rename_i z
        split at h3
        · rename_i is t it c el
          obtain ⟨elt, tg, iter, ifs, scope, pos, own, rfl, rfl, L⟩ := lcOk_of K.x J h3
          have z : swLc k y py scope pos = .yes := z
          unfold swLc at z
          split at z
          · rename_i z1
            split at z
            · rename_i z2
              simp only [Bool.and_eq_true, Bool.not_eq_true'] at z2
              have z1 : X.env.scope.names.lookup y = some .local := by rw [K.x.hs]; exact of_decide_eq_true z1
              exact sj_ownLc K.o L v1 z1 (sw_true (by rw [K.x.hs]; exact K.kind) z1 z2.1 z2.2)
            · cases z
          · cases z
        · cases h3
      · cases h3
    · cases h
  | asg t e =>
    dsimp only [chkStm] at h
    split at h
    · simp only [Bool.and_eq_true] at h
      obtain ⟨⟨⟨⟨⟨h1, h2⟩, h3⟩, h4⟩, h5⟩, h6⟩ := h
      exact sj_asg K.o (J k X C W _ K.x h4) h5 (J k X C W _ K.x h3) (by unfold swapsWithSole; exact swaps_no h2) (stores_no h1) h6
    · cases h
  | mul is os =>
    dsimp only [chkStm] at h
    split at h
    · rename_i ts kt pt es k2 p2 sp
      simp only [Bool.and_eq_true] at h
      obtain ⟨h1, h2⟩ := h
      have M : MJ X Γ C W es os := J k X C W _ K.x h1
      have hk : X.env.scope.kind = .function := by rw [K.x.hs]; exact K.kind
      obtain ⟨sw1, sw2⟩ := swS_ok (env := X.env) (ts := ts) (vs := es) (kt := kt) (k2 := k2) (pt := pt) (p2 := p2) hk
      rw [K.x.hs] at sw1 sw2
      split at h2
      · rename_i z
        obtain ⟨hw, hl, hl2⟩ := sw2 z
        unfold parB at h2
        split at h2
        · rename_i x px y py i j
          simp only [Bool.and_eq_true, decide_eq_true_eq] at h2
          obtain ⟨⟨⟨⟨g1, g2⟩, g3⟩, g4⟩, g5⟩ := h2
          obtain ⟨a, b, rfl⟩ := two_len hl2
          have hw2 : swNames k.sc ((([Expr.Name x px, Expr.Name y py] : List Expr).head?.map (·.pos.line)).getD 0) [Expr.Name x px, Expr.Name y py] = [x, y] := by
            have e1 := swNames_pre (k := k) (l := (([Expr.Name x px, Expr.Name y py] : List Expr).head?.map (·.pos.line)).getD 0) [x, y] [px, py] rfl hl
            exact e1
          rw [hw2] at hw
          exact sj_mul2 K.o (by rw [K.x.hN]; exact g1) (by rw [K.x.hN]; exact g2) g3 (by rw [K.x.hs]; exact g4) (by rw [K.x.hs]; exact g5) hw M
        · rename_i x px y py w pw i j l
          simp only [Bool.and_eq_true, decide_eq_true_eq] at h2
          obtain ⟨⟨⟨⟨⟨⟨⟨⟨g1, g2⟩, g3⟩, g4⟩, g5⟩, g6⟩, g7⟩, g8⟩, g9⟩ := h2
          obtain ⟨a, b, c, rfl⟩ := three_len hl2
          have hw2 : swNames k.sc ((([Expr.Name x px, Expr.Name y py, Expr.Name w pw] : List Expr).head?.map (·.pos.line)).getD 0) [Expr.Name x px, Expr.Name y py, Expr.Name w pw] = [x, y, w] := by
            have e1 := swNames_pre (k := k) (l := (([Expr.Name x px, Expr.Name y py, Expr.Name w pw] : List Expr).head?.map (·.pos.line)).getD 0) [x, y, w] [px, py, pw] rfl hl
            exact e1
          rw [hw2] at hw
          exact sj_mul3 K.o (by rw [K.x.hN]; exact g1) (by rw [K.x.hN]; exact g2) (by rw [K.x.hN]; exact g3) g4 g5 g6 (by rw [K.x.hs]; exact g7) (by rw [K.x.hs]; exact g8) (by rw [K.x.hs]; exact g9) hw M
        · cases h2
      · rename_i z
        simp only [Bool.and_eq_true, decide_eq_true_eq] at h2
        obtain ⟨g, pg, gl, gs, qg⟩ := pgs_names K.x h2.1
        exact sj_mulA K.o M h2.2 (sw1 z) pg gl gs qg
      · cases h2
    · cases h
  | put i kx e =>
    dsimp only [chkStm] at h
    split at h
    · simp only [Bool.and_eq_true] at h
      obtain ⟨⟨⟨⟨⟨h1, h2⟩, h3⟩, h4⟩, h5⟩, h6⟩ := h
      obtain ⟨v1, v2, v3, v4⟩ := K.x.vis h1
      exact sj_put K.o v1 v2 v3 v4 (J k X C W _ K.x h2) h3 (J k X C W _ K.x h4) h5 h6
    · cases h
  | app i e =>
    dsimp only [chkStm] at h
    split at h
    · simp only [Bool.and_eq_true, decide_eq_true_eq] at h
      obtain ⟨⟨⟨⟨⟨h1, h2⟩, h3⟩, h4⟩, h5⟩, h6⟩ := h
      subst h2
      obtain ⟨v1, v2, v3, v4⟩ := K.x.vis h1
      exact sj_app K.o v1 v2 v3 v4 (J k X C W _ K.x h3) h4 h5 h6
    · cases h
  | ext i e =>
    dsimp only [chkStm] at h
    split at h
    · simp only [Bool.and_eq_true, decide_eq_true_eq] at h
      obtain ⟨⟨⟨⟨⟨h1, h2⟩, h3⟩, h4⟩, h5⟩, h6⟩ := h
      subst h2
      obtain ⟨v1, v2, v3, v4⟩ := K.x.vis h1
      exact sj_ext K.o v1 v2 v3 v4 (J k X C W _ K.x h3) h4 h5 h6
    · cases h
  | pop i =>
    dsimp only [chkStm] at h
    split at h
    · simp only [Bool.and_eq_true, decide_eq_true_eq] at h
      obtain ⟨⟨h1, h2⟩, h3⟩ := h
      subst h2
      obtain ⟨v1, v2, v3, v4⟩ := K.x.vis h1
      exact sj_pop K.o v1 v2 v3 v4 h3
    · cases h
  | ex e =>
    dsimp only [chkStm] at h
    split at h
    · simp only [Bool.and_eq_true] at h
      exact sj_ex (J k X C W _ K.x h.1) h.2
    · cases h
  | ret e =>
    dsimp only [chkStm] at h
    split at h
    · simp only [Bool.and_eq_true] at h
      exact sj_ret (J k X C W _ K.x h.1) h.2
    · cases h
  | retO e =>
    dsimp only [chkStm] at h
    split at h
    · exact sj_retO K.o (J k X C W _ K.x h)
    · cases h
  | if_ c a b =>
    dsimp only [chkStm] at h
    split at h
    · simp only [Bool.and_eq_true] at h
      exact sj_if (J k X C W _ K.x h.1.1) (I k X _ K h.1.2) (I k X _ K h.2)
    · cases h
  | while_ c b =>
    dsimp only [chkStm] at h
    split at h
    · simp only [Bool.and_eq_true] at h
      exact sj_while K.o (J k X C W _ K.x h.1) (I k X _ K h.2)
    · cases h
  | for_ t it b =>
    dsimp only [chkStm] at h
    split at h
    · simp only [Bool.and_eq_true] at h
      exact sj_for K.o (J k X C W _ K.x h.1.1.1) h.1.1.2 (J k X C W _ K.x h.1.2) (I k X _ K h.2)
    · cases h
  | raise c =>
    dsimp only [chkStm] at h
    split at h
    · simp only [Bool.and_eq_true, decide_eq_true_eq] at h
      exact sj_raise K.o K.x.tk (K.exc _ _ h.2 (K.x.gl h.1).1)
    · cases h
  | frz i => cases h
  | brk =>
    dsimp only [chkStm] at h
    split at h
    · exact sj_brk
    · cases h
  | cont =>
    dsimp only [chkStm] at h
    split at h
    · exact sj_cont
    · cases h
  | pass =>
    dsimp only [chkStm] at h
    split at h
    · exact sj_pass
    · cases h
theorem chkS_ok : ∀ m, IhS (chkS n m) Γ C W cl lv
  | 0 => fun k X j K h => by cases h
  | m + 1 => fun k X j K h => by
    have I := chkS_ok m
    rw [chkS] at h
    unfold chkS1 at h
    split at h
    · exact stm_of K I h
    · exact ssj_nil
    · exact ssj_frz K.o (I k X _ K h)
    · simp only [Bool.and_eq_true] at h
      exact ssj_cons (I k X _ K h.1) (I k X _ K h.2)
    · cases h
end
end F3
end
section
namespace F3
open PySem PySem.Spec L2

/-! ### defs -/
/-- the parameters' own addresses -/
def parA (vs : List V) (as : List AV) (i : Nat) : Option Addr :=
  match as[i]?, vs[i]? with
  | some av, some (.ref p) => if av.own then some p else none
  | _, _ => none
theorem parA_iff {vs : List V} {as : List AV} {i : Nat} {p : Addr} : parA vs as i = some p ↔ ∃ av, as[i]? = some av ∧ av.own = true ∧ vs[i]? = some (.ref p) := by
  unfold parA
  constructor
  · intro h
    split at h
    · rename_i av q e1 e2
      split at h
      · rename_i o
        cases h
        exact ⟨av, e1, o, e2⟩
      · cases h
    · cases h
  · rintro ⟨av, e1, o, e2⟩
    rw [e1, e2]
    dsimp only
    rw [if_pos o]
def fcOf (K : PySem.W.Frag) (A : Addr → Prop) (H : Hp) (vs : List V) (as : List AV) : FC := ⟨K, ownOf vs as, H, A, parA vs as⟩
def envOf (as : List AV) (ns : Nat) : Env := as.map some ++ List.replicate (ns - as.length) none
theorem app_none {α : Type} {xs : List (Option α)} {n i : Nat} {y : α} (h : (xs ++ List.replicate n none)[i]? = some (some y)) : xs[i]? = some (some y) := by
  by_cases hi : i < xs.length
  · rw [List.getElem?_append_left hi] at h
    exact h
  · rw [List.getElem?_append_right (by omega)] at h
    rw [List.getElem?_replicate] at h
    split at h <;> cases h
theorem ownOf_sub {K : PySem.W.Frag} {A : Addr → Prop} {H : Hp} {vs : List V} {as : List AV} (a : ArgsOk K A H vs as) {p : Addr} (h : ownOf vs as p) : A p := by
  obtain ⟨i, av, e1, o, e2⟩ := h
  obtain ⟨v, e3, q⟩ := Paired.get a.all e1
  obtain ⟨p', rfl, ha, _⟩ := q.addr o
  rw [e2] at e3
  cases e3
  exact ha
theorem se_start {K : PySem.W.Frag} {A : Addr → Prop} {H : Hp} {vs : List V} {as : List AV} {N : List Str} (l : Live A H) (a : ArgsOk K A H vs as) (hn : as.length ≤ N.length) : SE (fcOf K A H vs as) A (L2.start N vs) H (envOf as N.length) := by
  have hl : vs.length = as.length := Paired.length a.all
  have g : ∀ (i : Nat) (av : AV), (envOf as N.length)[i]? = some (some av) → as[i]? = some av := fun i av e => by
    have := app_none e
    rw [List.getElem?_map] at this
    cases e2 : as[i]? with
    | none => rw [e2] at this; cases this
    | some b => rw [e2] at this; cases this; rfl
  have gv : ∀ (i : Nat) (v : V), (L2.start N vs)[i]? = some (some v) → vs[i]? = some v := fun i v e => by
    have := app_none e
    rw [List.getElem?_map] at this
    cases e2 : vs[i]? with
    | none => rw [e2] at this; cases this
    | some b => rw [e2] at this; cases this; rfl
  have gs : ∀ (i : Nat) (v : V), vs[i]? = some v → (L2.start N vs)[i]? = some (some v) := fun i v e => by
    have hi := (List.getElem?_eq_some_iff.mp e).1
    unfold L2.start
    rw [List.getElem?_append_left (by simpa using hi), List.getElem?_map, e]
    rfl
  have ge : ∀ (i : Nat) (v : AV), as[i]? = some v → (envOf as N.length)[i]? = some (some v) := fun i v e => by
    have hi := (List.getElem?_eq_some_iff.mp e).1
    unfold envOf
    rw [List.getElem?_append_left (by simpa using hi), List.getElem?_map, e]
    rfl
  refine ⟨?_, fun i av e => ?_, fun i j av aw p n e1 e2 o1 o2 e3 e4 => ?_, l, Kp.refl, fun i av p e o e2 => ?_, fun i p e => ?_, fun _ z => z⟩
  · unfold L2.start envOf
    simp [hl]
  · obtain ⟨v, e3, q⟩ := Paired.get a.all (g i av e)
    exact ⟨v, gs i v e3, q⟩
  · exact a.dis i j av aw p n (g i av e1) (g j aw e2) o1 o2 (gv i _ e3) (gv j _ e4)
  · exact .inl ⟨i, av, g i av e, o, gv i _ e2⟩
  · obtain ⟨av, e1, o, e2⟩ := parA_iff.mp e
    exact ⟨gs i _ e2, av, ge i av e1, o⟩
theorem outs_get : ∀ {as : List AV} {ρ : Env} {ys : List AV}, outs as ρ = some ys → ys.length = as.length ∧ ∀ (i : Nat) (y : AV), ys[i]? = some y → ∃ a, as[i]? = some a ∧ ((a.own = false ∧ y = a) ∨ (a.own = true ∧ y.own = true ∧ ρ[i]? = some (some y)))
  | [], ρ, ys, h => by rw [outs] at h; cases h; exact ⟨rfl, fun i y e => by simp at e⟩
  | a :: as, [], ys, h => by cases a <;> simp [outs] at h
  | a :: as, r :: ρ, ys, h => by
    have step : ∀ (y0 : AV) (ys' : List AV), outs as ρ = some ys' → ((a.own = false ∧ y0 = a) ∨ (a.own = true ∧ y0.own = true ∧ r = some y0)) → ys = y0 :: ys' → ys.length = (a :: as).length ∧ ∀ (i : Nat) (y : AV), ys[i]? = some y → ∃ b, (a :: as)[i]? = some b ∧ ((b.own = false ∧ y = b) ∨ (b.own = true ∧ y.own = true ∧ (r :: ρ)[i]? = some (some y))) := fun y0 ys' e1 q e2 => by
      subst e2
      obtain ⟨h1, h2⟩ := outs_get e1
      refine ⟨by simp [h1], fun i y e => ?_⟩
      cases i with
      | zero =>
        have e : y0 = y := by simpa using e
        subst e
        refine ⟨a, rfl, ?_⟩
        rcases q with q | ⟨q1, q2, q3⟩
        · exact .inl q
        · exact .inr ⟨q1, q2, by simp [q3]⟩
      | succ i => simpa using h2 i y (by simpa using e)
    have own_case : a.own = true → (match r with
        | some av => if av.own then (outs as ρ).map (av :: ·) else none
        | none => none) = some ys → ys.length = (a :: as).length ∧ ∀ (i : Nat) (y : AV), ys[i]? = some y → ∃ b, (a :: as)[i]? = some b ∧ ((b.own = false ∧ y = b) ∨ (b.own = true ∧ y.own = true ∧ (r :: ρ)[i]? = some (some y))) := fun o h => by
      cases r with
      | none => cases h
      | some av =>
        dsimp only at h
        split at h
        · rename_i oav
          cases e : outs as ρ with
          | none => rw [e] at h; cases h
          | some ys' => rw [e] at h; cases h; exact step av ys' e (.inr ⟨o, oav, rfl⟩) rfl
        · cases h
    cases a with
    | d x =>
      have h : (outs as ρ).map (AV.d x :: ·) = some ys := by cases r <;> exact h
      cases e : outs as ρ with
      | none => rw [e] at h; cases h
      | some ys' => rw [e] at h; cases h; exact step (.d x) ys' e (.inl ⟨rfl, rfl⟩) rfl
    | l x => exact own_case rfl (by cases r <;> exact h)
    | k x => exact own_case rfl (by cases r <;> exact h)
    | t x => exact own_case rfl (by cases r <;> exact h)
theorem RetOk.less {K : PySem.W.Frag} {A A' : Addr → Prop} {H H' : Hp} {v : V} {r : AV} (s : ∀ a, A a → A' a) (h : RetOk K A' H H' v r) : RetOk K A H H' v r := by
  cases r with
  | d x => exact Dq.less h s
  | l xs => obtain ⟨p, vs, e, n, q, t⟩ := h; exact ⟨p, vs, e, n, q, t.less s⟩
  | k xs => obtain ⟨p, vs, e, n, q, t⟩ := h; exact ⟨p, vs, e, n, q, DqK.mono t Kp.refl s⟩
  | t xs => obtain ⟨p, vs, e, n, q, t⟩ := h; exact ⟨p, vs, e, n, q, DqK.mono t Kp.refl s⟩
/-- the arguments at the end -/
theorem args_end {K : PySem.W.Frag} {A A' : Addr → Prop} {H H' : Hp} {σ' : St} {ρ' : Env} {vs : List V} {as ys : List AV} (a : ArgsOk K A H vs as) (S' : SE (fcOf K A H vs as) A' σ' H' ρ') (ho : outs as ρ' = some ys) : ArgsOk K A H' vs ys := by
  obtain ⟨h1, h2⟩ := outs_get ho
  have kp : Kp A H H' := S'.keep.mono fun p z => ownOf_sub a z
  have hl : vs.length = as.length := Paired.length a.all
  have get : ∀ (i : Nat) (y : AV), ys[i]? = some y → ∃ v, vs[i]? = some v ∧ AvOk K A H' v y := fun i y e => by
    obtain ⟨b, eb, q⟩ := h2 i y e
    obtain ⟨v, ev, qv⟩ := Paired.get a.all eb
    refine ⟨v, ev, ?_⟩
    rcases q with ⟨o, rfl⟩ | ⟨o, oy, er⟩
    · exact qv.kp kp fun p o' _ => by rw [o] at o'; cases o'
    · obtain ⟨p, rfl, ha, _⟩ := qv.addr o
      obtain ⟨e1, av, e2, o2⟩ := S'.par i p (parA_iff.mpr ⟨b, eb, o, ev⟩)
      obtain ⟨w, e3, qw⟩ := S'.at_ i y er
      rw [e1] at e3
      cases e3
      exact AvOk.narrow qw (fun a z => S'.sub a z) fun p' _ e => by cases e; exact ha
  refine ⟨?_, fun i j av aw p n e1 e2 o1 o2 e3 e4 => ?_⟩
  · refine Paired.of_get (by rw [hl, h1]) fun i v y e1 e2 => ?_
    obtain ⟨w, e3, q⟩ := get i y e2
    rw [e1] at e3
    cases e3
    exact q
  · obtain ⟨b, eb, q⟩ := h2 i av e1
    obtain ⟨c, ec, q'⟩ := h2 j aw e2
    have ob : b.own = true := by
      rcases q with ⟨o, rfl⟩ | ⟨o, _, _⟩
      · exact o1
      · exact o
    have oc : c.own = true := by
      rcases q' with ⟨o, rfl⟩ | ⟨o, _, _⟩
      · exact o2
      · exact o
    exact a.dis i j b c p n eb ec ob oc e3 e4

/-! ### a def's promise -/
section
variable {P : Program} {w : World} {K : PySem.W.Frag} {mg : Str → Option Value} {base : Heap} {cl : Nat → Addr}
/-- what the module gives a body of the level lv -/
structure ModOk (P : Program) (w : World) (K : PySem.W.Frag) (mg : Str → Option Value) (base : Heap) (cl : Nat → Addr) (lv : Nat) (cs : List Int) (fn : Nat → Fn) (csT : List (Str × Nat)) (fsT : List (Str × Nat × List Str × List Nat)) (exT : List (Str × Nat)) : Prop where
  blt : ∀ x ∈ bltNames, mg x = none
  con : ∀ x g, csT.lookup x = some g → ∃ i u, mg x = some u ∧ RelV (.int i) u ∧ cs[g]? = some i
  fun_ : ∀ x f ps pats, fsT.lookup x = some (f, ps, pats) → ∃ a fd, mg x = some (.ref a) ∧ PySem.W.keepIn K (.ref a) = true ∧ FnOk P w K mg base (L2.CX P w) lv a fd ps (SpM K cl ps.length (fn f)) ∧ ∀ n ∈ pats, KBd fd ps n
  exc : ∀ x c, exT.lookup x = some c → (x == ("__debug__" : Str)) = false ∧ mg x = some (.ref (cl c)) ∧ PySem.W.keepIn K (.ref (cl c)) = true ∧ PySem.W.subIn K (.ref (cl c)) (.type "BaseException") = some true ∧ PySem.W.typeIn K (.ref (cl c)) = some (.type "type") ∧
    ∃ B newId initId bmB, ExcBaseFacts B newId initId bmB ∧ PySem.W.excIn K (cl c) bmB newId = true
theorem def_ok {lv n m : Nat} {cs : List Int} {fn : Nat → Fn} {csT : List (Str × Nat)} {fsT : List (Str × Nat × List Str × List Nat)} {exT : List (Str × Nat)} (M : ModOk P w K mg base cl lv cs fn csT fsT exT)
    {x qual : Str} {st : Stmt} {f : Addr} {fd : FuncData} {N ps : List Str} {D : FD} (F : Fun K x qual st f fd) (S : FnScope N ps (defScope st)) (hp : D.np = ps.length) (hn : D.ns = N.length)
    (ck : chkS n m ⟨N, defScope st, csT, fsT, exT, none⟩ (.Ss (defBody st) D.body) = true) : FnOk P w K mg base (L2.CX P w) (lv + 1) f fd ps (SpM K cl ps.length (runD cs fn D)) := by
  refine F.okX S (fun vs H Q E h => h.1) fun cdv A0 outer s H vs Q E hr h => ?_
  obtain ⟨hl, A, as, live, args, post⟩ := h
  have hla : vs.length = as.length := Paired.length args.all
  have hlen : as.length = D.np := by rw [← hla, hl, hp]
  unfold runD at post
  have hpl : ps.length ≤ N.length := by
    have := congrArg List.length S.pre
    rw [List.length_take] at this
    omega
  rw [if_pos (by rw [hlen, hp, hn]; simp [hpl])] at post
  have eEnv : as.map some ++ List.replicate (D.ns - D.np) none = envOf as N.length := by unfold envOf; rw [hlen, hn]
  rw [eEnv] at post
  generalize hX : cxOf (L2.CX P w) P w K mg base N qual (defScope st) f cdv A0 outer s H E = X
  have K1 : CkS ⟨N, defScope st, csT, fsT, exT, none⟩ X ⟨fn, cs, as.map AV.own⟩ (fcOf K A H vs as) (fun c _ H' => E (.ref (cl c)) none H') cl lv := by
    subst hX
    have tk : Takes (cxOf (L2.CX P w) P w K mg base N qual (defScope st) f cdv A0 outer s H E) (wx cl fun c _ H' => E (.ref (cl c)) none H') := by
      refine (takes_of (E := E) rfl rfl rfl rfl).imp fun cls d σ H' h => ?_
      obtain ⟨c, rfl, rfl, h⟩ := h
      exact h
    have pk : ParOk ⟨fn, cs, as.map AV.own⟩ (fcOf K A H vs as) := fun i p e => by
      obtain ⟨av, e1, o, e2⟩ := parA_iff.mp e
      unfold Gm.fix
      rw [List.getElem?_map, e1]
      simp [o]
    refine ⟨⟨⟨rfl, pk, rfl, S.nd⟩, rfl, rfl, fun x h => rfl, hr, tk, M.blt, M.con, fun x f ps pats h => ⟨M.fun_ x f ps pats h⟩⟩, ⟨rfl, pk, fun p ⟨i, av, e1, o, e2⟩ => ⟨i, parA_iff.mpr ⟨av, e1, o, e2⟩⟩, live, rfl, S.nd, ?_⟩, fun y c h g => ?_, S.kind⟩
    · exact passes_of (K := fun e s'' => L2.CX P w outer H s E e s'') rfl
    · obtain ⟨h1, h2, h3, h4, h5, B, newId, initId, bmB, h6, h7⟩ := M.exc y c h
      exact raF_of h6 h7 h2 h3 (raises_own h4 h5) g h1
  have J := (chkS_ok (Γ := ⟨fn, cs, as.map AV.own⟩) (C := fcOf K A H vs as) (W := fun c _ H' => E (.ref (cl c)) none H') (cl := cl) (lv := lv) (n := n) m) _ X _ K1 ck
  obtain ⟨t, pt, qt⟩ := J.ex
  refine ⟨t, pt, qt A (L2.start N vs) H (envOf as N.length) _ (se_start live args (by rw [hlen, hp]; exact hpl)) ?_⟩
  have kpo : ∀ {A' : Addr → Prop} {σ' : St} {H' : Hp} {ρ' : Env}, SE (fcOf K A H vs as) A' σ' H' ρ' → Kp (ownOf vs as) H H' := fun S' => S'.keep
  cases e : exSs ⟨fn, cs, as.map AV.own⟩ D.body (envOf as N.length) with
  | bad => rw [e] at post; exact post.elim
  | bk ρ' => rw [e] at post; exact post.elim
  | ct ρ' => rw [e] at post; exact post.elim
  | nx ρ' =>
    rw [e] at post
    intro A' σ' H' g S'
    cases eo : outs as ρ' with
    | none => simp only [endF, eo] at post; exact post.elim
    | some ys =>
      simp only [endF, eo] at post
      exact post .non H' (kpo S') (args_end args S' eo) .non
  | rt r ρ' =>
    rw [e] at post
    intro A' σ' H' v g S' ro
    cases eo : outs as ρ' with
    | none => simp only [endF, eo] at post; exact post.elim
    | some ys =>
      simp only [endF, eo] at post
      exact post v H' (kpo S') (args_end args S' eo) (RetOk.less (fun a z => S'.sub a z) ro)
  | ex c ρ' =>
    rw [e] at post
    intro A' σ' H' g S'
    cases eo : outs as ρ' with
    | none => simp only [endF, eo] at post; exact post.elim
    | some ys =>
      simp only [endF, eo] at post
      exact post H' (kpo S') (args_end args S' eo)
end
end F3
end
section
namespace F3
open PySem PySem.Spec L2

/-! ### the table of defs -/
structure Row where
  x : Str
  st : Stmt
  ps : List Str
  pats : List Nat
  N : List Str
  D : FD
def fsFrom : Nat → List Row → List (Str × Nat × List Str × List Nat)
  | _, [] => []
  | i, r :: rs => (r.x, i, r.ps, r.pats) :: fsFrom (i + 1) rs
theorem fsFrom_get : ∀ {rows : List Row} {i : Nat} {x : Str} {f : Nat} {ps : List Str} {pats : List Nat}, (fsFrom i rows).lookup x = some (f, ps, pats) → ∃ j r, f = i + j ∧ rows[j]? = some r ∧ r.x = x ∧ r.ps = ps ∧ r.pats = pats
  | [], i, x, f, ps, pats, h => by cases h
  | r :: rs, i, x, f, ps, pats, h => by
    rw [fsFrom, List.lookup_cons] at h
    split at h
    · rename_i e
      cases h
      exact ⟨0, r, rfl, rfl, (eq_of_beq e).symm, rfl, rfl⟩
    · obtain ⟨j, r', h1, h2, h3⟩ := fsFrom_get h
      exact ⟨j + 1, r', by omega, by simpa using h2, h3⟩
structure RowOk (K : PySem.W.Frag) (mg : Str → Option Value) (r : Row) : Prop where
  ex : ∃ a fd, mg r.x = some (.ref a) ∧ Fun K r.x r.x r.st a fd ∧ ∀ n ∈ r.pats, KBd fd r.ps n
  sc : FnScope r.N r.ps (defScope r.st)
/-- what is checked of a row -/
def rowB (n m : Nat) (csT : List (Str × Nat)) (fsT : List (Str × Nat × List Str × List Nat)) (exT : List (Str × Nat)) (r : Row) : Bool :=
  decide (r.D.np = r.ps.length) && decide (r.D.ns = r.N.length) && chkS n m ⟨r.N, defScope r.st, csT, fsT, exT, none⟩ (.Ss (defBody r.st) r.D.body)
structure BaseOk (K : PySem.W.Frag) (mg : Str → Option Value) (cl : Nat → Addr) (cs : List Int) (csT : List (Str × Nat)) (exT : List (Str × Nat)) : Prop where
  blt : ∀ x ∈ bltNames, mg x = none
  con : ∀ x g, csT.lookup x = some g → ∃ i u, mg x = some u ∧ RelV (.int i) u ∧ cs[g]? = some i
  exc : ∀ x c, exT.lookup x = some c → (x == ("__debug__" : Str)) = false ∧ mg x = some (.ref (cl c)) ∧ PySem.W.keepIn K (.ref (cl c)) = true ∧ PySem.W.subIn K (.ref (cl c)) (.type "BaseException") = some true ∧ PySem.W.typeIn K (.ref (cl c)) = some (.type "type") ∧
    ∃ B newId initId bmB, ExcBaseFacts B newId initId bmB ∧ PySem.W.excIn K (cl c) bmB newId = true
theorem tab_ok {P : Program} {w : World} {K : PySem.W.Frag} {mg : Str → Option Value} {base : Heap} {cl : Nat → Addr} {n m : Nat} {cs : List Int} {csT exT : List (Str × Nat)} {rows : List Row} (B : BaseOk K mg cl cs csT exT)
    (hr : ∀ r ∈ rows, RowOk K mg r) (hc : rows.all (rowB n m csT (fsFrom 0 rows) exT) = true) : ∀ (lv i : Nat) (r : Row), rows[i]? = some r →
      ∃ a fd, mg r.x = some (.ref a) ∧ Fun K r.x r.x r.st a fd ∧ FnOk P w K mg base (L2.CX P w) lv a fd r.ps (SpM K cl r.ps.length (run cs (rows.map Row.D) lv i)) ∧ ∀ n ∈ r.pats, KBd fd r.ps n
  | 0, i, r, h => by
    have hm : r ∈ rows := List.mem_of_getElem? h
    obtain ⟨a, fd, h1, h2, h3⟩ := (hr r hm).ex
    refine ⟨a, fd, h1, h2, ⟨fun vs H Q E z => z.1, fun A outer s H args us vs Q E _ _ _ _ z => ?_⟩, h3⟩
    obtain ⟨_, _, _, _, _, z⟩ := z
    exact z.elim
  | lv + 1, i, r, h => by
    have hm : r ∈ rows := List.mem_of_getElem? h
    obtain ⟨a, fd, h1, h2, h3⟩ := (hr r hm).ex
    have hb := List.all_eq_true.mp hc r hm
    unfold rowB at hb
    simp only [Bool.and_eq_true, decide_eq_true_eq] at hb
    obtain ⟨⟨b1, b2⟩, b3⟩ := hb
    have M : ModOk P w K mg base cl lv cs (run cs (rows.map Row.D) lv) csT (fsFrom 0 rows) exT := ⟨B.blt, B.con, fun x f ps pats e => by
      obtain ⟨j, r', e1, e2, e3, e4, e5⟩ := fsFrom_get e
      rw [Nat.zero_add] at e1
      subst e1 e3 e4 e5
      obtain ⟨a, fd, h1, h2, h3⟩ := tab_ok B hr hc lv _ r' e2
      exact ⟨a, fd, h1, h2.kp, h3⟩, B.exc⟩
    refine ⟨a, fd, h1, h2, ?_, h3⟩
    have e : run cs (rows.map Row.D) (lv + 1) i = runD cs (run cs (rows.map Row.D) lv) r.D := by
      funext as
      rw [run, List.getElem?_map, h]
      rfl
    rw [e]
    exact def_ok M h2 (hr r hm).sc b1 b2 b3
theorem row_of {K : PySem.W.Frag} {h : Heap} {mg : Str → Option Value} {r : Row} {f : Addr} {oc : Value} {od an : Option Addr} {osl : Array (Option Value)} {kV doc pm cdv ct : Value} (X : K.In h) (G : h.Ns mainGlobals mg)
    (a : PySem.W.nsIn K mainGlobals r.x = some (some (.ref f))) (l : K.lookup f = some ⟨oc, od, .func (PySem.W.fnOf r.x r.x (defArgs r.st) (defBody r.st) (defScope r.st) .none kV doc pm an cdv ct), osl⟩)
    (c : PySem.W.codeIn K cdv r.x = true) (k : PySem.W.keepIn K (.ref f) = true) (S : FnScope r.N r.ps (defScope r.st))
    (b : ∀ n ∈ r.pats, ∀ (kV doc pm : Value) (an : Option Addr) (cdv ct : Value) (us ws : List Value), us.length = n → (us ++ ws).length = r.ps.length →
      bindArgs (PySem.W.fnOf r.x r.x (defArgs r.st) (defBody r.st) (defScope r.st) .none kV doc pm an cdv ct) ⟨us, (r.ps.drop n).zip ws⟩ = pure (r.ps.zip (us ++ ws))) : RowOk K mg r :=
  ⟨⟨f, _, PySem.W.mg_of X G a, fun_mk l c k, fun n hn s us ws h1 h2 => .of_eq (b n hn kV doc pm an cdv ct us ws h1 h2)⟩, S⟩
/-- lists by their lengths -/
theorem ls0 {α : Type} {l : List α} (h : l.length = 0) : l = [] := List.length_eq_zero_iff.mp h
theorem ls1 {α : Type} {l : List α} (h : l.length = 1) : ∃ a, l = [a] := match l, h with | [a], _ => ⟨a, rfl⟩
theorem ls2 {α : Type} {l : List α} (h : l.length = 2) : ∃ a b, l = [a, b] := match l, h with | [a, b], _ => ⟨a, b, rfl⟩
theorem ls3 {α : Type} {l : List α} (h : l.length = 3) : ∃ a b c, l = [a, b, c] := match l, h with | [a, b, c], _ => ⟨a, b, c, rfl⟩
theorem ls4 {α : Type} {l : List α} (h : l.length = 4) : ∃ a b c d, l = [a, b, c, d] := match l, h with | [a, b, c, d], _ => ⟨a, b, c, d, rfl⟩
theorem ls5 {α : Type} {l : List α} (h : l.length = 5) : ∃ a b c d e, l = [a, b, c, d, e] := match l, h with | [a, b, c, d, e], _ => ⟨a, b, c, d, e, rfl⟩
theorem ls6 {α : Type} {l : List α} (h : l.length = 6) : ∃ a b c d e f, l = [a, b, c, d, e, f] := match l, h with | [a, b, c, d, e, f], _ => ⟨a, b, c, d, e, f, rfl⟩
theorem ls7 {α : Type} {l : List α} (h : l.length = 7) : ∃ a b c d e f g, l = [a, b, c, d, e, f, g] := match l, h with | [a, b, c, d, e, f, g], _ => ⟨a, b, c, d, e, f, g, rfl⟩
/-- the law: a run that answers True -/
def spLaw (K : PySem.W.Frag) : Sp := fun vs H Q _ => ∃ (a : Addr) (ns : List Int), vs = [.ref a] ∧ ns.length ≤ 63 ∧ SqR K H a (ns.map V.int) ∧ ∀ H', Q (.bl true) H'
theorem sp_of {K : PySem.W.Frag} {cl : Nat → Addr} {fn : Fn} (h : ∀ ns : List Int, ns.length ≤ 63 → ∃ ys, fn [.d (.list (ns.map .int))] = .ok (.d (.bool true)) ys) {vs : List V} {H : Hp} {Q : VK} {E : XK} (z : spLaw K vs H Q E) : SpM K cl 1 fn vs H Q E := by
  obtain ⟨a, ns, rfl, hl, sq, q⟩ := z
  obtain ⟨ys, e⟩ := h ns hl
  have t : DqA K (fun _ => False) H (ns.map V.int) (ns.map .int) := DqA.of_ints ns
  refine ⟨rfl, fun _ => False, [.d (.list (ns.map .int))], fun a z => z.elim, ⟨.cons ?_ .nil, fun i j av aw p n e1 e2 o1 _ _ _ => ?_⟩, ?_⟩
  · rcases sq with sq | sq
    · exact Dq.lst (fun z => z) sq t
    · exact Dq.kl sq t
  · cases i with
    | zero => simp at e1; subst e1; cases o1
    | succ i => simp at e1
  · rw [e]
    intro v H' _ _ ro
    cases (show Dq K _ H' v (.bool true) from ro)
    exact q H'

theorem fun_uniq {K : PySem.W.Frag} {x x' qual qual' : Str} {st st' : Stmt} {f : Addr} {fd fd' : FuncData} (h : Fun K x qual st f fd) (h' : Fun K x' qual' st' f fd') : fd = fd' := by
  obtain ⟨_, _, _, _, _, _, _, _, _, _, l, _⟩ := h.ex
  obtain ⟨_, _, _, _, _, _, _, _, _, _, l', _⟩ := h'.ex
  rw [l] at l'
  cases l'
  rfl
/-- THE END: what the head leaves -/
theorem walk_f3 {l : PySem.W.OpenLaw} {q : Program} {loose : List Str} {XP : (Str → Option Value) → Heap → Prop} {YP : World → Heap → Prop} {d : DefRec} {K : Params → PySem.W.Frag} {rows : List Row} {cs : List Int} {csT exT : List (Str × Nat)} {n m lv nl : Nat} {rl : Row}
    (hn : l.most = some 63) (hdf : d.params.defaults = []) (hr : Room lv callerA) (hY : ∀ (w : World) (h : Heap), YP w h → (K w.params).In h) (hc : rows.all (rowB n m csT (fsFrom 0 rows) exT) = true) (hl : rows[nl]? = some rl) (hps : rl.ps = [("script" : Str)]) (hpt : 1 ∈ rl.pats) (hx : rl.x = d.name)
    (F : ∀ (w : World) (mg : Str → Option Value) (fa : Addr) (h : Heap), (K w.params).In h → h.Ns mainGlobals mg → mg d.name = some (.ref fa) → ∃ cl, BaseOk (K w.params) mg cl cs csT exT ∧ ∀ r ∈ rows, RowOk (K w.params) mg r)
    (hrun : ∀ ns : List Int, ns.length ≤ 63 → ∃ ys, run cs (rows.map Row.D) lv nl [.d (.list (ns.map .int))] = .ok (.d (.bool true)) ys) :
    PySem.W.WalkO q loose XP YP l.row.toRowW d [] (fun f vs => PySem.call f vs) := by
  refine Att.attach_call hn hdf fun w s₀ s₁ mg mb fa o pm cd doc a vs ns G Y ho hd hcd hmg hobj hints hlen hg => ?_
  have KX := hY w _ Y
  obtain ⟨cl, B, R⟩ := F w mg fa _ KX G.T.g hmg
  obtain ⟨a0, fd, h0, hF0, hB0⟩ := (R rl (List.mem_of_getElem? hl)).ex
  rw [hx, hmg] at h0
  cases h0
  have hF : ∀ base : Heap, (K w.params).In base → base.Ns mainGlobals mg → FnOk l.prog w (K w.params) mg base (L2.CX l.prog w) lv fa fd [("script" : Str)] (spLaw (K w.params)) := fun base _ _ => by
    obtain ⟨a', fd', h1, h2, h3, h4⟩ := tab_ok (P := l.prog) (w := w) (base := base) B R hc lv nl rl hl
    rw [hx, hmg] at h1
    cases h1
    have e : fd' = fd := fun_uniq h2 hF0
    subst e
    rw [hps] at h3
    exact h3.imp fun vs H Q E z => sp_of hrun z
  have hb : ∀ (s : Shared) (u : Value), BindsTo s fd ⟨[u], []⟩ [("script", u)] := fun s u => by
    have := hB0 1 hpt s [u] [] rfl (by rw [hps]; rfl)
    rw [hps] at this
    exact this
  refine law_call KX G.T.g G.T.b G.T.builtins G.T.nolimit hg hobj hints (Nat.le_trans hlen (by decide)) hr hF hb (fun H hO hS => ⟨a, ns, rfl, hlen, ?_, fun _ => rfl⟩) fun H e s' z => ?_
  · rcases hS with hS | ⟨o', its, n', hk, hc', hd', hs', hz, r⟩
    · exact .inl hS
    · have e := KX _ _ hk
      rw [hobj] at e
      cases e
      cases hs'
      exact .inr ⟨vs, 0, hk, by simpa using hz, by simpa using r⟩
  · obtain ⟨_, _, _, _, _, _, _, _, _, _, _, _, z⟩ := z
    exact z.elim
end F3
end
section
namespace Lb
open PySem F3
/-- is_number(thing); slots 0 thing -/
def is_number : FD := ⟨1, 1,
  [.ret (.and (.bi (.isi "int") [(.var 0)]) (.not (.bi (.isi "bool") [(.var 0)])))]⟩
/-- is_within(thing, least, most); slots 0 thing, 1 least, 2 most -/
def is_within (f_is_number : Nat) : FD := ⟨3, 3,
  [.ret (.and (.call f_is_number [(.var 0)]) (.chain .le .le (.var 1) (.var 0) (.var 2)))]⟩
/-- is_long(thing, length); slots 0 thing, 1 length -/
def is_long : FD := ⟨2, 2,
  [.ret (.and (.bi (.isi "tuple") [(.var 0)]) (.cmp .eq (.bi .len [(.var 0)]) (.var 1)))]⟩
/-- are_numbers(thing); slots 0 thing, 1 own -/
def are_numbers (f_is_number : Nat) : FD := ⟨1, 2,
  [.ret (.and (.bi (.isi "tuple") [(.var 0)]) (.bi .all [(.lc [1] (.n 1) (.seq (.var 0)) none (.call f_is_number [(.var 1)]))]))]⟩
/-- tupled(value); slots 0 value, 1 own -/
def tupled (f_tupled : Nat) : FD := ⟨1, 2,
  [.ret (.ite (.bi .isiTL [(.var 0)]) (.bi .tup [(.lc [1] (.n 1) (.seq (.var 0)) none (.call f_tupled [(.var 1)]))]) (.var 0))]⟩
/-- sure_within(thing, least, most); slots 0 thing, 1 least, 2 most -/
def sure_within (f_is_within : Nat) (x_Unfit : Nat) : FD := ⟨3, 3,
  [.if_ (.not (.call f_is_within [(.var 0), (.var 1), (.var 2)]))
    [.raise x_Unfit]
    [],
   .ret (.var 0)]⟩
/-- are_weights(thing); slots 0 thing, 1 own -/
def are_weights (f_are_numbers : Nat) (c_LEAST_PLACES : Nat) (c_MOST_PLACES : Nat) (c_MOST_WEIGHT : Nat) : FD := ⟨1, 2,
  [.if_ (.or (.not (.call f_are_numbers [(.var 0)])) (.not (.chain .le .le (.glob c_LEAST_PLACES) (.bi .len [(.var 0)]) (.glob c_MOST_PLACES))))
    [.ret (.lit (.bool false))]
    [],
   .ret (.bi .all [(.lc [1] (.n 1) (.seq (.var 0)) none (.chain .le .le (.lit (.int 1)) (.var 1) (.glob c_MOST_WEIGHT)))])]⟩
/-- is_equation_in(thing); slots 0 thing, 1 own -/
def is_equation_in (f_is_long : Nat) (f_are_weights : Nat) (f_is_within : Nat) (c_MOST_FACTOR : Nat) : FD := ⟨1, 2,
  [.if_ (.or (.not (.call f_is_long [(.var 0), (.lit (.int 2))])) (.or (.not (.call f_are_weights [(.ix (.var 0) (.lit (.int 0)))])) (.not (.call f_is_within [(.ix (.var 0) (.lit (.int 1))), (.lit (.int 1)), (.glob c_MOST_FACTOR)]))))
    [.ret (.lit (.bool false))]
    [],
   .ret (.bi .all [(.lc [1] (.n 1) (.seq (.ix (.var 0) (.lit (.int 0)))) none (.cmp .eq (.bin .mod (.ix (.var 0) (.lit (.int 1))) (.var 1)) (.lit (.int 0))))])]⟩
/-- sure_equation(value); slots 0 value, 1 own -/
def sure_equation (f_tupled : Nat) (f_is_equation_in : Nat) (x_Unfit : Nat) : FD := ⟨1, 2,
  [.set 1 (.call f_tupled [(.var 0)]),
   .if_ (.not (.call f_is_equation_in [(.var 1)]))
    [.raise x_Unfit]
    [],
   .ret (.var 1)]⟩
/-- product_of(numbers); slots 0 numbers, 1 found, 2 own -/
def product_of : FD := ⟨1, 3,
  [.set 1 (.lit (.int 1)),
   .for_ (.n 2) (.seq (.var 0))
    [.set 1 (.bin .mul (.var 1) (.var 2))],
   .ret (.var 1)]⟩
/-- shares_in(equation, numbers); slots 0 equation, 1 numbers, 2 weight, 3 own -/
def shares_in : FD := ⟨2, 4,
  [.ret (.bi .tup [(.lc [2, 3] (.t [(.n 2), (.n 3)]) (.zip (.ix (.var 0) (.lit (.int 0))) (.var 1)) none (.bin .mul (.bin .mul (.var 2) (.var 3)) (.var 3)))])]⟩
/-- sides_in(equation, numbers); slots 0 equation, 1 numbers -/
def sides_in (f_shares_in : Nat) (f_product_of : Nat) : FD := ⟨2, 2,
  [.ret (.tup [(.bi .sum [(.call f_shares_in [(.var 0), (.var 1)])]), (.bin .mul (.ix (.var 0) (.lit (.int 1))) (.call f_product_of [(.var 1)]))])]⟩
/-- are_from_one(thing, many, most); slots 0 thing, 1 many, 2 most, 3 own -/
def are_from_one (f_is_long : Nat) (f_are_numbers : Nat) : FD := ⟨3, 4,
  [.ret (.and (.call f_is_long [(.var 0), (.var 1)]) (.and (.call f_are_numbers [(.var 0)]) (.bi .all [(.lc [3] (.n 3) (.seq (.var 0)) none (.chain .le .le (.lit (.int 1)) (.var 3) (.var 2)))])))]⟩
/-- is_solution_in(equation, thing); slots 0 equation, 1 thing, 2 left, 3 right -/
def is_solution_in (f_are_from_one : Nat) (c_BELOW_NUMBER : Nat) (f_sides_in : Nat) : FD := ⟨2, 4,
  [.if_ (.not (.call f_are_from_one [(.var 1), (.bi .len [(.ix (.var 0) (.lit (.int 0)))]), (.bin .sub (.glob c_BELOW_NUMBER) (.lit (.int 1)))]))
    [.ret (.lit (.bool false))]
    [],
   .asg (.t [(.n 2), (.n 3)]) (.call f_sides_in [(.var 0), (.var 1)]),
   .ret (.cmp .eq (.var 2) (.var 3))]⟩
/-- sure_solution(equation, value); slots 0 equation, 1 value, 2 own -/
def sure_solution (f_tupled : Nat) (f_is_solution_in : Nat) (x_Unfit : Nat) : FD := ⟨2, 3,
  [.set 2 (.call f_tupled [(.var 1)]),
   .if_ (.not (.call f_is_solution_in [(.var 0), (.var 2)]))
    [.raise x_Unfit]
    [],
   .ret (.var 2)]⟩
/-- sure_place(equation, value); slots 0 equation, 1 value -/
def sure_place (f_sure_within : Nat) : FD := ⟨2, 2,
  [.ret (.call f_sure_within [(.var 1), (.lit (.int 0)), (.bin .sub (.bi .len [(.ix (.var 0) (.lit (.int 0)))]) (.lit (.int 1)))])]⟩
/-- is_word_in(many, thing); slots 0 many, 1 thing, 2 own -/
def is_word_in (f_are_numbers : Nat) (c_MOST_WORD : Nat) : FD := ⟨2, 3,
  [.ret (.and (.call f_are_numbers [(.var 1)]) (.and (.cmp .le (.bi .len [(.var 1)]) (.glob c_MOST_WORD)) (.bi .all [(.lc [2] (.n 2) (.seq (.var 1)) none (.chain .le .lt (.lit (.int 0)) (.var 2) (.var 0)))])))]⟩
/-- shares(equation, solution); slots 0 equation, 1 solution, 2 own -/
def shares (f_sure_equation : Nat) (f_shares_in : Nat) (f_sure_solution : Nat) : FD := ⟨2, 3,
  [.set 2 (.call f_sure_equation [(.var 0)]),
   .ret (.call f_shares_in [(.var 2), (.call f_sure_solution [(.var 2), (.var 1)])])]⟩
/-- sure_road(equation, solution, one, other); slots 0 equation, 1 solution, 2 one, 3 other, 4 own, 5 row, 6 near, 7 far, 8 rest, 9 place, 10 its -/
def sure_road (f_sure_equation : Nat) (f_sure_solution : Nat) (f_sure_place : Nat) (x_Unfit : Nat) (f_product_of : Nat) : FD := ⟨4, 11,
  [.set 4 (.call f_sure_equation [(.var 0)]),
   .set 5 (.call f_sure_solution [(.var 4), (.var 1)]),
   .set 6 (.call f_sure_place [(.var 4), (.var 2)]),
   .set 7 (.call f_sure_place [(.var 4), (.var 3)]),
   .if_ (.cmp .eq (.var 6) (.var 7))
    [.raise x_Unfit]
    [],
   .set 8 (.call f_product_of [(.lc [9, 10] (.t [(.n 9), (.n 10)]) (.enum (.var 5)) (some (.cmp .notin (.var 9) (.tup [(.var 6), (.var 7)]))) (.var 10))]),
   .ret (.tup [(.ix (.var 5) (.var 6)), (.ix (.var 5) (.var 7)), (.bin .mul (.bin .fdiv (.ix (.var 4) (.lit (.int 1))) (.ix (.ix (.var 4) (.lit (.int 0))) (.var 6))) (.var 8)), (.bin .mul (.bin .fdiv (.ix (.var 4) (.lit (.int 1))) (.ix (.ix (.var 4) (.lit (.int 0))) (.var 7))) (.var 8))])]⟩
/-- road(equation, solution, one, other, many); slots 0 equation, 1 solution, 2 one, 3 other, 4 many, 5 long, 6 found, 7 lap, 8 first, 9 second, 10 near, 11 far, 12 goal -/
def road (f_sure_road : Nat) (f_sure_within : Nat) (c_MOST_LONG : Nat) (c_BELOW_NUMBER : Nat) (x_TooMany : Nat) : FD := ⟨5, 13,
  [.asg (.t [(.n 8), (.n 9), (.n 10), (.n 11)]) (.call f_sure_road [(.var 0), (.var 1), (.var 2), (.var 3)]),
   .set 5 (.call f_sure_within [(.var 4), (.lit (.int 0)), (.glob c_MOST_LONG)]),
   .own 6 (.lst [(.var 8), (.var 9)]),
   .for_ (.n 7) (.rng1 (.var 5))
    [.set 12 (.bin .sub (.bin .mul (.ite (.cmp .eq (.bin .mod (.var 7) (.lit (.int 2))) (.lit (.int 0))) (.var 10) (.var 11)) (.ix (.ovar 6) (.neg (.lit (.int 1))))) (.ix (.ovar 6) (.neg (.lit (.int 2))))),
     .if_ (.cmp .ge (.var 12) (.glob c_BELOW_NUMBER))
    [.raise x_TooMany]
    [],
     .app 6 (.var 12)],
   .frz 6,
   .ret (.var 6)]⟩
/-- road_step(equation, solution, one, other); slots 0 equation, 1 solution, 2 one, 3 other, 4 near, 5 far -/
def road_step (f_sure_road : Nat) : FD := ⟨4, 6,
  [.asg (.t [(.n 4), (.n 5)]) (.sl (.call f_sure_road [(.var 0), (.var 1), (.var 2), (.var 3)]) (some (.lit (.int 2))) none),
   .ret (.bin .sub (.bin .mul (.var 4) (.var 5)) (.lit (.int 2)))]⟩
/-- flipped_in(equation, solution, place); slots 0 equation, 1 solution, 2 place, 3 beside, 4 goal -/
def flipped_in (f_product_of : Nat) (c_BELOW_NUMBER : Nat) (x_TooMany : Nat) : FD := ⟨3, 5,
  [.set 3 (.call f_product_of [(.bin .add (.sl (.var 1) none (some (.var 2))) (.sl (.var 1) (some (.bin .add (.var 2) (.lit (.int 1)))) none))]),
   .set 4 (.bin .sub (.bin .mul (.bin .fdiv (.ix (.var 0) (.lit (.int 1))) (.ix (.ix (.var 0) (.lit (.int 0))) (.var 2))) (.var 3)) (.ix (.var 1) (.var 2))),
   .if_ (.cmp .ge (.var 4) (.glob c_BELOW_NUMBER))
    [.raise x_TooMany]
    [],
   .ret (.bin .add (.bin .add (.sl (.var 1) none (some (.var 2))) (.tup [(.var 4)])) (.sl (.var 1) (some (.bin .add (.var 2) (.lit (.int 1)))) none))]⟩
/-- lowering_in(equation, solution); slots 0 equation, 1 solution, 2 rows, 3 whole, 4 place, 5 own -/
def lowering_in (f_shares_in : Nat) : FD := ⟨2, 6,
  [.set 2 (.call f_shares_in [(.var 0), (.var 1)]),
   .set 3 (.bi .sum [(.var 2)]),
   .for_ (.t [(.n 4), (.n 5)]) (.enum (.var 2))
    [.if_ (.cmp .gt (.bin .add (.var 5) (.var 5)) (.var 3))
    [.ret (.var 4)]
    []],
   .ret (.lit .none)]⟩
/-- idle_in(equation, solution); slots 0 equation, 1 solution, 2 rows, 3 whole, 4 place, 5 own -/
def idle_in (f_shares_in : Nat) : FD := ⟨2, 6,
  [.set 2 (.call f_shares_in [(.var 0), (.var 1)]),
   .set 3 (.bi .sum [(.var 2)]),
   .for_ (.t [(.n 4), (.n 5)]) (.enum (.var 2))
    [.if_ (.cmp .eq (.bin .add (.var 5) (.var 5)) (.var 3))
    [.ret (.var 4)]
    []],
   .ret (.lit .none)]⟩
/-- way_down(equation, solution); slots 0 equation, 1 solution, 2 place, 3 found, 4 here -/
def way_down (f_lowering_in : Nat) (f_flipped_in : Nat) : FD := ⟨2, 5,
  [.mul [3, 4] [(true, (.lst [])), (false, (.var 1))],
   .set 2 (.call f_lowering_in [(.var 0), (.var 4)]),
   .while_ (.isN true (.var 2))
    [.app 3 (.var 2),
     .set 4 (.call f_flipped_in [(.var 0), (.var 4), (.var 2)]),
     .set 2 (.call f_lowering_in [(.var 0), (.var 4)])],
   .ret (.tup [(.bi .tup [(.ovar 3)]), (.var 4)])]⟩
/-- walked_in(equation, solution, word); slots 0 equation, 1 solution, 2 word, 3 here, 4 place -/
def walked_in (f_flipped_in : Nat) : FD := ⟨3, 5,
  [.set 3 (.var 1),
   .for_ (.n 4) (.seq (.var 2))
    [.set 3 (.call f_flipped_in [(.var 0), (.var 3), (.var 4)])],
   .ret (.var 3)]⟩
/-- flip(equation, solution, place); slots 0 equation, 1 solution, 2 place, 3 own, 4 row -/
def flip (f_sure_equation : Nat) (f_sure_solution : Nat) (f_flipped_in : Nat) (f_sure_place : Nat) : FD := ⟨3, 5,
  [.set 3 (.call f_sure_equation [(.var 0)]),
   .set 4 (.call f_sure_solution [(.var 3), (.var 1)]),
   .ret (.call f_flipped_in [(.var 3), (.var 4), (.call f_sure_place [(.var 3), (.var 2)])])]⟩
/-- down(equation, solution); slots 0 equation, 1 solution, 2 own -/
def down (f_sure_equation : Nat) (f_way_down : Nat) (f_sure_solution : Nat) : FD := ⟨2, 3,
  [.set 2 (.call f_sure_equation [(.var 0)]),
   .ret (.ix (.call f_way_down [(.var 2), (.call f_sure_solution [(.var 2), (.var 1)])]) (.lit (.int 0)))]⟩
/-- height(equation, solution); slots 0 equation, 1 solution -/
def height (f_down : Nat) : FD := ⟨2, 2,
  [.ret (.bi .len [(.call f_down [(.var 0), (.var 1)])])]⟩
/-- is_cut(word); slots 0 word, 1 one, 2 other -/
def is_cut : FD := ⟨1, 3,
  [.ret (.bi .all [(.lc [1, 2] (.t [(.n 1), (.n 2)]) (.zip (.var 0) (.sl (.var 0) (some (.lit (.int 1))) none)) none (.cmp .ne (.var 1) (.var 2)))])]⟩
/-- is_address_in(equation, thing); slots 0 equation, 1 thing -/
def is_address_in (f_is_long : Nat) (f_is_solution_in : Nat) (f_is_word_in : Nat) (f_lowering_in : Nat) (f_is_cut : Nat) (f_idle_in : Nat) : FD := ⟨2, 2,
  [.if_ (.or (.not (.call f_is_long [(.var 1), (.lit (.int 2))])) (.or (.not (.call f_is_solution_in [(.var 0), (.ix (.var 1) (.lit (.int 0)))])) (.not (.call f_is_word_in [(.bi .len [(.ix (.var 0) (.lit (.int 0)))]), (.ix (.var 1) (.lit (.int 1)))]))))
    [.ret (.lit (.bool false))]
    [],
   .if_ (.or (.isN true (.call f_lowering_in [(.var 0), (.ix (.var 1) (.lit (.int 0)))])) (.not (.call f_is_cut [(.ix (.var 1) (.lit (.int 1)))])))
    [.ret (.lit (.bool false))]
    [],
   .ret (.or (.cmp .eq (.ix (.var 1) (.lit (.int 1))) (.tup [])) (.cmp .ne (.ix (.ix (.var 1) (.lit (.int 1))) (.lit (.int 0))) (.call f_idle_in [(.var 0), (.ix (.var 1) (.lit (.int 0)))])))]⟩
/-- sure_address(equation, value); slots 0 equation, 1 value, 2 own -/
def sure_address (f_tupled : Nat) (f_is_address_in : Nat) (x_Unfit : Nat) : FD := ⟨2, 3,
  [.set 2 (.call f_tupled [(.var 1)]),
   .if_ (.not (.call f_is_address_in [(.var 0), (.var 2)]))
    [.raise x_Unfit]
    [],
   .ret (.var 2)]⟩
/-- solution_at(equation, address); slots 0 equation, 1 address, 2 own, 3 root, 4 word -/
def solution_at (f_sure_equation : Nat) (f_sure_address : Nat) (f_walked_in : Nat) : FD := ⟨2, 5,
  [.set 2 (.call f_sure_equation [(.var 0)]),
   .asg (.t [(.n 3), (.n 4)]) (.call f_sure_address [(.var 2), (.var 1)]),
   .ret (.call f_walked_in [(.var 2), (.var 3), (.var 4)])]⟩
/-- _law_box(script, k); slots 0 script, 1 k, 2 bit_so -/
def law_box : FD := ⟨2, 3,
  [.set 2 (.ite (.cmp .lt (.var 1) (.bi .len [(.var 0)])) (.ix (.var 0) (.var 1)) (.lit (.int 0))),
   .retO (.lst [(.bin .mul (.bi .abs [(.var 2)]) (.bi .int [(.cmp .ge (.bi .abs [(.var 2)]) (.bin .pow (.lit (.int 10)) (.lit (.int 18))))])), (.bin .add (.bin .add (.bin .mod (.bi .int [(.var 2)]) (.lit (.int 2305843009213693951))) (.bin .mul (.lit (.int 39373)) (.var 1))) (.lit (.int 251520))), (.lit (.int 0))])]⟩
/-- _law_take(tin, below_so); slots 0 tin, 1 below_so, 2 once_so, 3 wide_so, 4 twice_so, 5 drawn_so -/
def law_take : FD := ⟨2, 6,
  [.if_ (.cmp .gt (.ix (.ovar 0) (.lit (.int 0))) (.lit (.int 0)))
    [.set 5 (.bin .mod (.bi .int [(.ix (.ovar 0) (.lit (.int 0)))]) (.var 1)), .put 0 (.lit (.int 0)) (.bin .fdiv (.ix (.ovar 0) (.lit (.int 0))) (.var 1)), .ret (.var 5)]
    [],
   .put 0 (.lit (.int 2)) (.bin .add (.ix (.ovar 0) (.lit (.int 2))) (.lit (.int 1))),
   .set 2 (.bin .mod (.bi .int [(.bin .mul (.bin .add (.ix (.ovar 0) (.lit (.int 1))) (.bin .mul (.lit (.int 48271)) (.ix (.ovar 0) (.lit (.int 2))))) (.bin .add (.lit (.int 39373)) (.ix (.ovar 0) (.lit (.int 2)))))]) (.lit (.int 2147483647))),
   .set 3 (.bin .add (.bin .mod (.bi .int [(.var 2)]) (.lit (.int 40009))) (.lit (.int 7))),
   .set 4 (.bin .mod (.bi .int [(.bin .mul (.bin .add (.bin .add (.var 2) (.ix (.ovar 0) (.lit (.int 2)))) (.bin .fdiv (.ix (.ovar 0) (.lit (.int 1))) (.lit (.int 1000003)))) (.var 3))]) (.lit (.int 2147483629))),
   .ret (.bin .mod (.bi .int [(.bin .fdiv (.bin .mod (.bi .int [(.bin .add (.bin .mul (.var 4) (.lit (.int 48271))) (.var 2))]) (.lit (.int 2147483587))) (.lit (.int 64)))]) (.var 1))]⟩
/-- _law_cells(script, most_so); slots 0 script, 1 most_so, 2 cells_so, 3 k, 4 bit_so, 5 at_so -/
def law_cells : FD := ⟨2, 6,
  [.own 2 (.or (.bi .lst [(.sl (.var 0) none (some (.var 1)))]) (.lst [(.lit (.int 0))])),
   .for_ (.t [(.n 3), (.n 4)]) (.enum (.sl (.var 0) (some (.var 1)) (some (.lit (.int 63)))))
    [.set 5 (.bin .mod (.bi .int [(.var 3)]) (.var 1)),
     .put 2 (.var 5) (.bin .add (.ix (.ovar 2) (.var 5)) (.bin .mul (.var 4) (.bin .add (.var 3) (.lit (.int 2)))))],
   .frz 2,
   .ret (.var 2)]⟩
/-- _law_of(tin, goods_so); slots 0 tin, 1 goods_so -/
def law_of (f__law_take : Nat) : FD := ⟨2, 2,
  [.ret (.ix (.var 1) (.call f__law_take [(.ovar 0), (.bi .len [(.var 1)])]))]⟩
/-- _law_pick(tin, goods_so, count_so); slots 0 tin, 1 goods_so, 2 count_so, 3 lap, 4 pool_so, 5 found -/
def law_pick (f__law_take : Nat) : FD := ⟨3, 6,
  [.mul [4, 5] [(true, (.bi .lst [(.var 1)])), (true, (.lst []))],
   .for_ (.n 3) (.rng1 (.bi .min2 [(.bi .int [(.var 2)]), (.bi .len [(.ovar 4)])]))
    [.app 5 (.popAt 4 (.call f__law_take [(.ovar 0), (.bi .len [(.ovar 4)])]))],
   .frz 5,
   .ret (.var 5)]⟩
/-- _law_same(got, due); slots 0 got, 1 due, 2 mine, 3 its -/
def law_same (f__law_same : Nat) : FD := ⟨2, 4,
  [.if_ (.bi .isiTL [(.var 1)])
    [.if_ (.or (.cmp .ne (.bi (.isi "list") [(.var 0)]) (.bi (.isi "list") [(.var 1)])) (.cmp .ne (.bi (.isi "tuple") [(.var 0)]) (.bi (.isi "tuple") [(.var 1)])))
    [.ret (.lit (.bool false))]
    [], .ret (.and (.cmp .eq (.bi .len [(.var 0)]) (.bi .len [(.var 1)])) (.bi .all [(.lc [2, 3] (.t [(.n 2), (.n 3)]) (.zip (.var 0) (.var 1)) none (.call f__law_same [(.var 2), (.var 3)]))]))]
    [],
   .if_ (.isN false (.var 1))
    [.ret (.isN false (.var 0))]
    [],
   .if_ (.bi .isiBS [(.var 1)])
    [.ret (.and (.cmp .eq (.bi (.isi "bool") [(.var 0)]) (.bi (.isi "bool") [(.var 1)])) (.and (.cmp .eq (.bi (.isi "str") [(.var 0)]) (.bi (.isi "str") [(.var 1)])) (.cmp .eq (.var 0) (.var 1))))]
    [],
   .ret (.and (.bi (.isi "int") [(.var 0)]) (.and (.not (.bi (.isi "bool") [(.var 0)])) (.cmp .eq (.var 0) (.var 1))))]⟩
/-- _law_prod(numbers_so); slots 0 numbers_so, 1 found, 2 own -/
def law_prod : FD := ⟨1, 3,
  [.set 1 (.lit (.int 1)),
   .for_ (.n 2) (.seq (.var 0))
    [.set 1 (.bin .mul (.var 1) (.var 2))],
   .ret (.var 1)]⟩
/-- _law_shares(told_so, numbers_so); slots 0 told_so, 1 numbers_so, 2 a, 3 x -/
def law_shares : FD := ⟨2, 4,
  [.ret (.lc [2, 3] (.t [(.n 2), (.n 3)]) (.zip (.ix (.var 0) (.lit (.int 0))) (.var 1)) none (.bin .mul (.bin .mul (.var 2) (.var 3)) (.var 3)))]⟩
/-- _law_flip(told_so, numbers_so, place_so); slots 0 told_so, 1 numbers_so, 2 place_so, 3 beside_so -/
def law_flip (f__law_prod : Nat) : FD := ⟨3, 4,
  [.set 3 (.call f__law_prod [(.bin .add (.sl (.var 1) none (some (.var 2))) (.sl (.var 1) (some (.bin .add (.var 2) (.lit (.int 1)))) none))]),
   .ret (.bin .add (.bin .add (.sl (.var 1) none (some (.var 2))) (.tup [(.bin .sub (.bin .mul (.bin .fdiv (.ix (.var 0) (.lit (.int 1))) (.ix (.ix (.var 0) (.lit (.int 0))) (.var 2))) (.var 3)) (.ix (.var 1) (.var 2)))])) (.sl (.var 1) (some (.bin .add (.var 2) (.lit (.int 1)))) none))]⟩
/-- _law_idle(told_so, numbers_so); slots 0 told_so, 1 numbers_so, 2 k -/
def law_idle (f__law_flip : Nat) : FD := ⟨2, 3,
  [.for_ (.n 2) (.rng1 (.bi .len [(.var 1)]))
    [.if_ (.cmp .eq (.ix (.call f__law_flip [(.var 0), (.var 1), (.var 2)]) (.var 2)) (.ix (.var 1) (.var 2)))
    [.ret (.var 2)]
    []],
   .ret (.bin .sub (.lit (.int 0)) (.lit (.int 1)))]⟩
/-- _law_known(); slots 0 found -/
def law_known : FD := ⟨0, 1,
  [.set 0 (.lst [(.tup [(.tup [(.lit (.int 1)), (.lit (.int 1)), (.lit (.int 1))]), (.lit (.int 3)), (.tup [(.lit (.int 1)), (.lit (.int 1)), (.lit (.int 1))])]), (.tup [(.tup [(.lit (.int 1)), (.lit (.int 1)), (.lit (.int 1))]), (.lit (.int 1)), (.tup [(.lit (.int 3)), (.lit (.int 3)), (.lit (.int 3))])]), (.tup [(.tup [(.lit (.int 1)), (.lit (.int 1)), (.lit (.int 2))]), (.lit (.int 4)), (.tup [(.lit (.int 1)), (.lit (.int 1)), (.lit (.int 1))])]), (.tup [(.tup [(.lit (.int 1)), (.lit (.int 1)), (.lit (.int 5))]), (.lit (.int 5)), (.tup [(.lit (.int 1)), (.lit (.int 2)), (.lit (.int 1))])]), (.tup [(.tup [(.lit (.int 1)), (.lit (.int 2)), (.lit (.int 3))]), (.lit (.int 6)), (.tup [(.lit (.int 1)), (.lit (.int 1)), (.lit (.int 1))])])]),
   .set 0 (.bin .add (.var 0) (.lst [(.tup [(.tup [(.lit (.int 1)), (.lit (.int 2)), (.lit (.int 2))]), (.lit (.int 2)), (.tup [(.lit (.int 4)), (.lit (.int 2)), (.lit (.int 2))])]), (.tup [(.tup [(.lit (.int 2)), (.lit (.int 3)), (.lit (.int 6))]), (.lit (.int 6)), (.tup [(.lit (.int 3)), (.lit (.int 2)), (.lit (.int 1))])]), (.tup [(.tup [(.lit (.int 1)), (.lit (.int 5)), (.lit (.int 5))]), (.lit (.int 5)), (.tup [(.lit (.int 5)), (.lit (.int 1)), (.lit (.int 2))])]), (.tup [(.tup [(.lit (.int 1)), (.lit (.int 9)), (.lit (.int 9))]), (.lit (.int 9)), (.tup [(.lit (.int 3)), (.lit (.int 1)), (.lit (.int 1))])]), (.tup [(.tup [(.lit (.int 12)), (.lit (.int 12)), (.lit (.int 12))]), (.lit (.int 36)), (.tup [(.lit (.int 1)), (.lit (.int 1)), (.lit (.int 1))])])])),
   .set 0 (.bin .add (.var 0) (.lst [(.tup [(.tup [(.lit (.int 1)), (.lit (.int 1)), (.lit (.int 1)), (.lit (.int 1))]), (.lit (.int 4)), (.tup [(.lit (.int 1)), (.lit (.int 1)), (.lit (.int 1)), (.lit (.int 1))])]), (.tup [(.tup [(.lit (.int 1)), (.lit (.int 1)), (.lit (.int 1)), (.lit (.int 1))]), (.lit (.int 1)), (.tup [(.lit (.int 2)), (.lit (.int 2)), (.lit (.int 2)), (.lit (.int 2))])]), (.tup [(.tup [(.lit (.int 1)), (.lit (.int 1)), (.lit (.int 1)), (.lit (.int 2))]), (.lit (.int 4)), (.tup [(.lit (.int 1)), (.lit (.int 1)), (.lit (.int 2)), (.lit (.int 1))])]), (.tup [(.tup [(.lit (.int 1)), (.lit (.int 1)), (.lit (.int 1)), (.lit (.int 3))]), (.lit (.int 3)), (.tup [(.lit (.int 1)), (.lit (.int 2)), (.lit (.int 2)), (.lit (.int 1))])])])),
   .set 0 (.bin .add (.var 0) (.lst [(.tup [(.tup [(.lit (.int 1)), (.lit (.int 1)), (.lit (.int 2)), (.lit (.int 2))]), (.lit (.int 2)), (.tup [(.lit (.int 1)), (.lit (.int 3)), (.lit (.int 2)), (.lit (.int 3))])]), (.tup [(.tup [(.lit (.int 1)), (.lit (.int 2)), (.lit (.int 6)), (.lit (.int 6))]), (.lit (.int 6)), (.tup [(.lit (.int 2)), (.lit (.int 2)), (.lit (.int 1)), (.lit (.int 1))])]), (.tup [(.tup [(.lit (.int 3)), (.lit (.int 4)), (.lit (.int 12)), (.lit (.int 12))]), (.lit (.int 12)), (.tup [(.lit (.int 2)), (.lit (.int 3)), (.lit (.int 1)), (.lit (.int 1))])]), (.tup [(.tup [(.lit (.int 2)), (.lit (.int 2)), (.lit (.int 5)), (.lit (.int 10))]), (.lit (.int 10)), (.tup [(.lit (.int 1)), (.lit (.int 2)), (.lit (.int 2)), (.lit (.int 1))])])])),
   .set 0 (.bin .add (.var 0) (.lst [(.tup [(.tup [(.lit (.int 1)), (.lit (.int 1)), (.lit (.int 1)), (.lit (.int 1)), (.lit (.int 1))]), (.lit (.int 1)), (.tup [(.lit (.int 1)), (.lit (.int 1)), (.lit (.int 3)), (.lit (.int 3)), (.lit (.int 4))])]), (.tup [(.tup [(.lit (.int 1)), (.lit (.int 1)), (.lit (.int 1)), (.lit (.int 1)), (.lit (.int 1))]), (.lit (.int 4)), (.tup [(.lit (.int 1)), (.lit (.int 1)), (.lit (.int 1)), (.lit (.int 1)), (.lit (.int 2))])]), (.tup [(.tup [(.lit (.int 1)), (.lit (.int 1)), (.lit (.int 2)), (.lit (.int 2)), (.lit (.int 2))]), (.lit (.int 2)), (.tup [(.lit (.int 2)), (.lit (.int 4)), (.lit (.int 1)), (.lit (.int 1)), (.lit (.int 2))])]), (.tup [(.tup [(.lit (.int 1)), (.lit (.int 1)), (.lit (.int 5)), (.lit (.int 5)), (.lit (.int 5))]), (.lit (.int 5)), (.tup [(.lit (.int 1)), (.lit (.int 7)), (.lit (.int 1)), (.lit (.int 1)), (.lit (.int 3))])])])),
   .set 0 (.bin .add (.var 0) (.lst [(.tup [(.tup [(.lit (.int 1)), (.lit (.int 1)), (.lit (.int 1)), (.lit (.int 1)), (.lit (.int 1)), (.lit (.int 1))]), (.lit (.int 3)), (.tup [(.lit (.int 1)), (.lit (.int 1)), (.lit (.int 1)), (.lit (.int 1)), (.lit (.int 2)), (.lit (.int 2))])]), (.tup [(.tup [(.lit (.int 1)), (.lit (.int 1)), (.lit (.int 1)), (.lit (.int 1)), (.lit (.int 1)), (.lit (.int 1))]), (.lit (.int 6)), (.tup [(.lit (.int 1)), (.lit (.int 1)), (.lit (.int 1)), (.lit (.int 1)), (.lit (.int 1)), (.lit (.int 1))])]), (.tup [(.tup [(.lit (.int 1)), (.lit (.int 1)), (.lit (.int 1)), (.lit (.int 1)), (.lit (.int 2)), (.lit (.int 2))]), (.lit (.int 2)), (.tup [(.lit (.int 1)), (.lit (.int 1)), (.lit (.int 2)), (.lit (.int 4)), (.lit (.int 1)), (.lit (.int 2))])])])),
   .ret (.bin .add (.var 0) (.lst [(.tup [(.tup [(.lit (.int 2)), (.lit (.int 2)), (.lit (.int 2)), (.lit (.int 3)), (.lit (.int 3)), (.lit (.int 3))]), (.lit (.int 12)), (.tup [(.lit (.int 1)), (.lit (.int 1)), (.lit (.int 1)), (.lit (.int 1)), (.lit (.int 1)), (.lit (.int 2))])]), (.tup [(.tup [(.lit (.int 1)), (.lit (.int 2)), (.lit (.int 2)), (.lit (.int 3)), (.lit (.int 3)), (.lit (.int 3))]), (.lit (.int 6)), (.tup [(.lit (.int 1)), (.lit (.int 1)), (.lit (.int 3)), (.lit (.int 1)), (.lit (.int 1)), (.lit (.int 3))])])]))]⟩
/-- _law_mixed(tin, row_so); slots 0 tin, 1 row_so, 2 order_so, 3 k -/
def law_mixed (f__law_pick : Nat) : FD := ⟨2, 4,
  [.set 2 (.call f__law_pick [(.ovar 0), (.bi .rngL [(.bi .len [(.ix (.var 1) (.lit (.int 0)))])]), (.bi .len [(.ix (.var 1) (.lit (.int 0)))])]),
   .ret (.tup [(.tup [(.bi .tup [(.lc [3] (.n 3) (.seq (.var 2)) none (.ix (.ix (.var 1) (.lit (.int 0))) (.var 3)))]), (.ix (.var 1) (.lit (.int 1)))]), (.bi .tup [(.lc [3] (.n 3) (.seq (.var 2)) none (.ix (.ix (.var 1) (.lit (.int 2))) (.var 3)))])])]⟩
/-- _law_drawn(tin, long_so); slots 0 tin, 1 long_so, 2 own -/
def law_drawn (f__law_mixed : Nat) (f__law_of : Nat) (f__law_known : Nat) : FD := ⟨2, 3,
  [.ret (.call f__law_mixed [(.ovar 0), (.call f__law_of [(.ovar 0), (.lc [2] (.n 2) (.seq (.call f__law_known [])) (some (.cmp .le (.bi .len [(.ix (.var 2) (.lit (.int 0)))]) (.var 1))) (.var 2))])])]⟩
/-- _law_up(tin, told_so, root_so, tall_so); slots 0 tin, 1 told_so, 2 root_so, 3 tall_so, 4 idle_so, 5 lap, 6 word_so, 7 here, 8 goods_so, 9 k -/
def law_up (f__law_idle : Nat) (f__law_of : Nat) (f__law_flip : Nat) : FD := ⟨4, 10,
  [.mul [6, 7] [(false, (.tup [])), (false, (.var 2))],
   .set 4 (.call f__law_idle [(.var 1), (.var 2)]),
   .for_ (.n 5) (.rng1 (.var 3))
    [.set 8 (.lc [9] (.n 9) (.rng1 (.bi .len [(.var 2)])) (some (.and (.cmp .notin (.var 9) (.sl (.var 6) (some (.neg (.lit (.int 1)))) none)) (.or (.cmp .gt (.var 5) (.lit (.int 0))) (.cmp .ne (.var 9) (.var 4))))) (.var 9)),
     .set 6 (.bin .add (.var 6) (.tup [(.call f__law_of [(.ovar 0), (.var 8)])])),
     .set 7 (.call f__law_flip [(.var 1), (.var 7), (.ix (.var 6) (.neg (.lit (.int 1))))])],
   .ret (.tup [(.var 6), (.var 7)])]⟩
/-- _law_tall(tin, told_so); slots 0 tin, 1 told_so -/
def law_tall (f__law_take : Nat) : FD := ⟨2, 2,
  [.ret (.call f__law_take [(.ovar 0), (.ix (.lst [(.lit (.int 0)), (.lit (.int 0)), (.lit (.int 0)), (.lit (.int 9)), (.lit (.int 6)), (.lit (.int 5)), (.lit (.int 4))]) (.bi .len [(.ix (.var 1) (.lit (.int 0)))]))])]⟩
/-- sure_word(many, value); slots 0 many, 1 value, 2 own -/
def sure_word (f_tupled : Nat) (f_is_word_in : Nat) (x_Unfit : Nat) : FD := ⟨2, 3,
  [.set 2 (.call f_tupled [(.var 1)]),
   .if_ (.not (.call f_is_word_in [(.var 0), (.var 2)]))
    [.raise x_Unfit]
    [],
   .ret (.var 2)]⟩
/-- sure_modulus(value); slots 0 value -/
def sure_modulus (f_sure_within : Nat) (c_LEAST_MODULUS : Nat) (c_MOST_MODULUS : Nat) : FD := ⟨1, 1,
  [.ret (.call f_sure_within [(.var 0), (.glob c_LEAST_MODULUS), (.glob c_MOST_MODULUS)])]⟩
/-- is_rest_row_in(many, modulus, thing); slots 0 many, 1 modulus, 2 thing, 3 own -/
def is_rest_row_in (f_is_long : Nat) (f_are_numbers : Nat) : FD := ⟨3, 4,
  [.ret (.and (.call f_is_long [(.var 2), (.var 0)]) (.and (.call f_are_numbers [(.var 2)]) (.bi .all [(.lc [3] (.n 3) (.seq (.var 2)) none (.chain .le .lt (.lit (.int 0)) (.var 3) (.var 1)))])))]⟩
/-- sure_rest_row(many, modulus, value); slots 0 many, 1 modulus, 2 value, 3 own -/
def sure_rest_row (f_tupled : Nat) (f_is_rest_row_in : Nat) (x_Unfit : Nat) : FD := ⟨3, 4,
  [.set 3 (.call f_tupled [(.var 2)]),
   .if_ (.not (.call f_is_rest_row_in [(.var 0), (.var 1), (.var 3)]))
    [.raise x_Unfit]
    [],
   .ret (.var 3)]⟩
/-- rest_flipped(equation, modulus, row, place); slots 0 equation, 1 modulus, 2 row, 3 place, 4 beside, 5 goal -/
def rest_flipped (f_product_of : Nat) : FD := ⟨4, 6,
  [.set 4 (.call f_product_of [(.bin .add (.sl (.var 2) none (some (.var 3))) (.sl (.var 2) (some (.bin .add (.var 3) (.lit (.int 1)))) none))]),
   .set 5 (.bin .mod (.bin .sub (.bin .mul (.bin .fdiv (.ix (.var 0) (.lit (.int 1))) (.ix (.ix (.var 0) (.lit (.int 0))) (.var 3))) (.var 4)) (.ix (.var 2) (.var 3))) (.var 1)),
   .ret (.bin .add (.bin .add (.sl (.var 2) none (some (.var 3))) (.tup [(.var 5)])) (.sl (.var 2) (some (.bin .add (.var 3) (.lit (.int 1)))) none))]⟩
/-- rest_walked_in(equation, modulus, row, word); slots 0 equation, 1 modulus, 2 row, 3 word, 4 here, 5 place -/
def rest_walked_in (f_rest_flipped : Nat) : FD := ⟨4, 6,
  [.set 4 (.var 2),
   .for_ (.n 5) (.seq (.var 3))
    [.set 4 (.call f_rest_flipped [(.var 0), (.var 1), (.var 4), (.var 5)])],
   .ret (.var 4)]⟩
/-- rest_flip(equation, modulus, row, place); slots 0 equation, 1 modulus, 2 row, 3 place, 4 told, 5 own, 6 many -/
def rest_flip (f_sure_equation : Nat) (f_sure_modulus : Nat) (f_sure_rest_row : Nat) (f_rest_flipped : Nat) (f_sure_place : Nat) : FD := ⟨4, 7,
  [.mul [5, 6] [(false, (.call f_sure_equation [(.var 0)])), (false, (.call f_sure_modulus [(.var 1)]))],
   .set 4 (.call f_sure_rest_row [(.bi .len [(.ix (.var 5) (.lit (.int 0)))]), (.var 6), (.var 2)]),
   .ret (.call f_rest_flipped [(.var 5), (.var 6), (.var 4), (.call f_sure_place [(.var 5), (.var 3)])])]⟩
/-- rest_walked(equation, modulus, row, word); slots 0 equation, 1 modulus, 2 row, 3 word, 4 told, 5 own, 6 many -/
def rest_walked (f_sure_equation : Nat) (f_sure_modulus : Nat) (f_sure_rest_row : Nat) (f_rest_walked_in : Nat) (f_sure_word : Nat) : FD := ⟨4, 7,
  [.mul [5, 6] [(false, (.call f_sure_equation [(.var 0)])), (false, (.call f_sure_modulus [(.var 1)]))],
   .set 4 (.call f_sure_rest_row [(.bi .len [(.ix (.var 5) (.lit (.int 0)))]), (.var 6), (.var 2)]),
   .ret (.call f_rest_walked_in [(.var 5), (.var 6), (.var 4), (.call f_sure_word [(.bi .len [(.ix (.var 5) (.lit (.int 0)))]), (.var 3)])])]⟩
/-- solving_rests(equation, modulus); slots 0 equation, 1 modulus, 2 own -/
def solving_rests (f_sure_equation : Nat) (f_solving_in : Nat) (f_sure_modulus : Nat) : FD := ⟨2, 3,
  [.set 2 (.call f_sure_equation [(.var 0)]),
   .ret (.call f_solving_in [(.var 2), (.call f_sure_modulus [(.var 1)])])]⟩
/-- cut_in(word); slots 0 word, 1 found, 2 own -/
def cut_in : FD := ⟨1, 3,
  [.own 1 (.lst []),
   .for_ (.n 2) (.seq (.var 0))
    [.if_ (.and (.cmp .ne (.ovar 1) (.lst [])) (.cmp .eq (.ix (.ovar 1) (.neg (.lit (.int 1)))) (.var 2)))
    [.pop 1]
    [.app 1 (.var 2)]],
   .ret (.bi .tup [(.ovar 1)])]⟩
/-- core_in(word); slots 0 word, 1 low, 2 high -/
def core_in : FD := ⟨1, 3,
  [.mul [1, 2] [(false, (.lit (.int 0))), (false, (.bi .len [(.var 0)]))],
   .while_ (.and (.cmp .gt (.bin .sub (.var 2) (.var 1)) (.lit (.int 1))) (.cmp .eq (.ix (.var 0) (.var 1)) (.ix (.var 0) (.bin .sub (.var 2) (.lit (.int 1))))))
    [.mul [1, 2] [(false, (.bin .add (.var 1) (.lit (.int 1)))), (false, (.bin .sub (.var 2) (.lit (.int 1))))]],
   .ret (.sl (.var 0) (some (.var 1)) (some (.var 2)))]⟩
/-- cut(word); slots 0 word -/
def cut (f_cut_in : Nat) (f_sure_word : Nat) (c_MOST_PLACES : Nat) : FD := ⟨1, 1,
  [.ret (.call f_cut_in [(.call f_sure_word [(.glob c_MOST_PLACES), (.var 0)])])]⟩
/-- word_times(one, other); slots 0 one, 1 other, 2 near, 3 found -/
def word_times (f_sure_word : Nat) (c_MOST_PLACES : Nat) (f_cut_in : Nat) (c_MOST_WORD : Nat) (x_TooMany : Nat) : FD := ⟨2, 4,
  [.set 2 (.call f_sure_word [(.glob c_MOST_PLACES), (.var 0)]),
   .set 3 (.call f_cut_in [(.bin .add (.var 2) (.call f_sure_word [(.glob c_MOST_PLACES), (.var 1)]))]),
   .if_ (.cmp .gt (.bi .len [(.var 3)]) (.glob c_MOST_WORD))
    [.raise x_TooMany]
    [],
   .ret (.var 3)]⟩
/-- word_order(word); slots 0 word, 1 left -/
def word_order (f_core_in : Nat) (f_cut_in : Nat) (f_sure_word : Nat) (c_MOST_PLACES : Nat) : FD := ⟨1, 2,
  [.set 1 (.call f_core_in [(.call f_cut_in [(.call f_sure_word [(.glob c_MOST_PLACES), (.var 0)])])]),
   .ret (.ite (.cmp .lt (.bi .len [(.var 1)]) (.lit (.int 2))) (.bin .add (.bi .len [(.var 1)]) (.lit (.int 1))) (.lit (.int 0)))]⟩
/-- _law_flat(rows_so); slots 0 rows_so, 1 found, 2 own -/
def law_flat : FD := ⟨1, 3,
  [.own 1 (.lst []),
   .for_ (.n 2) (.seq (.var 0))
    [.ext 1 (.var 2)],
   .frz 1,
   .ret (.var 1)]⟩
/-- root_under(equation, solution); slots 0 equation, 1 solution, 2 own -/
def root_under (f_sure_equation : Nat) (f_way_down : Nat) (f_sure_solution : Nat) : FD := ⟨2, 3,
  [.set 2 (.call f_sure_equation [(.var 0)]),
   .ret (.ix (.call f_way_down [(.var 2), (.call f_sure_solution [(.var 2), (.var 1)])]) (.lit (.int 1)))]⟩
/-- walked(equation, solution, word); slots 0 equation, 1 solution, 2 word, 3 own, 4 row -/
def walked (f_sure_equation : Nat) (f_sure_solution : Nat) (f_walked_in : Nat) (f_sure_word : Nat) : FD := ⟨3, 5,
  [.set 3 (.call f_sure_equation [(.var 0)]),
   .set 4 (.call f_sure_solution [(.var 3), (.var 1)]),
   .ret (.call f_walked_in [(.var 3), (.var 4), (.call f_sure_word [(.bi .len [(.ix (.var 3) (.lit (.int 0)))]), (.var 2)])])]⟩
/-- address_of(equation, solution); slots 0 equation, 1 solution, 2 own -/
def address_of (f_sure_equation : Nat) (f_address_in : Nat) (f_sure_solution : Nat) : FD := ⟨2, 3,
  [.set 2 (.call f_sure_equation [(.var 0)]),
   .ret (.call f_address_in [(.var 2), (.call f_sure_solution [(.var 2), (.var 1)])])]⟩
/-- way(equation, solution, goal); slots 0 equation, 1 solution, 2 goal, 3 own, 4 row, 5 found -/
def way (f_sure_equation : Nat) (f_sure_solution : Nat) (f_way_in : Nat) (x_CanNot : Nat) : FD := ⟨3, 6,
  [.set 3 (.call f_sure_equation [(.var 0)]),
   .set 4 (.call f_sure_solution [(.var 3), (.var 1)]),
   .set 5 (.call f_way_in [(.var 3), (.var 4), (.call f_sure_solution [(.var 3), (.var 2)])]),
   .if_ (.isN false (.var 5))
    [.raise x_CanNot]
    [],
   .ret (.var 5)]⟩
/-- distance(equation, solution, goal); slots 0 equation, 1 solution, 2 goal -/
def distance (f_way : Nat) : FD := ⟨3, 3,
  [.ret (.bi .len [(.call f_way [(.var 0), (.var 1), (.var 2)])])]⟩
/-- _law_walk(told_so, numbers_so, word_so); slots 0 told_so, 1 numbers_so, 2 word_so, 3 here, 4 k -/
def law_walk (f__law_flip : Nat) : FD := ⟨3, 5,
  [.set 3 (.var 1),
   .for_ (.n 4) (.seq (.var 2))
    [.set 3 (.call f__law_flip [(.var 0), (.var 3), (.var 4)])],
   .ret (.var 3)]⟩
/-- _law_cut(word_so); slots 0 word_so, 1 found, 2 own -/
def law_cut : FD := ⟨1, 3,
  [.set 1 (.tup []),
   .for_ (.n 2) (.seq (.var 0))
    [.set 1 (.ite (.cmp .eq (.sl (.var 1) (some (.neg (.lit (.int 1)))) none) (.tup [(.var 2)])) (.sl (.var 1) none (some (.neg (.lit (.int 1))))) (.bin .add (.var 1) (.tup [(.var 2)])))],
   .ret (.var 1)]⟩
/-- sure_modulus(value); slots 0 value -/
def sure_modulus_2 (f_sure_within : Nat) (c_LEAST_MODULUS : Nat) (c_MOST_MODULUS_rests : Nat) : FD := ⟨1, 1,
  [.ret (.call f_sure_within [(.var 0), (.glob c_LEAST_MODULUS), (.glob c_MOST_MODULUS_rests)])]⟩
/-- rests_in(numbers, modulus); slots 0 numbers, 1 modulus, 2 own -/
def rests_in : FD := ⟨2, 3,
  [.ret (.bi .tup [(.lc [2] (.n 2) (.seq (.var 0)) none (.bin .mod (.var 2) (.var 1)))])]⟩
/-- rest_row(equation, solution, modulus); slots 0 equation, 1 solution, 2 modulus, 3 own, 4 row -/
def rest_row (f_sure_equation : Nat) (f_sure_solution : Nat) (f_rests_in : Nat) (f_sure_modulus : Nat) : FD := ⟨3, 5,
  [.set 3 (.call f_sure_equation [(.var 0)]),
   .set 4 (.call f_sure_solution [(.var 3), (.var 1)]),
   .ret (.call f_rests_in [(.var 4), (.call f_sure_modulus [(.var 2)])])]⟩
/-- word_round(equation, solution, word, modulus); slots 0 equation, 1 solution, 2 word, 3 modulus, 4 own, 5 row, 6 told, 7 many, 8 first, 9 here, 10 often -/
def word_round (f_sure_equation : Nat) (f_sure_solution : Nat) (f_sure_word : Nat) (f_sure_modulus : Nat) (f_rests_in : Nat) (f_rest_walked_in : Nat) (c_MOST_LAPS : Nat) (x_TooMany : Nat) : FD := ⟨4, 11,
  [.set 4 (.call f_sure_equation [(.var 0)]),
   .set 5 (.call f_sure_solution [(.var 4), (.var 1)]),
   .set 6 (.call f_sure_word [(.bi .len [(.ix (.var 4) (.lit (.int 0)))]), (.var 2)]),
   .set 7 (.call f_sure_modulus [(.var 3)]),
   .set 8 (.call f_rests_in [(.var 5), (.var 7)]),
   .mul [9, 10] [(false, (.call f_rest_walked_in [(.var 4), (.var 7), (.var 8), (.var 6)])), (false, (.lit (.int 1)))],
   .while_ (.cmp .ne (.var 9) (.var 8))
    [.if_ (.cmp .eq (.var 10) (.glob c_MOST_LAPS))
    [.raise x_TooMany]
    [],
     .mul [9, 10] [(false, (.call f_rest_walked_in [(.var 4), (.var 7), (.var 9), (.var 6)])), (false, (.bin .add (.var 10) (.lit (.int 1))))]],
   .ret (.var 10)]⟩
/-- table_of(near, far); slots 0 near, 1 far -/
def table_of : FD := ⟨2, 2,
  [.ret (.tup [(.tup [(.neg (.lit (.int 1))), (.var 0)]), (.tup [(.neg (.var 1)), (.bin .sub (.bin .mul (.var 0) (.var 1)) (.lit (.int 1)))])])]⟩
/-- table_times(one, other, modulus); slots 0 one, 1 other, 2 modulus, 3 rows, 4 row, 5 k -/
def table_times : FD := ⟨3, 6,
  [.own 3 (.lst []),
   .for_ (.n 4) (.seq (.var 0))
    [.app 3 (.bi .tup [(.lc [5] (.n 5) (.rng1 (.lit (.int 2))) none (.bin .mod (.bin .add (.bin .mul (.ix (.var 4) (.lit (.int 0))) (.ix (.ix (.var 1) (.lit (.int 0))) (.var 5))) (.bin .mul (.ix (.var 4) (.lit (.int 1))) (.ix (.ix (.var 1) (.lit (.int 1))) (.var 5)))) (.var 2)))])],
   .ret (.bi .tup [(.ovar 3)])]⟩
/-- table_power(table, often, modulus); slots 0 table, 1 often, 2 modulus, 3 found, 4 here, 5 left -/
def table_power (f_table_times : Nat) : FD := ⟨3, 6,
  [.mul [3, 4, 5] [(false, (.tup [(.tup [(.bin .mod (.lit (.int 1)) (.var 2)), (.lit (.int 0))]), (.tup [(.lit (.int 0)), (.bin .mod (.lit (.int 1)) (.var 2))])])), (false, (.call f_table_times [(.tup [(.tup [(.lit (.int 1)), (.lit (.int 0))]), (.tup [(.lit (.int 0)), (.lit (.int 1))])]), (.var 0), (.var 2)])), (false, (.var 1))],
   .while_ (.cmp .gt (.var 5) (.lit (.int 0)))
    [.if_ (.cmp .eq (.bin .mod (.var 5) (.lit (.int 2))) (.lit (.int 1)))
    [.set 3 (.call f_table_times [(.var 3), (.var 4), (.var 2)])]
    [],
     .mul [4, 5] [(false, (.call f_table_times [(.var 4), (.var 4), (.var 2)])), (false, (.bin .fdiv (.var 5) (.lit (.int 2))))]],
   .ret (.var 3)]⟩
/-- road_rest(equation, solution, one, other, often, modulus); slots 0 equation, 1 solution, 2 one, 3 other, 4 often, 5 modulus, 6 times, 7 under, 8 table, 9 first, 10 second, 11 near, 12 far, 13 row -/
def road_rest (f_sure_road : Nat) (f_sure_within : Nat) (c_MOST_OFTEN : Nat) (c_MOST_MODULUS_roads : Nat) (f_table_power : Nat) (f_table_of : Nat) : FD := ⟨6, 14,
  [.asg (.t [(.n 9), (.n 10), (.n 11), (.n 12)]) (.call f_sure_road [(.var 0), (.var 1), (.var 2), (.var 3)]),
   .set 6 (.call f_sure_within [(.var 4), (.lit (.int 0)), (.glob c_MOST_OFTEN)]),
   .set 7 (.call f_sure_within [(.var 5), (.lit (.int 2)), (.glob c_MOST_MODULUS_roads)]),
   .set 8 (.call f_table_power [(.call f_table_of [(.var 11), (.var 12)]), (.var 6), (.var 7)]),
   .ret (.bi .tup [(.lc [13] (.n 13) (.seq (.var 8)) none (.bin .mod (.bin .add (.bin .mul (.ix (.var 13) (.lit (.int 0))) (.var 9)) (.bin .mul (.ix (.var 13) (.lit (.int 1))) (.var 10))) (.var 7)))])]⟩
/-- road_round(equation, solution, one, other, modulus); slots 0 equation, 1 solution, 2 one, 3 other, 4 modulus, 5 under, 6 begin, 7 here, 8 first, 9 second, 10 near, 11 far, 12 table, 13 found, 14 row -/
def road_round (f_sure_road : Nat) (f_sure_within : Nat) (c_MOST_MODULUS_roads : Nat) (f_table_of : Nat) : FD := ⟨5, 15,
  [.asg (.t [(.n 8), (.n 9), (.n 10), (.n 11)]) (.call f_sure_road [(.var 0), (.var 1), (.var 2), (.var 3)]),
   .set 5 (.call f_sure_within [(.var 4), (.lit (.int 2)), (.glob c_MOST_MODULUS_roads)]),
   .mul [12, 13] [(false, (.call f_table_of [(.var 10), (.var 11)])), (false, (.lit (.int 1)))],
   .set 6 (.tup [(.bin .mod (.var 8) (.var 5)), (.bin .mod (.var 9) (.var 5))]),
   .set 7 (.bi .tup [(.lc [14] (.n 14) (.seq (.var 12)) none (.bin .mod (.bin .add (.bin .mul (.ix (.var 14) (.lit (.int 0))) (.ix (.var 6) (.lit (.int 0)))) (.bin .mul (.ix (.var 14) (.lit (.int 1))) (.ix (.var 6) (.lit (.int 1))))) (.var 5)))]),
   .while_ (.cmp .ne (.var 7) (.var 6))
    [.set 7 (.bi .tup [(.lc [14] (.n 14) (.seq (.var 12)) none (.bin .mod (.bin .add (.bin .mul (.ix (.var 14) (.lit (.int 0))) (.ix (.var 7) (.lit (.int 0)))) (.bin .mul (.ix (.var 14) (.lit (.int 1))) (.ix (.var 7) (.lit (.int 1))))) (.var 5)))]),
     .set 13 (.bin .add (.var 13) (.lit (.int 1)))],
   .ret (.var 13)]⟩
/-- _law_common(one_so, two); slots 0 one_so, 1 two, 2 near, 3 far -/
def law_common : FD := ⟨2, 4,
  [.mul [2, 3] [(false, (.bi .abs [(.var 0)])), (false, (.bi .abs [(.var 1)]))],
   .while_ (.cmp .ne (.var 3) (.lit (.int 0)))
    [.mul [2, 3] [(false, (.var 3)), (false, (.bin .mod (.var 2) (.var 3)))]],
   .ret (.var 2)]⟩
/-- ascends(row); slots 0 row, 1 one, 2 other -/
def ascends : FD := ⟨1, 3,
  [.ret (.bi .all [(.lc [1, 2] (.t [(.n 1), (.n 2)]) (.zip (.var 0) (.sl (.var 0) (some (.lit (.int 1))) none)) none (.cmp .lt (.var 1) (.var 2)))])]⟩
/-- plain(many, factor); slots 0 many, 1 factor, 2 long -/
def plain (f_sure_within : Nat) (c_LEAST_PLACES : Nat) (c_MOST_PLACES : Nat) (c_MOST_FACTOR : Nat) : FD := ⟨2, 3,
  [.set 2 (.call f_sure_within [(.var 0), (.glob c_LEAST_PLACES), (.glob c_MOST_PLACES)]),
   .ret (.tup [(.bin .mul (.tup [(.lit (.int 1))]) (.var 2)), (.call f_sure_within [(.var 1), (.lit (.int 1)), (.glob c_MOST_FACTOR)])])]⟩
/-- is_rest_book_in(equation, modulus, row, thing); slots 0 equation, 1 modulus, 2 row, 3 thing, 4 own -/
def is_rest_book_in (c_MOST_ROWS : Nat) (f_is_rest_row_in : Nat) (f_ascends : Nat) (f_is_closed : Nat) : FD := ⟨4, 5,
  [.if_ (.or (.not (.bi (.isi "tuple") [(.var 3)])) (.or (.cmp .gt (.bi .len [(.var 3)]) (.glob c_MOST_ROWS)) (.cmp .notin (.var 2) (.var 3))))
    [.ret (.lit (.bool false))]
    [],
   .if_ (.or (.not (.bi .all [(.lc [4] (.n 4) (.seq (.var 3)) none (.call f_is_rest_row_in [(.bi .len [(.var 2)]), (.var 1), (.var 4)]))])) (.not (.call f_ascends [(.var 3)])))
    [.ret (.lit (.bool false))]
    [],
   .ret (.call f_is_closed [(.var 0), (.var 1), (.var 3)])]⟩
/-- ways_to_rest(equation, solution, modulus, place, rest); slots 0 equation, 1 solution, 2 modulus, 3 place, 4 rest, 5 own, 6 row, 7 many, 8 spot, 9 goal, 10 known, 11 its -/
def ways_to_rest (f_sure_equation : Nat) (f_sure_solution : Nat) (f_sure_modulus : Nat) (f_sure_place : Nat) (f_sure_within : Nat) (f_tree_in : Nat) (f_rests_in : Nat) : FD := ⟨5, 12,
  [.set 5 (.call f_sure_equation [(.var 0)]),
   .set 6 (.call f_sure_solution [(.var 5), (.var 1)]),
   .set 7 (.call f_sure_modulus [(.var 2)]),
   .set 8 (.call f_sure_place [(.var 5), (.var 3)]),
   .set 9 (.call f_sure_within [(.var 4), (.lit (.int 0)), (.bin .sub (.var 7) (.lit (.int 1)))]),
   .set 10 (.call f_tree_in [(.var 5), (.var 7), (.call f_rests_in [(.var 6), (.var 7)])]),
   .ret (.lc [11] (.n 11) (.seq (.var 10)) (some (.cmp .eq (.ix (.var 11) (.var 8)) (.var 9))) (.ix (.var 10) (.var 11)))]⟩
/-- can_rest(equation, solution, modulus, place, rest); slots 0 equation, 1 solution, 2 modulus, 3 place, 4 rest -/
def can_rest (f_ways_to_rest : Nat) : FD := ⟨5, 5,
  [.ret (.cmp .ne (.call f_ways_to_rest [(.var 0), (.var 1), (.var 2), (.var 3), (.var 4)]) (.lst []))]⟩
/-- way_to_rest(equation, solution, modulus, place, rest); slots 0 equation, 1 solution, 2 modulus, 3 place, 4 rest, 5 found -/
def way_to_rest (f_ways_to_rest : Nat) (x_CanNot : Nat) : FD := ⟨5, 6,
  [.set 5 (.call f_ways_to_rest [(.var 0), (.var 1), (.var 2), (.var 3), (.var 4)]),
   .if_ (.cmp .eq (.var 5) (.lst []))
    [.raise x_CanNot]
    [],
   .ret (.ix (.var 5) (.lit (.int 0)))]⟩
/-- is_rest_book(equation, solution, modulus, thing); slots 0 equation, 1 solution, 2 modulus, 3 thing, 4 own, 5 row, 6 many -/
def is_rest_book (f_sure_equation : Nat) (f_sure_solution : Nat) (f_sure_modulus : Nat) (f_is_rest_book_in : Nat) (f_rests_in : Nat) : FD := ⟨4, 7,
  [.set 4 (.call f_sure_equation [(.var 0)]),
   .set 5 (.call f_sure_solution [(.var 4), (.var 1)]),
   .set 6 (.call f_sure_modulus [(.var 2)]),
   .ret (.call f_is_rest_book_in [(.var 4), (.var 6), (.call f_rests_in [(.var 5), (.var 6)]), (.var 3)])]⟩
/-- road_table(equation, solution, one, other); slots 0 equation, 1 solution, 2 one, 3 other, 4 near, 5 far -/
def road_table (f_sure_road : Nat) (f_table_of : Nat) : FD := ⟨4, 6,
  [.asg (.t [(.n 4), (.n 5)]) (.sl (.call f_sure_road [(.var 0), (.var 1), (.var 2), (.var 3)]) (some (.lit (.int 2))) none),
   .ret (.call f_table_of [(.var 4), (.var 5)])]⟩
/-- _law_low(told_so, numbers_so); slots 0 told_so, 1 numbers_so, 2 k -/
def law_low (f__law_flip : Nat) : FD := ⟨2, 3,
  [.for_ (.n 2) (.rng1 (.bi .len [(.var 1)]))
    [.if_ (.cmp .lt (.ix (.call f__law_flip [(.var 0), (.var 1), (.var 2)]) (.var 2)) (.ix (.var 1) (.var 2)))
    [.ret (.var 2)]
    []],
   .ret (.bin .sub (.lit (.int 0)) (.lit (.int 1)))]⟩
/-- _law_down(told_so, numbers_so); slots 0 told_so, 1 numbers_so, 2 lap, 3 found, 4 here, 5 k -/
def law_down (f__law_low : Nat) (f__law_flip : Nat) : FD := ⟨2, 6,
  [.mul [3, 4] [(true, (.lst [])), (false, (.var 1))],
   .for_ (.n 2) (.rng1 (.lit (.int 3000)))
    [.set 5 (.call f__law_low [(.var 0), (.var 4)]),
     .if_ (.cmp .lt (.var 5) (.lit (.int 0)))
    [.brk]
    [],
     .app 3 (.var 5),
     .set 4 (.call f__law_flip [(.var 0), (.var 4), (.var 5)])],
   .ret (.tup [(.bi .tup [(.ovar 3)]), (.var 4)])]⟩
end Lb
end
section
namespace Lk25
open PySem F3
def d0 : FD := Lb.is_number
def d1 : FD := Lb.is_within 0
def d2 : FD := Lb.is_long
def d3 : FD := Lb.are_numbers 0
def d4 : FD := Lb.tupled 4
def d5 : FD := Lb.sure_within 1 1
def d6 : FD := Lb.are_weights 3 0 1 2
def d7 : FD := Lb.is_equation_in 2 6 1 3
def d8 : FD := Lb.sure_equation 4 7 1
def d9 : FD := Lb.product_of
def d10 : FD := Lb.shares_in
def d11 : FD := Lb.sides_in 10 9
def d12 : FD := Lb.are_from_one 2 3
def d13 : FD := Lb.is_solution_in 12 4 11
def d14 : FD := Lb.sure_solution 4 13 1
def d15 : FD := Lb.sure_place 5
def d16 : FD := Lb.is_word_in 3 5
def d17 : FD := Lb.shares 8 10 14
def d18 : FD := Lb.sure_road 8 14 15 1 9
def d19 : FD := Lb.road 18 5 6 4 0
def d20 : FD := Lb.road_step 18
def d21 : FD := Lb.flipped_in 9 4 0
def d22 : FD := Lb.lowering_in 10
def d23 : FD := Lb.idle_in 10
def d24 : FD := Lb.way_down 22 21
def d25 : FD := Lb.walked_in 21
def d26 : FD := Lb.flip 8 14 21 15
def d27 : FD := Lb.down 8 24 14
def d28 : FD := Lb.height 27
def d29 : FD := Lb.is_cut
def d30 : FD := Lb.is_address_in 2 13 16 22 29 23
def d31 : FD := Lb.sure_address 4 30 1
def d32 : FD := Lb.solution_at 8 31 25
def d33 : FD := Lb.law_box
def d34 : FD := Lb.law_take
def d35 : FD := Lb.law_cells
def d36 : FD := Lb.law_of 34
def d37 : FD := Lb.law_pick 34
def d38 : FD := Lb.law_same 38
def d39 : FD := Lb.law_prod
def d40 : FD := Lb.law_shares
def d41 : FD := Lb.law_flip 39
def d42 : FD := Lb.law_idle 41
def d43 : FD := Lb.law_known
def d44 : FD := Lb.law_mixed 37
def d45 : FD := Lb.law_drawn 44 36 43
def d46 : FD := Lb.law_up 42 36 41
def d47 : FD := Lb.law_tall 34
/-- law(script); slots 0 script, 1 tin, 2 lap, 3 k, 4 both_so, 5 few_so, 6 step_so, 7 told_so, 8 root_so, 9 word_so, 10 here, 11 long_so, 12 rows_so, 13 wide_so, 14 whole_so, 15 j, 16 at_so, 17 seen_so, 18 goal_so, 19 beside_so, 20 i -/
def d48 : FD := ⟨1, 21,
  [.own 1 (.call 33 [(.call 35 [(.var 0), (.lit (.int 1))]), (.lit (.int 0))]),
   .for_ (.n 2) (.rng1 (.lit (.int 2)))
    [.asg (.t [(.n 7), (.n 8)]) (.call 45 [(.ovar 1), (.lit (.int 6))]),
     .asg (.t [(.n 9), (.n 10)]) (.call 46 [(.ovar 1), (.var 7), (.var 8), (.call 47 [(.ovar 1), (.var 7)])]),
     .mul [11, 12] [(false, (.bi .len [(.var 10)])), (false, (.call 17 [(.var 7), (.var 10)]))],
     .if_ (.not (.call 38 [(.lst [(.var 12), (.call 32 [(.var 7), (.tup [(.var 8), (.var 9)])]), (.call 28 [(.var 7), (.var 10)])]), (.lst [(.bi .tup [(.call 40 [(.var 7), (.var 10)])]), (.var 10), (.bi .len [(.var 9)])])]))
    [.ret (.lit (.bool false))]
    [],
     .for_ (.n 3) (.rng1 (.var 11))
    [.set 13 (.call 17 [(.var 7), (.call 26 [(.var 7), (.var 10), (.var 3)])]),
     .set 14 (.bin .add (.bin .add (.ix (.var 13) (.var 3)) (.ix (.var 12) (.var 3))) (.bin .mul (.lit (.int 2)) (.bin .sub (.bi .sum [(.var 12)]) (.ix (.var 12) (.var 3))))),
     .for_ (.n 15) (.rng1 (.var 11))
    [.if_ (.cmp .ne (.var 15) (.var 3))
    [.set 6 (.call 20 [(.var 7), (.var 10), (.var 3), (.var 15)]), .set 19 (.bin .mul (.ix (.var 7) (.lit (.int 1))) (.call 39 [(.lc [20] (.n 20) (.rng1 (.var 11)) (some (.cmp .notin (.var 20) (.tup [(.var 15), (.var 3)]))) (.ix (.var 10) (.var 20)))])), .if_ (.or (.cmp .ne (.var 14) (.bin .mul (.bin .add (.var 6) (.lit (.int 2))) (.ix (.var 12) (.var 15)))) (.or (.cmp .lt (.var 6) (.lit (.int 3))) (.cmp .ne (.bin .mul (.bin .mul (.bin .add (.var 6) (.lit (.int 2))) (.ix (.ix (.var 7) (.lit (.int 0))) (.var 15))) (.ix (.ix (.var 7) (.lit (.int 0))) (.var 3))) (.bin .mul (.var 19) (.var 19)))))
    [.ret (.lit (.bool false))]
    [], .if_ (.not (.call 38 [(.call 20 [(.var 7), (.var 10), (.var 15), (.var 3)]), (.var 6)]))
    [.ret (.lit (.bool false))]
    []]
    []]],
     .mul [16, 17] [(false, (.var 8)), (true, (.lst []))],
     .for_ (.n 3) (.seq (.var 9))
    [.set 18 (.call 41 [(.var 7), (.var 16), (.var 3)]),
     .app 17 (.bin .mul (.bin .mul (.ix (.ix (.var 7) (.lit (.int 0))) (.var 3)) (.ix (.var 18) (.var 3))) (.ix (.var 18) (.var 3))),
     .set 16 (.var 18)],
     .if_ (.cmp .ne (.lc [3] (.n 3) (.rng2 (.lit (.int 2)) (.bi .len [(.ovar 17)])) (some (.cmp .lt (.bin .mul (.ix (.ovar 17) (.var 3)) (.ix (.ovar 17) (.bin .sub (.var 3) (.lit (.int 2))))) (.bin .mul (.ix (.ovar 17) (.bin .sub (.var 3) (.lit (.int 1)))) (.ix (.ovar 17) (.bin .sub (.var 3) (.lit (.int 1))))))) (.var 3)) (.lst []))
    [.ret (.lit (.bool false))]
    [],
     .set 4 (.call 37 [(.ovar 1), (.bi .rngL [(.var 11)]), (.lit (.int 2))]),
     .set 5 (.call 19 [(.var 7), (.var 10), (.ix (.var 4) (.lit (.int 0))), (.ix (.var 4) (.lit (.int 1))), (.lit (.int 9))]),
     .set 6 (.call 20 [(.var 7), (.var 10), (.ix (.var 4) (.lit (.int 0))), (.ix (.var 4) (.lit (.int 1)))]),
     .if_ (.cmp .ne (.lc [3] (.n 3) (.rng2 (.lit (.int 2)) (.lit (.int 9))) (some (.cmp .ne (.bin .add (.ix (.var 5) (.bin .add (.var 3) (.lit (.int 2)))) (.ix (.var 5) (.bin .sub (.var 3) (.lit (.int 2))))) (.bin .mul (.var 6) (.ix (.var 5) (.var 3))))) (.var 3)) (.lst []))
    [.ret (.lit (.bool false))]
    [],
     .if_ (.and (.cmp .ge (.ix (.var 5) (.lit (.int 2))) (.ix (.var 5) (.lit (.int 0)))) (.and (.cmp .ge (.ix (.var 5) (.lit (.int 3))) (.ix (.var 5) (.lit (.int 1)))) (.cmp .ne (.lc [3] (.n 3) (.rng2 (.lit (.int 2)) (.lit (.int 9))) (some (.cmp .lt (.ix (.var 5) (.bin .add (.var 3) (.lit (.int 2)))) (.bin .mul (.lit (.int 2)) (.ix (.var 5) (.var 3))))) (.var 3)) (.lst []))))
    [.ret (.lit (.bool false))]
    []],
   .ret (.lit (.bool true))]⟩
def tab : List FD := [d0, d1, d2, d3, d4, d5, d6, d7, d8, d9, d10, d11, d12, d13, d14, d15, d16, d17, d18, d19, d20, d21, d22, d23, d24, d25, d26, d27, d28, d29, d30, d31, d32, d33, d34, d35, d36, d37, d38, d39, d40, d41, d42, d43, d44, d45, d46, d47, d48]
def cs : List Int := [3, 6, 12, 60, 10000000000000000000000000000000000000000000000000000000000000000000000000000000000000000000000000000000000000000000000000000000000000000000000000000000000000000000000000000000000000000000000000000000000000000000000000000000000000000000000000000000000000000000000000000000000000000000000000000000000000000000000000000000000000000000000000000000000000000000000000000000000000000000000000000000000000000, 5000, 1000]
def nLaw : Nat := 48
end Lk25
end
section
namespace Lk25
open PySem PySem.Spec L2 F3
def top (i : Nat) : Stmt := PySem.Challenge.pw_flippedthrees_k25_across_shares_and_step.main.body.getD i (.Pass ⟨0, 0, 0, 0⟩)
def r0 : F3.Row := ⟨"is_number", top 4, [("thing" : Str)], [1], [("thing" : Str)], d0⟩
def r1 : F3.Row := ⟨"is_within", top 5, [("thing" : Str), ("least" : Str), ("most" : Str)], [3], [("thing" : Str), ("least" : Str), ("most" : Str)], d1⟩
def r2 : F3.Row := ⟨"is_long", top 6, [("thing" : Str), ("length" : Str)], [2], [("thing" : Str), ("length" : Str)], d2⟩
def r3 : F3.Row := ⟨"are_numbers", top 7, [("thing" : Str)], [1], [("thing" : Str), ("own" : Str)], d3⟩
def r4 : F3.Row := ⟨"tupled", top 8, [("value" : Str)], [1], [("value" : Str), ("own" : Str)], d4⟩
def r5 : F3.Row := ⟨"sure_within", top 9, [("thing" : Str), ("least" : Str), ("most" : Str)], [3], [("thing" : Str), ("least" : Str), ("most" : Str)], d5⟩
def r6 : F3.Row := ⟨"are_weights", top 17, [("thing" : Str)], [1], [("thing" : Str), ("own" : Str)], d6⟩
def r7 : F3.Row := ⟨"is_equation_in", top 18, [("thing" : Str)], [1], [("thing" : Str), ("own" : Str)], d7⟩
def r8 : F3.Row := ⟨"sure_equation", top 19, [("value" : Str)], [1], [("value" : Str), ("own" : Str)], d8⟩
def r9 : F3.Row := ⟨"product_of", top 20, [("numbers" : Str)], [1], [("numbers" : Str), ("found" : Str), ("own" : Str)], d9⟩
def r10 : F3.Row := ⟨"shares_in", top 21, [("equation" : Str), ("numbers" : Str)], [2], [("equation" : Str), ("numbers" : Str), ("weight" : Str), ("own" : Str)], d10⟩
def r11 : F3.Row := ⟨"sides_in", top 22, [("equation" : Str), ("numbers" : Str)], [2], [("equation" : Str), ("numbers" : Str)], d11⟩
def r12 : F3.Row := ⟨"are_from_one", top 23, [("thing" : Str), ("many" : Str), ("most" : Str)], [3], [("thing" : Str), ("many" : Str), ("most" : Str), ("own" : Str)], d12⟩
def r13 : F3.Row := ⟨"is_solution_in", top 24, [("equation" : Str), ("thing" : Str)], [2], [("equation" : Str), ("thing" : Str), ("left" : Str), ("right" : Str)], d13⟩
def r14 : F3.Row := ⟨"sure_solution", top 25, [("equation" : Str), ("value" : Str)], [2], [("equation" : Str), ("value" : Str), ("own" : Str)], d14⟩
def r15 : F3.Row := ⟨"sure_place", top 26, [("equation" : Str), ("value" : Str)], [2], [("equation" : Str), ("value" : Str)], d15⟩
def r16 : F3.Row := ⟨"is_word_in", top 27, [("many" : Str), ("thing" : Str)], [2], [("many" : Str), ("thing" : Str), ("own" : Str)], d16⟩
def r17 : F3.Row := ⟨"shares", top 28, [("equation" : Str), ("solution" : Str)], [0], [("equation" : Str), ("solution" : Str), ("own" : Str)], d17⟩
def r18 : F3.Row := ⟨"sure_road", top 31, [("equation" : Str), ("solution" : Str), ("one" : Str), ("other" : Str)], [4], [("equation" : Str), ("solution" : Str), ("one" : Str), ("other" : Str), ("own" : Str), ("row" : Str), ("near" : Str), ("far" : Str), ("rest" : Str), ("place" : Str), ("its" : Str)], d18⟩
def r19 : F3.Row := ⟨"road", top 32, [("equation" : Str), ("solution" : Str), ("one" : Str), ("other" : Str), ("many" : Str)], [0], [("equation" : Str), ("solution" : Str), ("one" : Str), ("other" : Str), ("many" : Str), ("long" : Str), ("found" : Str), ("lap" : Str), ("first" : Str), ("second" : Str), ("near" : Str), ("far" : Str), ("goal" : Str)], d19⟩
def r20 : F3.Row := ⟨"road_step", top 33, [("equation" : Str), ("solution" : Str), ("one" : Str), ("other" : Str)], [0, 4], [("equation" : Str), ("solution" : Str), ("one" : Str), ("other" : Str), ("near" : Str), ("far" : Str)], d20⟩
def r21 : F3.Row := ⟨"flipped_in", top 35, [("equation" : Str), ("solution" : Str), ("place" : Str)], [3], [("equation" : Str), ("solution" : Str), ("place" : Str), ("beside" : Str), ("goal" : Str)], d21⟩
def r22 : F3.Row := ⟨"lowering_in", top 36, [("equation" : Str), ("solution" : Str)], [2], [("equation" : Str), ("solution" : Str), ("rows" : Str), ("whole" : Str), ("place" : Str), ("own" : Str)], d22⟩
def r23 : F3.Row := ⟨"idle_in", top 37, [("equation" : Str), ("solution" : Str)], [2], [("equation" : Str), ("solution" : Str), ("rows" : Str), ("whole" : Str), ("place" : Str), ("own" : Str)], d23⟩
def r24 : F3.Row := ⟨"way_down", top 38, [("equation" : Str), ("solution" : Str)], [2], [("equation" : Str), ("solution" : Str), ("place" : Str), ("found" : Str), ("here" : Str)], d24⟩
def r25 : F3.Row := ⟨"walked_in", top 39, [("equation" : Str), ("solution" : Str), ("word" : Str)], [3], [("equation" : Str), ("solution" : Str), ("word" : Str), ("here" : Str), ("place" : Str)], d25⟩
def r26 : F3.Row := ⟨"flip", top 40, [("equation" : Str), ("solution" : Str), ("place" : Str)], [0], [("equation" : Str), ("solution" : Str), ("place" : Str), ("own" : Str), ("row" : Str)], d26⟩
def r27 : F3.Row := ⟨"down", top 41, [("equation" : Str), ("solution" : Str)], [2], [("equation" : Str), ("solution" : Str), ("own" : Str)], d27⟩
def r28 : F3.Row := ⟨"height", top 42, [("equation" : Str), ("solution" : Str)], [2], [("equation" : Str), ("solution" : Str)], d28⟩
def r29 : F3.Row := ⟨"is_cut", top 44, [("word" : Str)], [1], [("word" : Str), ("one" : Str), ("other" : Str)], d29⟩
def r30 : F3.Row := ⟨"is_address_in", top 45, [("equation" : Str), ("thing" : Str)], [2], [("equation" : Str), ("thing" : Str)], d30⟩
def r31 : F3.Row := ⟨"sure_address", top 46, [("equation" : Str), ("value" : Str)], [2], [("equation" : Str), ("value" : Str), ("own" : Str)], d31⟩
def r32 : F3.Row := ⟨"solution_at", top 47, [("equation" : Str), ("address" : Str)], [0], [("equation" : Str), ("address" : Str), ("own" : Str), ("root" : Str), ("word" : Str)], d32⟩
def r33 : F3.Row := ⟨"_law_box", top 49, [("script" : Str), ("k" : Str)], [2], [("script" : Str), ("k" : Str), ("bit_so" : Str)], d33⟩
def r34 : F3.Row := ⟨"_law_take", top 50, [("tin" : Str), ("below_so" : Str)], [2], [("tin" : Str), ("below_so" : Str), ("once_so" : Str), ("wide_so" : Str), ("twice_so" : Str), ("drawn_so" : Str)], d34⟩
def r35 : F3.Row := ⟨"_law_cells", top 51, [("script" : Str), ("most_so" : Str)], [2], [("script" : Str), ("most_so" : Str), ("cells_so" : Str), ("k" : Str), ("bit_so" : Str), ("at_so" : Str)], d35⟩
def r36 : F3.Row := ⟨"_law_of", top 52, [("tin" : Str), ("goods_so" : Str)], [2], [("tin" : Str), ("goods_so" : Str)], d36⟩
def r37 : F3.Row := ⟨"_law_pick", top 53, [("tin" : Str), ("goods_so" : Str), ("count_so" : Str)], [3], [("tin" : Str), ("goods_so" : Str), ("count_so" : Str), ("lap" : Str), ("pool_so" : Str), ("found" : Str)], d37⟩
def r38 : F3.Row := ⟨"_law_same", top 54, [("got" : Str), ("due" : Str)], [2], [("got" : Str), ("due" : Str), ("mine" : Str), ("its" : Str)], d38⟩
def r39 : F3.Row := ⟨"_law_prod", top 55, [("numbers_so" : Str)], [1], [("numbers_so" : Str), ("found" : Str), ("own" : Str)], d39⟩
def r40 : F3.Row := ⟨"_law_shares", top 56, [("told_so" : Str), ("numbers_so" : Str)], [2], [("told_so" : Str), ("numbers_so" : Str), ("a" : Str), ("x" : Str)], d40⟩
def r41 : F3.Row := ⟨"_law_flip", top 57, [("told_so" : Str), ("numbers_so" : Str), ("place_so" : Str)], [3], [("told_so" : Str), ("numbers_so" : Str), ("place_so" : Str), ("beside_so" : Str)], d41⟩
def r42 : F3.Row := ⟨"_law_idle", top 58, [("told_so" : Str), ("numbers_so" : Str)], [2], [("told_so" : Str), ("numbers_so" : Str), ("k" : Str)], d42⟩
def r43 : F3.Row := ⟨"_law_known", top 59, [], [0], [("found" : Str)], d43⟩
def r44 : F3.Row := ⟨"_law_mixed", top 60, [("tin" : Str), ("row_so" : Str)], [2], [("tin" : Str), ("row_so" : Str), ("order_so" : Str), ("k" : Str)], d44⟩
def r45 : F3.Row := ⟨"_law_drawn", top 61, [("tin" : Str), ("long_so" : Str)], [2], [("tin" : Str), ("long_so" : Str), ("own" : Str)], d45⟩
def r46 : F3.Row := ⟨"_law_up", top 62, [("tin" : Str), ("told_so" : Str), ("root_so" : Str), ("tall_so" : Str)], [4], [("tin" : Str), ("told_so" : Str), ("root_so" : Str), ("tall_so" : Str), ("idle_so" : Str), ("lap" : Str), ("word_so" : Str), ("here" : Str), ("goods_so" : Str), ("k" : Str)], d46⟩
def r47 : F3.Row := ⟨"_law_tall", top 63, [("tin" : Str), ("told_so" : Str)], [2], [("tin" : Str), ("told_so" : Str)], d47⟩
def r48 : F3.Row := ⟨"law", top 64, [("script" : Str)], [1], [("script" : Str), ("tin" : Str), ("lap" : Str), ("k" : Str), ("both_so" : Str), ("few_so" : Str), ("step_so" : Str), ("told_so" : Str), ("root_so" : Str), ("word_so" : Str), ("here" : Str), ("long_so" : Str), ("rows_so" : Str), ("wide_so" : Str), ("whole_so" : Str), ("j" : Str), ("at_so" : Str), ("seen_so" : Str), ("goal_so" : Str), ("beside_so" : Str), ("i" : Str)], d48⟩
def rows : List F3.Row := [r0, r1, r2, r3, r4, r5, r6, r7, r8, r9, r10, r11, r12, r13, r14, r15, r16, r17, r18, r19, r20, r21, r22, r23, r24, r25, r26, r27, r28, r29, r30, r31, r32, r33, r34, r35, r36, r37, r38, r39, r40, r41, r42, r43, r44, r45, r46, r47, r48]
def csT : List (Str × Nat) := [(("LEAST_PLACES" : Str), 0), (("MOST_PLACES" : Str), 1), (("MOST_WEIGHT" : Str), 2), (("MOST_FACTOR" : Str), 3), (("BELOW_NUMBER" : Str), 4), (("MOST_WORD" : Str), 5), (("MOST_LONG" : Str), 6)]
def exT : List (Str × Nat) := [(("TooMany" : Str), 0), (("Unfit" : Str), 1)]
def fsT : List (Str × Nat × List Str × List Nat) := [(("is_number" : Str), 0, [("thing" : Str)], [1]), (("is_within" : Str), 1, [("thing" : Str), ("least" : Str), ("most" : Str)], [3]), (("is_long" : Str), 2, [("thing" : Str), ("length" : Str)], [2]), (("are_numbers" : Str), 3, [("thing" : Str)], [1]), (("tupled" : Str), 4, [("value" : Str)], [1]), (("sure_within" : Str), 5, [("thing" : Str), ("least" : Str), ("most" : Str)], [3]), (("are_weights" : Str), 6, [("thing" : Str)], [1]), (("is_equation_in" : Str), 7, [("thing" : Str)], [1]), (("sure_equation" : Str), 8, [("value" : Str)], [1]), (("product_of" : Str), 9, [("numbers" : Str)], [1]), (("shares_in" : Str), 10, [("equation" : Str), ("numbers" : Str)], [2]), (("sides_in" : Str), 11, [("equation" : Str), ("numbers" : Str)], [2]), (("are_from_one" : Str), 12, [("thing" : Str), ("many" : Str), ("most" : Str)], [3]), (("is_solution_in" : Str), 13, [("equation" : Str), ("thing" : Str)], [2]), (("sure_solution" : Str), 14, [("equation" : Str), ("value" : Str)], [2]), (("sure_place" : Str), 15, [("equation" : Str), ("value" : Str)], [2]), (("is_word_in" : Str), 16, [("many" : Str), ("thing" : Str)], [2]), (("shares" : Str), 17, [("equation" : Str), ("solution" : Str)], [0]), (("sure_road" : Str), 18, [("equation" : Str), ("solution" : Str), ("one" : Str), ("other" : Str)], [4]), (("road" : Str), 19, [("equation" : Str), ("solution" : Str), ("one" : Str), ("other" : Str), ("many" : Str)], [0]), (("road_step" : Str), 20, [("equation" : Str), ("solution" : Str), ("one" : Str), ("other" : Str)], [0, 4]), (("flipped_in" : Str), 21, [("equation" : Str), ("solution" : Str), ("place" : Str)], [3]), (("lowering_in" : Str), 22, [("equation" : Str), ("solution" : Str)], [2]), (("idle_in" : Str), 23, [("equation" : Str), ("solution" : Str)], [2]), (("way_down" : Str), 24, [("equation" : Str), ("solution" : Str)], [2]), (("walked_in" : Str), 25, [("equation" : Str), ("solution" : Str), ("word" : Str)], [3]), (("flip" : Str), 26, [("equation" : Str), ("solution" : Str), ("place" : Str)], [0]), (("down" : Str), 27, [("equation" : Str), ("solution" : Str)], [2]), (("height" : Str), 28, [("equation" : Str), ("solution" : Str)], [2]), (("is_cut" : Str), 29, [("word" : Str)], [1]), (("is_address_in" : Str), 30, [("equation" : Str), ("thing" : Str)], [2]), (("sure_address" : Str), 31, [("equation" : Str), ("value" : Str)], [2]), (("solution_at" : Str), 32, [("equation" : Str), ("address" : Str)], [0]), (("_law_box" : Str), 33, [("script" : Str), ("k" : Str)], [2]), (("_law_take" : Str), 34, [("tin" : Str), ("below_so" : Str)], [2]), (("_law_cells" : Str), 35, [("script" : Str), ("most_so" : Str)], [2]), (("_law_of" : Str), 36, [("tin" : Str), ("goods_so" : Str)], [2]), (("_law_pick" : Str), 37, [("tin" : Str), ("goods_so" : Str), ("count_so" : Str)], [3]), (("_law_same" : Str), 38, [("got" : Str), ("due" : Str)], [2]), (("_law_prod" : Str), 39, [("numbers_so" : Str)], [1]), (("_law_shares" : Str), 40, [("told_so" : Str), ("numbers_so" : Str)], [2]), (("_law_flip" : Str), 41, [("told_so" : Str), ("numbers_so" : Str), ("place_so" : Str)], [3]), (("_law_idle" : Str), 42, [("told_so" : Str), ("numbers_so" : Str)], [2]), (("_law_known" : Str), 43, [], [0]), (("_law_mixed" : Str), 44, [("tin" : Str), ("row_so" : Str)], [2]), (("_law_drawn" : Str), 45, [("tin" : Str), ("long_so" : Str)], [2]), (("_law_up" : Str), 46, [("tin" : Str), ("told_so" : Str), ("root_so" : Str), ("tall_so" : Str)], [4]), (("_law_tall" : Str), 47, [("tin" : Str), ("told_so" : Str)], [2]), (("law" : Str), 48, [("script" : Str)], [1])]
theorem fs_eq : fsFrom 0 rows = fsT := rfl
theorem ck0 : rowB 60 60 csT fsT exT r0 = true := by decide +kernel
theorem ck1 : rowB 60 60 csT fsT exT r1 = true := by decide +kernel
theorem ck2 : rowB 60 60 csT fsT exT r2 = true := by decide +kernel
theorem ck3 : rowB 60 60 csT fsT exT r3 = true := by decide +kernel
theorem ck4 : rowB 60 60 csT fsT exT r4 = true := by decide +kernel
theorem ck5 : rowB 60 60 csT fsT exT r5 = true := by decide +kernel
theorem ck6 : rowB 60 60 csT fsT exT r6 = true := by decide +kernel
theorem ck7 : rowB 60 60 csT fsT exT r7 = true := by decide +kernel
theorem ck8 : rowB 60 60 csT fsT exT r8 = true := by decide +kernel
theorem ck9 : rowB 60 60 csT fsT exT r9 = true := by decide +kernel
theorem ck10 : rowB 60 60 csT fsT exT r10 = true := by decide +kernel
theorem ck11 : rowB 60 60 csT fsT exT r11 = true := by decide +kernel
theorem ck12 : rowB 60 60 csT fsT exT r12 = true := by decide +kernel
theorem ck13 : rowB 60 60 csT fsT exT r13 = true := by decide +kernel
theorem ck14 : rowB 60 60 csT fsT exT r14 = true := by decide +kernel
theorem ck15 : rowB 60 60 csT fsT exT r15 = true := by decide +kernel
theorem ck16 : rowB 60 60 csT fsT exT r16 = true := by decide +kernel
theorem ck17 : rowB 60 60 csT fsT exT r17 = true := by decide +kernel
theorem ck18 : rowB 60 60 csT fsT exT r18 = true := by decide +kernel
theorem ck19 : rowB 60 60 csT fsT exT r19 = true := by decide +kernel
theorem ck20 : rowB 60 60 csT fsT exT r20 = true := by decide +kernel
theorem ck21 : rowB 60 60 csT fsT exT r21 = true := by decide +kernel
theorem ck22 : rowB 60 60 csT fsT exT r22 = true := by decide +kernel
theorem ck23 : rowB 60 60 csT fsT exT r23 = true := by decide +kernel
theorem ck24 : rowB 60 60 csT fsT exT r24 = true := by decide +kernel
theorem ck25 : rowB 60 60 csT fsT exT r25 = true := by decide +kernel
theorem ck26 : rowB 60 60 csT fsT exT r26 = true := by decide +kernel
theorem ck27 : rowB 60 60 csT fsT exT r27 = true := by decide +kernel
theorem ck28 : rowB 60 60 csT fsT exT r28 = true := by decide +kernel
theorem ck29 : rowB 60 60 csT fsT exT r29 = true := by decide +kernel
theorem ck30 : rowB 60 60 csT fsT exT r30 = true := by decide +kernel
theorem ck31 : rowB 60 60 csT fsT exT r31 = true := by decide +kernel
theorem ck32 : rowB 60 60 csT fsT exT r32 = true := by decide +kernel
theorem ck33 : rowB 60 60 csT fsT exT r33 = true := by decide +kernel
theorem ck34 : rowB 60 60 csT fsT exT r34 = true := by decide +kernel
theorem ck35 : rowB 60 60 csT fsT exT r35 = true := by decide +kernel
theorem ck36 : rowB 60 60 csT fsT exT r36 = true := by decide +kernel
theorem ck37 : rowB 60 60 csT fsT exT r37 = true := by decide +kernel
theorem ck38 : rowB 60 60 csT fsT exT r38 = true := by decide +kernel
theorem ck39 : rowB 60 60 csT fsT exT r39 = true := by decide +kernel
theorem ck40 : rowB 60 60 csT fsT exT r40 = true := by decide +kernel
theorem ck41 : rowB 60 60 csT fsT exT r41 = true := by decide +kernel
theorem ck42 : rowB 60 60 csT fsT exT r42 = true := by decide +kernel
theorem ck43 : rowB 60 60 csT fsT exT r43 = true := by decide +kernel
theorem ck44 : rowB 60 60 csT fsT exT r44 = true := by decide +kernel
theorem ck45 : rowB 60 60 csT fsT exT r45 = true := by decide +kernel
theorem ck46 : rowB 60 60 csT fsT exT r46 = true := by decide +kernel
theorem ck47 : rowB 60 60 csT fsT exT r47 = true := by decide +kernel
theorem ck48 : rowB 60 60 csT fsT exT r48 = true := by decide +kernel
theorem all_ck : rows.all (rowB 60 60 csT (fsFrom 0 rows) exT) = true := by
  rw [fs_eq]
  unfold rows
  simp only [List.all_cons, List.all_nil, Bool.and_true, Bool.and_self, ck0, ck1, ck2, ck3, ck4, ck5, ck6, ck7, ck8, ck9, ck10, ck11, ck12, ck13, ck14, ck15, ck16, ck17, ck18, ck19, ck20, ck21, ck22, ck23, ck24, ck25, ck26, ck27, ck28, ck29, ck30, ck31, ck32, ck33, ck34, ck35, ck36, ck37, ck38, ck39, ck40, ck41, ck42, ck43, ck44, ck45, ck46, ck47, ck48]
theorem sc0 : FnScope r0.N r0.ps (defScope r0.st) := ⟨rfl, rfl, rfl, by decide +kernel, rfl, by decide +kernel, by decide +kernel⟩
theorem kb0 : ∀ n ∈ r0.pats, ∀ (kV doc pm : Value) (an : Option Addr) (cdv ct : Value) (us ws : List Value), us.length = n → (us ++ ws).length = r0.ps.length →
    bindArgs (PySem.W.fnOf r0.x r0.x (defArgs r0.st) (defBody r0.st) (defScope r0.st) .none kV doc pm an cdv ct) ⟨us, (r0.ps.drop n).zip ws⟩ = pure (r0.ps.zip (us ++ ws)) := by
  intro n hn kV doc pm an cdv ct us ws h1 h2
  have hn : n = 1 := by simpa [r0] using hn
  subst hn
  · obtain ⟨u0, rfl⟩ := ls1 h1
    have h2 : ws.length = 0 := by
      simp only [List.length_append, List.length_cons, List.length_nil, r0] at h2
      omega
    obtain rfl := ls0 h2
    rfl
theorem sc1 : FnScope r1.N r1.ps (defScope r1.st) := ⟨rfl, rfl, rfl, by decide +kernel, rfl, by decide +kernel, by decide +kernel⟩
theorem kb1 : ∀ n ∈ r1.pats, ∀ (kV doc pm : Value) (an : Option Addr) (cdv ct : Value) (us ws : List Value), us.length = n → (us ++ ws).length = r1.ps.length →
    bindArgs (PySem.W.fnOf r1.x r1.x (defArgs r1.st) (defBody r1.st) (defScope r1.st) .none kV doc pm an cdv ct) ⟨us, (r1.ps.drop n).zip ws⟩ = pure (r1.ps.zip (us ++ ws)) := by
  intro n hn kV doc pm an cdv ct us ws h1 h2
  have hn : n = 3 := by simpa [r1] using hn
  subst hn
  · obtain ⟨u0, u1, u2, rfl⟩ := ls3 h1
    have h2 : ws.length = 0 := by
      simp only [List.length_append, List.length_cons, List.length_nil, r1] at h2
      omega
    obtain rfl := ls0 h2
    rfl
theorem sc2 : FnScope r2.N r2.ps (defScope r2.st) := ⟨rfl, rfl, rfl, by decide +kernel, rfl, by decide +kernel, by decide +kernel⟩
theorem kb2 : ∀ n ∈ r2.pats, ∀ (kV doc pm : Value) (an : Option Addr) (cdv ct : Value) (us ws : List Value), us.length = n → (us ++ ws).length = r2.ps.length →
    bindArgs (PySem.W.fnOf r2.x r2.x (defArgs r2.st) (defBody r2.st) (defScope r2.st) .none kV doc pm an cdv ct) ⟨us, (r2.ps.drop n).zip ws⟩ = pure (r2.ps.zip (us ++ ws)) := by
  intro n hn kV doc pm an cdv ct us ws h1 h2
  have hn : n = 2 := by simpa [r2] using hn
  subst hn
  · obtain ⟨u0, u1, rfl⟩ := ls2 h1
    have h2 : ws.length = 0 := by
      simp only [List.length_append, List.length_cons, List.length_nil, r2] at h2
      omega
    obtain rfl := ls0 h2
    rfl
theorem sc3 : FnScope r3.N r3.ps (defScope r3.st) := ⟨rfl, rfl, rfl, by decide +kernel, rfl, by decide +kernel, by decide +kernel⟩
theorem kb3 : ∀ n ∈ r3.pats, ∀ (kV doc pm : Value) (an : Option Addr) (cdv ct : Value) (us ws : List Value), us.length = n → (us ++ ws).length = r3.ps.length →
    bindArgs (PySem.W.fnOf r3.x r3.x (defArgs r3.st) (defBody r3.st) (defScope r3.st) .none kV doc pm an cdv ct) ⟨us, (r3.ps.drop n).zip ws⟩ = pure (r3.ps.zip (us ++ ws)) := by
  intro n hn kV doc pm an cdv ct us ws h1 h2
  have hn : n = 1 := by simpa [r3] using hn
  subst hn
  · obtain ⟨u0, rfl⟩ := ls1 h1
    have h2 : ws.length = 0 := by
      simp only [List.length_append, List.length_cons, List.length_nil, r3] at h2
      omega
    obtain rfl := ls0 h2
    rfl
theorem sc4 : FnScope r4.N r4.ps (defScope r4.st) := ⟨rfl, rfl, rfl, by decide +kernel, rfl, by decide +kernel, by decide +kernel⟩
theorem kb4 : ∀ n ∈ r4.pats, ∀ (kV doc pm : Value) (an : Option Addr) (cdv ct : Value) (us ws : List Value), us.length = n → (us ++ ws).length = r4.ps.length →
    bindArgs (PySem.W.fnOf r4.x r4.x (defArgs r4.st) (defBody r4.st) (defScope r4.st) .none kV doc pm an cdv ct) ⟨us, (r4.ps.drop n).zip ws⟩ = pure (r4.ps.zip (us ++ ws)) := by
  intro n hn kV doc pm an cdv ct us ws h1 h2
  have hn : n = 1 := by simpa [r4] using hn
  subst hn
  · obtain ⟨u0, rfl⟩ := ls1 h1
    have h2 : ws.length = 0 := by
      simp only [List.length_append, List.length_cons, List.length_nil, r4] at h2
      omega
    obtain rfl := ls0 h2
    rfl
theorem sc5 : FnScope r5.N r5.ps (defScope r5.st) := ⟨rfl, rfl, rfl, by decide +kernel, rfl, by decide +kernel, by decide +kernel⟩
theorem kb5 : ∀ n ∈ r5.pats, ∀ (kV doc pm : Value) (an : Option Addr) (cdv ct : Value) (us ws : List Value), us.length = n → (us ++ ws).length = r5.ps.length →
    bindArgs (PySem.W.fnOf r5.x r5.x (defArgs r5.st) (defBody r5.st) (defScope r5.st) .none kV doc pm an cdv ct) ⟨us, (r5.ps.drop n).zip ws⟩ = pure (r5.ps.zip (us ++ ws)) := by
  intro n hn kV doc pm an cdv ct us ws h1 h2
  have hn : n = 3 := by simpa [r5] using hn
  subst hn
  · obtain ⟨u0, u1, u2, rfl⟩ := ls3 h1
    have h2 : ws.length = 0 := by
      simp only [List.length_append, List.length_cons, List.length_nil, r5] at h2
      omega
    obtain rfl := ls0 h2
    rfl
theorem sc6 : FnScope r6.N r6.ps (defScope r6.st) := ⟨rfl, rfl, rfl, by decide +kernel, rfl, by decide +kernel, by decide +kernel⟩
theorem kb6 : ∀ n ∈ r6.pats, ∀ (kV doc pm : Value) (an : Option Addr) (cdv ct : Value) (us ws : List Value), us.length = n → (us ++ ws).length = r6.ps.length →
    bindArgs (PySem.W.fnOf r6.x r6.x (defArgs r6.st) (defBody r6.st) (defScope r6.st) .none kV doc pm an cdv ct) ⟨us, (r6.ps.drop n).zip ws⟩ = pure (r6.ps.zip (us ++ ws)) := by
  intro n hn kV doc pm an cdv ct us ws h1 h2
  have hn : n = 1 := by simpa [r6] using hn
  subst hn
  · obtain ⟨u0, rfl⟩ := ls1 h1
    have h2 : ws.length = 0 := by
      simp only [List.length_append, List.length_cons, List.length_nil, r6] at h2
      omega
    obtain rfl := ls0 h2
    rfl
theorem sc7 : FnScope r7.N r7.ps (defScope r7.st) := ⟨rfl, rfl, rfl, by decide +kernel, rfl, by decide +kernel, by decide +kernel⟩
theorem kb7 : ∀ n ∈ r7.pats, ∀ (kV doc pm : Value) (an : Option Addr) (cdv ct : Value) (us ws : List Value), us.length = n → (us ++ ws).length = r7.ps.length →
    bindArgs (PySem.W.fnOf r7.x r7.x (defArgs r7.st) (defBody r7.st) (defScope r7.st) .none kV doc pm an cdv ct) ⟨us, (r7.ps.drop n).zip ws⟩ = pure (r7.ps.zip (us ++ ws)) := by
  intro n hn kV doc pm an cdv ct us ws h1 h2
  have hn : n = 1 := by simpa [r7] using hn
  subst hn
  · obtain ⟨u0, rfl⟩ := ls1 h1
    have h2 : ws.length = 0 := by
      simp only [List.length_append, List.length_cons, List.length_nil, r7] at h2
      omega
    obtain rfl := ls0 h2
    rfl
theorem sc8 : FnScope r8.N r8.ps (defScope r8.st) := ⟨rfl, rfl, rfl, by decide +kernel, rfl, by decide +kernel, by decide +kernel⟩
theorem kb8 : ∀ n ∈ r8.pats, ∀ (kV doc pm : Value) (an : Option Addr) (cdv ct : Value) (us ws : List Value), us.length = n → (us ++ ws).length = r8.ps.length →
    bindArgs (PySem.W.fnOf r8.x r8.x (defArgs r8.st) (defBody r8.st) (defScope r8.st) .none kV doc pm an cdv ct) ⟨us, (r8.ps.drop n).zip ws⟩ = pure (r8.ps.zip (us ++ ws)) := by
  intro n hn kV doc pm an cdv ct us ws h1 h2
  have hn : n = 1 := by simpa [r8] using hn
  subst hn
  · obtain ⟨u0, rfl⟩ := ls1 h1
    have h2 : ws.length = 0 := by
      simp only [List.length_append, List.length_cons, List.length_nil, r8] at h2
      omega
    obtain rfl := ls0 h2
    rfl
theorem sc9 : FnScope r9.N r9.ps (defScope r9.st) := ⟨rfl, rfl, rfl, by decide +kernel, rfl, by decide +kernel, by decide +kernel⟩
theorem kb9 : ∀ n ∈ r9.pats, ∀ (kV doc pm : Value) (an : Option Addr) (cdv ct : Value) (us ws : List Value), us.length = n → (us ++ ws).length = r9.ps.length →
    bindArgs (PySem.W.fnOf r9.x r9.x (defArgs r9.st) (defBody r9.st) (defScope r9.st) .none kV doc pm an cdv ct) ⟨us, (r9.ps.drop n).zip ws⟩ = pure (r9.ps.zip (us ++ ws)) := by
  intro n hn kV doc pm an cdv ct us ws h1 h2
  have hn : n = 1 := by simpa [r9] using hn
  subst hn
  · obtain ⟨u0, rfl⟩ := ls1 h1
    have h2 : ws.length = 0 := by
      simp only [List.length_append, List.length_cons, List.length_nil, r9] at h2
      omega
    obtain rfl := ls0 h2
    rfl
theorem sc10 : FnScope r10.N r10.ps (defScope r10.st) := ⟨rfl, rfl, rfl, by decide +kernel, rfl, by decide +kernel, by decide +kernel⟩
theorem kb10 : ∀ n ∈ r10.pats, ∀ (kV doc pm : Value) (an : Option Addr) (cdv ct : Value) (us ws : List Value), us.length = n → (us ++ ws).length = r10.ps.length →
    bindArgs (PySem.W.fnOf r10.x r10.x (defArgs r10.st) (defBody r10.st) (defScope r10.st) .none kV doc pm an cdv ct) ⟨us, (r10.ps.drop n).zip ws⟩ = pure (r10.ps.zip (us ++ ws)) := by
  intro n hn kV doc pm an cdv ct us ws h1 h2
  have hn : n = 2 := by simpa [r10] using hn
  subst hn
  · obtain ⟨u0, u1, rfl⟩ := ls2 h1
    have h2 : ws.length = 0 := by
      simp only [List.length_append, List.length_cons, List.length_nil, r10] at h2
      omega
    obtain rfl := ls0 h2
    rfl
theorem sc11 : FnScope r11.N r11.ps (defScope r11.st) := ⟨rfl, rfl, rfl, by decide +kernel, rfl, by decide +kernel, by decide +kernel⟩
theorem kb11 : ∀ n ∈ r11.pats, ∀ (kV doc pm : Value) (an : Option Addr) (cdv ct : Value) (us ws : List Value), us.length = n → (us ++ ws).length = r11.ps.length →
    bindArgs (PySem.W.fnOf r11.x r11.x (defArgs r11.st) (defBody r11.st) (defScope r11.st) .none kV doc pm an cdv ct) ⟨us, (r11.ps.drop n).zip ws⟩ = pure (r11.ps.zip (us ++ ws)) := by
  intro n hn kV doc pm an cdv ct us ws h1 h2
  have hn : n = 2 := by simpa [r11] using hn
  subst hn
  · obtain ⟨u0, u1, rfl⟩ := ls2 h1
    have h2 : ws.length = 0 := by
      simp only [List.length_append, List.length_cons, List.length_nil, r11] at h2
      omega
    obtain rfl := ls0 h2
    rfl
theorem sc12 : FnScope r12.N r12.ps (defScope r12.st) := ⟨rfl, rfl, rfl, by decide +kernel, rfl, by decide +kernel, by decide +kernel⟩
theorem kb12 : ∀ n ∈ r12.pats, ∀ (kV doc pm : Value) (an : Option Addr) (cdv ct : Value) (us ws : List Value), us.length = n → (us ++ ws).length = r12.ps.length →
    bindArgs (PySem.W.fnOf r12.x r12.x (defArgs r12.st) (defBody r12.st) (defScope r12.st) .none kV doc pm an cdv ct) ⟨us, (r12.ps.drop n).zip ws⟩ = pure (r12.ps.zip (us ++ ws)) := by
  intro n hn kV doc pm an cdv ct us ws h1 h2
  have hn : n = 3 := by simpa [r12] using hn
  subst hn
  · obtain ⟨u0, u1, u2, rfl⟩ := ls3 h1
    have h2 : ws.length = 0 := by
      simp only [List.length_append, List.length_cons, List.length_nil, r12] at h2
      omega
    obtain rfl := ls0 h2
    rfl
theorem sc13 : FnScope r13.N r13.ps (defScope r13.st) := ⟨rfl, rfl, rfl, by decide +kernel, rfl, by decide +kernel, by decide +kernel⟩
theorem kb13 : ∀ n ∈ r13.pats, ∀ (kV doc pm : Value) (an : Option Addr) (cdv ct : Value) (us ws : List Value), us.length = n → (us ++ ws).length = r13.ps.length →
    bindArgs (PySem.W.fnOf r13.x r13.x (defArgs r13.st) (defBody r13.st) (defScope r13.st) .none kV doc pm an cdv ct) ⟨us, (r13.ps.drop n).zip ws⟩ = pure (r13.ps.zip (us ++ ws)) := by
  intro n hn kV doc pm an cdv ct us ws h1 h2
  have hn : n = 2 := by simpa [r13] using hn
  subst hn
  · obtain ⟨u0, u1, rfl⟩ := ls2 h1
    have h2 : ws.length = 0 := by
      simp only [List.length_append, List.length_cons, List.length_nil, r13] at h2
      omega
    obtain rfl := ls0 h2
    rfl
theorem sc14 : FnScope r14.N r14.ps (defScope r14.st) := ⟨rfl, rfl, rfl, by decide +kernel, rfl, by decide +kernel, by decide +kernel⟩
theorem kb14 : ∀ n ∈ r14.pats, ∀ (kV doc pm : Value) (an : Option Addr) (cdv ct : Value) (us ws : List Value), us.length = n → (us ++ ws).length = r14.ps.length →
    bindArgs (PySem.W.fnOf r14.x r14.x (defArgs r14.st) (defBody r14.st) (defScope r14.st) .none kV doc pm an cdv ct) ⟨us, (r14.ps.drop n).zip ws⟩ = pure (r14.ps.zip (us ++ ws)) := by
  intro n hn kV doc pm an cdv ct us ws h1 h2
  have hn : n = 2 := by simpa [r14] using hn
  subst hn
  · obtain ⟨u0, u1, rfl⟩ := ls2 h1
    have h2 : ws.length = 0 := by
      simp only [List.length_append, List.length_cons, List.length_nil, r14] at h2
      omega
    obtain rfl := ls0 h2
    rfl
theorem sc15 : FnScope r15.N r15.ps (defScope r15.st) := ⟨rfl, rfl, rfl, by decide +kernel, rfl, by decide +kernel, by decide +kernel⟩
theorem kb15 : ∀ n ∈ r15.pats, ∀ (kV doc pm : Value) (an : Option Addr) (cdv ct : Value) (us ws : List Value), us.length = n → (us ++ ws).length = r15.ps.length →
    bindArgs (PySem.W.fnOf r15.x r15.x (defArgs r15.st) (defBody r15.st) (defScope r15.st) .none kV doc pm an cdv ct) ⟨us, (r15.ps.drop n).zip ws⟩ = pure (r15.ps.zip (us ++ ws)) := by
  intro n hn kV doc pm an cdv ct us ws h1 h2
  have hn : n = 2 := by simpa [r15] using hn
  subst hn
  · obtain ⟨u0, u1, rfl⟩ := ls2 h1
    have h2 : ws.length = 0 := by
      simp only [List.length_append, List.length_cons, List.length_nil, r15] at h2
      omega
    obtain rfl := ls0 h2
    rfl
theorem sc16 : FnScope r16.N r16.ps (defScope r16.st) := ⟨rfl, rfl, rfl, by decide +kernel, rfl, by decide +kernel, by decide +kernel⟩
theorem kb16 : ∀ n ∈ r16.pats, ∀ (kV doc pm : Value) (an : Option Addr) (cdv ct : Value) (us ws : List Value), us.length = n → (us ++ ws).length = r16.ps.length →
    bindArgs (PySem.W.fnOf r16.x r16.x (defArgs r16.st) (defBody r16.st) (defScope r16.st) .none kV doc pm an cdv ct) ⟨us, (r16.ps.drop n).zip ws⟩ = pure (r16.ps.zip (us ++ ws)) := by
  intro n hn kV doc pm an cdv ct us ws h1 h2
  have hn : n = 2 := by simpa [r16] using hn
  subst hn
  · obtain ⟨u0, u1, rfl⟩ := ls2 h1
    have h2 : ws.length = 0 := by
      simp only [List.length_append, List.length_cons, List.length_nil, r16] at h2
      omega
    obtain rfl := ls0 h2
    rfl
theorem sc17 : FnScope r17.N r17.ps (defScope r17.st) := ⟨rfl, rfl, rfl, by decide +kernel, rfl, by decide +kernel, by decide +kernel⟩
theorem kb17 : ∀ n ∈ r17.pats, ∀ (kV doc pm : Value) (an : Option Addr) (cdv ct : Value) (us ws : List Value), us.length = n → (us ++ ws).length = r17.ps.length →
    bindArgs (PySem.W.fnOf r17.x r17.x (defArgs r17.st) (defBody r17.st) (defScope r17.st) .none kV doc pm an cdv ct) ⟨us, (r17.ps.drop n).zip ws⟩ = pure (r17.ps.zip (us ++ ws)) := by
  intro n hn kV doc pm an cdv ct us ws h1 h2
  have hn : n = 0 := by simpa [r17] using hn
  subst hn
  · obtain rfl := ls0 h1
    have h2 : ws.length = 2 := by
      simp only [List.length_append, List.length_cons, List.length_nil, r17] at h2
      omega
    obtain ⟨w0, w1, rfl⟩ := ls2 h2
    rfl
theorem sc18 : FnScope r18.N r18.ps (defScope r18.st) := ⟨rfl, rfl, rfl, by decide +kernel, rfl, by decide +kernel, by decide +kernel⟩
theorem kb18 : ∀ n ∈ r18.pats, ∀ (kV doc pm : Value) (an : Option Addr) (cdv ct : Value) (us ws : List Value), us.length = n → (us ++ ws).length = r18.ps.length →
    bindArgs (PySem.W.fnOf r18.x r18.x (defArgs r18.st) (defBody r18.st) (defScope r18.st) .none kV doc pm an cdv ct) ⟨us, (r18.ps.drop n).zip ws⟩ = pure (r18.ps.zip (us ++ ws)) := by
  intro n hn kV doc pm an cdv ct us ws h1 h2
  have hn : n = 4 := by simpa [r18] using hn
  subst hn
  · obtain ⟨u0, u1, u2, u3, rfl⟩ := ls4 h1
    have h2 : ws.length = 0 := by
      simp only [List.length_append, List.length_cons, List.length_nil, r18] at h2
      omega
    obtain rfl := ls0 h2
    rfl
theorem sc19 : FnScope r19.N r19.ps (defScope r19.st) := ⟨rfl, rfl, rfl, by decide +kernel, rfl, by decide +kernel, by decide +kernel⟩
theorem kb19 : ∀ n ∈ r19.pats, ∀ (kV doc pm : Value) (an : Option Addr) (cdv ct : Value) (us ws : List Value), us.length = n → (us ++ ws).length = r19.ps.length →
    bindArgs (PySem.W.fnOf r19.x r19.x (defArgs r19.st) (defBody r19.st) (defScope r19.st) .none kV doc pm an cdv ct) ⟨us, (r19.ps.drop n).zip ws⟩ = pure (r19.ps.zip (us ++ ws)) := by
  intro n hn kV doc pm an cdv ct us ws h1 h2
  have hn : n = 0 := by simpa [r19] using hn
  subst hn
  · obtain rfl := ls0 h1
    have h2 : ws.length = 5 := by
      simp only [List.length_append, List.length_cons, List.length_nil, r19] at h2
      omega
    obtain ⟨w0, w1, w2, w3, w4, rfl⟩ := ls5 h2
    rfl
theorem sc20 : FnScope r20.N r20.ps (defScope r20.st) := ⟨rfl, rfl, rfl, by decide +kernel, rfl, by decide +kernel, by decide +kernel⟩
theorem kb20 : ∀ n ∈ r20.pats, ∀ (kV doc pm : Value) (an : Option Addr) (cdv ct : Value) (us ws : List Value), us.length = n → (us ++ ws).length = r20.ps.length →
    bindArgs (PySem.W.fnOf r20.x r20.x (defArgs r20.st) (defBody r20.st) (defScope r20.st) .none kV doc pm an cdv ct) ⟨us, (r20.ps.drop n).zip ws⟩ = pure (r20.ps.zip (us ++ ws)) := by
  intro n hn kV doc pm an cdv ct us ws h1 h2
  have hn : n = 0 ∨ n = 4 := by simpa [r20] using hn
  rcases hn with rfl | rfl
  · obtain rfl := ls0 h1
    have h2 : ws.length = 4 := by
      simp only [List.length_append, List.length_cons, List.length_nil, r20] at h2
      omega
    obtain ⟨w0, w1, w2, w3, rfl⟩ := ls4 h2
    rfl
  · obtain ⟨u0, u1, u2, u3, rfl⟩ := ls4 h1
    have h2 : ws.length = 0 := by
      simp only [List.length_append, List.length_cons, List.length_nil, r20] at h2
      omega
    obtain rfl := ls0 h2
    rfl
theorem sc21 : FnScope r21.N r21.ps (defScope r21.st) := ⟨rfl, rfl, rfl, by decide +kernel, rfl, by decide +kernel, by decide +kernel⟩
theorem kb21 : ∀ n ∈ r21.pats, ∀ (kV doc pm : Value) (an : Option Addr) (cdv ct : Value) (us ws : List Value), us.length = n → (us ++ ws).length = r21.ps.length →
    bindArgs (PySem.W.fnOf r21.x r21.x (defArgs r21.st) (defBody r21.st) (defScope r21.st) .none kV doc pm an cdv ct) ⟨us, (r21.ps.drop n).zip ws⟩ = pure (r21.ps.zip (us ++ ws)) := by
  intro n hn kV doc pm an cdv ct us ws h1 h2
  have hn : n = 3 := by simpa [r21] using hn
  subst hn
  · obtain ⟨u0, u1, u2, rfl⟩ := ls3 h1
    have h2 : ws.length = 0 := by
      simp only [List.length_append, List.length_cons, List.length_nil, r21] at h2
      omega
    obtain rfl := ls0 h2
    rfl
theorem sc22 : FnScope r22.N r22.ps (defScope r22.st) := ⟨rfl, rfl, rfl, by decide +kernel, rfl, by decide +kernel, by decide +kernel⟩
theorem kb22 : ∀ n ∈ r22.pats, ∀ (kV doc pm : Value) (an : Option Addr) (cdv ct : Value) (us ws : List Value), us.length = n → (us ++ ws).length = r22.ps.length →
    bindArgs (PySem.W.fnOf r22.x r22.x (defArgs r22.st) (defBody r22.st) (defScope r22.st) .none kV doc pm an cdv ct) ⟨us, (r22.ps.drop n).zip ws⟩ = pure (r22.ps.zip (us ++ ws)) := by
  intro n hn kV doc pm an cdv ct us ws h1 h2
  have hn : n = 2 := by simpa [r22] using hn
  subst hn
  · obtain ⟨u0, u1, rfl⟩ := ls2 h1
    have h2 : ws.length = 0 := by
      simp only [List.length_append, List.length_cons, List.length_nil, r22] at h2
      omega
    obtain rfl := ls0 h2
    rfl
theorem sc23 : FnScope r23.N r23.ps (defScope r23.st) := ⟨rfl, rfl, rfl, by decide +kernel, rfl, by decide +kernel, by decide +kernel⟩
theorem kb23 : ∀ n ∈ r23.pats, ∀ (kV doc pm : Value) (an : Option Addr) (cdv ct : Value) (us ws : List Value), us.length = n → (us ++ ws).length = r23.ps.length →
    bindArgs (PySem.W.fnOf r23.x r23.x (defArgs r23.st) (defBody r23.st) (defScope r23.st) .none kV doc pm an cdv ct) ⟨us, (r23.ps.drop n).zip ws⟩ = pure (r23.ps.zip (us ++ ws)) := by
  intro n hn kV doc pm an cdv ct us ws h1 h2
  have hn : n = 2 := by simpa [r23] using hn
  subst hn
  · obtain ⟨u0, u1, rfl⟩ := ls2 h1
    have h2 : ws.length = 0 := by
      simp only [List.length_append, List.length_cons, List.length_nil, r23] at h2
      omega
    obtain rfl := ls0 h2
    rfl
theorem sc24 : FnScope r24.N r24.ps (defScope r24.st) := ⟨rfl, rfl, rfl, by decide +kernel, rfl, by decide +kernel, by decide +kernel⟩
theorem kb24 : ∀ n ∈ r24.pats, ∀ (kV doc pm : Value) (an : Option Addr) (cdv ct : Value) (us ws : List Value), us.length = n → (us ++ ws).length = r24.ps.length →
    bindArgs (PySem.W.fnOf r24.x r24.x (defArgs r24.st) (defBody r24.st) (defScope r24.st) .none kV doc pm an cdv ct) ⟨us, (r24.ps.drop n).zip ws⟩ = pure (r24.ps.zip (us ++ ws)) := by
  intro n hn kV doc pm an cdv ct us ws h1 h2
  have hn : n = 2 := by simpa [r24] using hn
  subst hn
  · obtain ⟨u0, u1, rfl⟩ := ls2 h1
    have h2 : ws.length = 0 := by
      simp only [List.length_append, List.length_cons, List.length_nil, r24] at h2
      omega
    obtain rfl := ls0 h2
    rfl
theorem sc25 : FnScope r25.N r25.ps (defScope r25.st) := ⟨rfl, rfl, rfl, by decide +kernel, rfl, by decide +kernel, by decide +kernel⟩
theorem kb25 : ∀ n ∈ r25.pats, ∀ (kV doc pm : Value) (an : Option Addr) (cdv ct : Value) (us ws : List Value), us.length = n → (us ++ ws).length = r25.ps.length →
    bindArgs (PySem.W.fnOf r25.x r25.x (defArgs r25.st) (defBody r25.st) (defScope r25.st) .none kV doc pm an cdv ct) ⟨us, (r25.ps.drop n).zip ws⟩ = pure (r25.ps.zip (us ++ ws)) := by
  intro n hn kV doc pm an cdv ct us ws h1 h2
  have hn : n = 3 := by simpa [r25] using hn
  subst hn
  · obtain ⟨u0, u1, u2, rfl⟩ := ls3 h1
    have h2 : ws.length = 0 := by
      simp only [List.length_append, List.length_cons, List.length_nil, r25] at h2
      omega
    obtain rfl := ls0 h2
    rfl
theorem sc26 : FnScope r26.N r26.ps (defScope r26.st) := ⟨rfl, rfl, rfl, by decide +kernel, rfl, by decide +kernel, by decide +kernel⟩
theorem kb26 : ∀ n ∈ r26.pats, ∀ (kV doc pm : Value) (an : Option Addr) (cdv ct : Value) (us ws : List Value), us.length = n → (us ++ ws).length = r26.ps.length →
    bindArgs (PySem.W.fnOf r26.x r26.x (defArgs r26.st) (defBody r26.st) (defScope r26.st) .none kV doc pm an cdv ct) ⟨us, (r26.ps.drop n).zip ws⟩ = pure (r26.ps.zip (us ++ ws)) := by
  intro n hn kV doc pm an cdv ct us ws h1 h2
  have hn : n = 0 := by simpa [r26] using hn
  subst hn
  · obtain rfl := ls0 h1
    have h2 : ws.length = 3 := by
      simp only [List.length_append, List.length_cons, List.length_nil, r26] at h2
      omega
    obtain ⟨w0, w1, w2, rfl⟩ := ls3 h2
    rfl
theorem sc27 : FnScope r27.N r27.ps (defScope r27.st) := ⟨rfl, rfl, rfl, by decide +kernel, rfl, by decide +kernel, by decide +kernel⟩
theorem kb27 : ∀ n ∈ r27.pats, ∀ (kV doc pm : Value) (an : Option Addr) (cdv ct : Value) (us ws : List Value), us.length = n → (us ++ ws).length = r27.ps.length →
    bindArgs (PySem.W.fnOf r27.x r27.x (defArgs r27.st) (defBody r27.st) (defScope r27.st) .none kV doc pm an cdv ct) ⟨us, (r27.ps.drop n).zip ws⟩ = pure (r27.ps.zip (us ++ ws)) := by
  intro n hn kV doc pm an cdv ct us ws h1 h2
  have hn : n = 2 := by simpa [r27] using hn
  subst hn
  · obtain ⟨u0, u1, rfl⟩ := ls2 h1
    have h2 : ws.length = 0 := by
      simp only [List.length_append, List.length_cons, List.length_nil, r27] at h2
      omega
    obtain rfl := ls0 h2
    rfl
theorem sc28 : FnScope r28.N r28.ps (defScope r28.st) := ⟨rfl, rfl, rfl, by decide +kernel, rfl, by decide +kernel, by decide +kernel⟩
theorem kb28 : ∀ n ∈ r28.pats, ∀ (kV doc pm : Value) (an : Option Addr) (cdv ct : Value) (us ws : List Value), us.length = n → (us ++ ws).length = r28.ps.length →
    bindArgs (PySem.W.fnOf r28.x r28.x (defArgs r28.st) (defBody r28.st) (defScope r28.st) .none kV doc pm an cdv ct) ⟨us, (r28.ps.drop n).zip ws⟩ = pure (r28.ps.zip (us ++ ws)) := by
  intro n hn kV doc pm an cdv ct us ws h1 h2
  have hn : n = 2 := by simpa [r28] using hn
  subst hn
  · obtain ⟨u0, u1, rfl⟩ := ls2 h1
    have h2 : ws.length = 0 := by
      simp only [List.length_append, List.length_cons, List.length_nil, r28] at h2
      omega
    obtain rfl := ls0 h2
    rfl
theorem sc29 : FnScope r29.N r29.ps (defScope r29.st) := ⟨rfl, rfl, rfl, by decide +kernel, rfl, by decide +kernel, by decide +kernel⟩
theorem kb29 : ∀ n ∈ r29.pats, ∀ (kV doc pm : Value) (an : Option Addr) (cdv ct : Value) (us ws : List Value), us.length = n → (us ++ ws).length = r29.ps.length →
    bindArgs (PySem.W.fnOf r29.x r29.x (defArgs r29.st) (defBody r29.st) (defScope r29.st) .none kV doc pm an cdv ct) ⟨us, (r29.ps.drop n).zip ws⟩ = pure (r29.ps.zip (us ++ ws)) := by
  intro n hn kV doc pm an cdv ct us ws h1 h2
  have hn : n = 1 := by simpa [r29] using hn
  subst hn
  · obtain ⟨u0, rfl⟩ := ls1 h1
    have h2 : ws.length = 0 := by
      simp only [List.length_append, List.length_cons, List.length_nil, r29] at h2
      omega
    obtain rfl := ls0 h2
    rfl
theorem sc30 : FnScope r30.N r30.ps (defScope r30.st) := ⟨rfl, rfl, rfl, by decide +kernel, rfl, by decide +kernel, by decide +kernel⟩
theorem kb30 : ∀ n ∈ r30.pats, ∀ (kV doc pm : Value) (an : Option Addr) (cdv ct : Value) (us ws : List Value), us.length = n → (us ++ ws).length = r30.ps.length →
    bindArgs (PySem.W.fnOf r30.x r30.x (defArgs r30.st) (defBody r30.st) (defScope r30.st) .none kV doc pm an cdv ct) ⟨us, (r30.ps.drop n).zip ws⟩ = pure (r30.ps.zip (us ++ ws)) := by
  intro n hn kV doc pm an cdv ct us ws h1 h2
  have hn : n = 2 := by simpa [r30] using hn
  subst hn
  · obtain ⟨u0, u1, rfl⟩ := ls2 h1
    have h2 : ws.length = 0 := by
      simp only [List.length_append, List.length_cons, List.length_nil, r30] at h2
      omega
    obtain rfl := ls0 h2
    rfl
theorem sc31 : FnScope r31.N r31.ps (defScope r31.st) := ⟨rfl, rfl, rfl, by decide +kernel, rfl, by decide +kernel, by decide +kernel⟩
theorem kb31 : ∀ n ∈ r31.pats, ∀ (kV doc pm : Value) (an : Option Addr) (cdv ct : Value) (us ws : List Value), us.length = n → (us ++ ws).length = r31.ps.length →
    bindArgs (PySem.W.fnOf r31.x r31.x (defArgs r31.st) (defBody r31.st) (defScope r31.st) .none kV doc pm an cdv ct) ⟨us, (r31.ps.drop n).zip ws⟩ = pure (r31.ps.zip (us ++ ws)) := by
  intro n hn kV doc pm an cdv ct us ws h1 h2
  have hn : n = 2 := by simpa [r31] using hn
  subst hn
  · obtain ⟨u0, u1, rfl⟩ := ls2 h1
    have h2 : ws.length = 0 := by
      simp only [List.length_append, List.length_cons, List.length_nil, r31] at h2
      omega
    obtain rfl := ls0 h2
    rfl
theorem sc32 : FnScope r32.N r32.ps (defScope r32.st) := ⟨rfl, rfl, rfl, by decide +kernel, rfl, by decide +kernel, by decide +kernel⟩
theorem kb32 : ∀ n ∈ r32.pats, ∀ (kV doc pm : Value) (an : Option Addr) (cdv ct : Value) (us ws : List Value), us.length = n → (us ++ ws).length = r32.ps.length →
    bindArgs (PySem.W.fnOf r32.x r32.x (defArgs r32.st) (defBody r32.st) (defScope r32.st) .none kV doc pm an cdv ct) ⟨us, (r32.ps.drop n).zip ws⟩ = pure (r32.ps.zip (us ++ ws)) := by
  intro n hn kV doc pm an cdv ct us ws h1 h2
  have hn : n = 0 := by simpa [r32] using hn
  subst hn
  · obtain rfl := ls0 h1
    have h2 : ws.length = 2 := by
      simp only [List.length_append, List.length_cons, List.length_nil, r32] at h2
      omega
    obtain ⟨w0, w1, rfl⟩ := ls2 h2
    rfl
theorem sc33 : FnScope r33.N r33.ps (defScope r33.st) := ⟨rfl, rfl, rfl, by decide +kernel, rfl, by decide +kernel, by decide +kernel⟩
theorem kb33 : ∀ n ∈ r33.pats, ∀ (kV doc pm : Value) (an : Option Addr) (cdv ct : Value) (us ws : List Value), us.length = n → (us ++ ws).length = r33.ps.length →
    bindArgs (PySem.W.fnOf r33.x r33.x (defArgs r33.st) (defBody r33.st) (defScope r33.st) .none kV doc pm an cdv ct) ⟨us, (r33.ps.drop n).zip ws⟩ = pure (r33.ps.zip (us ++ ws)) := by
  intro n hn kV doc pm an cdv ct us ws h1 h2
  have hn : n = 2 := by simpa [r33] using hn
  subst hn
  · obtain ⟨u0, u1, rfl⟩ := ls2 h1
    have h2 : ws.length = 0 := by
      simp only [List.length_append, List.length_cons, List.length_nil, r33] at h2
      omega
    obtain rfl := ls0 h2
    rfl
theorem sc34 : FnScope r34.N r34.ps (defScope r34.st) := ⟨rfl, rfl, rfl, by decide +kernel, rfl, by decide +kernel, by decide +kernel⟩
theorem kb34 : ∀ n ∈ r34.pats, ∀ (kV doc pm : Value) (an : Option Addr) (cdv ct : Value) (us ws : List Value), us.length = n → (us ++ ws).length = r34.ps.length →
    bindArgs (PySem.W.fnOf r34.x r34.x (defArgs r34.st) (defBody r34.st) (defScope r34.st) .none kV doc pm an cdv ct) ⟨us, (r34.ps.drop n).zip ws⟩ = pure (r34.ps.zip (us ++ ws)) := by
  intro n hn kV doc pm an cdv ct us ws h1 h2
  have hn : n = 2 := by simpa [r34] using hn
  subst hn
  · obtain ⟨u0, u1, rfl⟩ := ls2 h1
    have h2 : ws.length = 0 := by
      simp only [List.length_append, List.length_cons, List.length_nil, r34] at h2
      omega
    obtain rfl := ls0 h2
    rfl
theorem sc35 : FnScope r35.N r35.ps (defScope r35.st) := ⟨rfl, rfl, rfl, by decide +kernel, rfl, by decide +kernel, by decide +kernel⟩
theorem kb35 : ∀ n ∈ r35.pats, ∀ (kV doc pm : Value) (an : Option Addr) (cdv ct : Value) (us ws : List Value), us.length = n → (us ++ ws).length = r35.ps.length →
    bindArgs (PySem.W.fnOf r35.x r35.x (defArgs r35.st) (defBody r35.st) (defScope r35.st) .none kV doc pm an cdv ct) ⟨us, (r35.ps.drop n).zip ws⟩ = pure (r35.ps.zip (us ++ ws)) := by
  intro n hn kV doc pm an cdv ct us ws h1 h2
  have hn : n = 2 := by simpa [r35] using hn
  subst hn
  · obtain ⟨u0, u1, rfl⟩ := ls2 h1
    have h2 : ws.length = 0 := by
      simp only [List.length_append, List.length_cons, List.length_nil, r35] at h2
      omega
    obtain rfl := ls0 h2
    rfl
theorem sc36 : FnScope r36.N r36.ps (defScope r36.st) := ⟨rfl, rfl, rfl, by decide +kernel, rfl, by decide +kernel, by decide +kernel⟩
theorem kb36 : ∀ n ∈ r36.pats, ∀ (kV doc pm : Value) (an : Option Addr) (cdv ct : Value) (us ws : List Value), us.length = n → (us ++ ws).length = r36.ps.length →
    bindArgs (PySem.W.fnOf r36.x r36.x (defArgs r36.st) (defBody r36.st) (defScope r36.st) .none kV doc pm an cdv ct) ⟨us, (r36.ps.drop n).zip ws⟩ = pure (r36.ps.zip (us ++ ws)) := by
  intro n hn kV doc pm an cdv ct us ws h1 h2
  have hn : n = 2 := by simpa [r36] using hn
  subst hn
  · obtain ⟨u0, u1, rfl⟩ := ls2 h1
    have h2 : ws.length = 0 := by
      simp only [List.length_append, List.length_cons, List.length_nil, r36] at h2
      omega
    obtain rfl := ls0 h2
    rfl
theorem sc37 : FnScope r37.N r37.ps (defScope r37.st) := ⟨rfl, rfl, rfl, by decide +kernel, rfl, by decide +kernel, by decide +kernel⟩
theorem kb37 : ∀ n ∈ r37.pats, ∀ (kV doc pm : Value) (an : Option Addr) (cdv ct : Value) (us ws : List Value), us.length = n → (us ++ ws).length = r37.ps.length →
    bindArgs (PySem.W.fnOf r37.x r37.x (defArgs r37.st) (defBody r37.st) (defScope r37.st) .none kV doc pm an cdv ct) ⟨us, (r37.ps.drop n).zip ws⟩ = pure (r37.ps.zip (us ++ ws)) := by
  intro n hn kV doc pm an cdv ct us ws h1 h2
  have hn : n = 3 := by simpa [r37] using hn
  subst hn
  · obtain ⟨u0, u1, u2, rfl⟩ := ls3 h1
    have h2 : ws.length = 0 := by
      simp only [List.length_append, List.length_cons, List.length_nil, r37] at h2
      omega
    obtain rfl := ls0 h2
    rfl
theorem sc38 : FnScope r38.N r38.ps (defScope r38.st) := ⟨rfl, rfl, rfl, by decide +kernel, rfl, by decide +kernel, by decide +kernel⟩
theorem kb38 : ∀ n ∈ r38.pats, ∀ (kV doc pm : Value) (an : Option Addr) (cdv ct : Value) (us ws : List Value), us.length = n → (us ++ ws).length = r38.ps.length →
    bindArgs (PySem.W.fnOf r38.x r38.x (defArgs r38.st) (defBody r38.st) (defScope r38.st) .none kV doc pm an cdv ct) ⟨us, (r38.ps.drop n).zip ws⟩ = pure (r38.ps.zip (us ++ ws)) := by
  intro n hn kV doc pm an cdv ct us ws h1 h2
  have hn : n = 2 := by simpa [r38] using hn
  subst hn
  · obtain ⟨u0, u1, rfl⟩ := ls2 h1
    have h2 : ws.length = 0 := by
      simp only [List.length_append, List.length_cons, List.length_nil, r38] at h2
      omega
    obtain rfl := ls0 h2
    rfl
theorem sc39 : FnScope r39.N r39.ps (defScope r39.st) := ⟨rfl, rfl, rfl, by decide +kernel, rfl, by decide +kernel, by decide +kernel⟩
theorem kb39 : ∀ n ∈ r39.pats, ∀ (kV doc pm : Value) (an : Option Addr) (cdv ct : Value) (us ws : List Value), us.length = n → (us ++ ws).length = r39.ps.length →
    bindArgs (PySem.W.fnOf r39.x r39.x (defArgs r39.st) (defBody r39.st) (defScope r39.st) .none kV doc pm an cdv ct) ⟨us, (r39.ps.drop n).zip ws⟩ = pure (r39.ps.zip (us ++ ws)) := by
  intro n hn kV doc pm an cdv ct us ws h1 h2
  have hn : n = 1 := by simpa [r39] using hn
  subst hn
  · obtain ⟨u0, rfl⟩ := ls1 h1
    have h2 : ws.length = 0 := by
      simp only [List.length_append, List.length_cons, List.length_nil, r39] at h2
      omega
    obtain rfl := ls0 h2
    rfl
theorem sc40 : FnScope r40.N r40.ps (defScope r40.st) := ⟨rfl, rfl, rfl, by decide +kernel, rfl, by decide +kernel, by decide +kernel⟩
theorem kb40 : ∀ n ∈ r40.pats, ∀ (kV doc pm : Value) (an : Option Addr) (cdv ct : Value) (us ws : List Value), us.length = n → (us ++ ws).length = r40.ps.length →
    bindArgs (PySem.W.fnOf r40.x r40.x (defArgs r40.st) (defBody r40.st) (defScope r40.st) .none kV doc pm an cdv ct) ⟨us, (r40.ps.drop n).zip ws⟩ = pure (r40.ps.zip (us ++ ws)) := by
  intro n hn kV doc pm an cdv ct us ws h1 h2
  have hn : n = 2 := by simpa [r40] using hn
  subst hn
  · obtain ⟨u0, u1, rfl⟩ := ls2 h1
    have h2 : ws.length = 0 := by
      simp only [List.length_append, List.length_cons, List.length_nil, r40] at h2
      omega
    obtain rfl := ls0 h2
    rfl
theorem sc41 : FnScope r41.N r41.ps (defScope r41.st) := ⟨rfl, rfl, rfl, by decide +kernel, rfl, by decide +kernel, by decide +kernel⟩
theorem kb41 : ∀ n ∈ r41.pats, ∀ (kV doc pm : Value) (an : Option Addr) (cdv ct : Value) (us ws : List Value), us.length = n → (us ++ ws).length = r41.ps.length →
    bindArgs (PySem.W.fnOf r41.x r41.x (defArgs r41.st) (defBody r41.st) (defScope r41.st) .none kV doc pm an cdv ct) ⟨us, (r41.ps.drop n).zip ws⟩ = pure (r41.ps.zip (us ++ ws)) := by
  intro n hn kV doc pm an cdv ct us ws h1 h2
  have hn : n = 3 := by simpa [r41] using hn
  subst hn
  · obtain ⟨u0, u1, u2, rfl⟩ := ls3 h1
    have h2 : ws.length = 0 := by
      simp only [List.length_append, List.length_cons, List.length_nil, r41] at h2
      omega
    obtain rfl := ls0 h2
    rfl
theorem sc42 : FnScope r42.N r42.ps (defScope r42.st) := ⟨rfl, rfl, rfl, by decide +kernel, rfl, by decide +kernel, by decide +kernel⟩
theorem kb42 : ∀ n ∈ r42.pats, ∀ (kV doc pm : Value) (an : Option Addr) (cdv ct : Value) (us ws : List Value), us.length = n → (us ++ ws).length = r42.ps.length →
    bindArgs (PySem.W.fnOf r42.x r42.x (defArgs r42.st) (defBody r42.st) (defScope r42.st) .none kV doc pm an cdv ct) ⟨us, (r42.ps.drop n).zip ws⟩ = pure (r42.ps.zip (us ++ ws)) := by
  intro n hn kV doc pm an cdv ct us ws h1 h2
  have hn : n = 2 := by simpa [r42] using hn
  subst hn
  · obtain ⟨u0, u1, rfl⟩ := ls2 h1
    have h2 : ws.length = 0 := by
      simp only [List.length_append, List.length_cons, List.length_nil, r42] at h2
      omega
    obtain rfl := ls0 h2
    rfl
theorem sc43 : FnScope r43.N r43.ps (defScope r43.st) := ⟨rfl, rfl, rfl, by decide +kernel, rfl, by decide +kernel, by decide +kernel⟩
theorem kb43 : ∀ n ∈ r43.pats, ∀ (kV doc pm : Value) (an : Option Addr) (cdv ct : Value) (us ws : List Value), us.length = n → (us ++ ws).length = r43.ps.length →
    bindArgs (PySem.W.fnOf r43.x r43.x (defArgs r43.st) (defBody r43.st) (defScope r43.st) .none kV doc pm an cdv ct) ⟨us, (r43.ps.drop n).zip ws⟩ = pure (r43.ps.zip (us ++ ws)) := by
  intro n hn kV doc pm an cdv ct us ws h1 h2
  have hn : n = 0 := by simpa [r43] using hn
  subst hn
  · obtain rfl := ls0 h1
    have h2 : ws.length = 0 := by
      simp only [List.length_append, List.length_cons, List.length_nil, r43] at h2
      omega
    obtain rfl := ls0 h2
    rfl
theorem sc44 : FnScope r44.N r44.ps (defScope r44.st) := ⟨rfl, rfl, rfl, by decide +kernel, rfl, by decide +kernel, by decide +kernel⟩
theorem kb44 : ∀ n ∈ r44.pats, ∀ (kV doc pm : Value) (an : Option Addr) (cdv ct : Value) (us ws : List Value), us.length = n → (us ++ ws).length = r44.ps.length →
    bindArgs (PySem.W.fnOf r44.x r44.x (defArgs r44.st) (defBody r44.st) (defScope r44.st) .none kV doc pm an cdv ct) ⟨us, (r44.ps.drop n).zip ws⟩ = pure (r44.ps.zip (us ++ ws)) := by
  intro n hn kV doc pm an cdv ct us ws h1 h2
  have hn : n = 2 := by simpa [r44] using hn
  subst hn
  · obtain ⟨u0, u1, rfl⟩ := ls2 h1
    have h2 : ws.length = 0 := by
      simp only [List.length_append, List.length_cons, List.length_nil, r44] at h2
      omega
    obtain rfl := ls0 h2
    rfl
theorem sc45 : FnScope r45.N r45.ps (defScope r45.st) := ⟨rfl, rfl, rfl, by decide +kernel, rfl, by decide +kernel, by decide +kernel⟩
theorem kb45 : ∀ n ∈ r45.pats, ∀ (kV doc pm : Value) (an : Option Addr) (cdv ct : Value) (us ws : List Value), us.length = n → (us ++ ws).length = r45.ps.length →
    bindArgs (PySem.W.fnOf r45.x r45.x (defArgs r45.st) (defBody r45.st) (defScope r45.st) .none kV doc pm an cdv ct) ⟨us, (r45.ps.drop n).zip ws⟩ = pure (r45.ps.zip (us ++ ws)) := by
  intro n hn kV doc pm an cdv ct us ws h1 h2
  have hn : n = 2 := by simpa [r45] using hn
  subst hn
  · obtain ⟨u0, u1, rfl⟩ := ls2 h1
    have h2 : ws.length = 0 := by
      simp only [List.length_append, List.length_cons, List.length_nil, r45] at h2
      omega
    obtain rfl := ls0 h2
    rfl
theorem sc46 : FnScope r46.N r46.ps (defScope r46.st) := ⟨rfl, rfl, rfl, by decide +kernel, rfl, by decide +kernel, by decide +kernel⟩
theorem kb46 : ∀ n ∈ r46.pats, ∀ (kV doc pm : Value) (an : Option Addr) (cdv ct : Value) (us ws : List Value), us.length = n → (us ++ ws).length = r46.ps.length →
    bindArgs (PySem.W.fnOf r46.x r46.x (defArgs r46.st) (defBody r46.st) (defScope r46.st) .none kV doc pm an cdv ct) ⟨us, (r46.ps.drop n).zip ws⟩ = pure (r46.ps.zip (us ++ ws)) := by
  intro n hn kV doc pm an cdv ct us ws h1 h2
  have hn : n = 4 := by simpa [r46] using hn
  subst hn
  · obtain ⟨u0, u1, u2, u3, rfl⟩ := ls4 h1
    have h2 : ws.length = 0 := by
      simp only [List.length_append, List.length_cons, List.length_nil, r46] at h2
      omega
    obtain rfl := ls0 h2
    rfl
theorem sc47 : FnScope r47.N r47.ps (defScope r47.st) := ⟨rfl, rfl, rfl, by decide +kernel, rfl, by decide +kernel, by decide +kernel⟩
theorem kb47 : ∀ n ∈ r47.pats, ∀ (kV doc pm : Value) (an : Option Addr) (cdv ct : Value) (us ws : List Value), us.length = n → (us ++ ws).length = r47.ps.length →
    bindArgs (PySem.W.fnOf r47.x r47.x (defArgs r47.st) (defBody r47.st) (defScope r47.st) .none kV doc pm an cdv ct) ⟨us, (r47.ps.drop n).zip ws⟩ = pure (r47.ps.zip (us ++ ws)) := by
  intro n hn kV doc pm an cdv ct us ws h1 h2
  have hn : n = 2 := by simpa [r47] using hn
  subst hn
  · obtain ⟨u0, u1, rfl⟩ := ls2 h1
    have h2 : ws.length = 0 := by
      simp only [List.length_append, List.length_cons, List.length_nil, r47] at h2
      omega
    obtain rfl := ls0 h2
    rfl
theorem sc48 : FnScope r48.N r48.ps (defScope r48.st) := ⟨rfl, rfl, rfl, by decide +kernel, rfl, by decide +kernel, by decide +kernel⟩
theorem kb48 : ∀ n ∈ r48.pats, ∀ (kV doc pm : Value) (an : Option Addr) (cdv ct : Value) (us ws : List Value), us.length = n → (us ++ ws).length = r48.ps.length →
    bindArgs (PySem.W.fnOf r48.x r48.x (defArgs r48.st) (defBody r48.st) (defScope r48.st) .none kV doc pm an cdv ct) ⟨us, (r48.ps.drop n).zip ws⟩ = pure (r48.ps.zip (us ++ ws)) := by
  intro n hn kV doc pm an cdv ct us ws h1 h2
  have hn : n = 1 := by simpa [r48] using hn
  subst hn
  · obtain ⟨u0, rfl⟩ := ls1 h1
    have h2 : ws.length = 0 := by
      simp only [List.length_append, List.length_cons, List.length_nil, r48] at h2
      omega
    obtain rfl := ls0 h2
    rfl
section
variable {K : PySem.W.Frag} {h : Heap} {mg : Str → Option Value} {f0 f1 f2 f3 f4 f5 f6 f7 f8 f9 f10 f11 f12 f13 f14 f15 f16 f17 f18 f19 f20 f21 f22 f23 f24 f25 f26 f27 f28 f29 f30 f31 f32 f33 f34 f35 f36 f37 f38 f39 f40 f41 f42 f43 f44 f45 f46 f47 f48 e0 e1 : Addr}
theorem ro0 {oc kV dc pm cd ct : Value} {od an : Option Addr} {sl : Array (Option Value)} (X : K.In h) (G : h.Ns mainGlobals mg) (a : PySem.W.nsIn K mainGlobals "is_number" = some (some (.ref f0)))
    (l : K.lookup f0 = some ⟨oc, od, .func (PySem.W.fnOf "is_number" "is_number" (defArgs (top 4)) (defBody (top 4)) (defScope (top 4)) .none kV dc pm an cd ct), sl⟩) (c : PySem.W.codeIn K cd "is_number" = true) (k : PySem.W.keepIn K (.ref f0) = true) : RowOk K mg r0 := row_of X G a l c k sc0 kb0
theorem ro1 {oc kV dc pm cd ct : Value} {od an : Option Addr} {sl : Array (Option Value)} (X : K.In h) (G : h.Ns mainGlobals mg) (a : PySem.W.nsIn K mainGlobals "is_within" = some (some (.ref f1)))
    (l : K.lookup f1 = some ⟨oc, od, .func (PySem.W.fnOf "is_within" "is_within" (defArgs (top 5)) (defBody (top 5)) (defScope (top 5)) .none kV dc pm an cd ct), sl⟩) (c : PySem.W.codeIn K cd "is_within" = true) (k : PySem.W.keepIn K (.ref f1) = true) : RowOk K mg r1 := row_of X G a l c k sc1 kb1
theorem ro2 {oc kV dc pm cd ct : Value} {od an : Option Addr} {sl : Array (Option Value)} (X : K.In h) (G : h.Ns mainGlobals mg) (a : PySem.W.nsIn K mainGlobals "is_long" = some (some (.ref f2)))
    (l : K.lookup f2 = some ⟨oc, od, .func (PySem.W.fnOf "is_long" "is_long" (defArgs (top 6)) (defBody (top 6)) (defScope (top 6)) .none kV dc pm an cd ct), sl⟩) (c : PySem.W.codeIn K cd "is_long" = true) (k : PySem.W.keepIn K (.ref f2) = true) : RowOk K mg r2 := row_of X G a l c k sc2 kb2
theorem ro3 {oc kV dc pm cd ct : Value} {od an : Option Addr} {sl : Array (Option Value)} (X : K.In h) (G : h.Ns mainGlobals mg) (a : PySem.W.nsIn K mainGlobals "are_numbers" = some (some (.ref f3)))
    (l : K.lookup f3 = some ⟨oc, od, .func (PySem.W.fnOf "are_numbers" "are_numbers" (defArgs (top 7)) (defBody (top 7)) (defScope (top 7)) .none kV dc pm an cd ct), sl⟩) (c : PySem.W.codeIn K cd "are_numbers" = true) (k : PySem.W.keepIn K (.ref f3) = true) : RowOk K mg r3 := row_of X G a l c k sc3 kb3
theorem ro4 {oc kV dc pm cd ct : Value} {od an : Option Addr} {sl : Array (Option Value)} (X : K.In h) (G : h.Ns mainGlobals mg) (a : PySem.W.nsIn K mainGlobals "tupled" = some (some (.ref f4)))
    (l : K.lookup f4 = some ⟨oc, od, .func (PySem.W.fnOf "tupled" "tupled" (defArgs (top 8)) (defBody (top 8)) (defScope (top 8)) .none kV dc pm an cd ct), sl⟩) (c : PySem.W.codeIn K cd "tupled" = true) (k : PySem.W.keepIn K (.ref f4) = true) : RowOk K mg r4 := row_of X G a l c k sc4 kb4
theorem ro5 {oc kV dc pm cd ct : Value} {od an : Option Addr} {sl : Array (Option Value)} (X : K.In h) (G : h.Ns mainGlobals mg) (a : PySem.W.nsIn K mainGlobals "sure_within" = some (some (.ref f5)))
    (l : K.lookup f5 = some ⟨oc, od, .func (PySem.W.fnOf "sure_within" "sure_within" (defArgs (top 9)) (defBody (top 9)) (defScope (top 9)) .none kV dc pm an cd ct), sl⟩) (c : PySem.W.codeIn K cd "sure_within" = true) (k : PySem.W.keepIn K (.ref f5) = true) : RowOk K mg r5 := row_of X G a l c k sc5 kb5
theorem ro6 {oc kV dc pm cd ct : Value} {od an : Option Addr} {sl : Array (Option Value)} (X : K.In h) (G : h.Ns mainGlobals mg) (a : PySem.W.nsIn K mainGlobals "are_weights" = some (some (.ref f6)))
    (l : K.lookup f6 = some ⟨oc, od, .func (PySem.W.fnOf "are_weights" "are_weights" (defArgs (top 17)) (defBody (top 17)) (defScope (top 17)) .none kV dc pm an cd ct), sl⟩) (c : PySem.W.codeIn K cd "are_weights" = true) (k : PySem.W.keepIn K (.ref f6) = true) : RowOk K mg r6 := row_of X G a l c k sc6 kb6
theorem ro7 {oc kV dc pm cd ct : Value} {od an : Option Addr} {sl : Array (Option Value)} (X : K.In h) (G : h.Ns mainGlobals mg) (a : PySem.W.nsIn K mainGlobals "is_equation_in" = some (some (.ref f7)))
    (l : K.lookup f7 = some ⟨oc, od, .func (PySem.W.fnOf "is_equation_in" "is_equation_in" (defArgs (top 18)) (defBody (top 18)) (defScope (top 18)) .none kV dc pm an cd ct), sl⟩) (c : PySem.W.codeIn K cd "is_equation_in" = true) (k : PySem.W.keepIn K (.ref f7) = true) : RowOk K mg r7 := row_of X G a l c k sc7 kb7
theorem ro8 {oc kV dc pm cd ct : Value} {od an : Option Addr} {sl : Array (Option Value)} (X : K.In h) (G : h.Ns mainGlobals mg) (a : PySem.W.nsIn K mainGlobals "sure_equation" = some (some (.ref f8)))
    (l : K.lookup f8 = some ⟨oc, od, .func (PySem.W.fnOf "sure_equation" "sure_equation" (defArgs (top 19)) (defBody (top 19)) (defScope (top 19)) .none kV dc pm an cd ct), sl⟩) (c : PySem.W.codeIn K cd "sure_equation" = true) (k : PySem.W.keepIn K (.ref f8) = true) : RowOk K mg r8 := row_of X G a l c k sc8 kb8
theorem ro9 {oc kV dc pm cd ct : Value} {od an : Option Addr} {sl : Array (Option Value)} (X : K.In h) (G : h.Ns mainGlobals mg) (a : PySem.W.nsIn K mainGlobals "product_of" = some (some (.ref f9)))
    (l : K.lookup f9 = some ⟨oc, od, .func (PySem.W.fnOf "product_of" "product_of" (defArgs (top 20)) (defBody (top 20)) (defScope (top 20)) .none kV dc pm an cd ct), sl⟩) (c : PySem.W.codeIn K cd "product_of" = true) (k : PySem.W.keepIn K (.ref f9) = true) : RowOk K mg r9 := row_of X G a l c k sc9 kb9
theorem ro10 {oc kV dc pm cd ct : Value} {od an : Option Addr} {sl : Array (Option Value)} (X : K.In h) (G : h.Ns mainGlobals mg) (a : PySem.W.nsIn K mainGlobals "shares_in" = some (some (.ref f10)))
    (l : K.lookup f10 = some ⟨oc, od, .func (PySem.W.fnOf "shares_in" "shares_in" (defArgs (top 21)) (defBody (top 21)) (defScope (top 21)) .none kV dc pm an cd ct), sl⟩) (c : PySem.W.codeIn K cd "shares_in" = true) (k : PySem.W.keepIn K (.ref f10) = true) : RowOk K mg r10 := row_of X G a l c k sc10 kb10
theorem ro11 {oc kV dc pm cd ct : Value} {od an : Option Addr} {sl : Array (Option Value)} (X : K.In h) (G : h.Ns mainGlobals mg) (a : PySem.W.nsIn K mainGlobals "sides_in" = some (some (.ref f11)))
    (l : K.lookup f11 = some ⟨oc, od, .func (PySem.W.fnOf "sides_in" "sides_in" (defArgs (top 22)) (defBody (top 22)) (defScope (top 22)) .none kV dc pm an cd ct), sl⟩) (c : PySem.W.codeIn K cd "sides_in" = true) (k : PySem.W.keepIn K (.ref f11) = true) : RowOk K mg r11 := row_of X G a l c k sc11 kb11
theorem ro12 {oc kV dc pm cd ct : Value} {od an : Option Addr} {sl : Array (Option Value)} (X : K.In h) (G : h.Ns mainGlobals mg) (a : PySem.W.nsIn K mainGlobals "are_from_one" = some (some (.ref f12)))
    (l : K.lookup f12 = some ⟨oc, od, .func (PySem.W.fnOf "are_from_one" "are_from_one" (defArgs (top 23)) (defBody (top 23)) (defScope (top 23)) .none kV dc pm an cd ct), sl⟩) (c : PySem.W.codeIn K cd "are_from_one" = true) (k : PySem.W.keepIn K (.ref f12) = true) : RowOk K mg r12 := row_of X G a l c k sc12 kb12
theorem ro13 {oc kV dc pm cd ct : Value} {od an : Option Addr} {sl : Array (Option Value)} (X : K.In h) (G : h.Ns mainGlobals mg) (a : PySem.W.nsIn K mainGlobals "is_solution_in" = some (some (.ref f13)))
    (l : K.lookup f13 = some ⟨oc, od, .func (PySem.W.fnOf "is_solution_in" "is_solution_in" (defArgs (top 24)) (defBody (top 24)) (defScope (top 24)) .none kV dc pm an cd ct), sl⟩) (c : PySem.W.codeIn K cd "is_solution_in" = true) (k : PySem.W.keepIn K (.ref f13) = true) : RowOk K mg r13 := row_of X G a l c k sc13 kb13
theorem ro14 {oc kV dc pm cd ct : Value} {od an : Option Addr} {sl : Array (Option Value)} (X : K.In h) (G : h.Ns mainGlobals mg) (a : PySem.W.nsIn K mainGlobals "sure_solution" = some (some (.ref f14)))
    (l : K.lookup f14 = some ⟨oc, od, .func (PySem.W.fnOf "sure_solution" "sure_solution" (defArgs (top 25)) (defBody (top 25)) (defScope (top 25)) .none kV dc pm an cd ct), sl⟩) (c : PySem.W.codeIn K cd "sure_solution" = true) (k : PySem.W.keepIn K (.ref f14) = true) : RowOk K mg r14 := row_of X G a l c k sc14 kb14
theorem ro15 {oc kV dc pm cd ct : Value} {od an : Option Addr} {sl : Array (Option Value)} (X : K.In h) (G : h.Ns mainGlobals mg) (a : PySem.W.nsIn K mainGlobals "sure_place" = some (some (.ref f15)))
    (l : K.lookup f15 = some ⟨oc, od, .func (PySem.W.fnOf "sure_place" "sure_place" (defArgs (top 26)) (defBody (top 26)) (defScope (top 26)) .none kV dc pm an cd ct), sl⟩) (c : PySem.W.codeIn K cd "sure_place" = true) (k : PySem.W.keepIn K (.ref f15) = true) : RowOk K mg r15 := row_of X G a l c k sc15 kb15
theorem ro16 {oc kV dc pm cd ct : Value} {od an : Option Addr} {sl : Array (Option Value)} (X : K.In h) (G : h.Ns mainGlobals mg) (a : PySem.W.nsIn K mainGlobals "is_word_in" = some (some (.ref f16)))
    (l : K.lookup f16 = some ⟨oc, od, .func (PySem.W.fnOf "is_word_in" "is_word_in" (defArgs (top 27)) (defBody (top 27)) (defScope (top 27)) .none kV dc pm an cd ct), sl⟩) (c : PySem.W.codeIn K cd "is_word_in" = true) (k : PySem.W.keepIn K (.ref f16) = true) : RowOk K mg r16 := row_of X G a l c k sc16 kb16
theorem ro17 {oc kV dc pm cd ct : Value} {od an : Option Addr} {sl : Array (Option Value)} (X : K.In h) (G : h.Ns mainGlobals mg) (a : PySem.W.nsIn K mainGlobals "shares" = some (some (.ref f17)))
    (l : K.lookup f17 = some ⟨oc, od, .func (PySem.W.fnOf "shares" "shares" (defArgs (top 28)) (defBody (top 28)) (defScope (top 28)) .none kV dc pm an cd ct), sl⟩) (c : PySem.W.codeIn K cd "shares" = true) (k : PySem.W.keepIn K (.ref f17) = true) : RowOk K mg r17 := row_of X G a l c k sc17 kb17
theorem ro18 {oc kV dc pm cd ct : Value} {od an : Option Addr} {sl : Array (Option Value)} (X : K.In h) (G : h.Ns mainGlobals mg) (a : PySem.W.nsIn K mainGlobals "sure_road" = some (some (.ref f18)))
    (l : K.lookup f18 = some ⟨oc, od, .func (PySem.W.fnOf "sure_road" "sure_road" (defArgs (top 31)) (defBody (top 31)) (defScope (top 31)) .none kV dc pm an cd ct), sl⟩) (c : PySem.W.codeIn K cd "sure_road" = true) (k : PySem.W.keepIn K (.ref f18) = true) : RowOk K mg r18 := row_of X G a l c k sc18 kb18
theorem ro19 {oc kV dc pm cd ct : Value} {od an : Option Addr} {sl : Array (Option Value)} (X : K.In h) (G : h.Ns mainGlobals mg) (a : PySem.W.nsIn K mainGlobals "road" = some (some (.ref f19)))
    (l : K.lookup f19 = some ⟨oc, od, .func (PySem.W.fnOf "road" "road" (defArgs (top 32)) (defBody (top 32)) (defScope (top 32)) .none kV dc pm an cd ct), sl⟩) (c : PySem.W.codeIn K cd "road" = true) (k : PySem.W.keepIn K (.ref f19) = true) : RowOk K mg r19 := row_of X G a l c k sc19 kb19
theorem ro20 {oc kV dc pm cd ct : Value} {od an : Option Addr} {sl : Array (Option Value)} (X : K.In h) (G : h.Ns mainGlobals mg) (a : PySem.W.nsIn K mainGlobals "road_step" = some (some (.ref f20)))
    (l : K.lookup f20 = some ⟨oc, od, .func (PySem.W.fnOf "road_step" "road_step" (defArgs (top 33)) (defBody (top 33)) (defScope (top 33)) .none kV dc pm an cd ct), sl⟩) (c : PySem.W.codeIn K cd "road_step" = true) (k : PySem.W.keepIn K (.ref f20) = true) : RowOk K mg r20 := row_of X G a l c k sc20 kb20
theorem ro21 {oc kV dc pm cd ct : Value} {od an : Option Addr} {sl : Array (Option Value)} (X : K.In h) (G : h.Ns mainGlobals mg) (a : PySem.W.nsIn K mainGlobals "flipped_in" = some (some (.ref f21)))
    (l : K.lookup f21 = some ⟨oc, od, .func (PySem.W.fnOf "flipped_in" "flipped_in" (defArgs (top 35)) (defBody (top 35)) (defScope (top 35)) .none kV dc pm an cd ct), sl⟩) (c : PySem.W.codeIn K cd "flipped_in" = true) (k : PySem.W.keepIn K (.ref f21) = true) : RowOk K mg r21 := row_of X G a l c k sc21 kb21
theorem ro22 {oc kV dc pm cd ct : Value} {od an : Option Addr} {sl : Array (Option Value)} (X : K.In h) (G : h.Ns mainGlobals mg) (a : PySem.W.nsIn K mainGlobals "lowering_in" = some (some (.ref f22)))
    (l : K.lookup f22 = some ⟨oc, od, .func (PySem.W.fnOf "lowering_in" "lowering_in" (defArgs (top 36)) (defBody (top 36)) (defScope (top 36)) .none kV dc pm an cd ct), sl⟩) (c : PySem.W.codeIn K cd "lowering_in" = true) (k : PySem.W.keepIn K (.ref f22) = true) : RowOk K mg r22 := row_of X G a l c k sc22 kb22
theorem ro23 {oc kV dc pm cd ct : Value} {od an : Option Addr} {sl : Array (Option Value)} (X : K.In h) (G : h.Ns mainGlobals mg) (a : PySem.W.nsIn K mainGlobals "idle_in" = some (some (.ref f23)))
    (l : K.lookup f23 = some ⟨oc, od, .func (PySem.W.fnOf "idle_in" "idle_in" (defArgs (top 37)) (defBody (top 37)) (defScope (top 37)) .none kV dc pm an cd ct), sl⟩) (c : PySem.W.codeIn K cd "idle_in" = true) (k : PySem.W.keepIn K (.ref f23) = true) : RowOk K mg r23 := row_of X G a l c k sc23 kb23
theorem ro24 {oc kV dc pm cd ct : Value} {od an : Option Addr} {sl : Array (Option Value)} (X : K.In h) (G : h.Ns mainGlobals mg) (a : PySem.W.nsIn K mainGlobals "way_down" = some (some (.ref f24)))
    (l : K.lookup f24 = some ⟨oc, od, .func (PySem.W.fnOf "way_down" "way_down" (defArgs (top 38)) (defBody (top 38)) (defScope (top 38)) .none kV dc pm an cd ct), sl⟩) (c : PySem.W.codeIn K cd "way_down" = true) (k : PySem.W.keepIn K (.ref f24) = true) : RowOk K mg r24 := row_of X G a l c k sc24 kb24
theorem ro25 {oc kV dc pm cd ct : Value} {od an : Option Addr} {sl : Array (Option Value)} (X : K.In h) (G : h.Ns mainGlobals mg) (a : PySem.W.nsIn K mainGlobals "walked_in" = some (some (.ref f25)))
    (l : K.lookup f25 = some ⟨oc, od, .func (PySem.W.fnOf "walked_in" "walked_in" (defArgs (top 39)) (defBody (top 39)) (defScope (top 39)) .none kV dc pm an cd ct), sl⟩) (c : PySem.W.codeIn K cd "walked_in" = true) (k : PySem.W.keepIn K (.ref f25) = true) : RowOk K mg r25 := row_of X G a l c k sc25 kb25
theorem ro26 {oc kV dc pm cd ct : Value} {od an : Option Addr} {sl : Array (Option Value)} (X : K.In h) (G : h.Ns mainGlobals mg) (a : PySem.W.nsIn K mainGlobals "flip" = some (some (.ref f26)))
    (l : K.lookup f26 = some ⟨oc, od, .func (PySem.W.fnOf "flip" "flip" (defArgs (top 40)) (defBody (top 40)) (defScope (top 40)) .none kV dc pm an cd ct), sl⟩) (c : PySem.W.codeIn K cd "flip" = true) (k : PySem.W.keepIn K (.ref f26) = true) : RowOk K mg r26 := row_of X G a l c k sc26 kb26
theorem ro27 {oc kV dc pm cd ct : Value} {od an : Option Addr} {sl : Array (Option Value)} (X : K.In h) (G : h.Ns mainGlobals mg) (a : PySem.W.nsIn K mainGlobals "down" = some (some (.ref f27)))
    (l : K.lookup f27 = some ⟨oc, od, .func (PySem.W.fnOf "down" "down" (defArgs (top 41)) (defBody (top 41)) (defScope (top 41)) .none kV dc pm an cd ct), sl⟩) (c : PySem.W.codeIn K cd "down" = true) (k : PySem.W.keepIn K (.ref f27) = true) : RowOk K mg r27 := row_of X G a l c k sc27 kb27
theorem ro28 {oc kV dc pm cd ct : Value} {od an : Option Addr} {sl : Array (Option Value)} (X : K.In h) (G : h.Ns mainGlobals mg) (a : PySem.W.nsIn K mainGlobals "height" = some (some (.ref f28)))
    (l : K.lookup f28 = some ⟨oc, od, .func (PySem.W.fnOf "height" "height" (defArgs (top 42)) (defBody (top 42)) (defScope (top 42)) .none kV dc pm an cd ct), sl⟩) (c : PySem.W.codeIn K cd "height" = true) (k : PySem.W.keepIn K (.ref f28) = true) : RowOk K mg r28 := row_of X G a l c k sc28 kb28
theorem ro29 {oc kV dc pm cd ct : Value} {od an : Option Addr} {sl : Array (Option Value)} (X : K.In h) (G : h.Ns mainGlobals mg) (a : PySem.W.nsIn K mainGlobals "is_cut" = some (some (.ref f29)))
    (l : K.lookup f29 = some ⟨oc, od, .func (PySem.W.fnOf "is_cut" "is_cut" (defArgs (top 44)) (defBody (top 44)) (defScope (top 44)) .none kV dc pm an cd ct), sl⟩) (c : PySem.W.codeIn K cd "is_cut" = true) (k : PySem.W.keepIn K (.ref f29) = true) : RowOk K mg r29 := row_of X G a l c k sc29 kb29
theorem ro30 {oc kV dc pm cd ct : Value} {od an : Option Addr} {sl : Array (Option Value)} (X : K.In h) (G : h.Ns mainGlobals mg) (a : PySem.W.nsIn K mainGlobals "is_address_in" = some (some (.ref f30)))
    (l : K.lookup f30 = some ⟨oc, od, .func (PySem.W.fnOf "is_address_in" "is_address_in" (defArgs (top 45)) (defBody (top 45)) (defScope (top 45)) .none kV dc pm an cd ct), sl⟩) (c : PySem.W.codeIn K cd "is_address_in" = true) (k : PySem.W.keepIn K (.ref f30) = true) : RowOk K mg r30 := row_of X G a l c k sc30 kb30
theorem ro31 {oc kV dc pm cd ct : Value} {od an : Option Addr} {sl : Array (Option Value)} (X : K.In h) (G : h.Ns mainGlobals mg) (a : PySem.W.nsIn K mainGlobals "sure_address" = some (some (.ref f31)))
    (l : K.lookup f31 = some ⟨oc, od, .func (PySem.W.fnOf "sure_address" "sure_address" (defArgs (top 46)) (defBody (top 46)) (defScope (top 46)) .none kV dc pm an cd ct), sl⟩) (c : PySem.W.codeIn K cd "sure_address" = true) (k : PySem.W.keepIn K (.ref f31) = true) : RowOk K mg r31 := row_of X G a l c k sc31 kb31
theorem ro32 {oc kV dc pm cd ct : Value} {od an : Option Addr} {sl : Array (Option Value)} (X : K.In h) (G : h.Ns mainGlobals mg) (a : PySem.W.nsIn K mainGlobals "solution_at" = some (some (.ref f32)))
    (l : K.lookup f32 = some ⟨oc, od, .func (PySem.W.fnOf "solution_at" "solution_at" (defArgs (top 47)) (defBody (top 47)) (defScope (top 47)) .none kV dc pm an cd ct), sl⟩) (c : PySem.W.codeIn K cd "solution_at" = true) (k : PySem.W.keepIn K (.ref f32) = true) : RowOk K mg r32 := row_of X G a l c k sc32 kb32
theorem ro33 {oc kV dc pm cd ct : Value} {od an : Option Addr} {sl : Array (Option Value)} (X : K.In h) (G : h.Ns mainGlobals mg) (a : PySem.W.nsIn K mainGlobals "_law_box" = some (some (.ref f33)))
    (l : K.lookup f33 = some ⟨oc, od, .func (PySem.W.fnOf "_law_box" "_law_box" (defArgs (top 49)) (defBody (top 49)) (defScope (top 49)) .none kV dc pm an cd ct), sl⟩) (c : PySem.W.codeIn K cd "_law_box" = true) (k : PySem.W.keepIn K (.ref f33) = true) : RowOk K mg r33 := row_of X G a l c k sc33 kb33
theorem ro34 {oc kV dc pm cd ct : Value} {od an : Option Addr} {sl : Array (Option Value)} (X : K.In h) (G : h.Ns mainGlobals mg) (a : PySem.W.nsIn K mainGlobals "_law_take" = some (some (.ref f34)))
    (l : K.lookup f34 = some ⟨oc, od, .func (PySem.W.fnOf "_law_take" "_law_take" (defArgs (top 50)) (defBody (top 50)) (defScope (top 50)) .none kV dc pm an cd ct), sl⟩) (c : PySem.W.codeIn K cd "_law_take" = true) (k : PySem.W.keepIn K (.ref f34) = true) : RowOk K mg r34 := row_of X G a l c k sc34 kb34
theorem ro35 {oc kV dc pm cd ct : Value} {od an : Option Addr} {sl : Array (Option Value)} (X : K.In h) (G : h.Ns mainGlobals mg) (a : PySem.W.nsIn K mainGlobals "_law_cells" = some (some (.ref f35)))
    (l : K.lookup f35 = some ⟨oc, od, .func (PySem.W.fnOf "_law_cells" "_law_cells" (defArgs (top 51)) (defBody (top 51)) (defScope (top 51)) .none kV dc pm an cd ct), sl⟩) (c : PySem.W.codeIn K cd "_law_cells" = true) (k : PySem.W.keepIn K (.ref f35) = true) : RowOk K mg r35 := row_of X G a l c k sc35 kb35
theorem ro36 {oc kV dc pm cd ct : Value} {od an : Option Addr} {sl : Array (Option Value)} (X : K.In h) (G : h.Ns mainGlobals mg) (a : PySem.W.nsIn K mainGlobals "_law_of" = some (some (.ref f36)))
    (l : K.lookup f36 = some ⟨oc, od, .func (PySem.W.fnOf "_law_of" "_law_of" (defArgs (top 52)) (defBody (top 52)) (defScope (top 52)) .none kV dc pm an cd ct), sl⟩) (c : PySem.W.codeIn K cd "_law_of" = true) (k : PySem.W.keepIn K (.ref f36) = true) : RowOk K mg r36 := row_of X G a l c k sc36 kb36
theorem ro37 {oc kV dc pm cd ct : Value} {od an : Option Addr} {sl : Array (Option Value)} (X : K.In h) (G : h.Ns mainGlobals mg) (a : PySem.W.nsIn K mainGlobals "_law_pick" = some (some (.ref f37)))
    (l : K.lookup f37 = some ⟨oc, od, .func (PySem.W.fnOf "_law_pick" "_law_pick" (defArgs (top 53)) (defBody (top 53)) (defScope (top 53)) .none kV dc pm an cd ct), sl⟩) (c : PySem.W.codeIn K cd "_law_pick" = true) (k : PySem.W.keepIn K (.ref f37) = true) : RowOk K mg r37 := row_of X G a l c k sc37 kb37
theorem ro38 {oc kV dc pm cd ct : Value} {od an : Option Addr} {sl : Array (Option Value)} (X : K.In h) (G : h.Ns mainGlobals mg) (a : PySem.W.nsIn K mainGlobals "_law_same" = some (some (.ref f38)))
    (l : K.lookup f38 = some ⟨oc, od, .func (PySem.W.fnOf "_law_same" "_law_same" (defArgs (top 54)) (defBody (top 54)) (defScope (top 54)) .none kV dc pm an cd ct), sl⟩) (c : PySem.W.codeIn K cd "_law_same" = true) (k : PySem.W.keepIn K (.ref f38) = true) : RowOk K mg r38 := row_of X G a l c k sc38 kb38
theorem ro39 {oc kV dc pm cd ct : Value} {od an : Option Addr} {sl : Array (Option Value)} (X : K.In h) (G : h.Ns mainGlobals mg) (a : PySem.W.nsIn K mainGlobals "_law_prod" = some (some (.ref f39)))
    (l : K.lookup f39 = some ⟨oc, od, .func (PySem.W.fnOf "_law_prod" "_law_prod" (defArgs (top 55)) (defBody (top 55)) (defScope (top 55)) .none kV dc pm an cd ct), sl⟩) (c : PySem.W.codeIn K cd "_law_prod" = true) (k : PySem.W.keepIn K (.ref f39) = true) : RowOk K mg r39 := row_of X G a l c k sc39 kb39
theorem ro40 {oc kV dc pm cd ct : Value} {od an : Option Addr} {sl : Array (Option Value)} (X : K.In h) (G : h.Ns mainGlobals mg) (a : PySem.W.nsIn K mainGlobals "_law_shares" = some (some (.ref f40)))
    (l : K.lookup f40 = some ⟨oc, od, .func (PySem.W.fnOf "_law_shares" "_law_shares" (defArgs (top 56)) (defBody (top 56)) (defScope (top 56)) .none kV dc pm an cd ct), sl⟩) (c : PySem.W.codeIn K cd "_law_shares" = true) (k : PySem.W.keepIn K (.ref f40) = true) : RowOk K mg r40 := row_of X G a l c k sc40 kb40
theorem ro41 {oc kV dc pm cd ct : Value} {od an : Option Addr} {sl : Array (Option Value)} (X : K.In h) (G : h.Ns mainGlobals mg) (a : PySem.W.nsIn K mainGlobals "_law_flip" = some (some (.ref f41)))
    (l : K.lookup f41 = some ⟨oc, od, .func (PySem.W.fnOf "_law_flip" "_law_flip" (defArgs (top 57)) (defBody (top 57)) (defScope (top 57)) .none kV dc pm an cd ct), sl⟩) (c : PySem.W.codeIn K cd "_law_flip" = true) (k : PySem.W.keepIn K (.ref f41) = true) : RowOk K mg r41 := row_of X G a l c k sc41 kb41
theorem ro42 {oc kV dc pm cd ct : Value} {od an : Option Addr} {sl : Array (Option Value)} (X : K.In h) (G : h.Ns mainGlobals mg) (a : PySem.W.nsIn K mainGlobals "_law_idle" = some (some (.ref f42)))
    (l : K.lookup f42 = some ⟨oc, od, .func (PySem.W.fnOf "_law_idle" "_law_idle" (defArgs (top 58)) (defBody (top 58)) (defScope (top 58)) .none kV dc pm an cd ct), sl⟩) (c : PySem.W.codeIn K cd "_law_idle" = true) (k : PySem.W.keepIn K (.ref f42) = true) : RowOk K mg r42 := row_of X G a l c k sc42 kb42
theorem ro43 {oc kV dc pm cd ct : Value} {od an : Option Addr} {sl : Array (Option Value)} (X : K.In h) (G : h.Ns mainGlobals mg) (a : PySem.W.nsIn K mainGlobals "_law_known" = some (some (.ref f43)))
    (l : K.lookup f43 = some ⟨oc, od, .func (PySem.W.fnOf "_law_known" "_law_known" (defArgs (top 59)) (defBody (top 59)) (defScope (top 59)) .none kV dc pm an cd ct), sl⟩) (c : PySem.W.codeIn K cd "_law_known" = true) (k : PySem.W.keepIn K (.ref f43) = true) : RowOk K mg r43 := row_of X G a l c k sc43 kb43
theorem ro44 {oc kV dc pm cd ct : Value} {od an : Option Addr} {sl : Array (Option Value)} (X : K.In h) (G : h.Ns mainGlobals mg) (a : PySem.W.nsIn K mainGlobals "_law_mixed" = some (some (.ref f44)))
    (l : K.lookup f44 = some ⟨oc, od, .func (PySem.W.fnOf "_law_mixed" "_law_mixed" (defArgs (top 60)) (defBody (top 60)) (defScope (top 60)) .none kV dc pm an cd ct), sl⟩) (c : PySem.W.codeIn K cd "_law_mixed" = true) (k : PySem.W.keepIn K (.ref f44) = true) : RowOk K mg r44 := row_of X G a l c k sc44 kb44
theorem ro45 {oc kV dc pm cd ct : Value} {od an : Option Addr} {sl : Array (Option Value)} (X : K.In h) (G : h.Ns mainGlobals mg) (a : PySem.W.nsIn K mainGlobals "_law_drawn" = some (some (.ref f45)))
    (l : K.lookup f45 = some ⟨oc, od, .func (PySem.W.fnOf "_law_drawn" "_law_drawn" (defArgs (top 61)) (defBody (top 61)) (defScope (top 61)) .none kV dc pm an cd ct), sl⟩) (c : PySem.W.codeIn K cd "_law_drawn" = true) (k : PySem.W.keepIn K (.ref f45) = true) : RowOk K mg r45 := row_of X G a l c k sc45 kb45
theorem ro46 {oc kV dc pm cd ct : Value} {od an : Option Addr} {sl : Array (Option Value)} (X : K.In h) (G : h.Ns mainGlobals mg) (a : PySem.W.nsIn K mainGlobals "_law_up" = some (some (.ref f46)))
    (l : K.lookup f46 = some ⟨oc, od, .func (PySem.W.fnOf "_law_up" "_law_up" (defArgs (top 62)) (defBody (top 62)) (defScope (top 62)) .none kV dc pm an cd ct), sl⟩) (c : PySem.W.codeIn K cd "_law_up" = true) (k : PySem.W.keepIn K (.ref f46) = true) : RowOk K mg r46 := row_of X G a l c k sc46 kb46
theorem ro47 {oc kV dc pm cd ct : Value} {od an : Option Addr} {sl : Array (Option Value)} (X : K.In h) (G : h.Ns mainGlobals mg) (a : PySem.W.nsIn K mainGlobals "_law_tall" = some (some (.ref f47)))
    (l : K.lookup f47 = some ⟨oc, od, .func (PySem.W.fnOf "_law_tall" "_law_tall" (defArgs (top 63)) (defBody (top 63)) (defScope (top 63)) .none kV dc pm an cd ct), sl⟩) (c : PySem.W.codeIn K cd "_law_tall" = true) (k : PySem.W.keepIn K (.ref f47) = true) : RowOk K mg r47 := row_of X G a l c k sc47 kb47
theorem ro48 {oc kV dc pm cd ct : Value} {od an : Option Addr} {sl : Array (Option Value)} (X : K.In h) (G : h.Ns mainGlobals mg) (a : PySem.W.nsIn K mainGlobals "law" = some (some (.ref f48)))
    (l : K.lookup f48 = some ⟨oc, od, .func (PySem.W.fnOf "law" "law" (defArgs (top 64)) (defBody (top 64)) (defScope (top 64)) .none kV dc pm an cd ct), sl⟩) (c : PySem.W.codeIn K cd "law" = true) (k : PySem.W.keepIn K (.ref f48) = true) : RowOk K mg r48 := row_of X G a l c k sc48 kb48
def cl (e0 e1 : Addr) : Nat → Addr
  | 0 => e0
  | 1 => e1
  | _ => 0
theorem all_mk {oc0 kV0 dc0 pm0 cd0 ct0 : Value} {od0 an0 : Option Addr} {sl0 : Array (Option Value)} {oc1 kV1 dc1 pm1 cd1 ct1 : Value} {od1 an1 : Option Addr} {sl1 : Array (Option Value)} {oc2 kV2 dc2 pm2 cd2 ct2 : Value} {od2 an2 : Option Addr} {sl2 : Array (Option Value)} {oc3 kV3 dc3 pm3 cd3 ct3 : Value} {od3 an3 : Option Addr} {sl3 : Array (Option Value)} {oc4 kV4 dc4 pm4 cd4 ct4 : Value} {od4 an4 : Option Addr} {sl4 : Array (Option Value)} {oc5 kV5 dc5 pm5 cd5 ct5 : Value} {od5 an5 : Option Addr} {sl5 : Array (Option Value)} {oc6 kV6 dc6 pm6 cd6 ct6 : Value} {od6 an6 : Option Addr} {sl6 : Array (Option Value)} {oc7 kV7 dc7 pm7 cd7 ct7 : Value} {od7 an7 : Option Addr} {sl7 : Array (Option Value)} {oc8 kV8 dc8 pm8 cd8 ct8 : Value} {od8 an8 : Option Addr} {sl8 : Array (Option Value)} {oc9 kV9 dc9 pm9 cd9 ct9 : Value} {od9 an9 : Option Addr} {sl9 : Array (Option Value)} {oc10 kV10 dc10 pm10 cd10 ct10 : Value} {od10 an10 : Option Addr} {sl10 : Array (Option Value)} {oc11 kV11 dc11 pm11 cd11 ct11 : Value} {od11 an11 : Option Addr} {sl11 : Array (Option Value)} {oc12 kV12 dc12 pm12 cd12 ct12 : Value} {od12 an12 : Option Addr} {sl12 : Array (Option Value)} {oc13 kV13 dc13 pm13 cd13 ct13 : Value} {od13 an13 : Option Addr} {sl13 : Array (Option Value)} {oc14 kV14 dc14 pm14 cd14 ct14 : Value} {od14 an14 : Option Addr} {sl14 : Array (Option Value)} {oc15 kV15 dc15 pm15 cd15 ct15 : Value} {od15 an15 : Option Addr} {sl15 : Array (Option Value)} {oc16 kV16 dc16 pm16 cd16 ct16 : Value} {od16 an16 : Option Addr} {sl16 : Array (Option Value)} {oc17 kV17 dc17 pm17 cd17 ct17 : Value} {od17 an17 : Option Addr} {sl17 : Array (Option Value)} {oc18 kV18 dc18 pm18 cd18 ct18 : Value} {od18 an18 : Option Addr} {sl18 : Array (Option Value)} {oc19 kV19 dc19 pm19 cd19 ct19 : Value} {od19 an19 : Option Addr} {sl19 : Array (Option Value)} {oc20 kV20 dc20 pm20 cd20 ct20 : Value} {od20 an20 : Option Addr} {sl20 : Array (Option Value)} {oc21 kV21 dc21 pm21 cd21 ct21 : Value} {od21 an21 : Option Addr} {sl21 : Array (Option Value)} {oc22 kV22 dc22 pm22 cd22 ct22 : Value} {od22 an22 : Option Addr} {sl22 : Array (Option Value)} {oc23 kV23 dc23 pm23 cd23 ct23 : Value} {od23 an23 : Option Addr} {sl23 : Array (Option Value)} {oc24 kV24 dc24 pm24 cd24 ct24 : Value} {od24 an24 : Option Addr} {sl24 : Array (Option Value)} {oc25 kV25 dc25 pm25 cd25 ct25 : Value} {od25 an25 : Option Addr} {sl25 : Array (Option Value)} {oc26 kV26 dc26 pm26 cd26 ct26 : Value} {od26 an26 : Option Addr} {sl26 : Array (Option Value)} {oc27 kV27 dc27 pm27 cd27 ct27 : Value} {od27 an27 : Option Addr} {sl27 : Array (Option Value)} {oc28 kV28 dc28 pm28 cd28 ct28 : Value} {od28 an28 : Option Addr} {sl28 : Array (Option Value)} {oc29 kV29 dc29 pm29 cd29 ct29 : Value} {od29 an29 : Option Addr} {sl29 : Array (Option Value)} {oc30 kV30 dc30 pm30 cd30 ct30 : Value} {od30 an30 : Option Addr} {sl30 : Array (Option Value)} {oc31 kV31 dc31 pm31 cd31 ct31 : Value} {od31 an31 : Option Addr} {sl31 : Array (Option Value)} {oc32 kV32 dc32 pm32 cd32 ct32 : Value} {od32 an32 : Option Addr} {sl32 : Array (Option Value)} {oc33 kV33 dc33 pm33 cd33 ct33 : Value} {od33 an33 : Option Addr} {sl33 : Array (Option Value)} {oc34 kV34 dc34 pm34 cd34 ct34 : Value} {od34 an34 : Option Addr} {sl34 : Array (Option Value)} {oc35 kV35 dc35 pm35 cd35 ct35 : Value} {od35 an35 : Option Addr} {sl35 : Array (Option Value)} {oc36 kV36 dc36 pm36 cd36 ct36 : Value} {od36 an36 : Option Addr} {sl36 : Array (Option Value)} {oc37 kV37 dc37 pm37 cd37 ct37 : Value} {od37 an37 : Option Addr} {sl37 : Array (Option Value)} {oc38 kV38 dc38 pm38 cd38 ct38 : Value} {od38 an38 : Option Addr} {sl38 : Array (Option Value)} {oc39 kV39 dc39 pm39 cd39 ct39 : Value} {od39 an39 : Option Addr} {sl39 : Array (Option Value)} {oc40 kV40 dc40 pm40 cd40 ct40 : Value} {od40 an40 : Option Addr} {sl40 : Array (Option Value)} {oc41 kV41 dc41 pm41 cd41 ct41 : Value} {od41 an41 : Option Addr} {sl41 : Array (Option Value)} {oc42 kV42 dc42 pm42 cd42 ct42 : Value} {od42 an42 : Option Addr} {sl42 : Array (Option Value)} {oc43 kV43 dc43 pm43 cd43 ct43 : Value} {od43 an43 : Option Addr} {sl43 : Array (Option Value)} {oc44 kV44 dc44 pm44 cd44 ct44 : Value} {od44 an44 : Option Addr} {sl44 : Array (Option Value)} {oc45 kV45 dc45 pm45 cd45 ct45 : Value} {od45 an45 : Option Addr} {sl45 : Array (Option Value)} {oc46 kV46 dc46 pm46 cd46 ct46 : Value} {od46 an46 : Option Addr} {sl46 : Array (Option Value)} {oc47 kV47 dc47 pm47 cd47 ct47 : Value} {od47 an47 : Option Addr} {sl47 : Array (Option Value)} {oc48 kV48 dc48 pm48 cd48 ct48 : Value} {od48 an48 : Option Addr} {sl48 : Array (Option Value)} (X : K.In h) (G : h.Ns mainGlobals mg)
    {t0 : Tok} {t1 : Tok} {t2 : Tok} {t3 : Tok} {t4 : Tok} {t5 : Tok} {t6 : Tok}
    (a0 : PySem.W.nsIn K mainGlobals "is_number" = some (some (.ref f0))) (l0 : K.lookup f0 = some ⟨oc0, od0, .func (PySem.W.fnOf "is_number" "is_number" (defArgs (top 4)) (defBody (top 4)) (defScope (top 4)) .none kV0 dc0 pm0 an0 cd0 ct0), sl0⟩) (c0 : PySem.W.codeIn K cd0 "is_number" = true) (k0 : PySem.W.keepIn K (.ref f0) = true)
    (a1 : PySem.W.nsIn K mainGlobals "is_within" = some (some (.ref f1))) (l1 : K.lookup f1 = some ⟨oc1, od1, .func (PySem.W.fnOf "is_within" "is_within" (defArgs (top 5)) (defBody (top 5)) (defScope (top 5)) .none kV1 dc1 pm1 an1 cd1 ct1), sl1⟩) (c1 : PySem.W.codeIn K cd1 "is_within" = true) (k1 : PySem.W.keepIn K (.ref f1) = true)
    (a2 : PySem.W.nsIn K mainGlobals "is_long" = some (some (.ref f2))) (l2 : K.lookup f2 = some ⟨oc2, od2, .func (PySem.W.fnOf "is_long" "is_long" (defArgs (top 6)) (defBody (top 6)) (defScope (top 6)) .none kV2 dc2 pm2 an2 cd2 ct2), sl2⟩) (c2 : PySem.W.codeIn K cd2 "is_long" = true) (k2 : PySem.W.keepIn K (.ref f2) = true)
    (a3 : PySem.W.nsIn K mainGlobals "are_numbers" = some (some (.ref f3))) (l3 : K.lookup f3 = some ⟨oc3, od3, .func (PySem.W.fnOf "are_numbers" "are_numbers" (defArgs (top 7)) (defBody (top 7)) (defScope (top 7)) .none kV3 dc3 pm3 an3 cd3 ct3), sl3⟩) (c3 : PySem.W.codeIn K cd3 "are_numbers" = true) (k3 : PySem.W.keepIn K (.ref f3) = true)
    (a4 : PySem.W.nsIn K mainGlobals "tupled" = some (some (.ref f4))) (l4 : K.lookup f4 = some ⟨oc4, od4, .func (PySem.W.fnOf "tupled" "tupled" (defArgs (top 8)) (defBody (top 8)) (defScope (top 8)) .none kV4 dc4 pm4 an4 cd4 ct4), sl4⟩) (c4 : PySem.W.codeIn K cd4 "tupled" = true) (k4 : PySem.W.keepIn K (.ref f4) = true)
    (a5 : PySem.W.nsIn K mainGlobals "sure_within" = some (some (.ref f5))) (l5 : K.lookup f5 = some ⟨oc5, od5, .func (PySem.W.fnOf "sure_within" "sure_within" (defArgs (top 9)) (defBody (top 9)) (defScope (top 9)) .none kV5 dc5 pm5 an5 cd5 ct5), sl5⟩) (c5 : PySem.W.codeIn K cd5 "sure_within" = true) (k5 : PySem.W.keepIn K (.ref f5) = true)
    (a6 : PySem.W.nsIn K mainGlobals "are_weights" = some (some (.ref f6))) (l6 : K.lookup f6 = some ⟨oc6, od6, .func (PySem.W.fnOf "are_weights" "are_weights" (defArgs (top 17)) (defBody (top 17)) (defScope (top 17)) .none kV6 dc6 pm6 an6 cd6 ct6), sl6⟩) (c6 : PySem.W.codeIn K cd6 "are_weights" = true) (k6 : PySem.W.keepIn K (.ref f6) = true)
    (a7 : PySem.W.nsIn K mainGlobals "is_equation_in" = some (some (.ref f7))) (l7 : K.lookup f7 = some ⟨oc7, od7, .func (PySem.W.fnOf "is_equation_in" "is_equation_in" (defArgs (top 18)) (defBody (top 18)) (defScope (top 18)) .none kV7 dc7 pm7 an7 cd7 ct7), sl7⟩) (c7 : PySem.W.codeIn K cd7 "is_equation_in" = true) (k7 : PySem.W.keepIn K (.ref f7) = true)
    (a8 : PySem.W.nsIn K mainGlobals "sure_equation" = some (some (.ref f8))) (l8 : K.lookup f8 = some ⟨oc8, od8, .func (PySem.W.fnOf "sure_equation" "sure_equation" (defArgs (top 19)) (defBody (top 19)) (defScope (top 19)) .none kV8 dc8 pm8 an8 cd8 ct8), sl8⟩) (c8 : PySem.W.codeIn K cd8 "sure_equation" = true) (k8 : PySem.W.keepIn K (.ref f8) = true)
    (a9 : PySem.W.nsIn K mainGlobals "product_of" = some (some (.ref f9))) (l9 : K.lookup f9 = some ⟨oc9, od9, .func (PySem.W.fnOf "product_of" "product_of" (defArgs (top 20)) (defBody (top 20)) (defScope (top 20)) .none kV9 dc9 pm9 an9 cd9 ct9), sl9⟩) (c9 : PySem.W.codeIn K cd9 "product_of" = true) (k9 : PySem.W.keepIn K (.ref f9) = true)
    (a10 : PySem.W.nsIn K mainGlobals "shares_in" = some (some (.ref f10))) (l10 : K.lookup f10 = some ⟨oc10, od10, .func (PySem.W.fnOf "shares_in" "shares_in" (defArgs (top 21)) (defBody (top 21)) (defScope (top 21)) .none kV10 dc10 pm10 an10 cd10 ct10), sl10⟩) (c10 : PySem.W.codeIn K cd10 "shares_in" = true) (k10 : PySem.W.keepIn K (.ref f10) = true)
    (a11 : PySem.W.nsIn K mainGlobals "sides_in" = some (some (.ref f11))) (l11 : K.lookup f11 = some ⟨oc11, od11, .func (PySem.W.fnOf "sides_in" "sides_in" (defArgs (top 22)) (defBody (top 22)) (defScope (top 22)) .none kV11 dc11 pm11 an11 cd11 ct11), sl11⟩) (c11 : PySem.W.codeIn K cd11 "sides_in" = true) (k11 : PySem.W.keepIn K (.ref f11) = true)
    (a12 : PySem.W.nsIn K mainGlobals "are_from_one" = some (some (.ref f12))) (l12 : K.lookup f12 = some ⟨oc12, od12, .func (PySem.W.fnOf "are_from_one" "are_from_one" (defArgs (top 23)) (defBody (top 23)) (defScope (top 23)) .none kV12 dc12 pm12 an12 cd12 ct12), sl12⟩) (c12 : PySem.W.codeIn K cd12 "are_from_one" = true) (k12 : PySem.W.keepIn K (.ref f12) = true)
    (a13 : PySem.W.nsIn K mainGlobals "is_solution_in" = some (some (.ref f13))) (l13 : K.lookup f13 = some ⟨oc13, od13, .func (PySem.W.fnOf "is_solution_in" "is_solution_in" (defArgs (top 24)) (defBody (top 24)) (defScope (top 24)) .none kV13 dc13 pm13 an13 cd13 ct13), sl13⟩) (c13 : PySem.W.codeIn K cd13 "is_solution_in" = true) (k13 : PySem.W.keepIn K (.ref f13) = true)
    (a14 : PySem.W.nsIn K mainGlobals "sure_solution" = some (some (.ref f14))) (l14 : K.lookup f14 = some ⟨oc14, od14, .func (PySem.W.fnOf "sure_solution" "sure_solution" (defArgs (top 25)) (defBody (top 25)) (defScope (top 25)) .none kV14 dc14 pm14 an14 cd14 ct14), sl14⟩) (c14 : PySem.W.codeIn K cd14 "sure_solution" = true) (k14 : PySem.W.keepIn K (.ref f14) = true)
    (a15 : PySem.W.nsIn K mainGlobals "sure_place" = some (some (.ref f15))) (l15 : K.lookup f15 = some ⟨oc15, od15, .func (PySem.W.fnOf "sure_place" "sure_place" (defArgs (top 26)) (defBody (top 26)) (defScope (top 26)) .none kV15 dc15 pm15 an15 cd15 ct15), sl15⟩) (c15 : PySem.W.codeIn K cd15 "sure_place" = true) (k15 : PySem.W.keepIn K (.ref f15) = true)
    (a16 : PySem.W.nsIn K mainGlobals "is_word_in" = some (some (.ref f16))) (l16 : K.lookup f16 = some ⟨oc16, od16, .func (PySem.W.fnOf "is_word_in" "is_word_in" (defArgs (top 27)) (defBody (top 27)) (defScope (top 27)) .none kV16 dc16 pm16 an16 cd16 ct16), sl16⟩) (c16 : PySem.W.codeIn K cd16 "is_word_in" = true) (k16 : PySem.W.keepIn K (.ref f16) = true)
    (a17 : PySem.W.nsIn K mainGlobals "shares" = some (some (.ref f17))) (l17 : K.lookup f17 = some ⟨oc17, od17, .func (PySem.W.fnOf "shares" "shares" (defArgs (top 28)) (defBody (top 28)) (defScope (top 28)) .none kV17 dc17 pm17 an17 cd17 ct17), sl17⟩) (c17 : PySem.W.codeIn K cd17 "shares" = true) (k17 : PySem.W.keepIn K (.ref f17) = true)
    (a18 : PySem.W.nsIn K mainGlobals "sure_road" = some (some (.ref f18))) (l18 : K.lookup f18 = some ⟨oc18, od18, .func (PySem.W.fnOf "sure_road" "sure_road" (defArgs (top 31)) (defBody (top 31)) (defScope (top 31)) .none kV18 dc18 pm18 an18 cd18 ct18), sl18⟩) (c18 : PySem.W.codeIn K cd18 "sure_road" = true) (k18 : PySem.W.keepIn K (.ref f18) = true)
    (a19 : PySem.W.nsIn K mainGlobals "road" = some (some (.ref f19))) (l19 : K.lookup f19 = some ⟨oc19, od19, .func (PySem.W.fnOf "road" "road" (defArgs (top 32)) (defBody (top 32)) (defScope (top 32)) .none kV19 dc19 pm19 an19 cd19 ct19), sl19⟩) (c19 : PySem.W.codeIn K cd19 "road" = true) (k19 : PySem.W.keepIn K (.ref f19) = true)
    (a20 : PySem.W.nsIn K mainGlobals "road_step" = some (some (.ref f20))) (l20 : K.lookup f20 = some ⟨oc20, od20, .func (PySem.W.fnOf "road_step" "road_step" (defArgs (top 33)) (defBody (top 33)) (defScope (top 33)) .none kV20 dc20 pm20 an20 cd20 ct20), sl20⟩) (c20 : PySem.W.codeIn K cd20 "road_step" = true) (k20 : PySem.W.keepIn K (.ref f20) = true)
    (a21 : PySem.W.nsIn K mainGlobals "flipped_in" = some (some (.ref f21))) (l21 : K.lookup f21 = some ⟨oc21, od21, .func (PySem.W.fnOf "flipped_in" "flipped_in" (defArgs (top 35)) (defBody (top 35)) (defScope (top 35)) .none kV21 dc21 pm21 an21 cd21 ct21), sl21⟩) (c21 : PySem.W.codeIn K cd21 "flipped_in" = true) (k21 : PySem.W.keepIn K (.ref f21) = true)
    (a22 : PySem.W.nsIn K mainGlobals "lowering_in" = some (some (.ref f22))) (l22 : K.lookup f22 = some ⟨oc22, od22, .func (PySem.W.fnOf "lowering_in" "lowering_in" (defArgs (top 36)) (defBody (top 36)) (defScope (top 36)) .none kV22 dc22 pm22 an22 cd22 ct22), sl22⟩) (c22 : PySem.W.codeIn K cd22 "lowering_in" = true) (k22 : PySem.W.keepIn K (.ref f22) = true)
    (a23 : PySem.W.nsIn K mainGlobals "idle_in" = some (some (.ref f23))) (l23 : K.lookup f23 = some ⟨oc23, od23, .func (PySem.W.fnOf "idle_in" "idle_in" (defArgs (top 37)) (defBody (top 37)) (defScope (top 37)) .none kV23 dc23 pm23 an23 cd23 ct23), sl23⟩) (c23 : PySem.W.codeIn K cd23 "idle_in" = true) (k23 : PySem.W.keepIn K (.ref f23) = true)
    (a24 : PySem.W.nsIn K mainGlobals "way_down" = some (some (.ref f24))) (l24 : K.lookup f24 = some ⟨oc24, od24, .func (PySem.W.fnOf "way_down" "way_down" (defArgs (top 38)) (defBody (top 38)) (defScope (top 38)) .none kV24 dc24 pm24 an24 cd24 ct24), sl24⟩) (c24 : PySem.W.codeIn K cd24 "way_down" = true) (k24 : PySem.W.keepIn K (.ref f24) = true)
    (a25 : PySem.W.nsIn K mainGlobals "walked_in" = some (some (.ref f25))) (l25 : K.lookup f25 = some ⟨oc25, od25, .func (PySem.W.fnOf "walked_in" "walked_in" (defArgs (top 39)) (defBody (top 39)) (defScope (top 39)) .none kV25 dc25 pm25 an25 cd25 ct25), sl25⟩) (c25 : PySem.W.codeIn K cd25 "walked_in" = true) (k25 : PySem.W.keepIn K (.ref f25) = true)
    (a26 : PySem.W.nsIn K mainGlobals "flip" = some (some (.ref f26))) (l26 : K.lookup f26 = some ⟨oc26, od26, .func (PySem.W.fnOf "flip" "flip" (defArgs (top 40)) (defBody (top 40)) (defScope (top 40)) .none kV26 dc26 pm26 an26 cd26 ct26), sl26⟩) (c26 : PySem.W.codeIn K cd26 "flip" = true) (k26 : PySem.W.keepIn K (.ref f26) = true)
    (a27 : PySem.W.nsIn K mainGlobals "down" = some (some (.ref f27))) (l27 : K.lookup f27 = some ⟨oc27, od27, .func (PySem.W.fnOf "down" "down" (defArgs (top 41)) (defBody (top 41)) (defScope (top 41)) .none kV27 dc27 pm27 an27 cd27 ct27), sl27⟩) (c27 : PySem.W.codeIn K cd27 "down" = true) (k27 : PySem.W.keepIn K (.ref f27) = true)
    (a28 : PySem.W.nsIn K mainGlobals "height" = some (some (.ref f28))) (l28 : K.lookup f28 = some ⟨oc28, od28, .func (PySem.W.fnOf "height" "height" (defArgs (top 42)) (defBody (top 42)) (defScope (top 42)) .none kV28 dc28 pm28 an28 cd28 ct28), sl28⟩) (c28 : PySem.W.codeIn K cd28 "height" = true) (k28 : PySem.W.keepIn K (.ref f28) = true)
    (a29 : PySem.W.nsIn K mainGlobals "is_cut" = some (some (.ref f29))) (l29 : K.lookup f29 = some ⟨oc29, od29, .func (PySem.W.fnOf "is_cut" "is_cut" (defArgs (top 44)) (defBody (top 44)) (defScope (top 44)) .none kV29 dc29 pm29 an29 cd29 ct29), sl29⟩) (c29 : PySem.W.codeIn K cd29 "is_cut" = true) (k29 : PySem.W.keepIn K (.ref f29) = true)
    (a30 : PySem.W.nsIn K mainGlobals "is_address_in" = some (some (.ref f30))) (l30 : K.lookup f30 = some ⟨oc30, od30, .func (PySem.W.fnOf "is_address_in" "is_address_in" (defArgs (top 45)) (defBody (top 45)) (defScope (top 45)) .none kV30 dc30 pm30 an30 cd30 ct30), sl30⟩) (c30 : PySem.W.codeIn K cd30 "is_address_in" = true) (k30 : PySem.W.keepIn K (.ref f30) = true)
    (a31 : PySem.W.nsIn K mainGlobals "sure_address" = some (some (.ref f31))) (l31 : K.lookup f31 = some ⟨oc31, od31, .func (PySem.W.fnOf "sure_address" "sure_address" (defArgs (top 46)) (defBody (top 46)) (defScope (top 46)) .none kV31 dc31 pm31 an31 cd31 ct31), sl31⟩) (c31 : PySem.W.codeIn K cd31 "sure_address" = true) (k31 : PySem.W.keepIn K (.ref f31) = true)
    (a32 : PySem.W.nsIn K mainGlobals "solution_at" = some (some (.ref f32))) (l32 : K.lookup f32 = some ⟨oc32, od32, .func (PySem.W.fnOf "solution_at" "solution_at" (defArgs (top 47)) (defBody (top 47)) (defScope (top 47)) .none kV32 dc32 pm32 an32 cd32 ct32), sl32⟩) (c32 : PySem.W.codeIn K cd32 "solution_at" = true) (k32 : PySem.W.keepIn K (.ref f32) = true)
    (a33 : PySem.W.nsIn K mainGlobals "_law_box" = some (some (.ref f33))) (l33 : K.lookup f33 = some ⟨oc33, od33, .func (PySem.W.fnOf "_law_box" "_law_box" (defArgs (top 49)) (defBody (top 49)) (defScope (top 49)) .none kV33 dc33 pm33 an33 cd33 ct33), sl33⟩) (c33 : PySem.W.codeIn K cd33 "_law_box" = true) (k33 : PySem.W.keepIn K (.ref f33) = true)
    (a34 : PySem.W.nsIn K mainGlobals "_law_take" = some (some (.ref f34))) (l34 : K.lookup f34 = some ⟨oc34, od34, .func (PySem.W.fnOf "_law_take" "_law_take" (defArgs (top 50)) (defBody (top 50)) (defScope (top 50)) .none kV34 dc34 pm34 an34 cd34 ct34), sl34⟩) (c34 : PySem.W.codeIn K cd34 "_law_take" = true) (k34 : PySem.W.keepIn K (.ref f34) = true)
    (a35 : PySem.W.nsIn K mainGlobals "_law_cells" = some (some (.ref f35))) (l35 : K.lookup f35 = some ⟨oc35, od35, .func (PySem.W.fnOf "_law_cells" "_law_cells" (defArgs (top 51)) (defBody (top 51)) (defScope (top 51)) .none kV35 dc35 pm35 an35 cd35 ct35), sl35⟩) (c35 : PySem.W.codeIn K cd35 "_law_cells" = true) (k35 : PySem.W.keepIn K (.ref f35) = true)
    (a36 : PySem.W.nsIn K mainGlobals "_law_of" = some (some (.ref f36))) (l36 : K.lookup f36 = some ⟨oc36, od36, .func (PySem.W.fnOf "_law_of" "_law_of" (defArgs (top 52)) (defBody (top 52)) (defScope (top 52)) .none kV36 dc36 pm36 an36 cd36 ct36), sl36⟩) (c36 : PySem.W.codeIn K cd36 "_law_of" = true) (k36 : PySem.W.keepIn K (.ref f36) = true)
    (a37 : PySem.W.nsIn K mainGlobals "_law_pick" = some (some (.ref f37))) (l37 : K.lookup f37 = some ⟨oc37, od37, .func (PySem.W.fnOf "_law_pick" "_law_pick" (defArgs (top 53)) (defBody (top 53)) (defScope (top 53)) .none kV37 dc37 pm37 an37 cd37 ct37), sl37⟩) (c37 : PySem.W.codeIn K cd37 "_law_pick" = true) (k37 : PySem.W.keepIn K (.ref f37) = true)
    (a38 : PySem.W.nsIn K mainGlobals "_law_same" = some (some (.ref f38))) (l38 : K.lookup f38 = some ⟨oc38, od38, .func (PySem.W.fnOf "_law_same" "_law_same" (defArgs (top 54)) (defBody (top 54)) (defScope (top 54)) .none kV38 dc38 pm38 an38 cd38 ct38), sl38⟩) (c38 : PySem.W.codeIn K cd38 "_law_same" = true) (k38 : PySem.W.keepIn K (.ref f38) = true)
    (a39 : PySem.W.nsIn K mainGlobals "_law_prod" = some (some (.ref f39))) (l39 : K.lookup f39 = some ⟨oc39, od39, .func (PySem.W.fnOf "_law_prod" "_law_prod" (defArgs (top 55)) (defBody (top 55)) (defScope (top 55)) .none kV39 dc39 pm39 an39 cd39 ct39), sl39⟩) (c39 : PySem.W.codeIn K cd39 "_law_prod" = true) (k39 : PySem.W.keepIn K (.ref f39) = true)
    (a40 : PySem.W.nsIn K mainGlobals "_law_shares" = some (some (.ref f40))) (l40 : K.lookup f40 = some ⟨oc40, od40, .func (PySem.W.fnOf "_law_shares" "_law_shares" (defArgs (top 56)) (defBody (top 56)) (defScope (top 56)) .none kV40 dc40 pm40 an40 cd40 ct40), sl40⟩) (c40 : PySem.W.codeIn K cd40 "_law_shares" = true) (k40 : PySem.W.keepIn K (.ref f40) = true)
    (a41 : PySem.W.nsIn K mainGlobals "_law_flip" = some (some (.ref f41))) (l41 : K.lookup f41 = some ⟨oc41, od41, .func (PySem.W.fnOf "_law_flip" "_law_flip" (defArgs (top 57)) (defBody (top 57)) (defScope (top 57)) .none kV41 dc41 pm41 an41 cd41 ct41), sl41⟩) (c41 : PySem.W.codeIn K cd41 "_law_flip" = true) (k41 : PySem.W.keepIn K (.ref f41) = true)
    (a42 : PySem.W.nsIn K mainGlobals "_law_idle" = some (some (.ref f42))) (l42 : K.lookup f42 = some ⟨oc42, od42, .func (PySem.W.fnOf "_law_idle" "_law_idle" (defArgs (top 58)) (defBody (top 58)) (defScope (top 58)) .none kV42 dc42 pm42 an42 cd42 ct42), sl42⟩) (c42 : PySem.W.codeIn K cd42 "_law_idle" = true) (k42 : PySem.W.keepIn K (.ref f42) = true)
    (a43 : PySem.W.nsIn K mainGlobals "_law_known" = some (some (.ref f43))) (l43 : K.lookup f43 = some ⟨oc43, od43, .func (PySem.W.fnOf "_law_known" "_law_known" (defArgs (top 59)) (defBody (top 59)) (defScope (top 59)) .none kV43 dc43 pm43 an43 cd43 ct43), sl43⟩) (c43 : PySem.W.codeIn K cd43 "_law_known" = true) (k43 : PySem.W.keepIn K (.ref f43) = true)
    (a44 : PySem.W.nsIn K mainGlobals "_law_mixed" = some (some (.ref f44))) (l44 : K.lookup f44 = some ⟨oc44, od44, .func (PySem.W.fnOf "_law_mixed" "_law_mixed" (defArgs (top 60)) (defBody (top 60)) (defScope (top 60)) .none kV44 dc44 pm44 an44 cd44 ct44), sl44⟩) (c44 : PySem.W.codeIn K cd44 "_law_mixed" = true) (k44 : PySem.W.keepIn K (.ref f44) = true)
    (a45 : PySem.W.nsIn K mainGlobals "_law_drawn" = some (some (.ref f45))) (l45 : K.lookup f45 = some ⟨oc45, od45, .func (PySem.W.fnOf "_law_drawn" "_law_drawn" (defArgs (top 61)) (defBody (top 61)) (defScope (top 61)) .none kV45 dc45 pm45 an45 cd45 ct45), sl45⟩) (c45 : PySem.W.codeIn K cd45 "_law_drawn" = true) (k45 : PySem.W.keepIn K (.ref f45) = true)
    (a46 : PySem.W.nsIn K mainGlobals "_law_up" = some (some (.ref f46))) (l46 : K.lookup f46 = some ⟨oc46, od46, .func (PySem.W.fnOf "_law_up" "_law_up" (defArgs (top 62)) (defBody (top 62)) (defScope (top 62)) .none kV46 dc46 pm46 an46 cd46 ct46), sl46⟩) (c46 : PySem.W.codeIn K cd46 "_law_up" = true) (k46 : PySem.W.keepIn K (.ref f46) = true)
    (a47 : PySem.W.nsIn K mainGlobals "_law_tall" = some (some (.ref f47))) (l47 : K.lookup f47 = some ⟨oc47, od47, .func (PySem.W.fnOf "_law_tall" "_law_tall" (defArgs (top 63)) (defBody (top 63)) (defScope (top 63)) .none kV47 dc47 pm47 an47 cd47 ct47), sl47⟩) (c47 : PySem.W.codeIn K cd47 "_law_tall" = true) (k47 : PySem.W.keepIn K (.ref f47) = true)
    (a48 : PySem.W.nsIn K mainGlobals "law" = some (some (.ref f48))) (l48 : K.lookup f48 = some ⟨oc48, od48, .func (PySem.W.fnOf "law" "law" (defArgs (top 64)) (defBody (top 64)) (defScope (top 64)) .none kV48 dc48 pm48 an48 cd48 ct48), sl48⟩) (c48 : PySem.W.codeIn K cd48 "law" = true) (k48 : PySem.W.keepIn K (.ref f48) = true)
    (g0 : PySem.W.nsIn K mainGlobals "LEAST_PLACES" = some (some (.int 3 t0)))
    (g1 : PySem.W.nsIn K mainGlobals "MOST_PLACES" = some (some (.int 6 t1)))
    (g2 : PySem.W.nsIn K mainGlobals "MOST_WEIGHT" = some (some (.int 12 t2)))
    (g3 : PySem.W.nsIn K mainGlobals "MOST_FACTOR" = some (some (.int 60 t3)))
    (g4 : PySem.W.nsIn K mainGlobals "BELOW_NUMBER" = some (some (.int 10000000000000000000000000000000000000000000000000000000000000000000000000000000000000000000000000000000000000000000000000000000000000000000000000000000000000000000000000000000000000000000000000000000000000000000000000000000000000000000000000000000000000000000000000000000000000000000000000000000000000000000000000000000000000000000000000000000000000000000000000000000000000000000000000000000000000000 t4)))
    (g5 : PySem.W.nsIn K mainGlobals "MOST_WORD" = some (some (.int 5000 t5)))
    (g6 : PySem.W.nsIn K mainGlobals "MOST_LONG" = some (some (.int 1000 t6)))
    (x0 : PySem.W.nsIn K mainGlobals "TooMany" = some (some (.ref e0))) (xk0 : PySem.W.keepIn K (.ref e0) = true) (xs0 : PySem.W.subIn K (.ref e0) (.type "BaseException") = some true) (xt0 : PySem.W.typeIn K (.ref e0) = some (.type "type")) (xi0 : PySem.W.excIn K e0 [.type "ValueError", .type "Exception", .type "BaseException", .type "object"] "ValueError.__new__" = true)
    (x1 : PySem.W.nsIn K mainGlobals "Unfit" = some (some (.ref e1))) (xk1 : PySem.W.keepIn K (.ref e1) = true) (xs1 : PySem.W.subIn K (.ref e1) (.type "BaseException") = some true) (xt1 : PySem.W.typeIn K (.ref e1) = some (.type "type")) (xi1 : PySem.W.excIn K e1 [.type "ValueError", .type "Exception", .type "BaseException", .type "object"] "ValueError.__new__" = true)
    (z0 : PySem.W.nsIn K mainGlobals "range" = some none)
    (z1 : PySem.W.nsIn K mainGlobals "enumerate" = some none)
    (z2 : PySem.W.nsIn K mainGlobals "zip" = some none)
    (z3 : PySem.W.nsIn K mainGlobals "len" = some none)
    (z4 : PySem.W.nsIn K mainGlobals "sum" = some none)
    (z5 : PySem.W.nsIn K mainGlobals "all" = some none)
    (z6 : PySem.W.nsIn K mainGlobals "any" = some none)
    (z7 : PySem.W.nsIn K mainGlobals "abs" = some none)
    (z8 : PySem.W.nsIn K mainGlobals "int" = some none)
    (z9 : PySem.W.nsIn K mainGlobals "min" = some none)
    (z10 : PySem.W.nsIn K mainGlobals "max" = some none)
    (z11 : PySem.W.nsIn K mainGlobals "tuple" = some none)
    (z12 : PySem.W.nsIn K mainGlobals "list" = some none)
    (z13 : PySem.W.nsIn K mainGlobals "isinstance" = some none)
    (z14 : PySem.W.nsIn K mainGlobals "bool" = some none)
    (z15 : PySem.W.nsIn K mainGlobals "str" = some none)
    (z16 : PySem.W.nsIn K mainGlobals "sorted" = some none)
    (z17 : PySem.W.nsIn K mainGlobals "dict" = some none)
    (z18 : PySem.W.nsIn K mainGlobals "set" = some none)
    : ∃ cl, BaseOk K mg cl cs csT exT ∧ ∀ r ∈ rows, RowOk K mg r := by
  refine ⟨cl e0 e1, ⟨fun x hx => ?_, fun x g e => ?_, fun x c e => ?_⟩, fun r hr => ?_⟩
  · simp only [bltNames, List.mem_cons, List.not_mem_nil, or_false] at hx
    rcases hx with rfl | rfl | rfl | rfl | rfl | rfl | rfl | rfl | rfl | rfl | rfl | rfl | rfl | rfl | rfl | rfl | rfl | rfl | rfl
    · exact PySem.W.mg_none_of X G z0
    · exact PySem.W.mg_none_of X G z1
    · exact PySem.W.mg_none_of X G z2
    · exact PySem.W.mg_none_of X G z3
    · exact PySem.W.mg_none_of X G z4
    · exact PySem.W.mg_none_of X G z5
    · exact PySem.W.mg_none_of X G z6
    · exact PySem.W.mg_none_of X G z7
    · exact PySem.W.mg_none_of X G z8
    · exact PySem.W.mg_none_of X G z9
    · exact PySem.W.mg_none_of X G z10
    · exact PySem.W.mg_none_of X G z11
    · exact PySem.W.mg_none_of X G z12
    · exact PySem.W.mg_none_of X G z13
    · exact PySem.W.mg_none_of X G z14
    · exact PySem.W.mg_none_of X G z15
    · exact PySem.W.mg_none_of X G z16
    · exact PySem.W.mg_none_of X G z17
    · exact PySem.W.mg_none_of X G z18
  · unfold csT at e
    rw [List.lookup_cons] at e
    split at e
    · rename_i q; cases e; cases eq_of_beq q; exact ⟨_, _, PySem.W.mg_of X G g0, ⟨_, rfl⟩, rfl⟩
    rw [List.lookup_cons] at e
    split at e
    · rename_i q; cases e; cases eq_of_beq q; exact ⟨_, _, PySem.W.mg_of X G g1, ⟨_, rfl⟩, rfl⟩
    rw [List.lookup_cons] at e
    split at e
    · rename_i q; cases e; cases eq_of_beq q; exact ⟨_, _, PySem.W.mg_of X G g2, ⟨_, rfl⟩, rfl⟩
    rw [List.lookup_cons] at e
    split at e
    · rename_i q; cases e; cases eq_of_beq q; exact ⟨_, _, PySem.W.mg_of X G g3, ⟨_, rfl⟩, rfl⟩
    rw [List.lookup_cons] at e
    split at e
    · rename_i q; cases e; cases eq_of_beq q; exact ⟨_, _, PySem.W.mg_of X G g4, ⟨_, rfl⟩, rfl⟩
    rw [List.lookup_cons] at e
    split at e
    · rename_i q; cases e; cases eq_of_beq q; exact ⟨_, _, PySem.W.mg_of X G g5, ⟨_, rfl⟩, rfl⟩
    rw [List.lookup_cons] at e
    split at e
    · rename_i q; cases e; cases eq_of_beq q; exact ⟨_, _, PySem.W.mg_of X G g6, ⟨_, rfl⟩, rfl⟩
    cases e
  · unfold exT at e
    rw [List.lookup_cons] at e
    split at e
    · rename_i q; cases e; cases eq_of_beq q; exact ⟨by decide +kernel, PySem.W.mg_of X G x0, xk0, xs0, xt0, _, _, _, _, PySem.F.excBase_ValueError, xi0⟩
    rw [List.lookup_cons] at e
    split at e
    · rename_i q; cases e; cases eq_of_beq q; exact ⟨by decide +kernel, PySem.W.mg_of X G x1, xk1, xs1, xt1, _, _, _, _, PySem.F.excBase_ValueError, xi1⟩
    cases e
  · simp only [rows, List.mem_cons, List.not_mem_nil, or_false] at hr
    rcases hr with rfl | rfl | rfl | rfl | rfl | rfl | rfl | rfl | rfl | rfl | rfl | rfl | rfl | rfl | rfl | rfl | rfl | rfl | rfl | rfl | rfl | rfl | rfl | rfl | rfl | rfl | rfl | rfl | rfl | rfl | rfl | rfl | rfl | rfl | rfl | rfl | rfl | rfl | rfl | rfl | rfl | rfl | rfl | rfl | rfl | rfl | rfl | rfl | rfl
    · exact ro0 X G a0 l0 c0 k0
    · exact ro1 X G a1 l1 c1 k1
    · exact ro2 X G a2 l2 c2 k2
    · exact ro3 X G a3 l3 c3 k3
    · exact ro4 X G a4 l4 c4 k4
    · exact ro5 X G a5 l5 c5 k5
    · exact ro6 X G a6 l6 c6 k6
    · exact ro7 X G a7 l7 c7 k7
    · exact ro8 X G a8 l8 c8 k8
    · exact ro9 X G a9 l9 c9 k9
    · exact ro10 X G a10 l10 c10 k10
    · exact ro11 X G a11 l11 c11 k11
    · exact ro12 X G a12 l12 c12 k12
    · exact ro13 X G a13 l13 c13 k13
    · exact ro14 X G a14 l14 c14 k14
    · exact ro15 X G a15 l15 c15 k15
    · exact ro16 X G a16 l16 c16 k16
    · exact ro17 X G a17 l17 c17 k17
    · exact ro18 X G a18 l18 c18 k18
    · exact ro19 X G a19 l19 c19 k19
    · exact ro20 X G a20 l20 c20 k20
    · exact ro21 X G a21 l21 c21 k21
    · exact ro22 X G a22 l22 c22 k22
    · exact ro23 X G a23 l23 c23 k23
    · exact ro24 X G a24 l24 c24 k24
    · exact ro25 X G a25 l25 c25 k25
    · exact ro26 X G a26 l26 c26 k26
    · exact ro27 X G a27 l27 c27 k27
    · exact ro28 X G a28 l28 c28 k28
    · exact ro29 X G a29 l29 c29 k29
    · exact ro30 X G a30 l30 c30 k30
    · exact ro31 X G a31 l31 c31 k31
    · exact ro32 X G a32 l32 c32 k32
    · exact ro33 X G a33 l33 c33 k33
    · exact ro34 X G a34 l34 c34 k34
    · exact ro35 X G a35 l35 c35 k35
    · exact ro36 X G a36 l36 c36 k36
    · exact ro37 X G a37 l37 c37 k37
    · exact ro38 X G a38 l38 c38 k38
    · exact ro39 X G a39 l39 c39 k39
    · exact ro40 X G a40 l40 c40 k40
    · exact ro41 X G a41 l41 c41 k41
    · exact ro42 X G a42 l42 c42 k42
    · exact ro43 X G a43 l43 c43 k43
    · exact ro44 X G a44 l44 c44 k44
    · exact ro45 X G a45 l45 c45 k45
    · exact ro46 X G a46 l46 c46 k46
    · exact ro47 X G a47 l47 c47 k47
    · exact ro48 X G a48 l48 c48 k48
end
end Lk25
end
section
namespace Pu
open PySem F3
/-! ### a run, rule by rule -/
section
variable {Γ : Gm} {ρ ρ1 ρ2 ρ3 ρ4 : F3.Env} {a b c e : IE} {x y z : PyData} {es : List IE} {xs ys : List PyData} {i j k : Nat} {v w : Bool}
theorem r_var (h : ρ[i]? = some (some (.d x))) : sem Γ (.var i) ρ = .ok x ρ := by rw [sem]; unfold F3.getD; rw [h]; rfl
theorem r_ovar (h : ρ[i]? = some (some (.l xs))) : sem Γ (.ovar i) ρ = .ok (.list xs) ρ := by rw [sem]; unfold getL; rw [h]; rfl
theorem r_lit : sem Γ (.lit x) ρ = .ok x ρ := by rw [sem]
theorem r_glob {g : Int} (h : Γ.cs[i]? = some g) : sem Γ (.glob i) ρ = .ok (.int g) ρ := by rw [sem, h]; rfl
theorem r_bin {o : Op2} (h1 : sem Γ a ρ = .ok x ρ1) (h2 : sem Γ b ρ1 = .ok y ρ2) (h3 : binD o x y = some z) : sem Γ (.bin o a b) ρ = .ok z ρ2 := by
  rw [sem, h1]; show (sem Γ b ρ1).bind _ = _; rw [h2]; show Rs.of (binD o x y) ρ2 = _; rw [h3]; rfl
theorem r_neg {n : Int} (h1 : sem Γ a ρ = .ok (.int n) ρ1) : sem Γ (.neg a) ρ = .ok (.int (-n)) ρ1 := by rw [sem, h1]; rfl
theorem r_cmp {o : Cm} (h1 : sem Γ a ρ = .ok x ρ1) (h2 : sem Γ b ρ1 = .ok y ρ2) (h3 : cmpD o x y = some v) : sem Γ (.cmp o a b) ρ = .ok (.bool v) ρ2 := by
  rw [sem, h1]; show (sem Γ b ρ1).bind _ = _; rw [h2]; show Rs.of ((cmpD o x y).map _) ρ2 = _; rw [h3]; rfl
theorem r_isN {n : Bool} (h1 : sem Γ a ρ = .ok x ρ1) : sem Γ (.isN n a) ρ = .ok (.bool (n != isNoneD x)) ρ1 := by rw [sem, h1]; rfl
theorem r_ite {r : Rs PyData} (h1 : semT Γ c ρ = .ok v ρ1) (h2 : (if v = true then sem Γ a ρ1 else sem Γ b ρ1) = r) : sem Γ (.ite c a b) ρ = r := by rw [sem, h1]; exact h2
theorem r_and {r : Rs PyData} (h1 : sem Γ a ρ = .ok (.bool v) ρ1) (h2 : (if v = true then sem Γ b ρ1 else .ok (.bool v) ρ1) = r) : sem Γ (.and a b) ρ = r := by
  rw [sem, h1]; cases v <;> exact h2
theorem r_or {r : Rs PyData} (h1 : sem Γ a ρ = .ok (.bool v) ρ1) (h2 : (if v = true then .ok (.bool v) ρ1 else sem Γ b ρ1) = r) : sem Γ (.or a b) ρ = r := by
  rw [sem, h1]; cases v <;> exact h2
theorem r_not (h1 : sem Γ a ρ = .ok (.bool v) ρ1) : sem Γ (.not a) ρ = .ok (.bool (!v)) ρ1 := by rw [sem, h1]; rfl
theorem r_chain {o o' : Cm} {r : Rs PyData} (h1 : sem Γ a ρ = .ok x ρ1) (h2 : sem Γ b ρ1 = .ok y ρ2) (h3 : cmpD o x y = some v) (h4 : (if v = true then (sem Γ c ρ2).bind fun z ρ3 => .of ((cmpD o' y z).map .bool) ρ3 else .ok (.bool false) ρ2) = r) : sem Γ (.chain o o' a b c) ρ = r := by
  rw [sem, h1]; show (sem Γ b ρ1).bind _ = _; rw [h2]; show (match cmpD o x y with | some true => _ | some false => _ | none => _) = _; rw [h3]; cases v <;> exact h4
theorem r_tup (h : semL Γ es ρ = .ok xs ρ1) : sem Γ (.tup es) ρ = .ok (.tuple xs) ρ1 := by rw [sem, h]; rfl
theorem r_lst (h : semL Γ es ρ = .ok xs ρ1) : sem Γ (.lst es) ρ = .ok (.list xs) ρ1 := by rw [sem, h]; rfl
theorem r_ix (h1 : sem Γ a ρ = .ok x ρ1) (h2 : sem Γ b ρ1 = .ok y ρ2) (h3 : ixD x y = some z) : sem Γ (.ix a b) ρ = .ok z ρ2 := by
  rw [sem, h1]; show (sem Γ b ρ1).bind _ = _; rw [h2]; show Rs.of (ixD x y) ρ2 = _; rw [h3]; rfl
theorem r_sl {lo hi : Option IE} {l h : Option Int} (h1 : sem Γ a ρ = .ok x ρ1) (h2 : semO Γ lo ρ1 = .ok l ρ2) (h3 : semO Γ hi ρ2 = .ok h ρ3) (h4 : slD x l h = some z) : sem Γ (.sl a lo hi) ρ = .ok z ρ3 := by
  rw [sem, h1]; show (semO Γ lo ρ1).bind _ = _; rw [h2]; show (semO Γ hi ρ2).bind _ = _; rw [h3]; show Rs.of (slD x l h) ρ3 = _; rw [h4]; rfl
theorem o_none : semO Γ none ρ = .ok none ρ := by rw [semO]
theorem o_some {n : Int} (h : sem Γ a ρ = .ok (.int n) ρ1) : semO Γ (some a) ρ = .ok (some n) ρ1 := by rw [semO, h]; rfl
theorem r_bi {bi : BI} (h : semL Γ es ρ = .ok xs ρ1) (h2 : biD bi xs = some z) : sem Γ (.bi bi es) ρ = .ok z ρ1 := by rw [sem, h]; show Rs.of (biD bi xs) ρ1 = _; rw [h2]; rfl
theorem l_nil : semL Γ [] ρ = .ok [] ρ := by rw [semL]
theorem l_cons (h1 : sem Γ a ρ = .ok x ρ1) (h2 : semL Γ es ρ1 = .ok xs ρ2) : semL Γ (a :: es) ρ = .ok (x :: xs) ρ2 := by rw [semL, h1]; show (semL Γ es ρ1).bind _ = _; rw [h2]; rfl
/-- a call of data -/
theorem ar_data : ∀ {es : List IE} {ρ ρ1 : F3.Env} {xs : List PyData}, (es.all fun i => !isOvar i) = true → semL Γ es ρ = .ok xs ρ1 → semAr Γ es ρ = .ok (xs.map .v) ρ1
  | [], ρ, ρ1, xs, _, h => by rw [semL] at h; cases h; rw [semAr]; rfl
  | e :: es, ρ, ρ1, xs, hn, h => by
    rw [List.all_cons, Bool.and_eq_true] at hn
    rw [semL] at h
    have hs : semAr Γ (e :: es) ρ = (sem Γ e ρ).bind fun x ρ1 => (semAr Γ es ρ1).bind fun xs ρ2 => .ok (.v x :: xs) ρ2 := by
      cases e <;> first | (rw [semAr]; intro i z; cases z) | (cases hn.1)
    rw [hs]
    cases e1 : sem Γ e ρ with
    | bad => rw [e1] at h; cases h
    | ex c ρ2 => rw [e1] at h; cases h
    | ok x ρ2 =>
      rw [e1] at h
      have h : ((semL Γ es ρ2).bind fun xs ρ2 => Rs.ok (x :: xs) ρ2) = .ok xs ρ1 := h
      cases e2 : semL Γ es ρ2 with
      | bad => rw [e2] at h; cases h
      | ex c ρ3 => rw [e2] at h; cases h
      | ok ys ρ3 =>
        rw [e2] at h
        cases h
        show (semAr Γ es ρ2).bind _ = _
        rw [ar_data hn.2 e2]
        rfl
theorem avs_data : ∀ (xs : List PyData) (ρ : F3.Env), avs ρ (xs.map .v) = some (xs.map .d)
  | [], ρ => rfl
  | x :: xs, ρ => by rw [List.map_cons, avs, avs_data xs ρ]; rfl
theorem lay_data : ∀ (xs : List PyData) (ρ : F3.Env), layBack (xs.map .v) (xs.map .d) ρ = some ρ
  | [], ρ => rfl
  | x :: xs, ρ => by rw [List.map_cons, List.map_cons, layBack, lay_data xs ρ]
theorem owns_data : ∀ (xs : List PyData), owns (xs.map Ar.v) = []
  | [] => rfl
  | x :: xs => by rw [List.map_cons, owns, owns_data xs]
theorem r_call (hn : (es.all fun i => !isOvar i) = true) (h : semL Γ es ρ = .ok xs ρ1) (h2 : Γ.fn k (xs.map .d) = .ok (.d z) (xs.map .d)) : sem Γ (.call k es) ρ = .ok z ρ1 := by
  rw [sem, ar_data hn h]
  show (callR (Γ.fn k) (xs.map .v) ρ1).bind _ = _
  unfold callR
  rw [owns_data, if_pos List.nodup_nil, avs_data]
  dsimp only
  rw [h2]
  dsimp only
  rw [lay_data]
  rfl
/-! tests -/
theorem t_tru (ht : truE a = true) (h : sem Γ a ρ = .ok x ρ1) (h2 : truD x = some v) : semT Γ a ρ = .ok v ρ1 := by
  rw [semT_tru ht, h]; show Rs.of (truD x) ρ1 = _; rw [h2]; rfl
theorem t_cmp {o : Cm} (h1 : sem Γ a ρ = .ok x ρ1) (h2 : sem Γ b ρ1 = .ok y ρ2) (h3 : cmpD o x y = some v) : semT Γ (.cmp o a b) ρ = .ok v ρ2 := by
  rw [semT, h1]; show (sem Γ b ρ1).bind _ = _; rw [h2]; show Rs.of (cmpD o x y) ρ2 = _; rw [h3]; rfl
theorem t_chain {o o' : Cm} {r : Rs Bool} (h1 : sem Γ a ρ = .ok x ρ1) (h2 : sem Γ b ρ1 = .ok y ρ2) (h3 : cmpD o x y = some v) (h4 : (if v = true then (sem Γ c ρ2).bind fun z ρ3 => .of (cmpD o' y z) ρ3 else .ok false ρ2) = r) : semT Γ (.chain o o' a b c) ρ = r := by
  rw [semT, h1]; show (sem Γ b ρ1).bind _ = _; rw [h2]; show (match cmpD o x y with | some true => _ | some false => _ | none => _) = _; rw [h3]; cases v <;> exact h4
theorem t_isN {n : Bool} (h1 : sem Γ a ρ = .ok x ρ1) : semT Γ (.isN n a) ρ = .ok (n != isNoneD x) ρ1 := by rw [semT, h1]; rfl
theorem t_not (h1 : semT Γ a ρ = .ok v ρ1) : semT Γ (.not a) ρ = .ok (!v) ρ1 := by rw [semT, h1]; rfl
theorem t_and {r : Rs Bool} (h1 : semT Γ a ρ = .ok v ρ1) (h2 : (if v = true then semT Γ b ρ1 else .ok false ρ1) = r) : semT Γ (.and a b) ρ = r := by
  rw [semT, h1]; exact h2
theorem t_or {r : Rs Bool} (h1 : semT Γ a ρ = .ok v ρ1) (h2 : (if v = true then .ok true ρ1 else semT Γ b ρ1) = r) : semT Γ (.or a b) ρ = r := by
  rw [semT, h1]; exact h2
/-! statements -/
theorem s_set (h : sem Γ e ρ = .ok x ρ1) (h2 : setV Γ i (.d x) ρ1 = some ρ2) : exS Γ (.set i e) ρ = .nx ρ2 := by
  rw [exS, h]; show Ss.ofO (setV Γ i (.d x) ρ1) = _; rw [h2]; rfl
theorem s_own {av : AV} (h : semF Γ e ρ = .ok av ρ1) (h2 : setV Γ i av ρ1 = some ρ2) : exS Γ (.own i e) ρ = .nx ρ2 := by
  rw [exS, h]; show Ss.ofO (setV Γ i av ρ1) = _; rw [h2]; rfl
theorem s_asg {t : Tg} (h : sem Γ e ρ = .ok x ρ1) (h2 : assignT Γ t x ρ1 = some ρ2) : exS Γ (.asg t e) ρ = .nx ρ2 := by
  rw [exS, h]; show Ss.ofO (assignT Γ t x ρ1) = _; rw [h2]; rfl
theorem s_ret (h : sem Γ e ρ = .ok x ρ1) : exS Γ (.ret e) ρ = .rt (.d x) ρ1 := by rw [exS, h]; rfl
theorem s_retO {av : AV} (h : semF Γ e ρ = .ok av ρ1) : exS Γ (.retO e) ρ = .rt av ρ1 := by rw [exS, h]; rfl
theorem s_if {p q : List IS} {r : Ss} (h1 : semT Γ c ρ = .ok v ρ1) (h2 : (if v = true then exSs Γ p ρ1 else exSs Γ q ρ1) = r) : exS Γ (.if_ c p q) ρ = r := by rw [exS, h1]; exact h2
theorem s_app (h : sem Γ e ρ = .ok x ρ1) (h0 : ρ[i]? = some (some (.l ys))) (h1 : ρ1[i]? = some (some (.l xs))) (h2 : fits (xs.length + 1) = true) (h3 : ρ1.set i (some (.l (xs ++ [x]))) = ρ2) : exS Γ (.app i e) ρ = .nx ρ2 := by
  rw [exS]
  have g0 : getL ρ i = some ys := by unfold getL; rw [h0]
  have g1 : getL ρ1 i = some xs := by unfold getL; rw [h1]
  rw [g0, if_pos (show (some ys).isSome = true from rfl), h]
  show (match getL ρ1 i with | some xs => _ | none => _) = _
  rw [g1]
  dsimp only
  rw [if_pos h2, h3]
theorem s_frz (h0 : ρ[i]? = some (some (.l xs))) (h2 : setV Γ i (.d (.list xs)) ρ = some ρ2) : exS Γ (.frz i) ρ = .nx ρ2 := by
  have g0 : getL ρ i = some xs := by unfold getL; rw [h0]
  rw [exS, g0]
  dsimp only
  rw [h2]
  rfl
theorem s_put {n : Int} {xs' : List PyData} (h00 : ρ[i]? = some (some (.l xs'))) (h : sem Γ e ρ = .ok x ρ1) (h1 : sem Γ a ρ1 = .ok (.int n) ρ2) (h0 : ρ2[i]? = some (some (.l xs))) (hn : 0 ≤ n ∧ n < xs.length) (h3 : ρ2.set i (some (.l (xs.set n.toNat x))) = ρ3) : exS Γ (.put i a e) ρ = .nx ρ3 := by
  have g00 : getL ρ i = some xs' := by unfold getL; rw [h00]
  have g0 : getL ρ2 i = some xs := by unfold getL; rw [h0]
  rw [exS, g00, if_pos (show (some xs').isSome = true from rfl), h]
  show (sem Γ a ρ1).st _ = _
  rw [h1]
  show (match getL ρ2 i, PyData.int n with | some xs, .int n => _ | _, _ => _) = _
  rw [g0]
  dsimp only
  rw [if_pos (decide_eq_true hn), h3]
theorem f_lst (h : semL Γ es ρ = .ok xs ρ1) : semF Γ (.lst es) ρ = .ok (.l xs) ρ1 := by rw [semF, h]; rfl
theorem f_list (h : sem Γ e ρ = .ok x ρ1) (h2 : seqOf x = some xs) : semF Γ (.bi .lst [e]) ρ = .ok (.l xs) ρ1 := by
  rw [semF, h]; show Rs.of ((seqOf x).map _) ρ1 = _; rw [h2]; rfl
/-! ### step by step -/
theorem ss_nx {s : IS} {r : List IS} (h : exS Γ s ρ = .nx ρ1) : exSs Γ (s :: r) ρ = exSs Γ r ρ1 := by rw [exSs, h]
theorem ss_go {s : IS} {r : List IS} {q : Ss} (h : exS Γ s ρ = .nx ρ1) (h2 : exSs Γ r ρ1 = q) : exSs Γ (s :: r) ρ = q := by rw [exSs, h]; exact h2
theorem ss_rt {s : IS} {r : List IS} {av : AV} (h : exS Γ s ρ = .rt av ρ1) : exSs Γ (s :: r) ρ = .rt av ρ1 := by rw [exSs, h]
theorem ss_nil : exSs Γ [] ρ = .nx ρ := by rw [exSs]
theorem outs_data : ∀ (xs : List PyData) (ρ : F3.Env), xs.length ≤ ρ.length → outs (xs.map .d) ρ = some (xs.map .d)
  | [], ρ, _ => by rw [List.map_nil, outs]
  | x :: xs, [], h => by simp at h
  | x :: xs, r :: ρ, h => by
    have ih := outs_data xs ρ (by simpa using h)
    rw [List.map_cons, outs, ih]
    rfl
/-- a def of data that returns -/
theorem run_rt {cs : List Int} {fn : Nat → Fn} {D : FD} {xs : List PyData} {r : AV} (h1 : xs.length = D.np) (h2 : D.np ≤ D.ns) (h : exSs ⟨fn, cs, (xs.map AV.d).map AV.own⟩ D.body ((xs.map AV.d).map some ++ List.replicate (D.ns - D.np) none) = .rt r ρ1) (hl : xs.length ≤ ρ1.length) :
    runD cs fn D (xs.map .d) = .ok r (xs.map .d) := by
  unfold runD
  rw [if_pos (by simp [h1, h2]), h]
  simp only [endF]
  rw [outs_data xs ρ1 hl]
end
end Pu
end
section
namespace Pu
open PySem F3
/-! ### operations on ints -/
@[simp] theorem depth_int (i : Int) : (PyData.int i).depth = 0 := by simp [PyData.depth]
@[simp] theorem cmp_eq (i j : Int) : cmpD .eq (.int i) (.int j) = some (decide (i = j)) := by
  by_cases h : i = j <;> simp [cmpD, shal, PyData.eqv, h]
@[simp] theorem cmp_ne (i j : Int) : cmpD .ne (.int i) (.int j) = some (!decide (i = j)) := by
  by_cases h : i = j <;> simp [cmpD, shal, PyData.eqv, h]
@[simp] theorem cmp_lt (i j : Int) : cmpD .lt (.int i) (.int j) = some (decide (i < j)) := rfl
@[simp] theorem cmp_le (i j : Int) : cmpD .le (.int i) (.int j) = some (decide (i ≤ j)) := rfl
@[simp] theorem cmp_gt (i j : Int) : cmpD .gt (.int i) (.int j) = some (decide (j < i)) := rfl
@[simp] theorem cmp_ge (i j : Int) : cmpD .ge (.int i) (.int j) = some (decide (j ≤ i)) := rfl
@[simp] theorem bin_add (i j : Int) : binD .add (.int i) (.int j) = some (.int (i + j)) := rfl
@[simp] theorem bin_sub (i j : Int) : binD .sub (.int i) (.int j) = some (.int (i - j)) := rfl
/-- a number that is not too great -/
def Sm (b : Nat) (i : Int) : Prop := i.natAbs < 2 ^ b
theorem log_lt {n b : Nat} (h : n < 2 ^ b) : n.log2 ≤ b := by
  by_cases z : n = 0
  · subst z; simp
  · exact Nat.le_of_lt ((Nat.log2_lt z).mpr h)
theorem mulOk_sm {i j : Int} {a b : Nat} (h : Sm a i) (h' : Sm b j) (z : a + b < 1000000) : mulOk i j = true := by
  unfold mulOk
  refine decide_eq_true (.inr (.inr ?_))
  have := log_lt h
  have := log_lt h'
  omega
theorem Sm.mul {i j : Int} {a b : Nat} (h : Sm a i) (h' : Sm b j) : Sm (a + b) (i * j) := by
  unfold Sm at *
  rw [Int.natAbs_mul, Nat.pow_add]
  exact Nat.mul_lt_mul'' h h'
theorem bin_mul {i j : Int} (h : mulOk i j = true) : binD .mul (.int i) (.int j) = some (.int (i * j)) := by
  rw [binD, if_pos h]
theorem bin_mod {i j : Int} (h : 0 < j) : binD .mod (.int i) (.int j) = some (.int (i % j)) := by
  rw [binD, if_pos (decide_eq_true h)]
theorem bin_fdiv {i j : Int} (h : divOk j = true) : binD .fdiv (.int i) (.int j) = some (.int (i / j)) := by
  rw [binD, if_pos h]
@[simp] theorem len_tup (xs : List PyData) : biD .len [.tuple xs] = some (.int xs.length) := rfl
@[simp] theorem len_lst (xs : List PyData) : biD .len [.list xs] = some (.int xs.length) := rfl
theorem intsOf_map : ∀ xs : List Int, intsOf (xs.map .int) = some xs
  | [] => rfl
  | x :: r => by rw [List.map_cons, intsOf, intsOf_map r]; rfl
theorem boolsOf_map : ∀ xs : List Bool, boolsOf (xs.map .bool) = some xs
  | [] => rfl
  | x :: r => by rw [List.map_cons, boolsOf, boolsOf_map r]; rfl
@[simp] theorem sum_tup (xs : List Int) : biD .sum [.tuple (xs.map .int)] = some (.int xs.sum) := by simp [biD, seqOf, intsOf_map]
@[simp] theorem all_lst (xs : List Bool) : biD .all [.list (xs.map .bool)] = some (.bool (xs.all id)) := by simp [biD, boolsOf_map]

section
variable {cs : List Int} {fn : Nat → Fn}
def isNum : PyData → Bool
  | .int _ => true
  | _ => false
def IsNumber (f : Fn) : Prop := ∀ x, tyOf x ≠ none → f [.d x] = .ok (.d (.bool (isNum x))) [.d x]
theorem is_number_ok : IsNumber (runD cs fn Lb.is_number) := by
  intro x h
  cases x <;> first | rfl | exact absurd rfl h
def IsWithin (f : Fn) : Prop := ∀ x a b : Int, f [.d (.int x), .d (.int a), .d (.int b)] = .ok (.d (.bool (decide (a ≤ x) && decide (x ≤ b)))) [.d (.int x), .d (.int a), .d (.int b)]
theorem is_within_ok {f0 : Nat} (h0 : IsNumber (fn f0)) : IsWithin (runD cs fn (Lb.is_within f0)) := by
  intro x a b
  have e0 := h0 (.int x) (by simp [tyOf])
  simp [Lb.is_within, runD, endF, outs, exSs, exS.eq_1, exS.eq_2, exS.eq_3, exS.eq_4, exS.eq_5, exS.eq_6, exS.eq_7, exS.eq_8, exS.eq_9, exS.eq_10, exS.eq_11, exS.eq_12, exS.eq_15, exS.eq_16, exS.eq_17, exS.eq_18, exS.eq_19, sem.eq_1, sem.eq_2, sem.eq_3, sem.eq_4, sem.eq_5, sem.eq_6, sem.eq_7, sem.eq_8, sem.eq_9, sem.eq_10, sem.eq_11, sem.eq_12, sem.eq_13, sem.eq_14, sem.eq_15, sem.eq_16, sem.eq_17, sem.eq_18, sem.eq_19, sem.eq_20, sem.eq_22, semT, semL, semAr, semO, semC, semI, semV, semM, Rs.bind, Rs.of, Rs.st, Rs.ofO, Ss.ofO, F3.getD, getL, isOwn, setV, setVs, Gm.fix, callR, owns, avs, Ar.av, layBack, AV.own, AV.data, truD, assignT, assignTs, List.replicate, List.map_cons, List.map_nil, e0, isNum, cmpD, List.replicate]
  by_cases h : a ≤ x <;> simp [h, Rs.of, Rs.st, outs]
def SureWithin (f : Fn) : Prop := ∀ x a b : Int, a ≤ x → x ≤ b → f [.d (.int x), .d (.int a), .d (.int b)] = .ok (.d (.int x)) [.d (.int x), .d (.int a), .d (.int b)]
theorem sure_within_ok {f0 x0 : Nat} (h0 : IsWithin (fn f0)) : SureWithin (runD cs fn (Lb.sure_within f0 x0)) := by
  intro x a b h1 h2
  have e0 := h0 x a b
  simp [Lb.sure_within, runD, endF, outs, exSs, exS.eq_1, exS.eq_2, exS.eq_3, exS.eq_4, exS.eq_5, exS.eq_6, exS.eq_7, exS.eq_8, exS.eq_9, exS.eq_10, exS.eq_11, exS.eq_12, exS.eq_15, exS.eq_16, exS.eq_17, exS.eq_18, exS.eq_19, sem.eq_1, sem.eq_2, sem.eq_3, sem.eq_4, sem.eq_5, sem.eq_6, sem.eq_7, sem.eq_8, sem.eq_9, sem.eq_10, sem.eq_11, sem.eq_12, sem.eq_13, sem.eq_14, sem.eq_15, sem.eq_16, sem.eq_17, sem.eq_18, sem.eq_19, sem.eq_20, sem.eq_22, semT, semL, semAr, semO, semC, semI, semV, semM, Rs.bind, Rs.of, Rs.st, Rs.ofO, Ss.ofO, F3.getD, getL, isOwn, setV, setVs, Gm.fix, callR, owns, avs, Ar.av, layBack, AV.own, AV.data, truD, assignT, assignTs, List.replicate, List.map_cons, List.map_nil, e0, h1, h2, List.replicate]
/-- tuples and lists of ints, within -/
def tI (xs : List Int) : PyData := .tuple (xs.map .int)
def IsLong (f : Fn) : Prop := ∀ (xs : List PyData) (n : Int), f [.d (.tuple xs), .d (.int n)] = .ok (.d (.bool (decide ((xs.length : Int) = n)))) [.d (.tuple xs), .d (.int n)]
theorem is_long_ok : IsLong (runD cs fn Lb.is_long) := by
  intro xs n
  simp [Lb.is_long, runD, endF, outs, exSs, exS.eq_1, exS.eq_2, exS.eq_3, exS.eq_4, exS.eq_5, exS.eq_6, exS.eq_7, exS.eq_8, exS.eq_9, exS.eq_10, exS.eq_11, exS.eq_12, exS.eq_15, exS.eq_16, exS.eq_17, exS.eq_18, exS.eq_19, sem.eq_1, sem.eq_2, sem.eq_3, sem.eq_4, sem.eq_5, sem.eq_6, sem.eq_7, sem.eq_8, sem.eq_9, sem.eq_10, sem.eq_11, sem.eq_12, sem.eq_13, sem.eq_14, sem.eq_15, sem.eq_16, sem.eq_17, sem.eq_18, sem.eq_19, sem.eq_20, sem.eq_22, semT, semL, semAr, semO, semC, semI, semV, semM, Rs.bind, Rs.of, Rs.st, Rs.ofO, Ss.ofO, F3.getD, getL, isOwn, setV, setVs, Gm.fix, callR, owns, avs, Ar.av, layBack, AV.own, AV.data, truD, assignT, assignTs, List.replicate, List.map_cons, List.map_nil, List.replicate, show isiD (.tuple xs) "tuple" = some true from rfl, biD, seqOf]
/-- merge of an environment with itself -/
theorem mrg1_self (a : Option AV) : mrg1 a a = some a := by
  cases a with
  | none => rfl
  | some a => by_cases o : a.own = true <;> simp [mrg1, o]
theorem merge_self : ∀ ρ : F3.Env, merge ρ ρ = some ρ
  | [] => rfl
  | a :: r => by rw [merge, mrg1_self, merge_self r]; rfl
/-- a comprehension whose turns leave all as it was -/
theorem lcL_map {t : PyData → F3.Env → Option F3.Env} {c : F3.Env → Rs Bool} {f : F3.Env → Rs PyData} {ρ : F3.Env} {α : Type} (g : α → PyData) (p : α → Bool) (y : α → PyData) : ∀ (xs : List α) (acc : List PyData),
    (∀ x ∈ xs, ∃ ρ1 ρ2, t (g x) ρ = some ρ1 ∧ c ρ1 = .ok (p x) ρ2 ∧ ((p x = false ∧ merge ρ ρ2 = some ρ) ∨ (p x = true ∧ ∃ ρ3, f ρ2 = .ok (y x) ρ3 ∧ merge ρ ρ3 = some ρ))) → acc.length + xs.length ≤ sizeLine →
    lcL t c f (xs.map g) acc ρ = .ok (acc ++ (xs.filter p).map y) ρ
  | [], acc, _, _ => by simp [lcL]
  | x :: xs, acc, h, hl => by
    obtain ⟨ρ1, ρ2, h1, h2, h3⟩ := h x (by simp)
    have hf : fits (acc.length + 1) = true := by
      unfold fits
      rw [List.length_cons] at hl
      exact decide_eq_true (by omega)
    have hl1 : acc.length + xs.length ≤ sizeLine := by rw [List.length_cons] at hl; omega
    have hl2 : (acc ++ [y x]).length + xs.length ≤ sizeLine := by rw [List.length_cons] at hl; rw [List.length_append, List.length_singleton]; omega
    have r := fun z hz => h z (List.mem_cons_of_mem _ hz)
    rw [List.map_cons, lcL, h1]
    dsimp only
    rw [h2]
    cases hp : p x with
    | false =>
      rcases h3 with ⟨_, hm⟩ | ⟨h3, _⟩
      · dsimp only
        rw [hm]
        dsimp only
        rw [lcL_map g p y xs acc r hl1, List.filter_cons_of_neg (by simp [hp])]
      · rw [hp] at h3; cases h3
    | true =>
      rcases h3 with ⟨h3, _⟩ | ⟨_, ρ3, hf3, hm⟩
      · rw [hp] at h3; cases h3
      · dsimp only
        rw [hf3]
        dsimp only
        rw [if_pos hf, hm]
        dsimp only
        rw [lcL_map g p y xs _ r hl2, List.filter_cons_of_pos hp]
        simp

theorem sem_lcP {Γ : Gm} {is : List Nat} {t : Tg} {it : II} {c : Option IE} {e : IE} {ρ : F3.Env} {α : Type} (g : α → PyData) (p : α → Bool) (y : α → PyData) (xs : List α) (h1 : semI Γ it ρ = .ok (xs.map g) ρ) (h2 : noOwn ρ is = true) (hl : xs.length ≤ 100000)
    (h : ∀ x ∈ xs, ∃ ρ1 ρ2, assignT Γ t (g x) (wipeE ρ is) = some ρ1 ∧ semC Γ c ρ1 = .ok (p x) ρ2 ∧ ((p x = false ∧ merge (wipeE ρ is) ρ2 = some (wipeE ρ is)) ∨ (p x = true ∧ ∃ ρ3, sem Γ e ρ2 = .ok (y x) ρ3 ∧ merge (wipeE ρ is) ρ3 = some (wipeE ρ is))))
    (hm : merge ρ (wipeE ρ is) = some ρ) : sem Γ (.lc is t it c e) ρ = .ok (.list ((xs.filter p).map y)) ρ := by
  have hz : ([] : List PyData).length + xs.length ≤ sizeLine := by
    have : sizeLine = 16777216 := by decide
    rw [this]; simp; omega
  have r := lcL_map (t := assignT Γ t) (c := fun ρ => semC Γ c ρ) (f := fun ρ => sem Γ e ρ) (ρ := wipeE ρ is) g p y xs [] h hz
  rw [sem, h1]
  show (if noOwn ρ is = true then _ else _) = _
  rw [if_pos h2, r]
  show Rs.ofO _ (merge ρ (wipeE ρ is)) = _
  rw [hm]
  rfl

end
end Pu
end
section
namespace Pu
open PySem F3
theorem filter_tt {α : Type} (xs : List α) : xs.filter (fun _ => true) = xs := List.filter_eq_self.mpr fun _ _ => rfl
section
variable {cs : List Int} {fn : Nat → Fn}
def AreNumbers (f : Fn) : Prop := ∀ xs : List Int, xs.length ≤ 100000 → f [.d (tI xs)] = .ok (.d (.bool true)) [.d (tI xs)]
theorem are_numbers_ok {f0 : Nat} (h0 : IsNumber (fn f0)) : AreNumbers (runD cs fn (Lb.are_numbers f0)) := by
  intro xs hl
  have e1 := sem_lcP (Γ := ⟨fn, cs, [false]⟩) (is := [1]) (t := .n 1) (it := .seq (.var 0)) (c := none) (e := .call f0 [.var 1]) (ρ := [some (.d (tI xs)), none]) PyData.int (fun _ => true) (fun _ => .bool true) xs
    (by simp [runD, endF, outs, exSs, exS.eq_1, exS.eq_2, exS.eq_3, exS.eq_4, exS.eq_5, exS.eq_6, exS.eq_7, exS.eq_8, exS.eq_9, exS.eq_10, exS.eq_11, exS.eq_12, exS.eq_15, exS.eq_16, exS.eq_17, exS.eq_18, exS.eq_19, sem.eq_1, sem.eq_2, sem.eq_3, sem.eq_4, sem.eq_5, sem.eq_6, sem.eq_7, sem.eq_8, sem.eq_9, sem.eq_10, sem.eq_11, sem.eq_12, sem.eq_13, sem.eq_14, sem.eq_15, sem.eq_16, sem.eq_17, sem.eq_18, sem.eq_19, sem.eq_20, sem.eq_22, semT, semL, semAr, semO, semC, semI, semV, semM, Rs.bind, Rs.of, Rs.st, Rs.ofO, Ss.ofO, F3.getD, getL, isOwn, setV, setVs, Gm.fix, callR, owns, avs, Ar.av, layBack, AV.own, AV.data, truD, assignT, assignTs, List.replicate, List.map_cons, List.map_nil, tI, seqOf]) rfl hl (fun x _ => ⟨[some (.d (tI xs)), some (.d (.int x))], _, rfl, rfl, .inr ⟨rfl, [some (.d (tI xs)), some (.d (.int x))], by
      have e0 := h0 (.int x) (by simp [tyOf])
      simp [runD, endF, outs, exSs, exS.eq_1, exS.eq_2, exS.eq_3, exS.eq_4, exS.eq_5, exS.eq_6, exS.eq_7, exS.eq_8, exS.eq_9, exS.eq_10, exS.eq_11, exS.eq_12, exS.eq_15, exS.eq_16, exS.eq_17, exS.eq_18, exS.eq_19, sem.eq_1, sem.eq_2, sem.eq_3, sem.eq_4, sem.eq_5, sem.eq_6, sem.eq_7, sem.eq_8, sem.eq_9, sem.eq_10, sem.eq_11, sem.eq_12, sem.eq_13, sem.eq_14, sem.eq_15, sem.eq_16, sem.eq_17, sem.eq_18, sem.eq_19, sem.eq_20, sem.eq_22, semT, semL, semAr, semO, semC, semI, semV, semM, Rs.bind, Rs.of, Rs.st, Rs.ofO, Ss.ofO, F3.getD, getL, isOwn, setV, setVs, Gm.fix, callR, owns, avs, Ar.av, layBack, AV.own, AV.data, truD, assignT, assignTs, List.replicate, List.map_cons, List.map_nil, e0, isNum], rfl⟩⟩) rfl
  have e2 : biD .all [.list ((xs.filter fun _ => true).map fun _ => PyData.bool true)] = some (.bool true) := by
    have := all_lst (xs.map fun _ => true)
    rw [List.map_map] at this
    have e3 : (xs.map fun _ => true).all id = true := by simp
    rw [e3] at this
    rw [filter_tt]
    exact this
  simp [Lb.are_numbers, runD, endF, outs, exSs, exS.eq_1, exS.eq_2, exS.eq_3, exS.eq_4, exS.eq_5, exS.eq_6, exS.eq_7, exS.eq_8, exS.eq_9, exS.eq_10, exS.eq_11, exS.eq_12, exS.eq_15, exS.eq_16, exS.eq_17, exS.eq_18, exS.eq_19, sem.eq_1, sem.eq_2, sem.eq_3, sem.eq_4, sem.eq_5, sem.eq_6, sem.eq_7, sem.eq_8, sem.eq_9, sem.eq_10, sem.eq_11, sem.eq_12, sem.eq_13, sem.eq_14, sem.eq_15, sem.eq_16, sem.eq_17, sem.eq_18, sem.eq_19, sem.eq_20, sem.eq_22, semT, semL, semAr, semO, semC, semI, semV, semM, Rs.bind, Rs.of, Rs.st, Rs.ofO, Ss.ofO, F3.getD, getL, isOwn, setV, setVs, Gm.fix, callR, owns, avs, Ar.av, layBack, AV.own, AV.data, truD, assignT, assignTs, List.replicate, List.map_cons, List.map_nil, show biD (.isi "tuple") [tI xs] = some (.bool true) from rfl, e1, e2]
/-- data of tuples and ints, to a depth -/
inductive TO : Nat → PyData → Prop
  | int (d : Nat) (i : Int) : TO d (.int i)
  | tup (d : Nat) (xs : List PyData) (h : ∀ x ∈ xs, TO d x) (l : xs.length ≤ 100000) : TO (d + 1) (.tuple xs)
theorem TO.tI {d : Nat} {xs : List Int} (l : xs.length ≤ 100000) : TO (d + 1) (Pu.tI xs) := .tup _ _ (fun x h => by
  obtain ⟨i, _, rfl⟩ := List.mem_map.mp h
  exact .int _ i) (by simpa using l)
def Tupled (d : Nat) (f : Fn) : Prop := ∀ x, TO d x → f [.d x] = .ok (.d x) [.d x]
theorem tupled_ok {f0 d : Nat} (h0 : Tupled d (fn f0)) : Tupled (d + 1) (runD cs fn (Lb.tupled f0)) := by
  intro x hx
  cases hx with
  | int _ i => rfl
  | tup _ xs h l =>
    have e1 := sem_lcP (Γ := ⟨fn, cs, [false]⟩) (is := [1]) (t := .n 1) (it := .seq (.var 0)) (c := none) (e := .call f0 [.var 1]) (ρ := [some (.d (.tuple xs)), none]) id (fun _ => true) id xs
      (by simp [runD, endF, outs, exSs, exS.eq_1, exS.eq_2, exS.eq_3, exS.eq_4, exS.eq_5, exS.eq_6, exS.eq_7, exS.eq_8, exS.eq_9, exS.eq_10, exS.eq_11, exS.eq_12, exS.eq_15, exS.eq_16, exS.eq_17, exS.eq_18, exS.eq_19, sem.eq_1, sem.eq_2, sem.eq_3, sem.eq_4, sem.eq_5, sem.eq_6, sem.eq_7, sem.eq_8, sem.eq_9, sem.eq_10, sem.eq_11, sem.eq_12, sem.eq_13, sem.eq_14, sem.eq_15, sem.eq_16, sem.eq_17, sem.eq_18, sem.eq_19, sem.eq_20, sem.eq_22, semT, semL, semAr, semO, semC, semI, semV, semM, Rs.bind, Rs.of, Rs.st, Rs.ofO, Ss.ofO, F3.getD, getL, isOwn, setV, setVs, Gm.fix, callR, owns, avs, Ar.av, layBack, AV.own, AV.data, truD, assignT, assignTs, List.replicate, List.map_cons, List.map_nil, seqOf]) rfl l (fun x hm => ⟨[some (.d (.tuple xs)), some (.d x)], _, rfl, rfl, .inr ⟨rfl, [some (.d (.tuple xs)), some (.d x)], by
        have e0 := h0 x (h x hm)
        simp [runD, endF, outs, exSs, exS.eq_1, exS.eq_2, exS.eq_3, exS.eq_4, exS.eq_5, exS.eq_6, exS.eq_7, exS.eq_8, exS.eq_9, exS.eq_10, exS.eq_11, exS.eq_12, exS.eq_15, exS.eq_16, exS.eq_17, exS.eq_18, exS.eq_19, sem.eq_1, sem.eq_2, sem.eq_3, sem.eq_4, sem.eq_5, sem.eq_6, sem.eq_7, sem.eq_8, sem.eq_9, sem.eq_10, sem.eq_11, sem.eq_12, sem.eq_13, sem.eq_14, sem.eq_15, sem.eq_16, sem.eq_17, sem.eq_18, sem.eq_19, sem.eq_20, sem.eq_22, semT, semL, semAr, semO, semC, semI, semV, semM, Rs.bind, Rs.of, Rs.st, Rs.ofO, Ss.ofO, F3.getD, getL, isOwn, setV, setVs, Gm.fix, callR, owns, avs, Ar.av, layBack, AV.own, AV.data, truD, assignT, assignTs, List.replicate, List.map_cons, List.map_nil, e0], rfl⟩⟩) rfl
    rw [filter_tt, List.map_id] at e1
    have e2 : biD .isiTL [.tuple xs] = some (.bool true) := rfl
    have e3 : biD .tup [.list xs] = some (.tuple xs) := rfl
    simp [Lb.tupled, runD, endF, outs, exSs, exS.eq_1, exS.eq_2, exS.eq_3, exS.eq_4, exS.eq_5, exS.eq_6, exS.eq_7, exS.eq_8, exS.eq_9, exS.eq_10, exS.eq_11, exS.eq_12, exS.eq_15, exS.eq_16, exS.eq_17, exS.eq_18, exS.eq_19, sem.eq_1, sem.eq_2, sem.eq_3, sem.eq_4, sem.eq_5, sem.eq_6, sem.eq_7, sem.eq_8, sem.eq_9, sem.eq_10, sem.eq_11, sem.eq_12, sem.eq_13, sem.eq_14, sem.eq_15, sem.eq_16, sem.eq_17, sem.eq_18, sem.eq_19, sem.eq_20, sem.eq_22, semT, semL, semAr, semO, semC, semI, semV, semM, Rs.bind, Rs.of, Rs.st, Rs.ofO, Ss.ofO, F3.getD, getL, isOwn, setV, setVs, Gm.fix, callR, owns, avs, Ar.av, layBack, AV.own, AV.data, truD, assignT, assignTs, List.replicate, List.map_cons, List.map_nil, e1, e2, e3]
theorem tupled_int {f0 : Nat} : Tupled 0 (runD cs fn (Lb.tupled f0)) := by
  intro x hx
  cases hx with
  | int _ i => rfl
theorem all_true {α : Type} (xs : List α) (p : α → Bool) (h : ∀ x ∈ xs, p x = true) : biD .all [.list (xs.map fun x => PyData.bool (p x))] = some (.bool true) := by
  have := all_lst (xs.map p)
  rw [List.map_map] at this
  have e3 : (xs.map p).all id = true := by simpa using h
  rw [e3] at this
  exact this
def AreWeights (f : Fn) : Prop := ∀ ws : List Int, 3 ≤ ws.length → ws.length ≤ 6 → (∀ w ∈ ws, 1 ≤ w ∧ w ≤ 12) → f [.d (tI ws)] = .ok (.d (.bool true)) [.d (tI ws)]
theorem are_weights_ok {f0 c0 c1 c2 : Nat} (h0 : AreNumbers (fn f0)) (g0 : cs[c0]? = some 3) (g1 : cs[c1]? = some 6) (g2 : cs[c2]? = some 12) : AreWeights (runD cs fn (Lb.are_weights f0 c0 c1 c2)) := by
  intro ws l1 l2 hw
  have e0 := h0 ws (by omega)
  have e1 := sem_lcP (Γ := ⟨fn, cs, [false]⟩) (is := [1]) (t := .n 1) (it := .seq (.var 0)) (c := none) (e := .chain .le .le (.lit (.int 1)) (.var 1) (.glob c2)) (ρ := [some (.d (tI ws)), none]) PyData.int (fun _ => true) (fun w => .bool (decide (w ≤ 12))) ws
    (by simp [runD, endF, outs, exSs, exS.eq_1, exS.eq_2, exS.eq_3, exS.eq_4, exS.eq_5, exS.eq_6, exS.eq_7, exS.eq_8, exS.eq_9, exS.eq_10, exS.eq_11, exS.eq_12, exS.eq_15, exS.eq_16, exS.eq_17, exS.eq_18, exS.eq_19, sem.eq_1, sem.eq_2, sem.eq_3, sem.eq_4, sem.eq_5, sem.eq_6, sem.eq_7, sem.eq_8, sem.eq_9, sem.eq_10, sem.eq_11, sem.eq_12, sem.eq_13, sem.eq_14, sem.eq_15, sem.eq_16, sem.eq_17, sem.eq_18, sem.eq_19, sem.eq_20, sem.eq_22, semT, semL, semAr, semO, semC, semI, semV, semM, Rs.bind, Rs.of, Rs.st, Rs.ofO, Ss.ofO, F3.getD, getL, isOwn, setV, setVs, Gm.fix, callR, owns, avs, Ar.av, layBack, AV.own, AV.data, truD, assignT, assignTs, List.replicate, List.map_cons, List.map_nil, tI, seqOf]) rfl (by omega) (fun x hm => ⟨[some (.d (tI ws)), some (.d (.int x))], _, rfl, rfl, .inr ⟨rfl, [some (.d (tI ws)), some (.d (.int x))], by
      have := hw x hm
      simp [runD, endF, outs, exSs, exS.eq_1, exS.eq_2, exS.eq_3, exS.eq_4, exS.eq_5, exS.eq_6, exS.eq_7, exS.eq_8, exS.eq_9, exS.eq_10, exS.eq_11, exS.eq_12, exS.eq_15, exS.eq_16, exS.eq_17, exS.eq_18, exS.eq_19, sem.eq_1, sem.eq_2, sem.eq_3, sem.eq_4, sem.eq_5, sem.eq_6, sem.eq_7, sem.eq_8, sem.eq_9, sem.eq_10, sem.eq_11, sem.eq_12, sem.eq_13, sem.eq_14, sem.eq_15, sem.eq_16, sem.eq_17, sem.eq_18, sem.eq_19, sem.eq_20, sem.eq_22, semT, semL, semAr, semO, semC, semI, semV, semM, Rs.bind, Rs.of, Rs.st, Rs.ofO, Ss.ofO, F3.getD, getL, isOwn, setV, setVs, Gm.fix, callR, owns, avs, Ar.av, layBack, AV.own, AV.data, truD, assignT, assignTs, List.replicate, List.map_cons, List.map_nil, g2, this.1], rfl⟩⟩) rfl
  rw [filter_tt] at e1
  have e2 := all_true ws (fun w => decide (w ≤ 12)) fun x hx => by simpa using (hw x hx).2
  have e3 : biD .len [tI ws] = some (.int ws.length) := by simp [tI]
  have z1 : (3 : Int) ≤ (ws.length : Int) := by omega
  have z2 : (ws.length : Int) ≤ 6 := by omega
  simp [Lb.are_weights, runD, endF, outs, exSs, exS.eq_1, exS.eq_2, exS.eq_3, exS.eq_4, exS.eq_5, exS.eq_6, exS.eq_7, exS.eq_8, exS.eq_9, exS.eq_10, exS.eq_11, exS.eq_12, exS.eq_15, exS.eq_16, exS.eq_17, exS.eq_18, exS.eq_19, sem.eq_1, sem.eq_2, sem.eq_3, sem.eq_4, sem.eq_5, sem.eq_6, sem.eq_7, sem.eq_8, sem.eq_9, sem.eq_10, sem.eq_11, sem.eq_12, sem.eq_13, sem.eq_14, sem.eq_15, sem.eq_16, sem.eq_17, sem.eq_18, sem.eq_19, sem.eq_20, sem.eq_22, semT, semL, semAr, semO, semC, semI, semV, semM, Rs.bind, Rs.of, Rs.st, Rs.ofO, Ss.ofO, F3.getD, getL, isOwn, setV, setVs, Gm.fix, callR, owns, avs, Ar.av, layBack, AV.own, AV.data, truD, assignT, assignTs, List.replicate, List.map_cons, List.map_nil, e0, e1, e2, e3, g0, g1, z1, z2]
def eqD (ws : List Int) (f : Int) : PyData := .tuple [tI ws, .int f]
structure EqOk (ws : List Int) (f : Int) : Prop where
  l1 : 3 ≤ ws.length
  l2 : ws.length ≤ 6
  w : ∀ w ∈ ws, 1 ≤ w ∧ w ≤ 12
  f1 : 1 ≤ f
  f2 : f ≤ 60
  dv : ∀ w ∈ ws, f % w = 0
theorem at_nat {xs : List PyData} {k : Nat} {y : PyData} (h : xs[k]? = some y) : ixD (.tuple xs) (.int k) = some y := by
  have hl := (List.getElem?_eq_some_iff.mp h).1
  show (L2.ixN xs.length (k : Int)).bind _ = _
  unfold L2.ixN
  rw [if_pos (by omega), if_pos (by omega)]
  exact h
theorem ix0 (x : PyData) (xs : List PyData) : ixD (.tuple (x :: xs)) (.int 0) = some x := at_nat (k := 0) rfl
theorem ix1 (x y : PyData) (xs : List PyData) : ixD (.tuple (x :: y :: xs)) (.int 1) = some y := at_nat (k := 1) rfl
def IsEquationIn (f : Fn) : Prop := ∀ ws g, EqOk ws g → f [.d (eqD ws g)] = .ok (.d (.bool true)) [.d (eqD ws g)]
theorem is_equation_in_ok {f0 f1 f2 c0 : Nat} (h0 : IsLong (fn f0)) (h1 : AreWeights (fn f1)) (h2 : IsWithin (fn f2)) (g0 : cs[c0]? = some 60) : IsEquationIn (runD cs fn (Lb.is_equation_in f0 f1 f2 c0)) := by
  intro ws g E
  have e0 := h0 [tI ws, .int g] 2
  have e1 := h1 ws E.l1 E.l2 E.w
  have e2 := h2 g 1 60
  have i0 : ixD (eqD ws g) (.int 0) = some (tI ws) := ix0 _ _
  have i1 : ixD (eqD ws g) (.int 1) = some (.int g) := ix1 _ _ _
  have e3 := sem_lcP (Γ := ⟨fn, cs, [false]⟩) (is := [1]) (t := .n 1) (it := .seq (.ix (.var 0) (.lit (.int 0)))) (c := none) (e := .cmp .eq (.bin .mod (.ix (.var 0) (.lit (.int 1))) (.var 1)) (.lit (.int 0))) (ρ := [some (.d (eqD ws g)), none]) PyData.int (fun _ => true) (fun w => .bool (decide (g % w = 0))) ws
    (by simp [runD, endF, outs, exSs, exS.eq_1, exS.eq_2, exS.eq_3, exS.eq_4, exS.eq_5, exS.eq_6, exS.eq_7, exS.eq_8, exS.eq_9, exS.eq_10, exS.eq_11, exS.eq_12, exS.eq_15, exS.eq_16, exS.eq_17, exS.eq_18, exS.eq_19, sem.eq_1, sem.eq_2, sem.eq_3, sem.eq_4, sem.eq_5, sem.eq_6, sem.eq_7, sem.eq_8, sem.eq_9, sem.eq_10, sem.eq_11, sem.eq_12, sem.eq_13, sem.eq_14, sem.eq_15, sem.eq_16, sem.eq_17, sem.eq_18, sem.eq_19, sem.eq_20, sem.eq_22, semT, semL, semAr, semO, semC, semI, semV, semM, Rs.bind, Rs.of, Rs.st, Rs.ofO, Ss.ofO, F3.getD, getL, isOwn, setV, setVs, Gm.fix, callR, owns, avs, Ar.av, layBack, AV.own, AV.data, truD, assignT, assignTs, List.replicate, List.map_cons, List.map_nil, i0, tI, seqOf]) rfl (by have := E.l2; omega) (fun x hm => ⟨[some (.d (eqD ws g)), some (.d (.int x))], _, rfl, rfl, .inr ⟨rfl, [some (.d (eqD ws g)), some (.d (.int x))], by
      have := (E.w x hm).1
      have m := bin_mod (i := g) (j := x) (by omega)
      simp [runD, endF, outs, exSs, exS.eq_1, exS.eq_2, exS.eq_3, exS.eq_4, exS.eq_5, exS.eq_6, exS.eq_7, exS.eq_8, exS.eq_9, exS.eq_10, exS.eq_11, exS.eq_12, exS.eq_15, exS.eq_16, exS.eq_17, exS.eq_18, exS.eq_19, sem.eq_1, sem.eq_2, sem.eq_3, sem.eq_4, sem.eq_5, sem.eq_6, sem.eq_7, sem.eq_8, sem.eq_9, sem.eq_10, sem.eq_11, sem.eq_12, sem.eq_13, sem.eq_14, sem.eq_15, sem.eq_16, sem.eq_17, sem.eq_18, sem.eq_19, sem.eq_20, sem.eq_22, semT, semL, semAr, semO, semC, semI, semV, semM, Rs.bind, Rs.of, Rs.st, Rs.ofO, Ss.ofO, F3.getD, getL, isOwn, setV, setVs, Gm.fix, callR, owns, avs, Ar.av, layBack, AV.own, AV.data, truD, assignT, assignTs, List.replicate, List.map_cons, List.map_nil, i1, m], rfl⟩⟩) rfl
  rw [filter_tt] at e3
  have e4 := all_true ws (fun w => decide (g % w = 0)) fun x hx => by simpa using E.dv x hx
  have z : eqD ws g = .tuple [tI ws, .int g] := rfl
  rw [← z] at e0
  simp [Lb.is_equation_in, runD, endF, outs, exSs, exS.eq_1, exS.eq_2, exS.eq_3, exS.eq_4, exS.eq_5, exS.eq_6, exS.eq_7, exS.eq_8, exS.eq_9, exS.eq_10, exS.eq_11, exS.eq_12, exS.eq_15, exS.eq_16, exS.eq_17, exS.eq_18, exS.eq_19, sem.eq_1, sem.eq_2, sem.eq_3, sem.eq_4, sem.eq_5, sem.eq_6, sem.eq_7, sem.eq_8, sem.eq_9, sem.eq_10, sem.eq_11, sem.eq_12, sem.eq_13, sem.eq_14, sem.eq_15, sem.eq_16, sem.eq_17, sem.eq_18, sem.eq_19, sem.eq_20, sem.eq_22, semT, semL, semAr, semO, semC, semI, semV, semM, Rs.bind, Rs.of, Rs.st, Rs.ofO, Ss.ofO, F3.getD, getL, isOwn, setV, setVs, Gm.fix, callR, owns, avs, Ar.av, layBack, AV.own, AV.data, truD, assignT, assignTs, List.replicate, List.map_cons, List.map_nil, e0, e1, e2, e3, e4, i0, i1, g0, E.f1, E.f2]
def SureEquation (f : Fn) : Prop := ∀ ws g, EqOk ws g → f [.d (eqD ws g)] = .ok (.d (eqD ws g)) [.d (eqD ws g)]
theorem eqD_TO {ws : List Int} {g : Int} (E : EqOk ws g) : TO 2 (eqD ws g) := .tup _ _ (fun x h => by
  rcases List.mem_cons.mp h with h | h
  · subst h; exact TO.tI (by have := E.l2; omega)
  · rw [List.mem_singleton] at h; subst h; exact .int _ _) (by simp)
theorem sure_equation_ok {f0 f1 x0 : Nat} (h0 : Tupled 2 (fn f0)) (h1 : IsEquationIn (fn f1)) : SureEquation (runD cs fn (Lb.sure_equation f0 f1 x0)) := by
  intro ws g E
  have e0 := h0 _ (eqD_TO E)
  have e1 := h1 ws g E
  simp [Lb.sure_equation, runD, endF, outs, exSs, exS.eq_1, exS.eq_2, exS.eq_3, exS.eq_4, exS.eq_5, exS.eq_6, exS.eq_7, exS.eq_8, exS.eq_9, exS.eq_10, exS.eq_11, exS.eq_12, exS.eq_15, exS.eq_16, exS.eq_17, exS.eq_18, exS.eq_19, sem.eq_1, sem.eq_2, sem.eq_3, sem.eq_4, sem.eq_5, sem.eq_6, sem.eq_7, sem.eq_8, sem.eq_9, sem.eq_10, sem.eq_11, sem.eq_12, sem.eq_13, sem.eq_14, sem.eq_15, sem.eq_16, sem.eq_17, sem.eq_18, sem.eq_19, sem.eq_20, sem.eq_22, semT, semL, semAr, semO, semC, semI, semV, semM, Rs.bind, Rs.of, Rs.st, Rs.ofO, Ss.ofO, F3.getD, getL, isOwn, setV, setVs, Gm.fix, callR, owns, avs, Ar.av, layBack, AV.own, AV.data, truD, assignT, assignTs, List.replicate, List.map_cons, List.map_nil, e0, e1]
/-- the product -/
def pr (xs : List Int) : Int := xs.foldl (· * ·) 1
def ProductOf (f : Fn) : Prop := ∀ (x : PyData) (xs : List Int), seqOf x = some (xs.map .int) → xs.length ≤ 8 → (∀ z ∈ xs, Sm 20000 z) → f [.d x] = .ok (.d (.int (pr xs))) [.d x]
theorem prod_loop {a : Option AV} : ∀ (xs : List Int) (acc : Int) (b : Nat) (z : Option AV), Sm b acc → b + 20000 * xs.length < 900000 → (∀ z ∈ xs, Sm 20000 z) →
    ∃ z', forL (assignT ⟨fn, cs, [false]⟩ (.n 2)) (exSs ⟨fn, cs, [false]⟩ [.set 1 (.bin .mul (.var 1) (.var 2))]) (xs.map .int) [a, some (.d (.int acc)), z] = .nx [a, some (.d (.int (xs.foldl (· * ·) acc))), z']
  | [], acc, b, z, _, _, _ => ⟨z, rfl⟩
  | x :: xs, acc, b, z, hb, hl, h => by
    have hx := h x (by simp)
    have m := bin_mul (mulOk_sm hb hx (by rw [List.length_cons] at hl; omega))
    obtain ⟨z', ih⟩ := prod_loop xs (acc * x) (b + 20000) (some (.d (.int x))) (hb.mul hx) (by rw [List.length_cons] at hl; omega) fun y hy => h y (List.mem_cons_of_mem _ hy)
    refine ⟨z', ?_⟩
    have t1 : assignT ⟨fn, cs, [false]⟩ (.n 2) (.int x) [a, some (.d (.int acc)), z] = some [a, some (.d (.int acc)), some (.d (.int x))] := by simp [runD, endF, outs, exSs, exS.eq_1, exS.eq_2, exS.eq_3, exS.eq_4, exS.eq_5, exS.eq_6, exS.eq_7, exS.eq_8, exS.eq_9, exS.eq_10, exS.eq_11, exS.eq_12, exS.eq_15, exS.eq_16, exS.eq_17, exS.eq_18, exS.eq_19, sem.eq_1, sem.eq_2, sem.eq_3, sem.eq_4, sem.eq_5, sem.eq_6, sem.eq_7, sem.eq_8, sem.eq_9, sem.eq_10, sem.eq_11, sem.eq_12, sem.eq_13, sem.eq_14, sem.eq_15, sem.eq_16, sem.eq_17, sem.eq_18, sem.eq_19, sem.eq_20, sem.eq_22, semT, semL, semAr, semO, semC, semI, semV, semM, Rs.bind, Rs.of, Rs.st, Rs.ofO, Ss.ofO, F3.getD, getL, isOwn, setV, setVs, Gm.fix, callR, owns, avs, Ar.av, layBack, AV.own, AV.data, truD, assignT, assignTs, List.replicate, List.map_cons, List.map_nil]
    have b1 : exSs ⟨fn, cs, [false]⟩ [.set 1 (.bin .mul (.var 1) (.var 2))] [a, some (.d (.int acc)), some (.d (.int x))] = .nx [a, some (.d (.int (acc * x))), some (.d (.int x))] := by simp [runD, endF, outs, exSs, exS.eq_1, exS.eq_2, exS.eq_3, exS.eq_4, exS.eq_5, exS.eq_6, exS.eq_7, exS.eq_8, exS.eq_9, exS.eq_10, exS.eq_11, exS.eq_12, exS.eq_15, exS.eq_16, exS.eq_17, exS.eq_18, exS.eq_19, sem.eq_1, sem.eq_2, sem.eq_3, sem.eq_4, sem.eq_5, sem.eq_6, sem.eq_7, sem.eq_8, sem.eq_9, sem.eq_10, sem.eq_11, sem.eq_12, sem.eq_13, sem.eq_14, sem.eq_15, sem.eq_16, sem.eq_17, sem.eq_18, sem.eq_19, sem.eq_20, sem.eq_22, semT, semL, semAr, semO, semC, semI, semV, semM, Rs.bind, Rs.of, Rs.st, Rs.ofO, Ss.ofO, F3.getD, getL, isOwn, setV, setVs, Gm.fix, callR, owns, avs, Ar.av, layBack, AV.own, AV.data, truD, assignT, assignTs, List.replicate, List.map_cons, List.map_nil, m]
    rw [List.map_cons, forL, t1]
    dsimp only
    rw [b1]
    exact ih
/-- a for statement -/
theorem for_of {Γ : Gm} {t : Tg} {it : II} {b : List IS} {ρ ρ1 : F3.Env} {xs : List PyData} {s : Ss} (h1 : semI Γ it ρ = .ok xs ρ1) (h2 : forL (assignT Γ t) (exSs Γ b) xs ρ1 = s) : exS Γ (.for_ t it b) ρ = s := by
  rw [exS, h1]
  exact h2
theorem product_of_ok : ProductOf (runD cs fn Lb.product_of) := by
  intro x xs hs hl h
  obtain ⟨z', e1⟩ := prod_loop (cs := cs) (fn := fn) (a := some (.d x)) xs 1 1 none (by simp [Sm]) (by omega) h
  have e2 := for_of (Γ := ⟨fn, cs, [false]⟩) (it := .seq (.var 0)) (ρ := [some (.d x), some (.d (.int 1)), none]) (by simp [runD, endF, outs, exSs, exS.eq_1, exS.eq_2, exS.eq_3, exS.eq_4, exS.eq_5, exS.eq_6, exS.eq_7, exS.eq_8, exS.eq_9, exS.eq_10, exS.eq_11, exS.eq_12, exS.eq_15, exS.eq_16, exS.eq_17, exS.eq_18, exS.eq_19, sem.eq_1, sem.eq_2, sem.eq_3, sem.eq_4, sem.eq_5, sem.eq_6, sem.eq_7, sem.eq_8, sem.eq_9, sem.eq_10, sem.eq_11, sem.eq_12, sem.eq_13, sem.eq_14, sem.eq_15, sem.eq_16, sem.eq_17, sem.eq_18, sem.eq_19, sem.eq_20, sem.eq_22, semT, semL, semAr, semO, semC, semI, semV, semM, Rs.bind, Rs.of, Rs.st, Rs.ofO, Ss.ofO, F3.getD, getL, isOwn, setV, setVs, Gm.fix, callR, owns, avs, Ar.av, layBack, AV.own, AV.data, truD, assignT, assignTs, List.replicate, List.map_cons, List.map_nil, hs]) e1
  simp [Lb.product_of, runD, endF, outs, exSs, exS.eq_1, exS.eq_2, exS.eq_3, exS.eq_4, exS.eq_5, exS.eq_6, exS.eq_7, exS.eq_8, exS.eq_9, exS.eq_10, exS.eq_11, exS.eq_12, exS.eq_15, exS.eq_16, exS.eq_17, exS.eq_18, exS.eq_19, sem.eq_1, sem.eq_2, sem.eq_3, sem.eq_4, sem.eq_5, sem.eq_6, sem.eq_7, sem.eq_8, sem.eq_9, sem.eq_10, sem.eq_11, sem.eq_12, sem.eq_13, sem.eq_14, sem.eq_15, sem.eq_16, sem.eq_17, sem.eq_18, sem.eq_19, sem.eq_20, sem.eq_22, semT, semL, semAr, semO, semC, semI, semV, semM, Rs.bind, Rs.of, Rs.st, Rs.ofO, Ss.ofO, F3.getD, getL, isOwn, setV, setVs, Gm.fix, callR, owns, avs, Ar.av, layBack, AV.own, AV.data, truD, assignT, assignTs, List.replicate, List.map_cons, List.map_nil, e2, pr]
end
end Pu
end
section
namespace Pu
open PySem F3
section
variable {cs : List Int} {fn : Nat → Fn}
/-- the shares -/
def shr (ws xs : List Int) : List Int := (ws.zip xs).map fun p => p.1 * p.2 * p.2
theorem zipD_map : ∀ ws xs : List Int, zipD (ws.map .int) (xs.map .int) = (ws.zip xs).map fun p => PyData.tuple [.int p.1, .int p.2]
  | [], _ => by simp [zipD]
  | _ :: _, [] => by simp [zipD]
  | w :: ws, x :: xs => by simp [zipD, zipD_map ws xs]
theorem sm12 {w : Int} (h : 1 ≤ w ∧ w ≤ 12) : Sm 20000 w := by
  unfold Sm
  have : w.natAbs < 2 ^ 4 := by omega
  exact Nat.lt_of_lt_of_le this (Nat.pow_le_pow_right (by decide) (by decide))
def SharesIn (f : Fn) : Prop := ∀ ws g xs, EqOk ws g → (∀ z ∈ xs, Sm 20000 z) → f [.d (eqD ws g), .d (tI xs)] = .ok (.d (tI (shr ws xs))) [.d (eqD ws g), .d (tI xs)]
theorem eq0 (ws : List Int) (g : Int) : ixD (eqD ws g) (.int 0) = some (tI ws) := ix0 _ _
theorem eq1 (ws : List Int) (g : Int) : ixD (eqD ws g) (.int 1) = some (.int g) := ix1 _ _ _
theorem shares_in_ok : SharesIn (runD cs fn Lb.shares_in) := by
  intro ws g xs E h
  have hl : (ws.zip xs).length ≤ 100000 := by rw [List.length_zip]; have := E.l2; omega
  have e3 := sem_lcP (Γ := ⟨fn, cs, [false, false]⟩) (is := [2, 3]) (t := .t [.n 2, .n 3]) (it := .zip (.ix (.var 0) (.lit (.int 0))) (.var 1)) (c := none) (e := .bin .mul (.bin .mul (.var 2) (.var 3)) (.var 3)) (ρ := [some (.d (eqD ws g)), some (.d (tI xs)), none, none])
    (fun p : Int × Int => PyData.tuple [.int p.1, .int p.2]) (fun _ => true) (fun p => .int (p.1 * p.2 * p.2)) (ws.zip xs)
    (by simp [runD, endF, outs, exSs, exS.eq_1, exS.eq_2, exS.eq_3, exS.eq_4, exS.eq_5, exS.eq_6, exS.eq_7, exS.eq_8, exS.eq_9, exS.eq_10, exS.eq_11, exS.eq_12, exS.eq_15, exS.eq_16, exS.eq_17, exS.eq_18, exS.eq_19, sem.eq_1, sem.eq_2, sem.eq_3, sem.eq_4, sem.eq_5, sem.eq_6, sem.eq_7, sem.eq_8, sem.eq_9, sem.eq_10, sem.eq_11, sem.eq_12, sem.eq_13, sem.eq_14, sem.eq_15, sem.eq_16, sem.eq_17, sem.eq_18, sem.eq_19, sem.eq_20, sem.eq_22, semT, semL, semAr, semO, semC, semI, semV, semM, Rs.bind, Rs.of, Rs.st, Rs.ofO, Ss.ofO, F3.getD, getL, isOwn, setV, setVs, Gm.fix, callR, owns, avs, Ar.av, layBack, AV.own, AV.data, truD, assignT, assignTs, List.replicate, List.map_cons, List.map_nil, eq0, tI, zipD_map]) rfl hl (fun p hm => ⟨[some (.d (eqD ws g)), some (.d (tI xs)), some (.d (.int p.1)), some (.d (.int p.2))], _, by simp [runD, endF, outs, exSs, exS.eq_1, exS.eq_2, exS.eq_3, exS.eq_4, exS.eq_5, exS.eq_6, exS.eq_7, exS.eq_8, exS.eq_9, exS.eq_10, exS.eq_11, exS.eq_12, exS.eq_15, exS.eq_16, exS.eq_17, exS.eq_18, exS.eq_19, sem.eq_1, sem.eq_2, sem.eq_3, sem.eq_4, sem.eq_5, sem.eq_6, sem.eq_7, sem.eq_8, sem.eq_9, sem.eq_10, sem.eq_11, sem.eq_12, sem.eq_13, sem.eq_14, sem.eq_15, sem.eq_16, sem.eq_17, sem.eq_18, sem.eq_19, sem.eq_20, sem.eq_22, semT, semL, semAr, semO, semC, semI, semV, semM, Rs.bind, Rs.of, Rs.st, Rs.ofO, Ss.ofO, F3.getD, getL, isOwn, setV, setVs, Gm.fix, callR, owns, avs, Ar.av, layBack, AV.own, AV.data, truD, assignT, assignTs, List.replicate, List.map_cons, List.map_nil, wipeE], rfl, .inr ⟨rfl, [some (.d (eqD ws g)), some (.d (tI xs)), some (.d (.int p.1)), some (.d (.int p.2))], by
      obtain ⟨h1, h2⟩ := List.of_mem_zip hm
      have s1 := sm12 (E.w _ h1)
      have s2 := h _ h2
      have m1 := bin_mul (mulOk_sm s1 s2 (by decide))
      have m2 := bin_mul (mulOk_sm (s1.mul s2) s2 (by decide))
      simp [runD, endF, outs, exSs, exS.eq_1, exS.eq_2, exS.eq_3, exS.eq_4, exS.eq_5, exS.eq_6, exS.eq_7, exS.eq_8, exS.eq_9, exS.eq_10, exS.eq_11, exS.eq_12, exS.eq_15, exS.eq_16, exS.eq_17, exS.eq_18, exS.eq_19, sem.eq_1, sem.eq_2, sem.eq_3, sem.eq_4, sem.eq_5, sem.eq_6, sem.eq_7, sem.eq_8, sem.eq_9, sem.eq_10, sem.eq_11, sem.eq_12, sem.eq_13, sem.eq_14, sem.eq_15, sem.eq_16, sem.eq_17, sem.eq_18, sem.eq_19, sem.eq_20, sem.eq_22, semT, semL, semAr, semO, semC, semI, semV, semM, Rs.bind, Rs.of, Rs.st, Rs.ofO, Ss.ofO, F3.getD, getL, isOwn, setV, setVs, Gm.fix, callR, owns, avs, Ar.av, layBack, AV.own, AV.data, truD, assignT, assignTs, List.replicate, List.map_cons, List.map_nil, m1, m2], rfl⟩⟩) rfl
  rw [filter_tt] at e3
  have e4 : biD .tup [.list ((ws.zip xs).map fun p => PyData.int (p.1 * p.2 * p.2))] = some (tI (shr ws xs)) := by simp [biD, seqOf, tI, shr]
  simp [Lb.shares_in, runD, endF, outs, exSs, exS.eq_1, exS.eq_2, exS.eq_3, exS.eq_4, exS.eq_5, exS.eq_6, exS.eq_7, exS.eq_8, exS.eq_9, exS.eq_10, exS.eq_11, exS.eq_12, exS.eq_15, exS.eq_16, exS.eq_17, exS.eq_18, exS.eq_19, sem.eq_1, sem.eq_2, sem.eq_3, sem.eq_4, sem.eq_5, sem.eq_6, sem.eq_7, sem.eq_8, sem.eq_9, sem.eq_10, sem.eq_11, sem.eq_12, sem.eq_13, sem.eq_14, sem.eq_15, sem.eq_16, sem.eq_17, sem.eq_18, sem.eq_19, sem.eq_20, sem.eq_22, semT, semL, semAr, semO, semC, semI, semV, semM, Rs.bind, Rs.of, Rs.st, Rs.ofO, Ss.ofO, F3.getD, getL, isOwn, setV, setVs, Gm.fix, callR, owns, avs, Ar.av, layBack, AV.own, AV.data, truD, assignT, assignTs, List.replicate, List.map_cons, List.map_nil, e3, e4]
def SidesIn (f : Fn) : Prop := ∀ ws g xs, EqOk ws g → xs.length ≤ 8 → (∀ z ∈ xs, Sm 20000 z) → f [.d (eqD ws g), .d (tI xs)] = .ok (.d (.tuple [.int (shr ws xs).sum, .int (g * pr xs)])) [.d (eqD ws g), .d (tI xs)]
theorem mulOk_60 {g x : Int} (h1 : 1 ≤ g) (h2 : g ≤ 60) : mulOk g x = true := by
  unfold mulOk
  exact decide_eq_true (.inl ⟨by omega, by omega⟩)
theorem sides_in_ok {f0 f1 : Nat} (h0 : SharesIn (fn f0)) (h1 : ProductOf (fn f1)) : SidesIn (runD cs fn (Lb.sides_in f0 f1)) := by
  intro ws g xs E hl h
  have e0 := h0 ws g xs E h
  have e1 := h1 (tI xs) xs rfl hl h
  have m := bin_mul (mulOk_60 (x := pr xs) E.f1 E.f2)
  have e2 : biD .sum [tI (shr ws xs)] = some (.int (shr ws xs).sum) := sum_tup _
  simp [Lb.sides_in, runD, endF, outs, exSs, exS.eq_1, exS.eq_2, exS.eq_3, exS.eq_4, exS.eq_5, exS.eq_6, exS.eq_7, exS.eq_8, exS.eq_9, exS.eq_10, exS.eq_11, exS.eq_12, exS.eq_15, exS.eq_16, exS.eq_17, exS.eq_18, exS.eq_19, sem.eq_1, sem.eq_2, sem.eq_3, sem.eq_4, sem.eq_5, sem.eq_6, sem.eq_7, sem.eq_8, sem.eq_9, sem.eq_10, sem.eq_11, sem.eq_12, sem.eq_13, sem.eq_14, sem.eq_15, sem.eq_16, sem.eq_17, sem.eq_18, sem.eq_19, sem.eq_20, sem.eq_22, semT, semL, semAr, semO, semC, semI, semV, semM, Rs.bind, Rs.of, Rs.st, Rs.ofO, Ss.ofO, F3.getD, getL, isOwn, setV, setVs, Gm.fix, callR, owns, avs, Ar.av, layBack, AV.own, AV.data, truD, assignT, assignTs, List.replicate, List.map_cons, List.map_nil, e0, e1, e2, eq1, m]
/-- a solution in numbers from one on -/
structure SolOk (ws : List Int) (g : Int) (xs : List Int) (B : Int) : Prop where
  l : xs.length = ws.length
  x : ∀ x ∈ xs, 1 ≤ x ∧ x < B
  e : (shr ws xs).sum = g * pr xs
def AreFromOne (f : Fn) : Prop := ∀ (xs : List Int) (n m : Int), (xs.length : Int) = n → xs.length ≤ 8 → (∀ x ∈ xs, 1 ≤ x ∧ x ≤ m) → f [.d (tI xs), .d (.int n), .d (.int m)] = .ok (.d (.bool true)) [.d (tI xs), .d (.int n), .d (.int m)]
theorem are_from_one_ok {f0 f1 : Nat} (h0 : IsLong (fn f0)) (h1 : AreNumbers (fn f1)) : AreFromOne (runD cs fn (Lb.are_from_one f0 f1)) := by
  intro xs n m hn hl h
  have e0 := h0 (xs.map .int) n
  have z : PyData.tuple (xs.map .int) = tI xs := rfl
  rw [z] at e0
  have e1 := h1 xs (by omega)
  have e3 := sem_lcP (Γ := ⟨fn, cs, [false, false, false]⟩) (is := [3]) (t := .n 3) (it := .seq (.var 0)) (c := none) (e := .chain .le .le (.lit (.int 1)) (.var 3) (.var 2)) (ρ := [some (.d (tI xs)), some (.d (.int n)), some (.d (.int m)), none]) PyData.int (fun _ => true) (fun w => .bool (decide (w ≤ m))) xs
    (by simp [runD, endF, outs, exSs, exS.eq_1, exS.eq_2, exS.eq_3, exS.eq_4, exS.eq_5, exS.eq_6, exS.eq_7, exS.eq_8, exS.eq_9, exS.eq_10, exS.eq_11, exS.eq_12, exS.eq_15, exS.eq_16, exS.eq_17, exS.eq_18, exS.eq_19, sem.eq_1, sem.eq_2, sem.eq_3, sem.eq_4, sem.eq_5, sem.eq_6, sem.eq_7, sem.eq_8, sem.eq_9, sem.eq_10, sem.eq_11, sem.eq_12, sem.eq_13, sem.eq_14, sem.eq_15, sem.eq_16, sem.eq_17, sem.eq_18, sem.eq_19, sem.eq_20, sem.eq_22, semT, semL, semAr, semO, semC, semI, semV, semM, Rs.bind, Rs.of, Rs.st, Rs.ofO, Ss.ofO, F3.getD, getL, isOwn, setV, setVs, Gm.fix, callR, owns, avs, Ar.av, layBack, AV.own, AV.data, truD, assignT, assignTs, List.replicate, List.map_cons, List.map_nil, tI, seqOf]) rfl (by omega) (fun x hm => ⟨[some (.d (tI xs)), some (.d (.int n)), some (.d (.int m)), some (.d (.int x))], _, rfl, rfl, .inr ⟨rfl, [some (.d (tI xs)), some (.d (.int n)), some (.d (.int m)), some (.d (.int x))], by
      have := h x hm
      simp [runD, endF, outs, exSs, exS.eq_1, exS.eq_2, exS.eq_3, exS.eq_4, exS.eq_5, exS.eq_6, exS.eq_7, exS.eq_8, exS.eq_9, exS.eq_10, exS.eq_11, exS.eq_12, exS.eq_15, exS.eq_16, exS.eq_17, exS.eq_18, exS.eq_19, sem.eq_1, sem.eq_2, sem.eq_3, sem.eq_4, sem.eq_5, sem.eq_6, sem.eq_7, sem.eq_8, sem.eq_9, sem.eq_10, sem.eq_11, sem.eq_12, sem.eq_13, sem.eq_14, sem.eq_15, sem.eq_16, sem.eq_17, sem.eq_18, sem.eq_19, sem.eq_20, sem.eq_22, semT, semL, semAr, semO, semC, semI, semV, semM, Rs.bind, Rs.of, Rs.st, Rs.ofO, Ss.ofO, F3.getD, getL, isOwn, setV, setVs, Gm.fix, callR, owns, avs, Ar.av, layBack, AV.own, AV.data, truD, assignT, assignTs, List.replicate, List.map_cons, List.map_nil, this.1], rfl⟩⟩) rfl
  rw [filter_tt] at e3
  have e4 := all_true xs (fun w => decide (w ≤ m)) fun x hx => by simpa using (h x hx).2
  simp [Lb.are_from_one, runD, endF, outs, exSs, exS.eq_1, exS.eq_2, exS.eq_3, exS.eq_4, exS.eq_5, exS.eq_6, exS.eq_7, exS.eq_8, exS.eq_9, exS.eq_10, exS.eq_11, exS.eq_12, exS.eq_15, exS.eq_16, exS.eq_17, exS.eq_18, exS.eq_19, sem.eq_1, sem.eq_2, sem.eq_3, sem.eq_4, sem.eq_5, sem.eq_6, sem.eq_7, sem.eq_8, sem.eq_9, sem.eq_10, sem.eq_11, sem.eq_12, sem.eq_13, sem.eq_14, sem.eq_15, sem.eq_16, sem.eq_17, sem.eq_18, sem.eq_19, sem.eq_20, sem.eq_22, semT, semL, semAr, semO, semC, semI, semV, semM, Rs.bind, Rs.of, Rs.st, Rs.ofO, Ss.ofO, F3.getD, getL, isOwn, setV, setVs, Gm.fix, callR, owns, avs, Ar.av, layBack, AV.own, AV.data, truD, assignT, assignTs, List.replicate, List.map_cons, List.map_nil, e0, e1, e3, e4, hn]
/-- the bound's bits -/
def BIG : Int := 10 ^ 400
theorem big_sm {x : Int} (h1 : 1 ≤ x) (h2 : x < BIG) : Sm 20000 x := by
  unfold Sm
  have h3 : x.natAbs < 10 ^ 400 := by
    have : (x.natAbs : Int) = x := by omega
    have h4 : (x.natAbs : Int) < 10 ^ 400 := by rw [this]; exact h2
    exact_mod_cast h4
  exact Nat.lt_of_lt_of_le h3 (by decide +kernel)
def IsSolutionIn (f : Fn) : Prop := ∀ ws g xs, EqOk ws g → SolOk ws g xs BIG → f [.d (eqD ws g), .d (tI xs)] = .ok (.d (.bool true)) [.d (eqD ws g), .d (tI xs)]
theorem is_solution_in_ok {f0 c0 f1 : Nat} (h0 : AreFromOne (fn f0)) (g0 : cs[c0]? = some BIG) (h1 : SidesIn (fn f1)) : IsSolutionIn (runD cs fn (Lb.is_solution_in f0 c0 f1)) := by
  intro ws g xs E S
  have l8 : xs.length ≤ 8 := by rw [S.l]; have := E.l2; omega
  have e0 := h0 xs ws.length (BIG - 1) (by rw [S.l]) l8 fun x hx => by have := S.x x hx; omega
  have e1 := h1 ws g xs E l8 fun z hz => big_sm (S.x z hz).1 (S.x z hz).2
  have e2 : biD .len [tI ws] = some (.int ws.length) := by simp [tI]
  simp [Lb.is_solution_in, runD, endF, outs, exSs, exS.eq_1, exS.eq_2, exS.eq_3, exS.eq_4, exS.eq_5, exS.eq_6, exS.eq_7, exS.eq_8, exS.eq_9, exS.eq_10, exS.eq_11, exS.eq_12, exS.eq_15, exS.eq_16, exS.eq_17, exS.eq_18, exS.eq_19, sem.eq_1, sem.eq_2, sem.eq_3, sem.eq_4, sem.eq_5, sem.eq_6, sem.eq_7, sem.eq_8, sem.eq_9, sem.eq_10, sem.eq_11, sem.eq_12, sem.eq_13, sem.eq_14, sem.eq_15, sem.eq_16, sem.eq_17, sem.eq_18, sem.eq_19, sem.eq_20, sem.eq_22, semT, semL, semAr, semO, semC, semI, semV, semM, Rs.bind, Rs.of, Rs.st, Rs.ofO, Ss.ofO, F3.getD, getL, isOwn, setV, setVs, Gm.fix, callR, owns, avs, Ar.av, layBack, AV.own, AV.data, truD, assignT, assignTs, List.replicate, List.map_cons, List.map_nil, e0, e1, e2, eq0, g0, S.e]
def SureSolution (f : Fn) : Prop := ∀ ws g xs, EqOk ws g → SolOk ws g xs BIG → f [.d (eqD ws g), .d (tI xs)] = .ok (.d (tI xs)) [.d (eqD ws g), .d (tI xs)]
theorem sure_solution_ok {f0 f1 x0 d : Nat} (h0 : Tupled (d + 1) (fn f0)) (h1 : IsSolutionIn (fn f1)) : SureSolution (runD cs fn (Lb.sure_solution f0 f1 x0)) := by
  intro ws g xs E S
  have l8 : xs.length ≤ 100000 := by rw [S.l]; have := E.l2; omega
  have e0 := h0 (tI xs) (TO.tI l8)
  have e1 := h1 ws g xs E S
  simp [Lb.sure_solution, runD, endF, outs, exSs, exS.eq_1, exS.eq_2, exS.eq_3, exS.eq_4, exS.eq_5, exS.eq_6, exS.eq_7, exS.eq_8, exS.eq_9, exS.eq_10, exS.eq_11, exS.eq_12, exS.eq_15, exS.eq_16, exS.eq_17, exS.eq_18, exS.eq_19, sem.eq_1, sem.eq_2, sem.eq_3, sem.eq_4, sem.eq_5, sem.eq_6, sem.eq_7, sem.eq_8, sem.eq_9, sem.eq_10, sem.eq_11, sem.eq_12, sem.eq_13, sem.eq_14, sem.eq_15, sem.eq_16, sem.eq_17, sem.eq_18, sem.eq_19, sem.eq_20, sem.eq_22, semT, semL, semAr, semO, semC, semI, semV, semM, Rs.bind, Rs.of, Rs.st, Rs.ofO, Ss.ofO, F3.getD, getL, isOwn, setV, setVs, Gm.fix, callR, owns, avs, Ar.av, layBack, AV.own, AV.data, truD, assignT, assignTs, List.replicate, List.map_cons, List.map_nil, e0, e1]
def SurePlace (f : Fn) : Prop := ∀ ws g (k : Nat), k < ws.length → f [.d (eqD ws g), .d (.int k)] = .ok (.d (.int k)) [.d (eqD ws g), .d (.int k)]
theorem sure_place_ok {f0 : Nat} (h0 : SureWithin (fn f0)) : SurePlace (runD cs fn (Lb.sure_place f0)) := by
  intro ws g k hk
  have e0 := h0 k 0 (ws.length - 1) (by omega) (by omega)
  have e2 : biD .len [tI ws] = some (.int ws.length) := by simp [tI]
  simp [Lb.sure_place, runD, endF, outs, exSs, exS.eq_1, exS.eq_2, exS.eq_3, exS.eq_4, exS.eq_5, exS.eq_6, exS.eq_7, exS.eq_8, exS.eq_9, exS.eq_10, exS.eq_11, exS.eq_12, exS.eq_15, exS.eq_16, exS.eq_17, exS.eq_18, exS.eq_19, sem.eq_1, sem.eq_2, sem.eq_3, sem.eq_4, sem.eq_5, sem.eq_6, sem.eq_7, sem.eq_8, sem.eq_9, sem.eq_10, sem.eq_11, sem.eq_12, sem.eq_13, sem.eq_14, sem.eq_15, sem.eq_16, sem.eq_17, sem.eq_18, sem.eq_19, sem.eq_20, sem.eq_22, semT, semL, semAr, semO, semC, semI, semV, semM, Rs.bind, Rs.of, Rs.st, Rs.ofO, Ss.ofO, F3.getD, getL, isOwn, setV, setVs, Gm.fix, callR, owns, avs, Ar.av, layBack, AV.own, AV.data, truD, assignT, assignTs, List.replicate, List.map_cons, List.map_nil, e0, e2, eq0]
def Shares (f : Fn) : Prop := ∀ ws g xs, EqOk ws g → SolOk ws g xs BIG → f [.d (eqD ws g), .d (tI xs)] = .ok (.d (tI (shr ws xs))) [.d (eqD ws g), .d (tI xs)]
theorem shares_ok {f0 f1 f2 : Nat} (h0 : SureEquation (fn f0)) (h1 : SharesIn (fn f1)) (h2 : SureSolution (fn f2)) : Shares (runD cs fn (Lb.shares f0 f1 f2)) := by
  intro ws g xs E S
  have e0 := h0 ws g E
  have e1 := h1 ws g xs E fun z hz => big_sm (S.x z hz).1 (S.x z hz).2
  have e2 := h2 ws g xs E S
  simp [Lb.shares, runD, endF, outs, exSs, exS.eq_1, exS.eq_2, exS.eq_3, exS.eq_4, exS.eq_5, exS.eq_6, exS.eq_7, exS.eq_8, exS.eq_9, exS.eq_10, exS.eq_11, exS.eq_12, exS.eq_15, exS.eq_16, exS.eq_17, exS.eq_18, exS.eq_19, sem.eq_1, sem.eq_2, sem.eq_3, sem.eq_4, sem.eq_5, sem.eq_6, sem.eq_7, sem.eq_8, sem.eq_9, sem.eq_10, sem.eq_11, sem.eq_12, sem.eq_13, sem.eq_14, sem.eq_15, sem.eq_16, sem.eq_17, sem.eq_18, sem.eq_19, sem.eq_20, sem.eq_22, semT, semL, semAr, semO, semC, semI, semV, semM, Rs.bind, Rs.of, Rs.st, Rs.ofO, Ss.ofO, F3.getD, getL, isOwn, setV, setVs, Gm.fix, callR, owns, avs, Ar.av, layBack, AV.own, AV.data, truD, assignT, assignTs, List.replicate, List.map_cons, List.map_nil, e0, e1, e2]
end
end Pu
end
section
namespace Pu
open PySem F3
section
variable {cs : List Int} {fn : Nat → Fn}
theorem cut_to {xs : List PyData} {k : Nat} (h : k ≤ xs.length) : slD (.tuple xs) none (some (k : Int)) = some (.tuple (xs.take k)) := by
  show some (PyData.tuple (cutD xs none (some (k : Int)))) = _
  unfold cutD
  rw [HT.sIx_nat, HT.sIx_none, Nat.min_eq_left h]
  simp
theorem cut_from {xs : List PyData} {k : Nat} (h : k ≤ xs.length) : slD (.tuple xs) (some (k : Int)) none = some (.tuple (xs.drop k)) := by
  show some (PyData.tuple (cutD xs (some (k : Int)) none)) = _
  unfold cutD
  rw [HT.sIx_nat, HT.sIx_none, Nat.min_eq_left h]
  simp only []
  rw [List.take_of_length_le (by simp)]
theorem cut_toI {xs : List Int} {k : Nat} (h : k ≤ xs.length) : slD (tI xs) none (some (k : Int)) = some (tI (xs.take k)) := by
  unfold tI
  rw [cut_to (by simpa using h), List.map_take]
theorem cut_fromI {xs : List Int} {k : Nat} (h : k ≤ xs.length) : slD (tI xs) (some (k : Int)) none = some (tI (xs.drop k)) := by
  unfold tI
  rw [cut_from (by simpa using h), List.map_drop]
theorem add_tI {xs ys : List Int} (h : xs.length + ys.length ≤ 100000) : binD .add (tI xs) (tI ys) = some (tI (xs ++ ys)) := by
  unfold tI
  have hz : sizeLine = 16777216 := by decide
  have hf : fits ((xs.map PyData.int).length + (ys.map PyData.int).length) = true := by
    unfold fits
    refine decide_eq_true ?_
    rw [hz, List.length_map, List.length_map]
    omega
  rw [binD, if_pos hf, List.map_append]
theorem at_tI {xs : List Int} {k : Nat} (h : k < xs.length) : ixD (tI xs) (.int (k : Int)) = some (.int xs[k]) := at_nat (by simp [h])
/-- the number across, the row across -/
def flp (ws : List Int) (g : Int) (xs : List Int) (k : Nat) : Int := g / (ws.getD k 1) * pr (xs.take k ++ xs.drop (k + 1)) - xs.getD k 0
def flr (ws : List Int) (g : Int) (xs : List Int) (k : Nat) : List Int := xs.take k ++ [flp ws g xs k] ++ xs.drop (k + 1)
/-- a row that may be gone on with -/
structure RowB (ws xs : List Int) : Prop where
  l : xs.length = ws.length
  x : ∀ x ∈ xs, 1 ≤ x ∧ x < BIG
theorem RowB.sm {ws xs : List Int} (R : RowB ws xs) : ∀ z ∈ xs, Sm 20000 z := fun z hz => big_sm (R.x z hz).1 (R.x z hz).2
theorem SolOk.row {ws xs : List Int} {g : Int} (S : SolOk ws g xs BIG) : RowB ws xs := ⟨S.l, S.x⟩
theorem divOk_12 {w : Int} (h : 1 ≤ w ∧ w ≤ 12) : divOk w = true := by
  unfold divOk
  refine decide_eq_true ⟨by omega, ?_⟩
  have : w.natAbs < 2 ^ 4 := by omega
  have := log_lt this
  omega
theorem div_60 {g w : Int} (h1 : 1 ≤ g) (h2 : g ≤ 60) (hw : 1 ≤ w) : 0 ≤ g / w ∧ g / w ≤ 60 := by
  have a : 0 ≤ g / w := Int.ediv_nonneg (by omega) (by omega)
  have b : g / w ≤ g := Int.ediv_le_self w (by omega)
  omega
theorem mulOk_s {g x : Int} (h1 : 0 ≤ g) (h2 : g ≤ 60) : mulOk g x = true := by
  unfold mulOk
  exact decide_eq_true (.inl ⟨by omega, by omega⟩)
def FlippedIn (f : Fn) : Prop := ∀ ws g xs (k : Nat), EqOk ws g → RowB ws xs → k < ws.length → flp ws g xs k < BIG → f [.d (eqD ws g), .d (tI xs), .d (.int k)] = .ok (.d (tI (flr ws g xs k))) [.d (eqD ws g), .d (tI xs), .d (.int k)]
theorem flipped_in_ok {f0 c0 x0 : Nat} (h0 : ProductOf (fn f0)) (g0 : cs[c0]? = some BIG) : FlippedIn (runD cs fn (Lb.flipped_in f0 c0 x0)) := by
  intro ws g xs k E R hk hB
  have hkx : k < xs.length := by rw [R.l]; exact hk
  have l8 : xs.length ≤ 6 := by rw [R.l]; exact E.l2
  have e0 := h0 (tI (xs.take k ++ xs.drop (k + 1))) _ rfl (by simp; omega) fun z hz => by
    rcases List.mem_append.mp hz with hz | hz
    · exact R.sm z (List.mem_of_mem_take hz)
    · exact R.sm z (List.mem_of_mem_drop hz)
  have s1 := cut_toI (xs := xs) (k := k) (by omega)
  have s2 := cut_fromI (xs := xs) (k := k + 1) (by omega)
  have ek : ((k : Int) + 1) = ((k + 1 : Nat) : Int) := by omega
  rw [← ek] at s2
  have a1 := add_tI (xs := xs.take k) (ys := xs.drop (k + 1)) (by simp; omega)
  have i1 := at_tI (xs := ws) hk
  have i2 := at_tI (xs := xs) hkx
  have hw := E.w ws[k] (List.getElem_mem hk)
  have d1 := bin_fdiv (i := g) (divOk_12 hw)
  have d2 := div_60 E.f1 E.f2 hw.1
  have m1 := bin_mul (mulOk_s (x := pr (xs.take k ++ xs.drop (k + 1))) d2.1 d2.2)
  have ef : g / ws[k] * pr (xs.take k ++ xs.drop (k + 1)) - xs[k] = flp ws g xs k := by simp [flp, hk, hkx]
  have a2 := add_tI (xs := xs.take k) (ys := [flp ws g xs k]) (by simp; omega)
  have a3 := add_tI (xs := xs.take k ++ [flp ws g xs k]) (ys := xs.drop (k + 1)) (by simp; omega)
  have t1 : PyData.tuple [.int (flp ws g xs k)] = tI [flp ws g xs k] := rfl
  have nb : ¬ BIG ≤ flp ws g xs k := by omega
  have c1 : cmpD .ge (.int (flp ws g xs k)) (.int BIG) = some false := by rw [cmp_ge]; simp [nb]
  refine run_rt (xs := [eqD ws g, tI xs, .int k]) rfl (Nat.le_of_ble_eq_true rfl) (ρ1 := [some (.d (eqD ws g)), some (.d (tI xs)), some (.d (.int k)), some (.d (.int (pr (xs.take k ++ xs.drop (k + 1))))), some (.d (.int (flp ws g xs k)))]) ?_ (Nat.le_of_ble_eq_true rfl)
  unfold Lb.flipped_in
  refine (ss_nx (ρ1 := [some (.d (eqD ws g)), some (.d (tI xs)), some (.d (.int k)), some (.d (.int (pr (xs.take k ++ xs.drop (k + 1))))), none]) ?_).trans ?_
  · repeat' (first | with_reducible apply l_nil | with_reducible apply o_none | with_reducible apply r_lit | with_reducible apply ss_nil | with_reducible apply r_var | with_reducible apply r_ovar | with_reducible apply l_cons | with_reducible apply o_some | with_reducible apply r_bin | with_reducible apply r_neg | with_reducible apply r_ix | with_reducible apply r_sl | with_reducible apply r_tup | with_reducible apply r_lst | with_reducible apply r_bi | with_reducible apply r_glob | with_reducible apply r_cmp | with_reducible apply r_isN | with_reducible apply r_not | with_reducible apply r_and | with_reducible apply r_or | with_reducible apply r_ite | with_reducible apply r_chain | with_reducible apply r_call | with_reducible apply t_cmp | with_reducible apply t_not | with_reducible apply t_isN | with_reducible apply t_and | with_reducible apply t_or | with_reducible apply t_chain | with_reducible apply t_tru | with_reducible apply s_set | with_reducible apply s_own | with_reducible apply s_asg | with_reducible apply s_if | with_reducible apply s_ret | with_reducible apply s_retO | with_reducible apply f_lst | with_reducible apply f_list | with_reducible apply cmp_eq | with_reducible apply cmp_ne | assumption | rfl)
  refine (ss_nx (ρ1 := [some (.d (eqD ws g)), some (.d (tI xs)), some (.d (.int k)), some (.d (.int (pr (xs.take k ++ xs.drop (k + 1))))), some (.d (.int (flp ws g xs k)))]) ?_).trans ?_
  · have q0 := eq0 ws g
    have q1 := eq1 ws g
    rw [← ef]
    repeat' (first | with_reducible apply l_nil | with_reducible apply o_none | with_reducible apply r_lit | with_reducible apply ss_nil | with_reducible apply r_var | with_reducible apply r_ovar | with_reducible apply l_cons | with_reducible apply o_some | with_reducible apply r_bin | with_reducible apply r_neg | with_reducible apply r_ix | with_reducible apply r_sl | with_reducible apply r_tup | with_reducible apply r_lst | with_reducible apply r_bi | with_reducible apply r_glob | with_reducible apply r_cmp | with_reducible apply r_isN | with_reducible apply r_not | with_reducible apply r_and | with_reducible apply r_or | with_reducible apply r_ite | with_reducible apply r_chain | with_reducible apply r_call | with_reducible apply t_cmp | with_reducible apply t_not | with_reducible apply t_isN | with_reducible apply t_and | with_reducible apply t_or | with_reducible apply t_chain | with_reducible apply t_tru | with_reducible apply s_set | with_reducible apply s_own | with_reducible apply s_asg | with_reducible apply s_if | with_reducible apply s_ret | with_reducible apply s_retO | with_reducible apply f_lst | with_reducible apply f_list | with_reducible apply cmp_eq | with_reducible apply cmp_ne | assumption | rfl)
  refine (ss_nx (ρ1 := [some (.d (eqD ws g)), some (.d (tI xs)), some (.d (.int k)), some (.d (.int (pr (xs.take k ++ xs.drop (k + 1))))), some (.d (.int (flp ws g xs k)))]) ?_).trans ?_
  · repeat' (first | with_reducible apply l_nil | with_reducible apply o_none | with_reducible apply r_lit | with_reducible apply ss_nil | with_reducible apply r_var | with_reducible apply r_ovar | with_reducible apply l_cons | with_reducible apply o_some | with_reducible apply r_bin | with_reducible apply r_neg | with_reducible apply r_ix | with_reducible apply r_sl | with_reducible apply r_tup | with_reducible apply r_lst | with_reducible apply r_bi | with_reducible apply r_glob | with_reducible apply r_cmp | with_reducible apply r_isN | with_reducible apply r_not | with_reducible apply r_and | with_reducible apply r_or | with_reducible apply r_ite | with_reducible apply r_chain | with_reducible apply r_call | with_reducible apply t_cmp | with_reducible apply t_not | with_reducible apply t_isN | with_reducible apply t_and | with_reducible apply t_or | with_reducible apply t_chain | with_reducible apply t_tru | with_reducible apply s_set | with_reducible apply s_own | with_reducible apply s_asg | with_reducible apply s_if | with_reducible apply s_ret | with_reducible apply s_retO | with_reducible apply f_lst | with_reducible apply f_list | with_reducible apply cmp_eq | with_reducible apply cmp_ne | assumption | rfl)
  refine ss_rt ?_
  unfold flr
  rw [← t1] at a2
  repeat' (first | with_reducible apply l_nil | with_reducible apply o_none | with_reducible apply r_lit | with_reducible apply ss_nil | with_reducible apply r_var | with_reducible apply r_ovar | with_reducible apply l_cons | with_reducible apply o_some | with_reducible apply r_bin | with_reducible apply r_neg | with_reducible apply r_ix | with_reducible apply r_sl | with_reducible apply r_tup | with_reducible apply r_lst | with_reducible apply r_bi | with_reducible apply r_glob | with_reducible apply r_cmp | with_reducible apply r_isN | with_reducible apply r_not | with_reducible apply r_and | with_reducible apply r_or | with_reducible apply r_ite | with_reducible apply r_chain | with_reducible apply r_call | with_reducible apply t_cmp | with_reducible apply t_not | with_reducible apply t_isN | with_reducible apply t_and | with_reducible apply t_or | with_reducible apply t_chain | with_reducible apply t_tru | with_reducible apply s_set | with_reducible apply s_own | with_reducible apply s_asg | with_reducible apply s_if | with_reducible apply s_ret | with_reducible apply s_retO | with_reducible apply f_lst | with_reducible apply f_list | with_reducible apply cmp_eq | with_reducible apply cmp_ne | assumption | rfl)
end
end Pu
end
section
namespace Pu
open PySem F3
section
variable {cs : List Int} {fn : Nat → Fn}
def optI : Option Nat → PyData
  | some j => .int j
  | none => .none
/-- the first place whose number says so -/
def fst' (p : Int → Bool) : List Int → Nat → Option Nat
  | [], _ => none
  | a :: r, k => if p a then some k else fst' p r (k + 1)
theorem low_loop {o : Cm} {S : Int} {p : Int → Bool} (hp : ∀ a, cmpD o (.int (a + a)) (.int S) = some (p a)) {a b c : Option AV} : ∀ (rows : List Int) (k : Nat) (z4 z5 : Option AV), ∃ ρ' : F3.Env, ρ'.length = 6 ∧
    forL (assignT ⟨fn, cs, [false, false]⟩ (.t [.n 4, .n 5])) (exSs ⟨fn, cs, [false, false]⟩ [.if_ (.cmp o (.bin .add (.var 5) (.var 5)) (.var 3)) [.ret (.var 4)] []]) (enumD (rows.map .int) k) [a, b, c, some (.d (.int S)), z4, z5] =
      (match fst' p rows k with
        | some j => .rt (.d (.int j)) ρ'
        | none => .nx ρ')
  | [], k, z4, z5 => ⟨_, rfl, rfl⟩
  | x :: r, k, z4, z5 => by
    obtain ⟨ρ', l, ih⟩ := low_loop hp (a := a) (b := b) (c := c) r (k + 1) (some (.d (.int k))) (some (.d (.int x)))
    have t1 : assignT ⟨fn, cs, [false, false]⟩ (.t [.n 4, .n 5]) (.tuple [.int k, .int x]) [a, b, c, some (.d (.int S)), z4, z5] = some [a, b, c, some (.d (.int S)), some (.d (.int k)), some (.d (.int x))] := rfl
    have hx := hp x
    cases e : p x with
    | true =>
      rw [e] at hx
      refine ⟨[a, b, c, some (.d (.int S)), some (.d (.int k)), some (.d (.int x))], rfl, ?_⟩
      have b1 : exSs ⟨fn, cs, [false, false]⟩ [.if_ (.cmp o (.bin .add (.var 5) (.var 5)) (.var 3)) [.ret (.var 4)] []] [a, b, c, some (.d (.int S)), some (.d (.int k)), some (.d (.int x))] = .rt (.d (.int k)) [a, b, c, some (.d (.int S)), some (.d (.int k)), some (.d (.int x))] := by
        refine ss_rt ?_
        refine s_if (v := true) (ρ1 := [a, b, c, some (.d (.int S)), some (.d (.int k)), some (.d (.int x))]) ?_ ?_
        · repeat' (first | with_reducible apply l_nil | with_reducible apply o_none | with_reducible apply r_lit | with_reducible apply ss_nil | with_reducible apply r_var | with_reducible apply r_ovar | with_reducible apply l_cons | with_reducible apply o_some | with_reducible apply r_bin | with_reducible apply r_neg | with_reducible apply r_ix | with_reducible apply r_sl | with_reducible apply r_tup | with_reducible apply r_lst | with_reducible apply r_bi | with_reducible apply r_glob | with_reducible apply r_cmp | with_reducible apply r_isN | with_reducible apply r_not | with_reducible apply r_and | with_reducible apply r_or | with_reducible apply r_ite | with_reducible apply r_chain | with_reducible apply r_call | with_reducible apply t_cmp | with_reducible apply t_not | with_reducible apply t_isN | with_reducible apply t_and | with_reducible apply t_or | with_reducible apply t_chain | with_reducible apply t_tru | with_reducible apply s_set | with_reducible apply s_own | with_reducible apply s_asg | with_reducible apply s_if | with_reducible apply s_ret | with_reducible apply s_retO | with_reducible apply f_lst | with_reducible apply f_list | with_reducible apply cmp_eq | with_reducible apply cmp_ne | assumption | rfl)
        · rw [if_pos rfl]
          refine ss_rt ?_
          repeat' (first | with_reducible apply l_nil | with_reducible apply o_none | with_reducible apply r_lit | with_reducible apply ss_nil | with_reducible apply r_var | with_reducible apply r_ovar | with_reducible apply l_cons | with_reducible apply o_some | with_reducible apply r_bin | with_reducible apply r_neg | with_reducible apply r_ix | with_reducible apply r_sl | with_reducible apply r_tup | with_reducible apply r_lst | with_reducible apply r_bi | with_reducible apply r_glob | with_reducible apply r_cmp | with_reducible apply r_isN | with_reducible apply r_not | with_reducible apply r_and | with_reducible apply r_or | with_reducible apply r_ite | with_reducible apply r_chain | with_reducible apply r_call | with_reducible apply t_cmp | with_reducible apply t_not | with_reducible apply t_isN | with_reducible apply t_and | with_reducible apply t_or | with_reducible apply t_chain | with_reducible apply t_tru | with_reducible apply s_set | with_reducible apply s_own | with_reducible apply s_asg | with_reducible apply s_if | with_reducible apply s_ret | with_reducible apply s_retO | with_reducible apply f_lst | with_reducible apply f_list | with_reducible apply cmp_eq | with_reducible apply cmp_ne | assumption | rfl)
      rw [List.map_cons, enumD, forL, t1]
      dsimp only
      rw [b1]
      simp [fst', e]
    | false =>
      rw [e] at hx
      refine ⟨ρ', l, ?_⟩
      have b1 : exSs ⟨fn, cs, [false, false]⟩ [.if_ (.cmp o (.bin .add (.var 5) (.var 5)) (.var 3)) [.ret (.var 4)] []] [a, b, c, some (.d (.int S)), some (.d (.int k)), some (.d (.int x))] = .nx [a, b, c, some (.d (.int S)), some (.d (.int k)), some (.d (.int x))] := by
        refine ss_go ?_ ss_nil
        refine s_if (v := false) (ρ1 := [a, b, c, some (.d (.int S)), some (.d (.int k)), some (.d (.int x))]) ?_ ?_
        · repeat' (first | with_reducible apply l_nil | with_reducible apply o_none | with_reducible apply r_lit | with_reducible apply ss_nil | with_reducible apply r_var | with_reducible apply r_ovar | with_reducible apply l_cons | with_reducible apply o_some | with_reducible apply r_bin | with_reducible apply r_neg | with_reducible apply r_ix | with_reducible apply r_sl | with_reducible apply r_tup | with_reducible apply r_lst | with_reducible apply r_bi | with_reducible apply r_glob | with_reducible apply r_cmp | with_reducible apply r_isN | with_reducible apply r_not | with_reducible apply r_and | with_reducible apply r_or | with_reducible apply r_ite | with_reducible apply r_chain | with_reducible apply r_call | with_reducible apply t_cmp | with_reducible apply t_not | with_reducible apply t_isN | with_reducible apply t_and | with_reducible apply t_or | with_reducible apply t_chain | with_reducible apply t_tru | with_reducible apply s_set | with_reducible apply s_own | with_reducible apply s_asg | with_reducible apply s_if | with_reducible apply s_ret | with_reducible apply s_retO | with_reducible apply f_lst | with_reducible apply f_list | with_reducible apply cmp_eq | with_reducible apply cmp_ne | assumption | rfl)
        · rw [if_neg (by decide)]
          exact ss_nil
      rw [List.map_cons, enumD, forL, t1]
      dsimp only
      rw [b1]
      simp only [fst', e]
      exact ih
/-- the place that lowers, the idle place -/
def low (ws xs : List Int) : Option Nat := fst' (fun a => decide ((shr ws xs).sum < a + a)) (shr ws xs) 0
def idl (ws xs : List Int) : Option Nat := fst' (fun a => decide (a + a = (shr ws xs).sum)) (shr ws xs) 0
def LoweringIn (f : Fn) : Prop := ∀ ws g xs, EqOk ws g → (∀ z ∈ xs, Sm 20000 z) → f [.d (eqD ws g), .d (tI xs)] = .ok (.d (optI (low ws xs))) [.d (eqD ws g), .d (tI xs)]
def IdleIn (f : Fn) : Prop := ∀ ws g xs, EqOk ws g → (∀ z ∈ xs, Sm 20000 z) → f [.d (eqD ws g), .d (tI xs)] = .ok (.d (optI (idl ws xs))) [.d (eqD ws g), .d (tI xs)]
theorem low_run {o : Cm} {p : Int → Bool} {ws xs : List Int} {g : Int} {f0 : Nat} {D : FD} (hD : D = ⟨2, 6, [.set 2 (.call f0 [.var 0, .var 1]), .set 3 (.bi .sum [.var 2]), .for_ (.t [.n 4, .n 5]) (.enum (.var 2)) [.if_ (.cmp o (.bin .add (.var 5) (.var 5)) (.var 3)) [.ret (.var 4)] []], .ret (.lit .none)]⟩)
    (h0 : SharesIn (fn f0)) (E : EqOk ws g) (h : ∀ z ∈ xs, Sm 20000 z) (hp : ∀ a, cmpD o (.int (a + a)) (.int (shr ws xs).sum) = some (p a)) :
    runD cs fn D [.d (eqD ws g), .d (tI xs)] = .ok (.d (optI (fst' p (shr ws xs) 0))) [.d (eqD ws g), .d (tI xs)] := by
  subst hD
  have e0 := h0 ws g xs E h
  have e1 : biD .sum [tI (shr ws xs)] = some (.int (shr ws xs).sum) := sum_tup _
  obtain ⟨ρ', l, e2⟩ := low_loop (cs := cs) (fn := fn) hp (a := some (.d (eqD ws g))) (b := some (.d (tI xs))) (c := some (.d (tI (shr ws xs)))) (shr ws xs) 0 none none
  have e3 := for_of (Γ := ⟨fn, cs, [false, false]⟩) (it := .enum (.var 2)) (ρ := [some (.d (eqD ws g)), some (.d (tI xs)), some (.d (tI (shr ws xs))), some (.d (.int (shr ws xs).sum)), none, none]) (by rw [semI, r_var rfl]; rfl) e2
  have key : exSs ⟨fn, cs, [false, false]⟩ [.set 2 (.call f0 [.var 0, .var 1]), .set 3 (.bi .sum [.var 2]), .for_ (.t [.n 4, .n 5]) (.enum (.var 2)) [.if_ (.cmp o (.bin .add (.var 5) (.var 5)) (.var 3)) [.ret (.var 4)] []], .ret (.lit .none)]
      [some (.d (eqD ws g)), some (.d (tI xs)), none, none, none, none] = .rt (.d (optI (fst' p (shr ws xs) 0))) ρ' := by
    refine (ss_nx (ρ1 := [some (.d (eqD ws g)), some (.d (tI xs)), some (.d (tI (shr ws xs))), none, none, none]) ?_).trans ?_
    · repeat' (first | with_reducible apply l_nil | with_reducible apply o_none | with_reducible apply r_lit | with_reducible apply ss_nil | with_reducible apply r_var | with_reducible apply r_ovar | with_reducible apply l_cons | with_reducible apply o_some | with_reducible apply r_bin | with_reducible apply r_neg | with_reducible apply r_ix | with_reducible apply r_sl | with_reducible apply r_tup | with_reducible apply r_lst | with_reducible apply r_bi | with_reducible apply r_glob | with_reducible apply r_cmp | with_reducible apply r_isN | with_reducible apply r_not | with_reducible apply r_and | with_reducible apply r_or | with_reducible apply r_ite | with_reducible apply r_chain | with_reducible apply r_call | with_reducible apply t_cmp | with_reducible apply t_not | with_reducible apply t_isN | with_reducible apply t_and | with_reducible apply t_or | with_reducible apply t_chain | with_reducible apply t_tru | with_reducible apply s_set | with_reducible apply s_own | with_reducible apply s_asg | with_reducible apply s_if | with_reducible apply s_ret | with_reducible apply s_retO | with_reducible apply f_lst | with_reducible apply f_list | with_reducible apply cmp_eq | with_reducible apply cmp_ne | assumption | rfl)
    refine (ss_nx (ρ1 := [some (.d (eqD ws g)), some (.d (tI xs)), some (.d (tI (shr ws xs))), some (.d (.int (shr ws xs).sum)), none, none]) ?_).trans ?_
    · repeat' (first | with_reducible apply l_nil | with_reducible apply o_none | with_reducible apply r_lit | with_reducible apply ss_nil | with_reducible apply r_var | with_reducible apply r_ovar | with_reducible apply l_cons | with_reducible apply o_some | with_reducible apply r_bin | with_reducible apply r_neg | with_reducible apply r_ix | with_reducible apply r_sl | with_reducible apply r_tup | with_reducible apply r_lst | with_reducible apply r_bi | with_reducible apply r_glob | with_reducible apply r_cmp | with_reducible apply r_isN | with_reducible apply r_not | with_reducible apply r_and | with_reducible apply r_or | with_reducible apply r_ite | with_reducible apply r_chain | with_reducible apply r_call | with_reducible apply t_cmp | with_reducible apply t_not | with_reducible apply t_isN | with_reducible apply t_and | with_reducible apply t_or | with_reducible apply t_chain | with_reducible apply t_tru | with_reducible apply s_set | with_reducible apply s_own | with_reducible apply s_asg | with_reducible apply s_if | with_reducible apply s_ret | with_reducible apply s_retO | with_reducible apply f_lst | with_reducible apply f_list | with_reducible apply cmp_eq | with_reducible apply cmp_ne | assumption | rfl)
    cases q : fst' p (shr ws xs) 0 with
    | none =>
      rw [q] at e3
      refine (ss_nx e3).trans (ss_rt ?_)
      exact s_ret r_lit
    | some j =>
      rw [q] at e3
      exact ss_rt e3
  exact run_rt (xs := [eqD ws g, tI xs]) rfl (Nat.le_of_ble_eq_true rfl) key (by rw [l]; exact Nat.le_of_ble_eq_true rfl)
theorem lowering_in_ok {f0 : Nat} (h0 : SharesIn (fn f0)) : LoweringIn (runD cs fn (Lb.lowering_in f0)) := fun ws g xs E h => low_run rfl h0 E h fun a => cmp_gt _ _
theorem idle_in_ok {f0 : Nat} (h0 : SharesIn (fn f0)) : IdleIn (runD cs fn (Lb.idle_in f0)) := fun ws g xs E h => low_run rfl h0 E h fun a => cmp_eq _ _
/-- a walk -/
def wlk (ws : List Int) (g : Int) : List Int → List Nat → List Int
  | xs, [] => xs
  | xs, k :: r => wlk ws g (flr ws g xs k) r
/-- all that a walk comes to may be gone on with -/
def WOk (ws : List Int) (g : Int) : List Int → List Nat → Prop
  | xs, [] => RowB ws xs
  | xs, k :: r => RowB ws xs ∧ k < ws.length ∧ flp ws g xs k < BIG ∧ WOk ws g (flr ws g xs k) r
def nI (w : List Nat) : PyData := .tuple (w.map fun k => .int (k : Nat))
def WalkedIn (f : Fn) : Prop := ∀ ws g xs w, EqOk ws g → WOk ws g xs w → f [.d (eqD ws g), .d (tI xs), .d (nI w)] = .ok (.d (tI (wlk ws g xs w))) [.d (eqD ws g), .d (tI xs), .d (nI w)]
theorem walk_loop {ws : List Int} {g : Int} {f0 : Nat} {b c : Option AV} (h0 : FlippedIn (fn f0)) (E : EqOk ws g) : ∀ (w : List Nat) (xs : List Int) (z : Option AV), WOk ws g xs w → ∃ z',
    forL (assignT ⟨fn, cs, [false, false, false]⟩ (.n 4)) (exSs ⟨fn, cs, [false, false, false]⟩ [.set 3 (.call f0 [.var 0, .var 3, .var 4])]) (w.map fun k => PyData.int (k : Nat)) [some (.d (eqD ws g)), b, c, some (.d (tI xs)), z] =
      .nx [some (.d (eqD ws g)), b, c, some (.d (tI (wlk ws g xs w))), z']
  | [], xs, z, _ => ⟨z, rfl⟩
  | k :: r, xs, z, ⟨R, hk, hB, h⟩ => by
    obtain ⟨z', ih⟩ := walk_loop h0 E (b := b) (c := c) r (flr ws g xs k) (some (.d (.int k))) h
    have e0 := h0 ws g xs k E R hk hB
    refine ⟨z', ?_⟩
    have t1 : assignT ⟨fn, cs, [false, false, false]⟩ (.n 4) (.int k) [some (.d (eqD ws g)), b, c, some (.d (tI xs)), z] = some [some (.d (eqD ws g)), b, c, some (.d (tI xs)), some (.d (.int k))] := rfl
    have b1 : exSs ⟨fn, cs, [false, false, false]⟩ [.set 3 (.call f0 [.var 0, .var 3, .var 4])] [some (.d (eqD ws g)), b, c, some (.d (tI xs)), some (.d (.int k))] = .nx [some (.d (eqD ws g)), b, c, some (.d (tI (flr ws g xs k))), some (.d (.int k))] := by
      refine ss_go ?_ ss_nil
      repeat' (first | with_reducible apply l_nil | with_reducible apply o_none | with_reducible apply r_lit | with_reducible apply ss_nil | with_reducible apply r_var | with_reducible apply r_ovar | with_reducible apply l_cons | with_reducible apply o_some | with_reducible apply r_bin | with_reducible apply r_neg | with_reducible apply r_ix | with_reducible apply r_sl | with_reducible apply r_tup | with_reducible apply r_lst | with_reducible apply r_bi | with_reducible apply r_glob | with_reducible apply r_cmp | with_reducible apply r_isN | with_reducible apply r_not | with_reducible apply r_and | with_reducible apply r_or | with_reducible apply r_ite | with_reducible apply r_chain | with_reducible apply r_call | with_reducible apply t_cmp | with_reducible apply t_not | with_reducible apply t_isN | with_reducible apply t_and | with_reducible apply t_or | with_reducible apply t_chain | with_reducible apply t_tru | with_reducible apply s_set | with_reducible apply s_own | with_reducible apply s_asg | with_reducible apply s_if | with_reducible apply s_ret | with_reducible apply s_retO | with_reducible apply f_lst | with_reducible apply f_list | with_reducible apply cmp_eq | with_reducible apply cmp_ne | assumption | rfl)
    rw [List.map_cons, forL, t1]
    dsimp only
    rw [b1]
    exact ih
theorem walked_in_ok {f0 : Nat} (h0 : FlippedIn (fn f0)) : WalkedIn (runD cs fn (Lb.walked_in f0)) := by
  intro ws g xs w E h
  obtain ⟨z', e1⟩ := walk_loop (cs := cs) h0 E (b := some (.d (tI xs))) (c := some (.d (nI w))) w xs none h
  have e2 := for_of (Γ := ⟨fn, cs, [false, false, false]⟩) (it := .seq (.var 2)) (ρ := [some (.d (eqD ws g)), some (.d (tI xs)), some (.d (nI w)), some (.d (tI xs)), none]) (by rw [semI, r_var rfl]; rfl) e1
  refine run_rt (xs := [eqD ws g, tI xs, nI w]) rfl (Nat.le_of_ble_eq_true rfl) (ρ1 := [some (.d (eqD ws g)), some (.d (tI xs)), some (.d (nI w)), some (.d (tI (wlk ws g xs w))), z']) ?_ (Nat.le_of_ble_eq_true rfl)
  unfold Lb.walked_in
  refine (ss_nx (ρ1 := [some (.d (eqD ws g)), some (.d (tI xs)), some (.d (nI w)), some (.d (tI xs)), none]) ?_).trans ?_
  · repeat' (first | with_reducible apply l_nil | with_reducible apply o_none | with_reducible apply r_lit | with_reducible apply ss_nil | with_reducible apply r_var | with_reducible apply r_ovar | with_reducible apply l_cons | with_reducible apply o_some | with_reducible apply r_bin | with_reducible apply r_neg | with_reducible apply r_ix | with_reducible apply r_sl | with_reducible apply r_tup | with_reducible apply r_lst | with_reducible apply r_bi | with_reducible apply r_glob | with_reducible apply r_cmp | with_reducible apply r_isN | with_reducible apply r_not | with_reducible apply r_and | with_reducible apply r_or | with_reducible apply r_ite | with_reducible apply r_chain | with_reducible apply r_call | with_reducible apply t_cmp | with_reducible apply t_not | with_reducible apply t_isN | with_reducible apply t_and | with_reducible apply t_or | with_reducible apply t_chain | with_reducible apply t_tru | with_reducible apply s_set | with_reducible apply s_own | with_reducible apply s_asg | with_reducible apply s_if | with_reducible apply s_ret | with_reducible apply s_retO | with_reducible apply f_lst | with_reducible apply f_list | with_reducible apply cmp_eq | with_reducible apply cmp_ne | assumption | rfl)
  refine (ss_nx e2).trans (ss_rt ?_)
  repeat' (first | with_reducible apply l_nil | with_reducible apply o_none | with_reducible apply r_lit | with_reducible apply ss_nil | with_reducible apply r_var | with_reducible apply r_ovar | with_reducible apply l_cons | with_reducible apply o_some | with_reducible apply r_bin | with_reducible apply r_neg | with_reducible apply r_ix | with_reducible apply r_sl | with_reducible apply r_tup | with_reducible apply r_lst | with_reducible apply r_bi | with_reducible apply r_glob | with_reducible apply r_cmp | with_reducible apply r_isN | with_reducible apply r_not | with_reducible apply r_and | with_reducible apply r_or | with_reducible apply r_ite | with_reducible apply r_chain | with_reducible apply r_call | with_reducible apply t_cmp | with_reducible apply t_not | with_reducible apply t_isN | with_reducible apply t_and | with_reducible apply t_or | with_reducible apply t_chain | with_reducible apply t_tru | with_reducible apply s_set | with_reducible apply s_own | with_reducible apply s_asg | with_reducible apply s_if | with_reducible apply s_ret | with_reducible apply s_retO | with_reducible apply f_lst | with_reducible apply f_list | with_reducible apply cmp_eq | with_reducible apply cmp_ne | assumption | rfl)
def Flip (f : Fn) : Prop := ∀ ws g xs (k : Nat), EqOk ws g → SolOk ws g xs BIG → k < ws.length → flp ws g xs k < BIG → f [.d (eqD ws g), .d (tI xs), .d (.int k)] = .ok (.d (tI (flr ws g xs k))) [.d (eqD ws g), .d (tI xs), .d (.int k)]
theorem flip_ok {f0 f1 f2 f3 : Nat} (h0 : SureEquation (fn f0)) (h1 : SureSolution (fn f1)) (h2 : FlippedIn (fn f2)) (h3 : SurePlace (fn f3)) : Flip (runD cs fn (Lb.flip f0 f1 f2 f3)) := by
  intro ws g xs k E S hk hB
  have e0 := h0 ws g E
  have e1 := h1 ws g xs E S
  have e2 := h2 ws g xs k E S.row hk hB
  have e3 := h3 ws g k hk
  refine run_rt (xs := [eqD ws g, tI xs, .int k]) rfl (Nat.le_of_ble_eq_true rfl) (ρ1 := [some (.d (eqD ws g)), some (.d (tI xs)), some (.d (.int k)), some (.d (eqD ws g)), some (.d (tI xs))]) ?_ (Nat.le_of_ble_eq_true rfl)
  unfold Lb.flip
  refine (ss_nx (ρ1 := [some (.d (eqD ws g)), some (.d (tI xs)), some (.d (.int k)), some (.d (eqD ws g)), none]) ?_).trans ?_
  · repeat' (first | with_reducible apply l_nil | with_reducible apply o_none | with_reducible apply r_lit | with_reducible apply ss_nil | with_reducible apply r_var | with_reducible apply r_ovar | with_reducible apply l_cons | with_reducible apply o_some | with_reducible apply r_bin | with_reducible apply r_neg | with_reducible apply r_ix | with_reducible apply r_sl | with_reducible apply r_tup | with_reducible apply r_lst | with_reducible apply r_bi | with_reducible apply r_glob | with_reducible apply r_cmp | with_reducible apply r_isN | with_reducible apply r_not | with_reducible apply r_and | with_reducible apply r_or | with_reducible apply r_ite | with_reducible apply r_chain | with_reducible apply r_call | with_reducible apply t_cmp | with_reducible apply t_not | with_reducible apply t_isN | with_reducible apply t_and | with_reducible apply t_or | with_reducible apply t_chain | with_reducible apply t_tru | with_reducible apply s_set | with_reducible apply s_own | with_reducible apply s_asg | with_reducible apply s_if | with_reducible apply s_ret | with_reducible apply s_retO | with_reducible apply f_lst | with_reducible apply f_list | with_reducible apply cmp_eq | with_reducible apply cmp_ne | assumption | rfl)
  refine (ss_nx (ρ1 := [some (.d (eqD ws g)), some (.d (tI xs)), some (.d (.int k)), some (.d (eqD ws g)), some (.d (tI xs))]) ?_).trans (ss_rt ?_)
  · repeat' (first | with_reducible apply l_nil | with_reducible apply o_none | with_reducible apply r_lit | with_reducible apply ss_nil | with_reducible apply r_var | with_reducible apply r_ovar | with_reducible apply l_cons | with_reducible apply o_some | with_reducible apply r_bin | with_reducible apply r_neg | with_reducible apply r_ix | with_reducible apply r_sl | with_reducible apply r_tup | with_reducible apply r_lst | with_reducible apply r_bi | with_reducible apply r_glob | with_reducible apply r_cmp | with_reducible apply r_isN | with_reducible apply r_not | with_reducible apply r_and | with_reducible apply r_or | with_reducible apply r_ite | with_reducible apply r_chain | with_reducible apply r_call | with_reducible apply t_cmp | with_reducible apply t_not | with_reducible apply t_isN | with_reducible apply t_and | with_reducible apply t_or | with_reducible apply t_chain | with_reducible apply t_tru | with_reducible apply s_set | with_reducible apply s_own | with_reducible apply s_asg | with_reducible apply s_if | with_reducible apply s_ret | with_reducible apply s_retO | with_reducible apply f_lst | with_reducible apply f_list | with_reducible apply cmp_eq | with_reducible apply cmp_ne | assumption | rfl)
  · repeat' (first | with_reducible apply l_nil | with_reducible apply o_none | with_reducible apply r_lit | with_reducible apply ss_nil | with_reducible apply r_var | with_reducible apply r_ovar | with_reducible apply l_cons | with_reducible apply o_some | with_reducible apply r_bin | with_reducible apply r_neg | with_reducible apply r_ix | with_reducible apply r_sl | with_reducible apply r_tup | with_reducible apply r_lst | with_reducible apply r_bi | with_reducible apply r_glob | with_reducible apply r_cmp | with_reducible apply r_isN | with_reducible apply r_not | with_reducible apply r_and | with_reducible apply r_or | with_reducible apply r_ite | with_reducible apply r_chain | with_reducible apply r_call | with_reducible apply t_cmp | with_reducible apply t_not | with_reducible apply t_isN | with_reducible apply t_and | with_reducible apply t_or | with_reducible apply t_chain | with_reducible apply t_tru | with_reducible apply s_set | with_reducible apply s_own | with_reducible apply s_asg | with_reducible apply s_if | with_reducible apply s_ret | with_reducible apply s_retO | with_reducible apply f_lst | with_reducible apply f_list | with_reducible apply cmp_eq | with_reducible apply cmp_ne | assumption | rfl)
end
end Pu
end
section
namespace Pu
open PySem F3
section
variable {cs : List Int} {fn : Nat → Fn}
theorem enumD_map : ∀ (xs : List Int) (k : Nat), enumD (xs.map .int) k = (xs.zipIdx k).map fun p => PyData.tuple [.int (p.2 : Nat), .int p.1]
  | [], _ => rfl
  | x :: r, k => by rw [List.map_cons, enumD, enumD_map r (k + 1), List.zipIdx_cons, List.map_cons]
/-- the row but two places -/
def rst (xs : List Int) (j k : Nat) : List Int := (xs.zipIdx.filter fun p => decide (p.2 ≠ j ∧ p.2 ≠ k)).map (·.1)
def nr (ws : List Int) (g : Int) (xs : List Int) (j k : Nat) (i : Nat) : Int := g / ws.getD i 1 * pr (rst xs j k)
theorem notin2 (i j k : Nat) : cmpD .notin (.int i) (.tuple [.int j, .int k]) = some (decide (i ≠ j ∧ i ≠ k)) := by
  have e : inD (.int (i : Nat)) [.int (j : Nat), .int (k : Nat)] = some (decide (j = i) || decide (k = i)) := by
    unfold inD
    rw [if_pos (by simp)]
    have q : ∀ a b : Nat, PyData.eqv (.int (a : Nat)) (.int (b : Nat)) = decide (a = b) := fun a b => by
      have := cmp_eq (a : Int) (b : Int)
      by_cases h : a = b
      · simp [PyData.eqv, h]
      · have h' : ¬ (a : Int) = b := by omega
        simp [PyData.eqv, h, h']
    simp [q]
  simp only [cmpD]
  rw [e]
  have a1 : decide (j = i) = decide (i = j) := decide_eq_decide.mpr eq_comm
  have a2 : decide (k = i) = decide (i = k) := decide_eq_decide.mpr eq_comm
  rw [a1, a2]
  by_cases h1 : i = j
  · simp [h1]
  · by_cases h2 : i = k
    · simp [h2]
    · simp [h1, h2]
theorem rst_len (xs : List Int) (j k : Nat) : (rst xs j k).length ≤ xs.length := by
  unfold rst
  rw [List.length_map]
  exact Nat.le_trans (List.length_filter_le _ _) (by simp)
theorem rst_mem {xs : List Int} {j k : Nat} {z : Int} (h : z ∈ rst xs j k) : z ∈ xs := by
  unfold rst at h
  obtain ⟨p, hp, rfl⟩ := List.mem_map.mp h
  exact List.fst_mem_of_mem_zipIdx (List.mem_filter.mp hp).1
theorem getD_at {xs : List Int} {k : Nat} {d : Int} (h : k < xs.length) : xs.getD k d = xs[k] := by simp [h]
theorem at_D {xs : List Int} {k : Nat} (d : Int) (h : k < xs.length) : ixD (tI xs) (.int (k : Int)) = some (.int (xs.getD k d)) := by rw [getD_at h]; exact at_tI h
def SureRoad (f : Fn) : Prop := ∀ ws g xs (j k : Nat), EqOk ws g → SolOk ws g xs BIG → j < ws.length → k < ws.length → j ≠ k →
  f [.d (eqD ws g), .d (tI xs), .d (.int j), .d (.int k)] = .ok (.d (tI [xs.getD j 0, xs.getD k 0, nr ws g xs j k j, nr ws g xs j k k])) [.d (eqD ws g), .d (tI xs), .d (.int j), .d (.int k)]
theorem sure_road_ok {f0 f1 f2 x0 f3 : Nat} (h0 : SureEquation (fn f0)) (h1 : SureSolution (fn f1)) (h2 : SurePlace (fn f2)) (h3 : ProductOf (fn f3)) : SureRoad (runD cs fn (Lb.sure_road f0 f1 f2 x0 f3)) := by
  intro ws g xs j k E S hj hk hjk
  have R := S.row
  have e0 := h0 ws g E
  have e1 := h1 ws g xs E S
  have e2 := h2 ws g j hj
  have e3 := h2 ws g k hk
  have l6 : xs.length ≤ 6 := by rw [S.l]; exact E.l2
  have e4 := h3 (.list ((rst xs j k).map .int)) (rst xs j k) rfl (by have := rst_len xs j k; omega) fun z hz => R.sm z (rst_mem hz)
  have hne : cmpD .eq (.int (j : Int)) (.int (k : Int)) = some false := by
    rw [cmp_eq]
    have : ¬ (j : Int) = k := by omega
    simp [this]
  have L := sem_lcP (Γ := ⟨fn, cs, [false, false, false, false]⟩) (is := [9, 10]) (t := .t [.n 9, .n 10]) (it := .enum (.var 5)) (c := some (.cmp .notin (.var 9) (.tup [.var 6, .var 7]))) (e := .var 10)
    (ρ := [some (.d (eqD ws g)), some (.d (tI xs)), some (.d (.int j)), some (.d (.int k)), some (.d (eqD ws g)), some (.d (tI xs)), some (.d (.int j)), some (.d (.int k)), none, none, none])
    (fun p : Int × Nat => PyData.tuple [.int (p.2 : Nat), .int p.1]) (fun p => decide (p.2 ≠ j ∧ p.2 ≠ k)) (fun p => .int p.1) xs.zipIdx
    (by rw [semI, r_var rfl]; show Rs.ok (enumD (xs.map .int) 0) _ = _; rw [enumD_map]) rfl (by simp; omega)
    (fun p hm => ⟨[some (.d (eqD ws g)), some (.d (tI xs)), some (.d (.int j)), some (.d (.int k)), some (.d (eqD ws g)), some (.d (tI xs)), some (.d (.int j)), some (.d (.int k)), none, some (.d (.int (p.2 : Nat))), some (.d (.int p.1))], _, rfl, by
        have c1 := notin2 p.2 j k
        rw [semC]
        refine t_cmp (r_var rfl) (r_tup (l_cons (r_var rfl) (l_cons (r_var rfl) l_nil))) c1, by
        by_cases q : p.2 ≠ j ∧ p.2 ≠ k
        · exact .inr ⟨decide_eq_true q, _, r_var rfl, rfl⟩
        · exact .inl ⟨decide_eq_false q, rfl⟩⟩) rfl
  have eL : ((xs.zipIdx.filter fun p => decide (p.2 ≠ j ∧ p.2 ≠ k)).map fun p => PyData.int p.1) = (rst xs j k).map .int := by unfold rst; rw [List.map_map]; rfl
  rw [eL] at L
  have i1 := at_D (xs := xs) 0 (by rw [S.l]; exact hj)
  have i2 := at_D (xs := xs) 0 (by rw [S.l]; exact hk)
  have i3 := at_D (xs := ws) 1 hj
  have i4 := at_D (xs := ws) 1 hk
  have w1 := E.w (ws.getD j 1) (by rw [getD_at hj]; exact List.getElem_mem hj)
  have w2 := E.w (ws.getD k 1) (by rw [getD_at hk]; exact List.getElem_mem hk)
  have d1 := bin_fdiv (i := g) (divOk_12 w1)
  have d2 := bin_fdiv (i := g) (divOk_12 w2)
  have b1 := div_60 E.f1 E.f2 w1.1
  have b2 := div_60 E.f1 E.f2 w2.1
  have m1 := bin_mul (mulOk_s (x := pr (rst xs j k)) b1.1 b1.2)
  have m2 := bin_mul (mulOk_s (x := pr (rst xs j k)) b2.1 b2.2)
  have q0 := eq0 ws g
  have q1 := eq1 ws g
  refine run_rt (xs := [eqD ws g, tI xs, .int j, .int k]) rfl (Nat.le_of_ble_eq_true rfl) (ρ1 := [some (.d (eqD ws g)), some (.d (tI xs)), some (.d (.int j)), some (.d (.int k)), some (.d (eqD ws g)), some (.d (tI xs)), some (.d (.int j)), some (.d (.int k)), some (.d (.int (pr (rst xs j k)))), none, none]) ?_ (Nat.le_of_ble_eq_true rfl)
  unfold Lb.sure_road
  refine (ss_nx (ρ1 := [some (.d (eqD ws g)), some (.d (tI xs)), some (.d (.int j)), some (.d (.int k)), some (.d (eqD ws g)), none, none, none, none, none, none]) ?_).trans ?_
  · repeat' (first | with_reducible apply l_nil | with_reducible apply o_none | with_reducible apply r_lit | with_reducible apply ss_nil | with_reducible apply r_var | with_reducible apply r_ovar | with_reducible apply l_cons | with_reducible apply o_some | with_reducible apply r_bin | with_reducible apply r_neg | with_reducible apply r_ix | with_reducible apply r_sl | with_reducible apply r_tup | with_reducible apply r_lst | with_reducible apply r_bi | with_reducible apply r_glob | with_reducible apply r_cmp | with_reducible apply r_isN | with_reducible apply r_not | with_reducible apply r_and | with_reducible apply r_or | with_reducible apply r_ite | with_reducible apply r_chain | with_reducible apply r_call | with_reducible apply t_cmp | with_reducible apply t_not | with_reducible apply t_isN | with_reducible apply t_and | with_reducible apply t_or | with_reducible apply t_chain | with_reducible apply t_tru | with_reducible apply s_set | with_reducible apply s_own | with_reducible apply s_asg | with_reducible apply s_if | with_reducible apply s_ret | with_reducible apply s_retO | with_reducible apply f_lst | with_reducible apply f_list | assumption | with_reducible apply cmp_eq | with_reducible apply cmp_ne | rfl)
  refine (ss_nx (ρ1 := [some (.d (eqD ws g)), some (.d (tI xs)), some (.d (.int j)), some (.d (.int k)), some (.d (eqD ws g)), some (.d (tI xs)), none, none, none, none, none]) ?_).trans ?_
  · repeat' (first | with_reducible apply l_nil | with_reducible apply o_none | with_reducible apply r_lit | with_reducible apply ss_nil | with_reducible apply r_var | with_reducible apply r_ovar | with_reducible apply l_cons | with_reducible apply o_some | with_reducible apply r_bin | with_reducible apply r_neg | with_reducible apply r_ix | with_reducible apply r_sl | with_reducible apply r_tup | with_reducible apply r_lst | with_reducible apply r_bi | with_reducible apply r_glob | with_reducible apply r_cmp | with_reducible apply r_isN | with_reducible apply r_not | with_reducible apply r_and | with_reducible apply r_or | with_reducible apply r_ite | with_reducible apply r_chain | with_reducible apply r_call | with_reducible apply t_cmp | with_reducible apply t_not | with_reducible apply t_isN | with_reducible apply t_and | with_reducible apply t_or | with_reducible apply t_chain | with_reducible apply t_tru | with_reducible apply s_set | with_reducible apply s_own | with_reducible apply s_asg | with_reducible apply s_if | with_reducible apply s_ret | with_reducible apply s_retO | with_reducible apply f_lst | with_reducible apply f_list | assumption | with_reducible apply cmp_eq | with_reducible apply cmp_ne | rfl)
  refine (ss_nx (ρ1 := [some (.d (eqD ws g)), some (.d (tI xs)), some (.d (.int j)), some (.d (.int k)), some (.d (eqD ws g)), some (.d (tI xs)), some (.d (.int j)), none, none, none, none]) ?_).trans ?_
  · repeat' (first | with_reducible apply l_nil | with_reducible apply o_none | with_reducible apply r_lit | with_reducible apply ss_nil | with_reducible apply r_var | with_reducible apply r_ovar | with_reducible apply l_cons | with_reducible apply o_some | with_reducible apply r_bin | with_reducible apply r_neg | with_reducible apply r_ix | with_reducible apply r_sl | with_reducible apply r_tup | with_reducible apply r_lst | with_reducible apply r_bi | with_reducible apply r_glob | with_reducible apply r_cmp | with_reducible apply r_isN | with_reducible apply r_not | with_reducible apply r_and | with_reducible apply r_or | with_reducible apply r_ite | with_reducible apply r_chain | with_reducible apply r_call | with_reducible apply t_cmp | with_reducible apply t_not | with_reducible apply t_isN | with_reducible apply t_and | with_reducible apply t_or | with_reducible apply t_chain | with_reducible apply t_tru | with_reducible apply s_set | with_reducible apply s_own | with_reducible apply s_asg | with_reducible apply s_if | with_reducible apply s_ret | with_reducible apply s_retO | with_reducible apply f_lst | with_reducible apply f_list | assumption | with_reducible apply cmp_eq | with_reducible apply cmp_ne | rfl)
  refine (ss_nx (ρ1 := [some (.d (eqD ws g)), some (.d (tI xs)), some (.d (.int j)), some (.d (.int k)), some (.d (eqD ws g)), some (.d (tI xs)), some (.d (.int j)), some (.d (.int k)), none, none, none]) ?_).trans ?_
  · repeat' (first | with_reducible apply l_nil | with_reducible apply o_none | with_reducible apply r_lit | with_reducible apply ss_nil | with_reducible apply r_var | with_reducible apply r_ovar | with_reducible apply l_cons | with_reducible apply o_some | with_reducible apply r_bin | with_reducible apply r_neg | with_reducible apply r_ix | with_reducible apply r_sl | with_reducible apply r_tup | with_reducible apply r_lst | with_reducible apply r_bi | with_reducible apply r_glob | with_reducible apply r_cmp | with_reducible apply r_isN | with_reducible apply r_not | with_reducible apply r_and | with_reducible apply r_or | with_reducible apply r_ite | with_reducible apply r_chain | with_reducible apply r_call | with_reducible apply t_cmp | with_reducible apply t_not | with_reducible apply t_isN | with_reducible apply t_and | with_reducible apply t_or | with_reducible apply t_chain | with_reducible apply t_tru | with_reducible apply s_set | with_reducible apply s_own | with_reducible apply s_asg | with_reducible apply s_if | with_reducible apply s_ret | with_reducible apply s_retO | with_reducible apply f_lst | with_reducible apply f_list | assumption | with_reducible apply cmp_eq | with_reducible apply cmp_ne | rfl)
  refine (ss_nx (ρ1 := [some (.d (eqD ws g)), some (.d (tI xs)), some (.d (.int j)), some (.d (.int k)), some (.d (eqD ws g)), some (.d (tI xs)), some (.d (.int j)), some (.d (.int k)), none, none, none]) ?_).trans ?_
  · repeat' (first | with_reducible apply l_nil | with_reducible apply o_none | with_reducible apply r_lit | with_reducible apply ss_nil | with_reducible apply r_var | with_reducible apply r_ovar | with_reducible apply l_cons | with_reducible apply o_some | with_reducible apply r_bin | with_reducible apply r_neg | with_reducible apply r_ix | with_reducible apply r_sl | with_reducible apply r_tup | with_reducible apply r_lst | with_reducible apply r_bi | with_reducible apply r_glob | with_reducible apply r_cmp | with_reducible apply r_isN | with_reducible apply r_not | with_reducible apply r_and | with_reducible apply r_or | with_reducible apply r_ite | with_reducible apply r_chain | with_reducible apply r_call | with_reducible apply t_cmp | with_reducible apply t_not | with_reducible apply t_isN | with_reducible apply t_and | with_reducible apply t_or | with_reducible apply t_chain | with_reducible apply t_tru | with_reducible apply s_set | with_reducible apply s_own | with_reducible apply s_asg | with_reducible apply s_if | with_reducible apply s_ret | with_reducible apply s_retO | with_reducible apply f_lst | with_reducible apply f_list | assumption | with_reducible apply cmp_eq | with_reducible apply cmp_ne | rfl)
  refine (ss_nx (ρ1 := [some (.d (eqD ws g)), some (.d (tI xs)), some (.d (.int j)), some (.d (.int k)), some (.d (eqD ws g)), some (.d (tI xs)), some (.d (.int j)), some (.d (.int k)), some (.d (.int (pr (rst xs j k)))), none, none]) ?_).trans ?_
  · repeat' (first | with_reducible apply l_nil | with_reducible apply o_none | with_reducible apply r_lit | with_reducible apply ss_nil | with_reducible apply r_var | with_reducible apply r_ovar | with_reducible apply l_cons | with_reducible apply o_some | with_reducible apply r_bin | with_reducible apply r_neg | with_reducible apply r_ix | with_reducible apply r_sl | with_reducible apply r_tup | with_reducible apply r_lst | with_reducible apply r_bi | with_reducible apply r_glob | with_reducible apply r_cmp | with_reducible apply r_isN | with_reducible apply r_not | with_reducible apply r_and | with_reducible apply r_or | with_reducible apply r_ite | with_reducible apply r_chain | with_reducible apply r_call | with_reducible apply t_cmp | with_reducible apply t_not | with_reducible apply t_isN | with_reducible apply t_and | with_reducible apply t_or | with_reducible apply t_chain | with_reducible apply t_tru | with_reducible apply s_set | with_reducible apply s_own | with_reducible apply s_asg | with_reducible apply s_if | with_reducible apply s_ret | with_reducible apply s_retO | with_reducible apply f_lst | with_reducible apply f_list | assumption | with_reducible apply cmp_eq | with_reducible apply cmp_ne | rfl)
  refine ss_rt ?_
  show exS _ _ _ = .rt (.d (.tuple [.int (xs.getD j 0), .int (xs.getD k 0), .int (g / ws.getD j 1 * pr (rst xs j k)), .int (g / ws.getD k 1 * pr (rst xs j k))])) _
  repeat' (first | with_reducible apply l_nil | with_reducible apply o_none | with_reducible apply r_lit | with_reducible apply ss_nil | with_reducible apply r_var | with_reducible apply r_ovar | with_reducible apply l_cons | with_reducible apply o_some | with_reducible apply r_bin | with_reducible apply r_neg | with_reducible apply r_ix | with_reducible apply r_sl | with_reducible apply r_tup | with_reducible apply r_lst | with_reducible apply r_bi | with_reducible apply r_glob | with_reducible apply r_cmp | with_reducible apply r_isN | with_reducible apply r_not | with_reducible apply r_and | with_reducible apply r_or | with_reducible apply r_ite | with_reducible apply r_chain | with_reducible apply r_call | with_reducible apply t_cmp | with_reducible apply t_not | with_reducible apply t_isN | with_reducible apply t_and | with_reducible apply t_or | with_reducible apply t_chain | with_reducible apply t_tru | with_reducible apply s_set | with_reducible apply s_own | with_reducible apply s_asg | with_reducible apply s_if | with_reducible apply s_ret | with_reducible apply s_retO | with_reducible apply f_lst | with_reducible apply f_list | assumption | with_reducible apply cmp_eq | with_reducible apply cmp_ne | rfl)
/-- a product's bits -/
theorem pr_sm {b : Nat} : ∀ (xs : List Int) (acc : Int) (c : Nat), Sm c acc → (∀ z ∈ xs, Sm b z) → Sm (c + b * xs.length) (xs.foldl (· * ·) acc)
  | [], acc, c, h, _ => by simpa using h
  | x :: r, acc, c, h, hx => by
    have := pr_sm r (acc * x) (c + b) (h.mul (hx x (by simp))) fun z hz => hx z (List.mem_cons_of_mem _ hz)
    rw [List.foldl_cons, List.length_cons]
    have e : c + b * (r.length + 1) = c + b + b * r.length := by rw [Nat.mul_add]; omega
    rw [e]
    exact this
theorem Sm.mono {a b : Nat} {i : Int} (h : Sm a i) (hab : a ≤ b) : Sm b i := Nat.lt_of_lt_of_le h (Nat.pow_le_pow_right (by decide) hab)
theorem nr_sm {ws xs : List Int} {g : Int} {j k i : Nat} (E : EqOk ws g) (S : SolOk ws g xs BIG) (hi : i < ws.length) : Sm 130000 (nr ws g xs j k i) := by
  have w1 := E.w (ws.getD i 1) (by rw [getD_at hi]; exact List.getElem_mem hi)
  have b1 := div_60 E.f1 E.f2 w1.1
  have s1 : Sm 6 (g / ws.getD i 1) := by unfold Sm; omega
  have s2 := pr_sm (b := 20000) (rst xs j k) 1 1 (by simp [Sm]) fun z hz => S.row.sm z (rst_mem hz)
  have l := rst_len xs j k
  have l6 : xs.length ≤ 6 := by rw [S.l]; exact E.l2
  exact (s1.mul s2).mono (by omega)
def RoadStep (f : Fn) : Prop := ∀ ws g xs (j k : Nat), EqOk ws g → SolOk ws g xs BIG → j < ws.length → k < ws.length → j ≠ k →
  f [.d (eqD ws g), .d (tI xs), .d (.int j), .d (.int k)] = .ok (.d (.int (nr ws g xs j k j * nr ws g xs j k k - 2))) [.d (eqD ws g), .d (tI xs), .d (.int j), .d (.int k)]
theorem road_step_ok {f0 : Nat} (h0 : SureRoad (fn f0)) : RoadStep (runD cs fn (Lb.road_step f0)) := by
  intro ws g xs j k E S hj hk hjk
  have e0 := h0 ws g xs j k E S hj hk hjk
  have s1 := cut_fromI (xs := [xs.getD j 0, xs.getD k 0, nr ws g xs j k j, nr ws g xs j k k]) (k := 2) (Nat.le_of_ble_eq_true rfl)
  have s1 : slD (tI [xs.getD j 0, xs.getD k 0, nr ws g xs j k j, nr ws g xs j k k]) (some 2) none = some (tI [nr ws g xs j k j, nr ws g xs j k k]) := s1
  have m := bin_mul (mulOk_sm (nr_sm (j := j) (k := k) E S hj) (nr_sm (j := j) (k := k) E S hk) (by decide))
  have t1 : assignT ⟨fn, cs, [false, false, false, false]⟩ (.t [.n 4, .n 5]) (tI [nr ws g xs j k j, nr ws g xs j k k]) [some (.d (eqD ws g)), some (.d (tI xs)), some (.d (.int j)), some (.d (.int k)), none, none] =
    some [some (.d (eqD ws g)), some (.d (tI xs)), some (.d (.int j)), some (.d (.int k)), some (.d (.int (nr ws g xs j k j))), some (.d (.int (nr ws g xs j k k)))] := rfl
  refine run_rt (xs := [eqD ws g, tI xs, .int j, .int k]) rfl (Nat.le_of_ble_eq_true rfl) (ρ1 := [some (.d (eqD ws g)), some (.d (tI xs)), some (.d (.int j)), some (.d (.int k)), some (.d (.int (nr ws g xs j k j))), some (.d (.int (nr ws g xs j k k)))]) ?_ (Nat.le_of_ble_eq_true rfl)
  unfold Lb.road_step
  refine (ss_nx (ρ1 := [some (.d (eqD ws g)), some (.d (tI xs)), some (.d (.int j)), some (.d (.int k)), some (.d (.int (nr ws g xs j k j))), some (.d (.int (nr ws g xs j k k)))]) ?_).trans (ss_rt ?_)
  · repeat' (first | with_reducible apply l_nil | with_reducible apply o_none | with_reducible apply r_lit | with_reducible apply ss_nil | with_reducible apply r_var | with_reducible apply r_ovar | with_reducible apply l_cons | with_reducible apply o_some | with_reducible apply r_bin | with_reducible apply r_neg | with_reducible apply r_ix | with_reducible apply r_sl | with_reducible apply r_tup | with_reducible apply r_lst | with_reducible apply r_bi | with_reducible apply r_glob | with_reducible apply r_cmp | with_reducible apply r_isN | with_reducible apply r_not | with_reducible apply r_and | with_reducible apply r_or | with_reducible apply r_ite | with_reducible apply r_chain | with_reducible apply r_call | with_reducible apply t_cmp | with_reducible apply t_not | with_reducible apply t_isN | with_reducible apply t_and | with_reducible apply t_or | with_reducible apply t_chain | with_reducible apply t_tru | with_reducible apply s_set | with_reducible apply s_own | with_reducible apply s_asg | with_reducible apply s_if | with_reducible apply s_ret | with_reducible apply s_retO | with_reducible apply f_lst | with_reducible apply f_list | assumption | with_reducible apply cmp_eq | with_reducible apply cmp_ne | rfl)
  · repeat' (first | with_reducible apply l_nil | with_reducible apply o_none | with_reducible apply r_lit | with_reducible apply ss_nil | with_reducible apply r_var | with_reducible apply r_ovar | with_reducible apply l_cons | with_reducible apply o_some | with_reducible apply r_bin | with_reducible apply r_neg | with_reducible apply r_ix | with_reducible apply r_sl | with_reducible apply r_tup | with_reducible apply r_lst | with_reducible apply r_bi | with_reducible apply r_glob | with_reducible apply r_cmp | with_reducible apply r_isN | with_reducible apply r_not | with_reducible apply r_and | with_reducible apply r_or | with_reducible apply r_ite | with_reducible apply r_chain | with_reducible apply r_call | with_reducible apply t_cmp | with_reducible apply t_not | with_reducible apply t_isN | with_reducible apply t_and | with_reducible apply t_or | with_reducible apply t_chain | with_reducible apply t_tru | with_reducible apply s_set | with_reducible apply s_own | with_reducible apply s_asg | with_reducible apply s_if | with_reducible apply s_ret | with_reducible apply s_retO | with_reducible apply f_lst | with_reducible apply f_list | assumption | with_reducible apply cmp_eq | with_reducible apply cmp_ne | rfl)
end
end Pu
end
section
namespace Pu
open PySem F3
section
variable {cs : List Int} {fn : Nat → Fn}
theorem nI_tI (w : List Nat) : nI w = tI (w.map fun (k : Nat) => (k : Int)) := by simp [nI, tI]
def IsWordIn (f : Fn) : Prop := ∀ (n : Nat) (w : List Nat), w.length ≤ 5000 → (∀ k ∈ w, k < n) → f [.d (.int n), .d (nI w)] = .ok (.d (.bool true)) [.d (.int n), .d (nI w)]
theorem is_word_in_ok {f0 c0 : Nat} (h0 : AreNumbers (fn f0)) (g0 : cs[c0]? = some 5000) : IsWordIn (runD cs fn (Lb.is_word_in f0 c0)) := by
  intro n w hl h
  have e0 := h0 (w.map fun (k : Nat) => (k : Int)) (by simp; omega)
  rw [← nI_tI] at e0
  have e1 : biD .len [nI w] = some (.int w.length) := by simp [nI]
  have c1 : cmpD .le (.int w.length) (.int 5000) = some true := by rw [cmp_le, decide_eq_true (by omega)]
  have L := sem_lcP (Γ := ⟨fn, cs, [false, false]⟩) (is := [2]) (t := .n 2) (it := .seq (.var 1)) (c := none) (e := .chain .le .lt (.lit (.int 0)) (.var 2) (.var 0)) (ρ := [some (.d (.int n)), some (.d (nI w)), none]) (fun k : Nat => PyData.int k) (fun _ => true) (fun k => .bool (decide ((k : Int) < n))) w
    (by rw [semI, r_var rfl]; rfl) rfl (by omega) (fun k hm => ⟨[some (.d (.int n)), some (.d (nI w)), some (.d (.int k))], _, rfl, rfl, .inr ⟨rfl, [some (.d (.int n)), some (.d (nI w)), some (.d (.int k))], by
      have c2 : cmpD .le (.int 0) (.int (k : Int)) = some true := by rw [cmp_le, decide_eq_true (by omega)]
      refine r_chain r_lit (r_var rfl) c2 ?_
      rw [if_pos rfl, r_var rfl]
      rfl, rfl⟩⟩) rfl
  rw [filter_tt] at L
  have e2 := all_true w (fun k => decide ((k : Int) < n)) fun k hk => by
    have := h k hk
    exact decide_eq_true (by omega)
  refine run_rt (xs := [.int n, nI w]) rfl (Nat.le_of_ble_eq_true rfl) (ρ1 := [some (.d (.int n)), some (.d (nI w)), none]) ?_ (Nat.le_of_ble_eq_true rfl)
  unfold Lb.is_word_in
  refine ss_rt (s_ret ?_)
  refine r_and (v := true) (ρ1 := [some (.d (.int n)), some (.d (nI w)), none]) ?_ ?_
  · repeat' (first | with_reducible apply l_nil | with_reducible apply o_none | with_reducible apply r_lit | with_reducible apply ss_nil | with_reducible apply r_var | with_reducible apply r_ovar | with_reducible apply l_cons | with_reducible apply o_some | with_reducible apply r_bin | with_reducible apply r_neg | with_reducible apply r_ix | with_reducible apply r_sl | with_reducible apply r_tup | with_reducible apply r_lst | with_reducible apply r_bi | with_reducible apply r_glob | with_reducible apply r_cmp | with_reducible apply r_isN | with_reducible apply r_not | with_reducible apply r_and | with_reducible apply r_or | with_reducible apply r_ite | with_reducible apply r_chain | with_reducible apply r_call | with_reducible apply t_cmp | with_reducible apply t_not | with_reducible apply t_isN | with_reducible apply t_and | with_reducible apply t_or | with_reducible apply t_chain | with_reducible apply t_tru | with_reducible apply s_set | with_reducible apply s_own | with_reducible apply s_asg | with_reducible apply s_if | with_reducible apply s_ret | with_reducible apply s_retO | with_reducible apply f_lst | with_reducible apply f_list | assumption | with_reducible apply cmp_eq | with_reducible apply cmp_ne | rfl)
  rw [if_pos rfl]
  refine r_and (v := true) (ρ1 := [some (.d (.int n)), some (.d (nI w)), none]) ?_ ?_
  · repeat' (first | with_reducible apply l_nil | with_reducible apply o_none | with_reducible apply r_lit | with_reducible apply ss_nil | with_reducible apply r_var | with_reducible apply r_ovar | with_reducible apply l_cons | with_reducible apply o_some | with_reducible apply r_bin | with_reducible apply r_neg | with_reducible apply r_ix | with_reducible apply r_sl | with_reducible apply r_tup | with_reducible apply r_lst | with_reducible apply r_bi | with_reducible apply r_glob | with_reducible apply r_cmp | with_reducible apply r_isN | with_reducible apply r_not | with_reducible apply r_and | with_reducible apply r_or | with_reducible apply r_ite | with_reducible apply r_chain | with_reducible apply r_call | with_reducible apply t_cmp | with_reducible apply t_not | with_reducible apply t_isN | with_reducible apply t_and | with_reducible apply t_or | with_reducible apply t_chain | with_reducible apply t_tru | with_reducible apply s_set | with_reducible apply s_own | with_reducible apply s_asg | with_reducible apply s_if | with_reducible apply s_ret | with_reducible apply s_retO | with_reducible apply f_lst | with_reducible apply f_list | assumption | with_reducible apply cmp_eq | with_reducible apply cmp_ne | rfl)
  rw [if_pos rfl]
  repeat' (first | with_reducible apply l_nil | with_reducible apply o_none | with_reducible apply r_lit | with_reducible apply ss_nil | with_reducible apply r_var | with_reducible apply r_ovar | with_reducible apply l_cons | with_reducible apply o_some | with_reducible apply r_bin | with_reducible apply r_neg | with_reducible apply r_ix | with_reducible apply r_sl | with_reducible apply r_tup | with_reducible apply r_lst | with_reducible apply r_bi | with_reducible apply r_glob | with_reducible apply r_cmp | with_reducible apply r_isN | with_reducible apply r_not | with_reducible apply r_and | with_reducible apply r_or | with_reducible apply r_ite | with_reducible apply r_chain | with_reducible apply r_call | with_reducible apply t_cmp | with_reducible apply t_not | with_reducible apply t_isN | with_reducible apply t_and | with_reducible apply t_or | with_reducible apply t_chain | with_reducible apply t_tru | with_reducible apply s_set | with_reducible apply s_own | with_reducible apply s_asg | with_reducible apply s_if | with_reducible apply s_ret | with_reducible apply s_retO | with_reducible apply f_lst | with_reducible apply f_list | assumption | with_reducible apply cmp_eq | with_reducible apply cmp_ne | rfl)
theorem i_zipT {Γ : Gm} {a b : IE} {ρ ρ1 ρ2 : F3.Env} {xs ys zs : List PyData} (h1 : sem Γ a ρ = .ok (.tuple xs) ρ1) (h2 : sem Γ b ρ1 = .ok (.tuple ys) ρ2) (h3 : zipD xs ys = zs) : semI Γ (.zip a b) ρ = .ok zs ρ2 := by
  rw [semI, h1]
  show (sem Γ b ρ1).bind _ = _
  rw [h2]
  show Rs.ok (zipD xs ys) ρ2 = _
  rw [h3]
/-- no letter twice behind itself -/
def Cut (w : List Nat) : Prop := ∀ p ∈ w.zip (w.drop 1), p.1 ≠ p.2
def IsCut (f : Fn) : Prop := ∀ w : List Nat, w.length ≤ 5000 → Cut w → f [.d (nI w)] = .ok (.d (.bool true)) [.d (nI w)]
theorem zipN : ∀ v w : List Nat, zipD (v.map fun k => PyData.int (k : Nat)) (w.map fun k => PyData.int (k : Nat)) = (v.zip w).map fun p => PyData.tuple [.int (p.1 : Nat), .int (p.2 : Nat)]
  | [], _ => by simp [zipD]
  | _ :: _, [] => by simp [zipD]
  | w :: ws, x :: xs => by simp [zipD, zipN ws xs]
theorem is_cut_ok : IsCut (runD cs fn Lb.is_cut) := by
  intro w hl h
  have s1 : slD (nI w) (some 1) none = some (nI (w.drop 1)) := by
    by_cases z : w = []
    · subst z; rfl
    · have hw : 1 ≤ w.length := by
        cases w with
        | nil => exact absurd rfl z
        | cons _ _ => simp
      have := cut_from (xs := w.map fun k => PyData.int (k : Nat)) (k := 1) (by simpa using hw)
      rw [← List.map_drop] at this
      exact this
  have L := sem_lcP (Γ := ⟨fn, cs, [false]⟩) (is := [1, 2]) (t := .t [.n 1, .n 2]) (it := .zip (.var 0) (.sl (.var 0) (some (.lit (.int 1))) none)) (c := none) (e := .cmp .ne (.var 1) (.var 2)) (ρ := [some (.d (nI w)), none, none])
    (fun p : Nat × Nat => PyData.tuple [.int (p.1 : Nat), .int (p.2 : Nat)]) (fun _ => true) (fun p => .bool true) (w.zip (w.drop 1))
    (by
      have a : sem ⟨fn, cs, [false]⟩ (.sl (.var 0) (some (.lit (.int 1))) none) [some (.d (nI w)), none, none] = .ok (nI (w.drop 1)) [some (.d (nI w)), none, none] := r_sl (r_var rfl) (o_some r_lit) o_none s1
      have b : sem ⟨fn, cs, [false]⟩ (.var 0) [some (.d (nI w)), none, none] = .ok (nI w) [some (.d (nI w)), none, none] := r_var rfl
      exact i_zipT b a (zipN _ _)) rfl (by rw [List.length_zip]; omega) (fun p hm => ⟨[some (.d (nI w)), some (.d (.int (p.1 : Nat))), some (.d (.int (p.2 : Nat)))], _, rfl, rfl, .inr ⟨rfl, [some (.d (nI w)), some (.d (.int (p.1 : Nat))), some (.d (.int (p.2 : Nat)))], by
      have c1 : cmpD .ne (.int (p.1 : Nat)) (.int (p.2 : Nat)) = some true := by
        have := h p hm
        have : ¬ (p.1 : Int) = p.2 := by omega
        rw [cmp_ne]
        simp [this]
      exact r_cmp (r_var rfl) (r_var rfl) c1, rfl⟩⟩) rfl
  rw [filter_tt] at L
  have e2 := all_true (w.zip (w.drop 1)) (fun _ => true) fun _ _ => rfl
  refine run_rt (xs := [nI w]) rfl (Nat.le_of_ble_eq_true rfl) (ρ1 := [some (.d (nI w)), none, none]) ?_ (Nat.le_of_ble_eq_true rfl)
  unfold Lb.is_cut
  refine ss_rt (s_ret ?_)
  repeat' (first | with_reducible apply l_nil | with_reducible apply o_none | with_reducible apply r_lit | with_reducible apply ss_nil | with_reducible apply r_var | with_reducible apply r_ovar | with_reducible apply l_cons | with_reducible apply o_some | with_reducible apply r_bin | with_reducible apply r_neg | with_reducible apply r_ix | with_reducible apply r_sl | with_reducible apply r_tup | with_reducible apply r_lst | with_reducible apply r_bi | with_reducible apply r_glob | with_reducible apply r_cmp | with_reducible apply r_isN | with_reducible apply r_not | with_reducible apply r_and | with_reducible apply r_or | with_reducible apply r_ite | with_reducible apply r_chain | with_reducible apply r_call | with_reducible apply t_cmp | with_reducible apply t_not | with_reducible apply t_isN | with_reducible apply t_and | with_reducible apply t_or | with_reducible apply t_chain | with_reducible apply t_tru | with_reducible apply s_set | with_reducible apply s_own | with_reducible apply s_asg | with_reducible apply s_if | with_reducible apply s_ret | with_reducible apply s_retO | with_reducible apply f_lst | with_reducible apply f_list | assumption | with_reducible apply cmp_eq | with_reducible apply cmp_ne | rfl)
/-- an address of a root -/
def adD (xs : List Int) (w : List Nat) : PyData := .tuple [tI xs, nI w]
structure AdOk (ws : List Int) (g : Int) (xs : List Int) (w : List Nat) : Prop where
  s : SolOk ws g xs BIG
  l : w.length ≤ 5000
  k : ∀ k ∈ w, k < ws.length
  r : low ws xs = none
  c : Cut w
  i : ∀ k ∈ w.head?, idl ws xs ≠ some k
theorem ne_opt (k : Nat) (o : Option Nat) (h : o ≠ some k) : cmpD .ne (.int (k : Nat)) (optI o) = some true := by
  cases o with
  | none => rfl
  | some j =>
    have : ¬ (k : Int) = j := fun z => h (by rw [show j = k by omega])
    show cmpD .ne (.int (k : Nat)) (.int (j : Nat)) = _
    rw [cmp_ne]
    simp [this]
theorem eq_nil (w : List Nat) : cmpD .eq (nI w) (.tuple []) = some (decide (w = [])) := by
  cases w with
  | nil => rfl
  | cons k r =>
    have d : (PyData.tuple []).depth ≤ 64 := by decide
    have hs : shal (nI (k :: r)) (.tuple []) = true := by
      unfold shal
      exact decide_eq_true (Nat.le_trans (Nat.min_le_right _ _) d)
    show (if shal _ _ = true then _ else _) = _
    rw [if_pos hs]
    rfl
def IsAddressIn (f : Fn) : Prop := ∀ ws g xs w, EqOk ws g → AdOk ws g xs w → f [.d (eqD ws g), .d (adD xs w)] = .ok (.d (.bool true)) [.d (eqD ws g), .d (adD xs w)]
theorem is_address_in_ok {f0 f1 f2 f3 f4 f5 : Nat} (h0 : IsLong (fn f0)) (h1 : IsSolutionIn (fn f1)) (h2 : IsWordIn (fn f2)) (h3 : LoweringIn (fn f3)) (h4 : IsCut (fn f4)) (h5 : IdleIn (fn f5)) : IsAddressIn (runD cs fn (Lb.is_address_in f0 f1 f2 f3 f4 f5)) := by
  intro ws g xs w E A
  have e0 : fn f0 [.d (adD xs w), .d (.int 2)] = .ok (.d (.bool true)) [.d (adD xs w), .d (.int 2)] := h0 [tI xs, nI w] 2
  have e1 := h1 ws g xs E A.s
  have e2 := h2 ws.length w A.l A.k
  have e3 := h3 ws g xs E A.s.row.sm
  rw [A.r] at e3
  have e4 := h4 w A.l A.c
  have e5 := h5 ws g xs E A.s.row.sm
  have i0 : ixD (adD xs w) (.int 0) = some (tI xs) := ix0 _ _
  have i1 : ixD (adD xs w) (.int 1) = some (nI w) := ix1 _ _ _
  have q0 := eq0 ws g
  have l1 : biD .len [tI ws] = some (.int ws.length) := by simp [tI]
  have c1 := eq_nil w
  refine run_rt (xs := [eqD ws g, adD xs w]) rfl (Nat.le_of_ble_eq_true rfl) (ρ1 := [some (.d (eqD ws g)), some (.d (adD xs w))]) ?_ (Nat.le_of_ble_eq_true rfl)
  unfold Lb.is_address_in
  refine (ss_nx (ρ1 := [some (.d (eqD ws g)), some (.d (adD xs w))]) ?_).trans ?_
  · refine s_if (v := false) (ρ1 := [some (.d (eqD ws g)), some (.d (adD xs w))]) ?_ (by rw [if_neg (by decide)]; exact ss_nil)
    refine t_or (v := false) (ρ1 := [some (.d (eqD ws g)), some (.d (adD xs w))]) (t_not (v := true) ?_) ?_
    · repeat' (first | with_reducible apply l_nil | with_reducible apply o_none | with_reducible apply r_lit | with_reducible apply ss_nil | with_reducible apply r_var | with_reducible apply r_ovar | with_reducible apply l_cons | with_reducible apply o_some | with_reducible apply r_bin | with_reducible apply r_neg | with_reducible apply r_ix | with_reducible apply r_sl | with_reducible apply r_tup | with_reducible apply r_lst | with_reducible apply r_bi | with_reducible apply r_glob | with_reducible apply r_cmp | with_reducible apply r_isN | with_reducible apply r_not | with_reducible apply r_and | with_reducible apply r_or | with_reducible apply r_ite | with_reducible apply r_chain | with_reducible apply r_call | with_reducible apply t_cmp | with_reducible apply t_not | with_reducible apply t_isN | with_reducible apply t_and | with_reducible apply t_or | with_reducible apply t_chain | with_reducible apply t_tru | with_reducible apply s_set | with_reducible apply s_own | with_reducible apply s_asg | with_reducible apply s_if | with_reducible apply s_ret | with_reducible apply s_retO | with_reducible apply f_lst | with_reducible apply f_list | assumption | with_reducible apply cmp_eq | with_reducible apply cmp_ne | rfl)
    rw [if_neg (by decide)]
    refine t_or (v := false) (ρ1 := [some (.d (eqD ws g)), some (.d (adD xs w))]) (t_not (v := true) ?_) ?_
    · repeat' (first | with_reducible apply l_nil | with_reducible apply o_none | with_reducible apply r_lit | with_reducible apply ss_nil | with_reducible apply r_var | with_reducible apply r_ovar | with_reducible apply l_cons | with_reducible apply o_some | with_reducible apply r_bin | with_reducible apply r_neg | with_reducible apply r_ix | with_reducible apply r_sl | with_reducible apply r_tup | with_reducible apply r_lst | with_reducible apply r_bi | with_reducible apply r_glob | with_reducible apply r_cmp | with_reducible apply r_isN | with_reducible apply r_not | with_reducible apply r_and | with_reducible apply r_or | with_reducible apply r_ite | with_reducible apply r_chain | with_reducible apply r_call | with_reducible apply t_cmp | with_reducible apply t_not | with_reducible apply t_isN | with_reducible apply t_and | with_reducible apply t_or | with_reducible apply t_chain | with_reducible apply t_tru | with_reducible apply s_set | with_reducible apply s_own | with_reducible apply s_asg | with_reducible apply s_if | with_reducible apply s_ret | with_reducible apply s_retO | with_reducible apply f_lst | with_reducible apply f_list | assumption | with_reducible apply cmp_eq | with_reducible apply cmp_ne | rfl)
    rw [if_neg (by decide)]
    refine t_not (v := true) ?_
    repeat' (first | with_reducible apply l_nil | with_reducible apply o_none | with_reducible apply r_lit | with_reducible apply ss_nil | with_reducible apply r_var | with_reducible apply r_ovar | with_reducible apply l_cons | with_reducible apply o_some | with_reducible apply r_bin | with_reducible apply r_neg | with_reducible apply r_ix | with_reducible apply r_sl | with_reducible apply r_tup | with_reducible apply r_lst | with_reducible apply r_bi | with_reducible apply r_glob | with_reducible apply r_cmp | with_reducible apply r_isN | with_reducible apply r_not | with_reducible apply r_and | with_reducible apply r_or | with_reducible apply r_ite | with_reducible apply r_chain | with_reducible apply r_call | with_reducible apply t_cmp | with_reducible apply t_not | with_reducible apply t_isN | with_reducible apply t_and | with_reducible apply t_or | with_reducible apply t_chain | with_reducible apply t_tru | with_reducible apply s_set | with_reducible apply s_own | with_reducible apply s_asg | with_reducible apply s_if | with_reducible apply s_ret | with_reducible apply s_retO | with_reducible apply f_lst | with_reducible apply f_list | assumption | with_reducible apply cmp_eq | with_reducible apply cmp_ne | rfl)
  refine (ss_nx (ρ1 := [some (.d (eqD ws g)), some (.d (adD xs w))]) ?_).trans ?_
  · refine s_if (v := false) (ρ1 := [some (.d (eqD ws g)), some (.d (adD xs w))]) ?_ (by rw [if_neg (by decide)]; exact ss_nil)
    refine t_or (v := false) (ρ1 := [some (.d (eqD ws g)), some (.d (adD xs w))]) ?_ ?_
    · refine t_isN (x := .none) ?_
      repeat' (first | with_reducible apply l_nil | with_reducible apply o_none | with_reducible apply r_lit | with_reducible apply ss_nil | with_reducible apply r_var | with_reducible apply r_ovar | with_reducible apply l_cons | with_reducible apply o_some | with_reducible apply r_bin | with_reducible apply r_neg | with_reducible apply r_ix | with_reducible apply r_sl | with_reducible apply r_tup | with_reducible apply r_lst | with_reducible apply r_bi | with_reducible apply r_glob | with_reducible apply r_cmp | with_reducible apply r_isN | with_reducible apply r_not | with_reducible apply r_and | with_reducible apply r_or | with_reducible apply r_ite | with_reducible apply r_chain | with_reducible apply r_call | with_reducible apply t_cmp | with_reducible apply t_not | with_reducible apply t_isN | with_reducible apply t_and | with_reducible apply t_or | with_reducible apply t_chain | with_reducible apply t_tru | with_reducible apply s_set | with_reducible apply s_own | with_reducible apply s_asg | with_reducible apply s_if | with_reducible apply s_ret | with_reducible apply s_retO | with_reducible apply f_lst | with_reducible apply f_list | assumption | with_reducible apply cmp_eq | with_reducible apply cmp_ne | rfl)
    rw [if_neg (by decide)]
    refine t_not (v := true) ?_
    repeat' (first | with_reducible apply l_nil | with_reducible apply o_none | with_reducible apply r_lit | with_reducible apply ss_nil | with_reducible apply r_var | with_reducible apply r_ovar | with_reducible apply l_cons | with_reducible apply o_some | with_reducible apply r_bin | with_reducible apply r_neg | with_reducible apply r_ix | with_reducible apply r_sl | with_reducible apply r_tup | with_reducible apply r_lst | with_reducible apply r_bi | with_reducible apply r_glob | with_reducible apply r_cmp | with_reducible apply r_isN | with_reducible apply r_not | with_reducible apply r_and | with_reducible apply r_or | with_reducible apply r_ite | with_reducible apply r_chain | with_reducible apply r_call | with_reducible apply t_cmp | with_reducible apply t_not | with_reducible apply t_isN | with_reducible apply t_and | with_reducible apply t_or | with_reducible apply t_chain | with_reducible apply t_tru | with_reducible apply s_set | with_reducible apply s_own | with_reducible apply s_asg | with_reducible apply s_if | with_reducible apply s_ret | with_reducible apply s_retO | with_reducible apply f_lst | with_reducible apply f_list | assumption | with_reducible apply cmp_eq | with_reducible apply cmp_ne | rfl)
  refine ss_rt (s_ret ?_)
  refine r_or (v := decide (w = [])) (ρ1 := [some (.d (eqD ws g)), some (.d (adD xs w))]) ?_ ?_
  · repeat' (first | with_reducible apply l_nil | with_reducible apply o_none | with_reducible apply r_lit | with_reducible apply ss_nil | with_reducible apply r_var | with_reducible apply r_ovar | with_reducible apply l_cons | with_reducible apply o_some | with_reducible apply r_bin | with_reducible apply r_neg | with_reducible apply r_ix | with_reducible apply r_sl | with_reducible apply r_tup | with_reducible apply r_lst | with_reducible apply r_bi | with_reducible apply r_glob | with_reducible apply r_cmp | with_reducible apply r_isN | with_reducible apply r_not | with_reducible apply r_and | with_reducible apply r_or | with_reducible apply r_ite | with_reducible apply r_chain | with_reducible apply r_call | with_reducible apply t_cmp | with_reducible apply t_not | with_reducible apply t_isN | with_reducible apply t_and | with_reducible apply t_or | with_reducible apply t_chain | with_reducible apply t_tru | with_reducible apply s_set | with_reducible apply s_own | with_reducible apply s_asg | with_reducible apply s_if | with_reducible apply s_ret | with_reducible apply s_retO | with_reducible apply f_lst | with_reducible apply f_list | assumption | with_reducible apply cmp_eq | with_reducible apply cmp_ne | rfl)
  cases w with
  | nil => rfl
  | cons k r =>
    rw [if_neg (by simp)]
    have i2 : ixD (nI (k :: r)) (.int 0) = some (.int k) := ix0 _ _
    have c2 := ne_opt k (idl ws xs) (A.i k rfl)
    repeat' (first | with_reducible apply l_nil | with_reducible apply o_none | with_reducible apply r_lit | with_reducible apply ss_nil | with_reducible apply r_var | with_reducible apply r_ovar | with_reducible apply l_cons | with_reducible apply o_some | with_reducible apply r_bin | with_reducible apply r_neg | with_reducible apply r_ix | with_reducible apply r_sl | with_reducible apply r_tup | with_reducible apply r_lst | with_reducible apply r_bi | with_reducible apply r_glob | with_reducible apply r_cmp | with_reducible apply r_isN | with_reducible apply r_not | with_reducible apply r_and | with_reducible apply r_or | with_reducible apply r_ite | with_reducible apply r_chain | with_reducible apply r_call | with_reducible apply t_cmp | with_reducible apply t_not | with_reducible apply t_isN | with_reducible apply t_and | with_reducible apply t_or | with_reducible apply t_chain | with_reducible apply t_tru | with_reducible apply s_set | with_reducible apply s_own | with_reducible apply s_asg | with_reducible apply s_if | with_reducible apply s_ret | with_reducible apply s_retO | with_reducible apply f_lst | with_reducible apply f_list | assumption | with_reducible apply cmp_eq | with_reducible apply cmp_ne | rfl)
def SureAddress (f : Fn) : Prop := ∀ ws g xs w, EqOk ws g → AdOk ws g xs w → f [.d (eqD ws g), .d (adD xs w)] = .ok (.d (adD xs w)) [.d (eqD ws g), .d (adD xs w)]
theorem sure_address_ok {f0 f1 x0 : Nat} (h0 : Tupled 2 (fn f0)) (h1 : IsAddressIn (fn f1)) : SureAddress (runD cs fn (Lb.sure_address f0 f1 x0)) := by
  intro ws g xs w E A
  have hT : TO 2 (adD xs w) := .tup _ _ (fun x h => by
    rcases List.mem_cons.mp h with h | h
    · subst h; exact TO.tI (by rw [A.s.l]; have := E.l2; omega)
    · rw [List.mem_singleton] at h; subst h; rw [nI_tI]; exact TO.tI (by have := A.l; simp; omega)) (by simp)
  have e0 := h0 _ hT
  have e1 := h1 ws g xs w E A
  refine run_rt (xs := [eqD ws g, adD xs w]) rfl (Nat.le_of_ble_eq_true rfl) (ρ1 := [some (.d (eqD ws g)), some (.d (adD xs w)), some (.d (adD xs w))]) ?_ (Nat.le_of_ble_eq_true rfl)
  unfold Lb.sure_address
  refine (ss_nx (ρ1 := [some (.d (eqD ws g)), some (.d (adD xs w)), some (.d (adD xs w))]) ?_).trans ?_
  · repeat' (first | with_reducible apply l_nil | with_reducible apply o_none | with_reducible apply r_lit | with_reducible apply ss_nil | with_reducible apply r_var | with_reducible apply r_ovar | with_reducible apply l_cons | with_reducible apply o_some | with_reducible apply r_bin | with_reducible apply r_neg | with_reducible apply r_ix | with_reducible apply r_sl | with_reducible apply r_tup | with_reducible apply r_lst | with_reducible apply r_bi | with_reducible apply r_glob | with_reducible apply r_cmp | with_reducible apply r_isN | with_reducible apply r_not | with_reducible apply r_and | with_reducible apply r_or | with_reducible apply r_ite | with_reducible apply r_chain | with_reducible apply r_call | with_reducible apply t_cmp | with_reducible apply t_not | with_reducible apply t_isN | with_reducible apply t_and | with_reducible apply t_or | with_reducible apply t_chain | with_reducible apply t_tru | with_reducible apply s_set | with_reducible apply s_own | with_reducible apply s_asg | with_reducible apply s_if | with_reducible apply s_ret | with_reducible apply s_retO | with_reducible apply f_lst | with_reducible apply f_list | assumption | with_reducible apply cmp_eq | with_reducible apply cmp_ne | rfl)
  refine (ss_nx (ρ1 := [some (.d (eqD ws g)), some (.d (adD xs w)), some (.d (adD xs w))]) ?_).trans (ss_rt ?_)
  · refine s_if (v := false) (ρ1 := [some (.d (eqD ws g)), some (.d (adD xs w)), some (.d (adD xs w))]) (t_not (v := true) ?_) (by rw [if_neg (by decide)]; exact ss_nil)
    repeat' (first | with_reducible apply l_nil | with_reducible apply o_none | with_reducible apply r_lit | with_reducible apply ss_nil | with_reducible apply r_var | with_reducible apply r_ovar | with_reducible apply l_cons | with_reducible apply o_some | with_reducible apply r_bin | with_reducible apply r_neg | with_reducible apply r_ix | with_reducible apply r_sl | with_reducible apply r_tup | with_reducible apply r_lst | with_reducible apply r_bi | with_reducible apply r_glob | with_reducible apply r_cmp | with_reducible apply r_isN | with_reducible apply r_not | with_reducible apply r_and | with_reducible apply r_or | with_reducible apply r_ite | with_reducible apply r_chain | with_reducible apply r_call | with_reducible apply t_cmp | with_reducible apply t_not | with_reducible apply t_isN | with_reducible apply t_and | with_reducible apply t_or | with_reducible apply t_chain | with_reducible apply t_tru | with_reducible apply s_set | with_reducible apply s_own | with_reducible apply s_asg | with_reducible apply s_if | with_reducible apply s_ret | with_reducible apply s_retO | with_reducible apply f_lst | with_reducible apply f_list | assumption | with_reducible apply cmp_eq | with_reducible apply cmp_ne | rfl)
  · repeat' (first | with_reducible apply l_nil | with_reducible apply o_none | with_reducible apply r_lit | with_reducible apply ss_nil | with_reducible apply r_var | with_reducible apply r_ovar | with_reducible apply l_cons | with_reducible apply o_some | with_reducible apply r_bin | with_reducible apply r_neg | with_reducible apply r_ix | with_reducible apply r_sl | with_reducible apply r_tup | with_reducible apply r_lst | with_reducible apply r_bi | with_reducible apply r_glob | with_reducible apply r_cmp | with_reducible apply r_isN | with_reducible apply r_not | with_reducible apply r_and | with_reducible apply r_or | with_reducible apply r_ite | with_reducible apply r_chain | with_reducible apply r_call | with_reducible apply t_cmp | with_reducible apply t_not | with_reducible apply t_isN | with_reducible apply t_and | with_reducible apply t_or | with_reducible apply t_chain | with_reducible apply t_tru | with_reducible apply s_set | with_reducible apply s_own | with_reducible apply s_asg | with_reducible apply s_if | with_reducible apply s_ret | with_reducible apply s_retO | with_reducible apply f_lst | with_reducible apply f_list | assumption | with_reducible apply cmp_eq | with_reducible apply cmp_ne | rfl)
end
end Pu
end
section
namespace Pu
open PySem F3
section
variable {cs : List Int} {fn : Nat → Fn}
def SolutionAt (f : Fn) : Prop := ∀ ws g xs w, EqOk ws g → AdOk ws g xs w → WOk ws g xs w → f [.d (eqD ws g), .d (adD xs w)] = .ok (.d (tI (wlk ws g xs w))) [.d (eqD ws g), .d (adD xs w)]
theorem solution_at_ok {f0 f1 f2 : Nat} (h0 : SureEquation (fn f0)) (h1 : SureAddress (fn f1)) (h2 : WalkedIn (fn f2)) : SolutionAt (runD cs fn (Lb.solution_at f0 f1 f2)) := by
  intro ws g xs w E A hW
  have e0 := h0 ws g E
  have e1 := h1 ws g xs w E A
  have e2 := h2 ws g xs w E hW
  have t1 : assignT ⟨fn, cs, [false, false]⟩ (.t [.n 3, .n 4]) (adD xs w) [some (.d (eqD ws g)), some (.d (adD xs w)), some (.d (eqD ws g)), none, none] = some [some (.d (eqD ws g)), some (.d (adD xs w)), some (.d (eqD ws g)), some (.d (tI xs)), some (.d (nI w))] := rfl
  refine run_rt (xs := [eqD ws g, adD xs w]) rfl (Nat.le_of_ble_eq_true rfl) (ρ1 := [some (.d (eqD ws g)), some (.d (adD xs w)), some (.d (eqD ws g)), some (.d (tI xs)), some (.d (nI w))]) ?_ (Nat.le_of_ble_eq_true rfl)
  unfold Lb.solution_at
  refine (ss_nx (ρ1 := [some (.d (eqD ws g)), some (.d (adD xs w)), some (.d (eqD ws g)), none, none]) ?_).trans ?_
  · repeat' (first | with_reducible apply l_nil | with_reducible apply o_none | with_reducible apply r_lit | with_reducible apply ss_nil | with_reducible apply r_var | with_reducible apply r_ovar | with_reducible apply l_cons | with_reducible apply o_some | with_reducible apply r_bin | with_reducible apply r_neg | with_reducible apply r_ix | with_reducible apply r_sl | with_reducible apply r_tup | with_reducible apply r_lst | with_reducible apply r_bi | with_reducible apply r_glob | with_reducible apply r_cmp | with_reducible apply r_isN | with_reducible apply r_not | with_reducible apply r_and | with_reducible apply r_or | with_reducible apply r_ite | with_reducible apply r_chain | with_reducible apply r_call | with_reducible apply t_cmp | with_reducible apply t_not | with_reducible apply t_isN | with_reducible apply t_and | with_reducible apply t_or | with_reducible apply t_chain | with_reducible apply t_tru | with_reducible apply s_set | with_reducible apply s_own | with_reducible apply s_asg | with_reducible apply s_if | with_reducible apply s_ret | with_reducible apply s_retO | with_reducible apply f_lst | with_reducible apply f_list | assumption | with_reducible apply cmp_eq | with_reducible apply cmp_ne | rfl)
  refine (ss_nx (ρ1 := [some (.d (eqD ws g)), some (.d (adD xs w)), some (.d (eqD ws g)), some (.d (tI xs)), some (.d (nI w))]) ?_).trans (ss_rt ?_)
  · repeat' (first | with_reducible apply l_nil | with_reducible apply o_none | with_reducible apply r_lit | with_reducible apply ss_nil | with_reducible apply r_var | with_reducible apply r_ovar | with_reducible apply l_cons | with_reducible apply o_some | with_reducible apply r_bin | with_reducible apply r_neg | with_reducible apply r_ix | with_reducible apply r_sl | with_reducible apply r_tup | with_reducible apply r_lst | with_reducible apply r_bi | with_reducible apply r_glob | with_reducible apply r_cmp | with_reducible apply r_isN | with_reducible apply r_not | with_reducible apply r_and | with_reducible apply r_or | with_reducible apply r_ite | with_reducible apply r_chain | with_reducible apply r_call | with_reducible apply t_cmp | with_reducible apply t_not | with_reducible apply t_isN | with_reducible apply t_and | with_reducible apply t_or | with_reducible apply t_chain | with_reducible apply t_tru | with_reducible apply s_set | with_reducible apply s_own | with_reducible apply s_asg | with_reducible apply s_if | with_reducible apply s_ret | with_reducible apply s_retO | with_reducible apply f_lst | with_reducible apply f_list | assumption | with_reducible apply cmp_eq | with_reducible apply cmp_ne | rfl)
  · repeat' (first | with_reducible apply l_nil | with_reducible apply o_none | with_reducible apply r_lit | with_reducible apply ss_nil | with_reducible apply r_var | with_reducible apply r_ovar | with_reducible apply l_cons | with_reducible apply o_some | with_reducible apply r_bin | with_reducible apply r_neg | with_reducible apply r_ix | with_reducible apply r_sl | with_reducible apply r_tup | with_reducible apply r_lst | with_reducible apply r_bi | with_reducible apply r_glob | with_reducible apply r_cmp | with_reducible apply r_isN | with_reducible apply r_not | with_reducible apply r_and | with_reducible apply r_or | with_reducible apply r_ite | with_reducible apply r_chain | with_reducible apply r_call | with_reducible apply t_cmp | with_reducible apply t_not | with_reducible apply t_isN | with_reducible apply t_and | with_reducible apply t_or | with_reducible apply t_chain | with_reducible apply t_tru | with_reducible apply s_set | with_reducible apply s_own | with_reducible apply s_asg | with_reducible apply s_if | with_reducible apply s_ret | with_reducible apply s_retO | with_reducible apply f_lst | with_reducible apply f_list | assumption | with_reducible apply cmp_eq | with_reducible apply cmp_ne | rfl)
/-- the way down -/
def Dn (ws : List Int) (g : Int) : List Int → List Nat → List Int → Prop
  | xs, [], ys => RowB ws xs ∧ low ws xs = none ∧ ys = xs
  | xs, k :: r, ys => RowB ws xs ∧ low ws xs = some k ∧ k < ws.length ∧ flp ws g xs k < BIG ∧ Dn ws g (flr ws g xs k) r ys
def WayDown (f : Fn) : Prop := ∀ ws g xs w ys, EqOk ws g → w.length ≤ 1000 → Dn ws g xs w ys → f [.d (eqD ws g), .d (tI xs)] = .ok (.d (.tuple [nI w, tI ys])) [.d (eqD ws g), .d (tI xs)]
theorem Dn.row {ws : List Int} {g : Int} {xs ys : List Int} {w : List Nat} (h : Dn ws g xs w ys) : RowB ws xs := by cases w <;> exact h.1
def lowOf : List Nat → PyData
  | [] => .none
  | k :: _ => .int (k : Nat)
theorem Dn.low {ws : List Int} {g : Int} {xs ys : List Int} {w : List Nat} (h : Dn ws g xs w ys) : optI (low ws xs) = lowOf w := by
  cases w with
  | nil => rw [h.2.1]; rfl
  | cons k r => rw [h.2.1]; rfl
theorem down_loop {f0 f1 : Nat} {ws : List Int} {g : Int} {b : Option AV} (h0 : LoweringIn (fn f0)) (h1 : FlippedIn (fn f1)) (E : EqOk ws g) : ∀ (w : List Nat) (xs ys : List Int) (acc : List PyData) (n : Nat), Dn ws g xs w ys → w.length < n → acc.length + w.length ≤ 2000 →
    whileL (semT ⟨fn, cs, [false, false]⟩ (.isN true (.var 2))) (exSs ⟨fn, cs, [false, false]⟩ [.app 3 (.var 2), .set 4 (.call f1 [.var 0, .var 4, .var 2]), .set 2 (.call f0 [.var 0, .var 4])]) n
      [some (.d (eqD ws g)), b, some (.d (lowOf w)), some (.l acc), some (.d (tI xs))] = .nx [some (.d (eqD ws g)), b, some (.d .none), some (.l (acc ++ w.map fun k => .int (k : Nat))), some (.d (tI ys))]
  | w, xs, ys, acc, 0, _, hn, _ => by omega
  | [], xs, ys, acc, n + 1, h, _, _ => by
    obtain ⟨_, _, rfl⟩ := h
    have c : semT ⟨fn, cs, [false, false]⟩ (.isN true (.var 2)) [some (.d (eqD ws g)), b, some (.d .none), some (.l acc), some (.d (tI ys))] = .ok false [some (.d (eqD ws g)), b, some (.d .none), some (.l acc), some (.d (tI ys))] := t_isN (x := .none) (r_var rfl)
    rw [whileL, show lowOf [] = PyData.none from rfl, c]
    simp
  | k :: r, xs, ys, acc, n + 1, h, hn, hl => by
    obtain ⟨R, hlo, hk, hB, hD⟩ := h
    have ih := down_loop (b := b) h0 h1 E r (flr ws g xs k) ys (acc ++ [.int (k : Nat)]) n hD (by simpa using hn) (by simp at hl ⊢; omega)
    have e1 := h1 ws g xs k E R hk hB
    have e0 := h0 ws g (flr ws g xs k) E hD.row.sm
    rw [hD.low] at e0
    have c : semT ⟨fn, cs, [false, false]⟩ (.isN true (.var 2)) [some (.d (eqD ws g)), b, some (.d (.int (k : Nat))), some (.l acc), some (.d (tI xs))] = .ok true [some (.d (eqD ws g)), b, some (.d (.int (k : Nat))), some (.l acc), some (.d (tI xs))] := t_isN (x := .int (k : Nat)) (r_var rfl)
    have fz : fits (acc.length + 1) = true := by
      unfold fits
      have hz : sizeLine = 16777216 := by decide
      refine decide_eq_true ?_
      rw [hz]
      simp at hl
      omega
    have body : exSs ⟨fn, cs, [false, false]⟩ [.app 3 (.var 2), .set 4 (.call f1 [.var 0, .var 4, .var 2]), .set 2 (.call f0 [.var 0, .var 4])] [some (.d (eqD ws g)), b, some (.d (.int (k : Nat))), some (.l acc), some (.d (tI xs))] =
        .nx [some (.d (eqD ws g)), b, some (.d (lowOf r)), some (.l (acc ++ [.int (k : Nat)])), some (.d (tI (flr ws g xs k)))] := by
      refine (ss_nx (ρ1 := [some (.d (eqD ws g)), b, some (.d (.int (k : Nat))), some (.l (acc ++ [.int (k : Nat)])), some (.d (tI xs))]) (s_app (r_var rfl) rfl rfl fz rfl)).trans ?_
      refine (ss_nx (ρ1 := [some (.d (eqD ws g)), b, some (.d (.int (k : Nat))), some (.l (acc ++ [.int (k : Nat)])), some (.d (tI (flr ws g xs k)))]) ?_).trans ?_
      · repeat' (first | with_reducible apply l_nil | with_reducible apply o_none | with_reducible apply r_lit | with_reducible apply ss_nil | with_reducible apply r_var | with_reducible apply r_ovar | with_reducible apply l_cons | with_reducible apply o_some | with_reducible apply r_bin | with_reducible apply r_neg | with_reducible apply r_ix | with_reducible apply r_sl | with_reducible apply r_tup | with_reducible apply r_lst | with_reducible apply r_bi | with_reducible apply r_glob | with_reducible apply r_cmp | with_reducible apply r_isN | with_reducible apply r_not | with_reducible apply r_and | with_reducible apply r_or | with_reducible apply r_ite | with_reducible apply r_chain | with_reducible apply r_call | with_reducible apply t_cmp | with_reducible apply t_not | with_reducible apply t_isN | with_reducible apply t_and | with_reducible apply t_or | with_reducible apply t_chain | with_reducible apply t_tru | with_reducible apply s_set | with_reducible apply s_own | with_reducible apply s_asg | with_reducible apply s_if | with_reducible apply s_ret | with_reducible apply s_retO | with_reducible apply f_lst | with_reducible apply f_list | assumption | with_reducible apply cmp_eq | with_reducible apply cmp_ne | rfl)
      refine ss_go ?_ ss_nil
      repeat' (first | with_reducible apply l_nil | with_reducible apply o_none | with_reducible apply r_lit | with_reducible apply ss_nil | with_reducible apply r_var | with_reducible apply r_ovar | with_reducible apply l_cons | with_reducible apply o_some | with_reducible apply r_bin | with_reducible apply r_neg | with_reducible apply r_ix | with_reducible apply r_sl | with_reducible apply r_tup | with_reducible apply r_lst | with_reducible apply r_bi | with_reducible apply r_glob | with_reducible apply r_cmp | with_reducible apply r_isN | with_reducible apply r_not | with_reducible apply r_and | with_reducible apply r_or | with_reducible apply r_ite | with_reducible apply r_chain | with_reducible apply r_call | with_reducible apply t_cmp | with_reducible apply t_not | with_reducible apply t_isN | with_reducible apply t_and | with_reducible apply t_or | with_reducible apply t_chain | with_reducible apply t_tru | with_reducible apply s_set | with_reducible apply s_own | with_reducible apply s_asg | with_reducible apply s_if | with_reducible apply s_ret | with_reducible apply s_retO | with_reducible apply f_lst | with_reducible apply f_list | assumption | with_reducible apply cmp_eq | with_reducible apply cmp_ne | rfl)
    rw [whileL, show lowOf (k :: r) = PyData.int (k : Nat) from rfl, c]
    dsimp only
    rw [body]
    dsimp only
    rw [ih]
    simp
theorem while_of {Γ : Gm} {c : IE} {b : List IS} {ρ : F3.Env} {s : Ss} (h : whileL (semT Γ c) (exSs Γ b) laps ρ = s) : exS Γ (.while_ c b) ρ = s := by rw [exS]; exact h
theorem way_down_ok {f0 f1 : Nat} (h0 : LoweringIn (fn f0)) (h1 : FlippedIn (fn f1)) : WayDown (runD cs fn (Lb.way_down f0 f1)) := by
  intro ws g xs w ys E hl hD
  have e0 := h0 ws g xs E hD.row.sm
  rw [hD.low] at e0
  have hw := down_loop (cs := cs) (b := some (.d (tI xs))) h0 h1 E w xs ys [] laps hD (by have : laps = 1000000000000 := rfl; omega) (by simp; omega)
  rw [List.nil_append] at hw
  have e2 : biD .tup [.list (w.map fun k => PyData.int (k : Nat))] = some (nI w) := rfl
  refine run_rt (xs := [eqD ws g, tI xs]) rfl (Nat.le_of_ble_eq_true rfl) (ρ1 := [some (.d (eqD ws g)), some (.d (tI xs)), some (.d .none), some (.l (w.map fun k => PyData.int (k : Nat))), some (.d (tI ys))]) ?_ (Nat.le_of_ble_eq_true rfl)
  unfold Lb.way_down
  refine (ss_nx (ρ1 := [some (.d (eqD ws g)), some (.d (tI xs)), none, some (.l []), some (.d (tI xs))]) rfl).trans ?_
  refine (ss_nx (ρ1 := [some (.d (eqD ws g)), some (.d (tI xs)), some (.d (lowOf w)), some (.l []), some (.d (tI xs))]) ?_).trans ?_
  · repeat' (first | with_reducible apply l_nil | with_reducible apply o_none | with_reducible apply r_lit | with_reducible apply ss_nil | with_reducible apply r_var | with_reducible apply r_ovar | with_reducible apply l_cons | with_reducible apply o_some | with_reducible apply r_bin | with_reducible apply r_neg | with_reducible apply r_ix | with_reducible apply r_sl | with_reducible apply r_tup | with_reducible apply r_lst | with_reducible apply r_bi | with_reducible apply r_glob | with_reducible apply r_cmp | with_reducible apply r_isN | with_reducible apply r_not | with_reducible apply r_and | with_reducible apply r_or | with_reducible apply r_ite | with_reducible apply r_chain | with_reducible apply r_call | with_reducible apply t_cmp | with_reducible apply t_not | with_reducible apply t_isN | with_reducible apply t_and | with_reducible apply t_or | with_reducible apply t_chain | with_reducible apply t_tru | with_reducible apply s_set | with_reducible apply s_own | with_reducible apply s_asg | with_reducible apply s_if | with_reducible apply s_ret | with_reducible apply s_retO | with_reducible apply f_lst | with_reducible apply f_list | assumption | with_reducible apply cmp_eq | with_reducible apply cmp_ne | rfl)
  refine (ss_nx (while_of hw)).trans (ss_rt ?_)
  repeat' (first | with_reducible apply l_nil | with_reducible apply o_none | with_reducible apply r_lit | with_reducible apply ss_nil | with_reducible apply r_var | with_reducible apply r_ovar | with_reducible apply l_cons | with_reducible apply o_some | with_reducible apply r_bin | with_reducible apply r_neg | with_reducible apply r_ix | with_reducible apply r_sl | with_reducible apply r_tup | with_reducible apply r_lst | with_reducible apply r_bi | with_reducible apply r_glob | with_reducible apply r_cmp | with_reducible apply r_isN | with_reducible apply r_not | with_reducible apply r_and | with_reducible apply r_or | with_reducible apply r_ite | with_reducible apply r_chain | with_reducible apply r_call | with_reducible apply t_cmp | with_reducible apply t_not | with_reducible apply t_isN | with_reducible apply t_and | with_reducible apply t_or | with_reducible apply t_chain | with_reducible apply t_tru | with_reducible apply s_set | with_reducible apply s_own | with_reducible apply s_asg | with_reducible apply s_if | with_reducible apply s_ret | with_reducible apply s_retO | with_reducible apply f_lst | with_reducible apply f_list | assumption | with_reducible apply cmp_eq | with_reducible apply cmp_ne | rfl)
def Down (f : Fn) : Prop := ∀ ws g xs w ys, EqOk ws g → SolOk ws g xs BIG → w.length ≤ 1000 → Dn ws g xs w ys → f [.d (eqD ws g), .d (tI xs)] = .ok (.d (nI w)) [.d (eqD ws g), .d (tI xs)]
theorem down_ok {f0 f1 f2 : Nat} (h0 : SureEquation (fn f0)) (h1 : WayDown (fn f1)) (h2 : SureSolution (fn f2)) : Down (runD cs fn (Lb.down f0 f1 f2)) := by
  intro ws g xs w ys E S hl hD
  have e0 := h0 ws g E
  have e1 := h1 ws g xs w ys E hl hD
  have e2 := h2 ws g xs E S
  have i0 := ix0 (nI w) [tI ys]
  refine run_rt (xs := [eqD ws g, tI xs]) rfl (Nat.le_of_ble_eq_true rfl) (ρ1 := [some (.d (eqD ws g)), some (.d (tI xs)), some (.d (eqD ws g))]) ?_ (Nat.le_of_ble_eq_true rfl)
  unfold Lb.down
  refine (ss_nx (ρ1 := [some (.d (eqD ws g)), some (.d (tI xs)), some (.d (eqD ws g))]) ?_).trans (ss_rt ?_)
  · repeat' (first | with_reducible apply l_nil | with_reducible apply o_none | with_reducible apply r_lit | with_reducible apply ss_nil | with_reducible apply r_var | with_reducible apply r_ovar | with_reducible apply l_cons | with_reducible apply o_some | with_reducible apply r_bin | with_reducible apply r_neg | with_reducible apply r_ix | with_reducible apply r_sl | with_reducible apply r_tup | with_reducible apply r_lst | with_reducible apply r_bi | with_reducible apply r_glob | with_reducible apply r_cmp | with_reducible apply r_isN | with_reducible apply r_not | with_reducible apply r_and | with_reducible apply r_or | with_reducible apply r_ite | with_reducible apply r_chain | with_reducible apply r_call | with_reducible apply t_cmp | with_reducible apply t_not | with_reducible apply t_isN | with_reducible apply t_and | with_reducible apply t_or | with_reducible apply t_chain | with_reducible apply t_tru | with_reducible apply s_set | with_reducible apply s_own | with_reducible apply s_asg | with_reducible apply s_if | with_reducible apply s_ret | with_reducible apply s_retO | with_reducible apply f_lst | with_reducible apply f_list | assumption | with_reducible apply cmp_eq | with_reducible apply cmp_ne | rfl)
  · repeat' (first | with_reducible apply l_nil | with_reducible apply o_none | with_reducible apply r_lit | with_reducible apply ss_nil | with_reducible apply r_var | with_reducible apply r_ovar | with_reducible apply l_cons | with_reducible apply o_some | with_reducible apply r_bin | with_reducible apply r_neg | with_reducible apply r_ix | with_reducible apply r_sl | with_reducible apply r_tup | with_reducible apply r_lst | with_reducible apply r_bi | with_reducible apply r_glob | with_reducible apply r_cmp | with_reducible apply r_isN | with_reducible apply r_not | with_reducible apply r_and | with_reducible apply r_or | with_reducible apply r_ite | with_reducible apply r_chain | with_reducible apply r_call | with_reducible apply t_cmp | with_reducible apply t_not | with_reducible apply t_isN | with_reducible apply t_and | with_reducible apply t_or | with_reducible apply t_chain | with_reducible apply t_tru | with_reducible apply s_set | with_reducible apply s_own | with_reducible apply s_asg | with_reducible apply s_if | with_reducible apply s_ret | with_reducible apply s_retO | with_reducible apply f_lst | with_reducible apply f_list | assumption | with_reducible apply cmp_eq | with_reducible apply cmp_ne | rfl)
def Height (f : Fn) : Prop := ∀ ws g xs w ys, EqOk ws g → SolOk ws g xs BIG → w.length ≤ 1000 → Dn ws g xs w ys → f [.d (eqD ws g), .d (tI xs)] = .ok (.d (.int w.length)) [.d (eqD ws g), .d (tI xs)]
theorem height_ok {f0 : Nat} (h0 : Down (fn f0)) : Height (runD cs fn (Lb.height f0)) := by
  intro ws g xs w ys E S hl hD
  have e0 := h0 ws g xs w ys E S hl hD
  have e1 : biD .len [nI w] = some (.int w.length) := by simp [nI]
  refine run_rt (xs := [eqD ws g, tI xs]) rfl (Nat.le_of_ble_eq_true rfl) (ρ1 := [some (.d (eqD ws g)), some (.d (tI xs))]) ?_ (Nat.le_of_ble_eq_true rfl)
  unfold Lb.height
  refine ss_rt ?_
  repeat' (first | with_reducible apply l_nil | with_reducible apply o_none | with_reducible apply r_lit | with_reducible apply ss_nil | with_reducible apply r_var | with_reducible apply r_ovar | with_reducible apply l_cons | with_reducible apply o_some | with_reducible apply r_bin | with_reducible apply r_neg | with_reducible apply r_ix | with_reducible apply r_sl | with_reducible apply r_tup | with_reducible apply r_lst | with_reducible apply r_bi | with_reducible apply r_glob | with_reducible apply r_cmp | with_reducible apply r_isN | with_reducible apply r_not | with_reducible apply r_and | with_reducible apply r_or | with_reducible apply r_ite | with_reducible apply r_chain | with_reducible apply r_call | with_reducible apply t_cmp | with_reducible apply t_not | with_reducible apply t_isN | with_reducible apply t_and | with_reducible apply t_or | with_reducible apply t_chain | with_reducible apply t_tru | with_reducible apply s_set | with_reducible apply s_own | with_reducible apply s_asg | with_reducible apply s_if | with_reducible apply s_ret | with_reducible apply s_retO | with_reducible apply f_lst | with_reducible apply f_list | assumption | with_reducible apply cmp_eq | with_reducible apply cmp_ne | rfl)
end
end Pu
end
section
namespace Pu
open PySem F3
section
variable {cs : List Int} {fn : Nat → Fn}
theorem at_neg {xs : List PyData} {k : Nat} {y : PyData} (hk : 1 ≤ k) (hl : k ≤ xs.length) (h : xs[xs.length - k]? = some y) : ixD (.list xs) (.int (-(k : Int))) = some y := by
  show (L2.ixN xs.length (-(k : Int))).bind _ = _
  unfold L2.ixN
  rw [if_neg (by omega), if_pos (by omega)]
  have e : (-(k : Int) + (xs.length : Int)).toNat = xs.length - k := by omega
  rw [e]
  exact h
theorem last1 (pre : List PyData) (p q : PyData) : ixD (.list (pre ++ [p, q])) (.int (-1)) = some q := at_neg (k := 1) (by decide) (by simp) (by simp)
theorem last2 (pre : List PyData) (p q : PyData) : ixD (.list (pre ++ [p, q])) (.int (-2)) = some p := at_neg (k := 2) (by decide) (by simp) (by simp)
theorem i_rngA {Γ : Gm} {a : IE} {ρ ρ1 : F3.Env} {n : Int} (h : sem Γ a ρ = .ok (.int n) ρ1) {b : Bool} (hs : small62 n = b) : semI Γ (.rng1 a) ρ = if b = true then .ok (rngD 0 n.toNat) ρ1 else .bad := by
  rw [semI, h]
  subst hs
  exact rfl
theorem cast0 : ((0 : Nat) : Int) = 0 := rfl
theorem i_rng {Γ : Gm} {a : IE} {ρ ρ1 : F3.Env} {m : Nat} (h : sem Γ a ρ = .ok (.int (m : Nat)) ρ1) (hs : small62 (m : Int) = true) : semI Γ (.rng1 a) ρ = .ok (rngD ((0 : Nat) : Int) m) ρ1 := by
  have e := i_rngA h hs
  rw [if_pos rfl, Int.toNat_natCast] at e
  rw [e, cast0]
/-- a road goes on -/
def rd : Int → Int → Nat → Int → Int → List Int
  | _, _, 0, _, _ => []
  | c, d, n + 1, p, q => (c * q - p) :: rd d c n q (c * q - p)
theorem road_loop {e0 e1 e2 e3 e4 e5 e8 e9 : Option AV} {A B : Int} {c0 x0 : Nat} (g0 : cs[c0]? = some BIG) (hA : Sm 130000 A) (hB : Sm 130000 B) : ∀ (n i : Nat) (c d p q : Int) (pre : List PyData) (z7 z12 : Option AV),
    ((i % 2 = 0 ∧ c = A ∧ d = B) ∨ (i % 2 = 1 ∧ c = B ∧ d = A)) → Sm 20000 q → (∀ z ∈ rd c d n p q, 1 ≤ z ∧ z < BIG) → pre.length + n ≤ 2000 → ∃ z7' z12',
    forL (assignT ⟨fn, cs, [false, false, false, false, false]⟩ (.n 7)) (exSs ⟨fn, cs, [false, false, false, false, false]⟩ [.set 12 (.bin .sub (.bin .mul (.ite (.cmp .eq (.bin .mod (.var 7) (.lit (.int 2))) (.lit (.int 0))) (.var 10) (.var 11)) (.ix (.ovar 6) (.neg (.lit (.int 1))))) (.ix (.ovar 6) (.neg (.lit (.int 2))))),
     .if_ (.cmp .ge (.var 12) (.glob c0)) [.raise x0] [], .app 6 (.var 12)]) (rngD (i : Nat) n)
      [e0, e1, e2, e3, e4, e5, some (.l (pre ++ [.int p, .int q])), z7, e8, e9, some (.d (.int A)), some (.d (.int B)), z12] =
    .nx [e0, e1, e2, e3, e4, e5, some (.l (pre ++ [.int p, .int q] ++ (rd c d n p q).map .int)), z7', e8, e9, some (.d (.int A)), some (.d (.int B)), z12']
  | 0, i, c, d, p, q, pre, z7, z12, _, _, _, _ => ⟨z7, z12, by simp [rngD, forL, rd]⟩
  | n + 1, i, c, d, p, q, pre, z7, z12, hp, hq, h, hl => by
    have hg := h (c * q - p) (by simp [rd])
    have hc : Sm 130000 c := by rcases hp with ⟨_, rfl, _⟩ | ⟨_, rfl, _⟩ <;> assumption
    obtain ⟨z7', z12', ih⟩ := road_loop g0 hA hB n (i + 1) d c q (c * q - p) (pre ++ [.int p]) (some (.d (.int (i : Nat)))) (some (.d (.int (c * q - p)))) (by
        rcases hp with ⟨h1, h2, h3⟩ | ⟨h1, h2, h3⟩
        · exact .inr ⟨by omega, h3, h2⟩
        · exact .inl ⟨by omega, h3, h2⟩) (big_sm hg.1 hg.2) (fun z hz => h z (by simp only [rd]; exact List.mem_cons_of_mem _ hz)) (by simp; omega)
    refine ⟨z7', z12', ?_⟩
    have m1 := bin_mod (i := (i : Nat)) (j := 2) (by decide)
    have m2 := bin_mul (mulOk_sm hc hq (by decide))
    have l1 := last1 pre (.int p) (.int q)
    have l2 := last2 pre (.int p) (.int q)
    have ci : sem ⟨fn, cs, [false, false, false, false, false]⟩ (.ite (.cmp .eq (.bin .mod (.var 7) (.lit (.int 2))) (.lit (.int 0))) (.var 10) (.var 11)) [e0, e1, e2, e3, e4, e5, some (.l (pre ++ [.int p, .int q])), some (.d (.int (i : Nat))), e8, e9, some (.d (.int A)), some (.d (.int B)), z12] =
        .ok (.int c) [e0, e1, e2, e3, e4, e5, some (.l (pre ++ [.int p, .int q])), some (.d (.int (i : Nat))), e8, e9, some (.d (.int A)), some (.d (.int B)), z12] := by
      refine r_ite (t_cmp (r_bin (r_var rfl) r_lit m1) r_lit (cmp_eq _ _)) ?_
      rcases hp with ⟨h1, rfl, _⟩ | ⟨h1, rfl, _⟩
      · rw [if_pos (decide_eq_true (by omega))]
        exact r_var rfl
      · rw [if_neg (by simp; omega)]
        exact r_var rfl
    have cg : cmpD .ge (.int (c * q - p)) (.int BIG) = some false := by
      rw [cmp_ge]
      have : ¬ BIG ≤ c * q - p := by omega
      simp [this]
    have fz : fits ((pre ++ [PyData.int p, .int q]).length + 1) = true := by
      unfold fits
      have hz : sizeLine = 16777216 := by decide
      refine decide_eq_true ?_
      rw [hz]
      simp
      omega
    have n1 : sem ⟨fn, cs, [false, false, false, false, false]⟩ (.neg (.lit (.int 1))) [e0, e1, e2, e3, e4, e5, some (.l (pre ++ [.int p, .int q])), some (.d (.int (i : Nat))), e8, e9, some (.d (.int A)), some (.d (.int B)), z12] = .ok (.int (-1)) [e0, e1, e2, e3, e4, e5, some (.l (pre ++ [.int p, .int q])), some (.d (.int (i : Nat))), e8, e9, some (.d (.int A)), some (.d (.int B)), z12] := r_neg r_lit
    have n2 : sem ⟨fn, cs, [false, false, false, false, false]⟩ (.neg (.lit (.int 2))) [e0, e1, e2, e3, e4, e5, some (.l (pre ++ [.int p, .int q])), some (.d (.int (i : Nat))), e8, e9, some (.d (.int A)), some (.d (.int B)), z12] = .ok (.int (-2)) [e0, e1, e2, e3, e4, e5, some (.l (pre ++ [.int p, .int q])), some (.d (.int (i : Nat))), e8, e9, some (.d (.int A)), some (.d (.int B)), z12] := r_neg r_lit
    have body : exSs ⟨fn, cs, [false, false, false, false, false]⟩ [.set 12 (.bin .sub (.bin .mul (.ite (.cmp .eq (.bin .mod (.var 7) (.lit (.int 2))) (.lit (.int 0))) (.var 10) (.var 11)) (.ix (.ovar 6) (.neg (.lit (.int 1))))) (.ix (.ovar 6) (.neg (.lit (.int 2))))),
     .if_ (.cmp .ge (.var 12) (.glob c0)) [.raise x0] [], .app 6 (.var 12)] [e0, e1, e2, e3, e4, e5, some (.l (pre ++ [.int p, .int q])), some (.d (.int (i : Nat))), e8, e9, some (.d (.int A)), some (.d (.int B)), z12] =
       .nx [e0, e1, e2, e3, e4, e5, some (.l (pre ++ [.int p] ++ [.int q, .int (c * q - p)])), some (.d (.int (i : Nat))), e8, e9, some (.d (.int A)), some (.d (.int B)), some (.d (.int (c * q - p)))] := by
      refine (ss_nx (ρ1 := [e0, e1, e2, e3, e4, e5, some (.l (pre ++ [.int p, .int q])), some (.d (.int (i : Nat))), e8, e9, some (.d (.int A)), some (.d (.int B)), some (.d (.int (c * q - p)))]) ?_).trans ?_
      · exact s_set (r_bin (r_bin ci (r_ix (r_ovar rfl) n1 l1) m2) (r_ix (r_ovar rfl) n2 l2) rfl) rfl
      refine (ss_nx (ρ1 := [e0, e1, e2, e3, e4, e5, some (.l (pre ++ [.int p, .int q])), some (.d (.int (i : Nat))), e8, e9, some (.d (.int A)), some (.d (.int B)), some (.d (.int (c * q - p)))]) ?_).trans ?_
      · exact s_if (v := false) (t_cmp (r_var rfl) (r_glob g0) cg) (by rw [if_neg (by decide)]; exact ss_nil)
      refine ss_go (s_app (r_var rfl) rfl rfl fz rfl) ?_
      rw [ss_nil]
      simp
    have t1 : assignT ⟨fn, cs, [false, false, false, false, false]⟩ (.n 7) (.int (i : Nat)) [e0, e1, e2, e3, e4, e5, some (.l (pre ++ [.int p, .int q])), z7, e8, e9, some (.d (.int A)), some (.d (.int B)), z12] = some [e0, e1, e2, e3, e4, e5, some (.l (pre ++ [.int p, .int q])), some (.d (.int (i : Nat))), e8, e9, some (.d (.int A)), some (.d (.int B)), z12] := rfl
    rw [rngD, forL, t1]
    dsimp only
    rw [body]
    dsimp only
    rw [show ((i : Int) + 1) = ((i + 1 : Nat) : Int) by omega, ih]
    simp [rd]
def Road (f : Fn) : Prop := ∀ ws g xs (j k m : Nat), EqOk ws g → SolOk ws g xs BIG → j < ws.length → k < ws.length → j ≠ k → m ≤ 1000 → (∀ z ∈ rd (nr ws g xs j k j) (nr ws g xs j k k) m (xs.getD j 0) (xs.getD k 0), 1 ≤ z ∧ z < BIG) →
  f [.d (eqD ws g), .d (tI xs), .d (.int j), .d (.int k), .d (.int m)] = .ok (.d (.list ((xs.getD j 0 :: xs.getD k 0 :: rd (nr ws g xs j k j) (nr ws g xs j k k) m (xs.getD j 0) (xs.getD k 0)).map .int))) [.d (eqD ws g), .d (tI xs), .d (.int j), .d (.int k), .d (.int m)]
theorem road_ok {f0 f1 c0 c1 x0 : Nat} (h0 : SureRoad (fn f0)) (h1 : SureWithin (fn f1)) (g0 : cs[c0]? = some 1000) (g1 : cs[c1]? = some BIG) : Road (runD cs fn (Lb.road f0 f1 c0 c1 x0)) := by
  intro ws g xs j k m E S hj hk hjk hm h
  have e0 := h0 ws g xs j k E S hj hk hjk
  have e1 := h1 m 0 1000 (by omega) (by omega)
  have hq : Sm 20000 (xs.getD k 0) := by
    have hkx : k < xs.length := by rw [S.l]; exact hk
    rw [getD_at hkx]
    exact S.row.sm _ (List.getElem_mem hkx)
  obtain ⟨z7, z12, e2⟩ := road_loop (cs := cs) (fn := fn) (e0 := some (.d (eqD ws g))) (e1 := some (.d (tI xs))) (e2 := some (.d (.int j))) (e3 := some (.d (.int k))) (e4 := some (.d (.int m))) (e5 := some (.d (.int m))) (e8 := some (.d (.int (xs.getD j 0)))) (e9 := some (.d (.int (xs.getD k 0)))) (x0 := x0) g1
    (nr_sm (j := j) (k := k) E S hj) (nr_sm (j := j) (k := k) E S hk) m 0 (nr ws g xs j k j) (nr ws g xs j k k) (xs.getD j 0) (xs.getD k 0) [] none none (.inl ⟨rfl, rfl, rfl⟩) hq h (by simp; omega)
  have sm62 : small62 (m : Int) = true := by unfold small62; exact decide_eq_true ⟨by omega, by omega⟩
  have e3 := for_of (Γ := ⟨fn, cs, [false, false, false, false, false]⟩) (it := .rng1 (.var 5)) (ρ := [some (.d (eqD ws g)), some (.d (tI xs)), some (.d (.int j)), some (.d (.int k)), some (.d (.int m)), some (.d (.int m)), some (.l [.int (xs.getD j 0), .int (xs.getD k 0)]), none, some (.d (.int (xs.getD j 0))), some (.d (.int (xs.getD k 0))), some (.d (.int (nr ws g xs j k j))), some (.d (.int (nr ws g xs j k k))), none])
    (i_rng (r_var rfl) sm62) e2
  have t1 : assignT ⟨fn, cs, [false, false, false, false, false]⟩ (.t [.n 8, .n 9, .n 10, .n 11]) (tI [xs.getD j 0, xs.getD k 0, nr ws g xs j k j, nr ws g xs j k k]) [some (.d (eqD ws g)), some (.d (tI xs)), some (.d (.int j)), some (.d (.int k)), some (.d (.int m)), none, none, none, none, none, none, none, none] =
    some [some (.d (eqD ws g)), some (.d (tI xs)), some (.d (.int j)), some (.d (.int k)), some (.d (.int m)), none, none, none, some (.d (.int (xs.getD j 0))), some (.d (.int (xs.getD k 0))), some (.d (.int (nr ws g xs j k j))), some (.d (.int (nr ws g xs j k k))), none] := rfl
  refine run_rt (xs := [eqD ws g, tI xs, .int j, .int k, .int m]) rfl (Nat.le_of_ble_eq_true rfl) (ρ1 := [some (.d (eqD ws g)), some (.d (tI xs)), some (.d (.int j)), some (.d (.int k)), some (.d (.int m)), some (.d (.int m)), some (.d (.list ((xs.getD j 0 :: xs.getD k 0 :: rd (nr ws g xs j k j) (nr ws g xs j k k) m (xs.getD j 0) (xs.getD k 0)).map .int))), z7, some (.d (.int (xs.getD j 0))), some (.d (.int (xs.getD k 0))), some (.d (.int (nr ws g xs j k j))), some (.d (.int (nr ws g xs j k k))), z12]) ?_ (Nat.le_of_ble_eq_true rfl)
  unfold Lb.road
  refine (ss_nx (ρ1 := [some (.d (eqD ws g)), some (.d (tI xs)), some (.d (.int j)), some (.d (.int k)), some (.d (.int m)), none, none, none, some (.d (.int (xs.getD j 0))), some (.d (.int (xs.getD k 0))), some (.d (.int (nr ws g xs j k j))), some (.d (.int (nr ws g xs j k k))), none]) ?_).trans ?_
  · exact s_asg (r_call rfl (l_cons (r_var rfl) (l_cons (r_var rfl) (l_cons (r_var rfl) (l_cons (r_var rfl) l_nil)))) e0) t1
  refine (ss_nx (ρ1 := [some (.d (eqD ws g)), some (.d (tI xs)), some (.d (.int j)), some (.d (.int k)), some (.d (.int m)), some (.d (.int m)), none, none, some (.d (.int (xs.getD j 0))), some (.d (.int (xs.getD k 0))), some (.d (.int (nr ws g xs j k j))), some (.d (.int (nr ws g xs j k k))), none]) ?_).trans ?_
  · exact s_set (r_call rfl (l_cons (r_var rfl) (l_cons r_lit (l_cons (r_glob g0) l_nil))) e1) rfl
  refine (ss_nx (ρ1 := [some (.d (eqD ws g)), some (.d (tI xs)), some (.d (.int j)), some (.d (.int k)), some (.d (.int m)), some (.d (.int m)), some (.l [.int (xs.getD j 0), .int (xs.getD k 0)]), none, some (.d (.int (xs.getD j 0))), some (.d (.int (xs.getD k 0))), some (.d (.int (nr ws g xs j k j))), some (.d (.int (nr ws g xs j k k))), none]) ?_).trans ?_
  · exact s_own (f_lst (l_cons (r_var rfl) (l_cons (r_var rfl) l_nil))) rfl
  refine (ss_nx e3).trans ?_
  refine (ss_nx (s_frz rfl rfl)).trans (ss_rt (s_ret (r_var rfl)))
end
end Pu
end
section
namespace Pu
open PySem F3
section
variable {cs : List Int} {fn : Nat → Fn}
/-- the numbers drawn from -/
def tin (a b c : Int) : List PyData := [.int a, .int b, .int c]
def TinOk (m : Int) (T : List PyData) : Prop := ∃ a b c : Int, T = tin a b c ∧ 0 ≤ b ∧ b < 2 ^ 62 ∧ 0 ≤ c ∧ c ≤ m
theorem at_natL {xs : List PyData} {k : Nat} {y : PyData} (h : xs[k]? = some y) : ixD (.list xs) (.int k) = some y := by
  have hl := (List.getElem?_eq_some_iff.mp h).1
  show (L2.ixN xs.length (k : Int)).bind _ = _
  unfold L2.ixN
  rw [if_pos (by omega), if_pos (by omega)]
  exact h
theorem tin0 (a b c : Int) : ixD (.list (tin a b c)) (.int 0) = some (.int a) := at_natL (k := 0) rfl
theorem tin1 (a b c : Int) : ixD (.list (tin a b c)) (.int 1) = some (.int b) := at_natL (k := 1) rfl
theorem tin2 (a b c : Int) : ixD (.list (tin a b c)) (.int 2) = some (.int c) := at_natL (k := 2) rfl
/-- a def with an own first parameter, then data, that returns -/
theorem run_rtO {D : FD} {T T' : List PyData} {xs : List PyData} {r : AV} {ρ' : F3.Env} (h1 : xs.length + 1 = D.np) (h2 : D.np ≤ D.ns) (h : exSs ⟨fn, cs, true :: (xs.map AV.d).map AV.own⟩ D.body (some (.l T) :: (xs.map AV.d).map some ++ List.replicate (D.ns - D.np) none) = .rt r (some (.l T') :: ρ')) (hl : xs.length ≤ ρ'.length) :
    runD cs fn D (.l T :: xs.map .d) = .ok r (.l T' :: xs.map .d) := by
  unfold runD
  rw [if_pos (by simp [← h1, h2]; omega)]
  have e : exSs ⟨fn, cs, (AV.l T :: xs.map .d).map AV.own⟩ D.body ((AV.l T :: xs.map .d).map some ++ List.replicate (D.ns - D.np) none) = .rt r (some (.l T') :: ρ') := h
  rw [e]
  simp only [endF]
  rw [outs]
  simp only [AV.own, if_true]
  rw [outs_data xs ρ' hl]
  · rfl
  · intro x z; cases z
theorem mulOk_l {i j : Int} (h1 : 0 ≤ i) (h2 : i < 2 ^ 64) : mulOk i j = true := decide_eq_true (.inl ⟨by omega, h2⟩)
theorem mulOk_r {i j : Int} (h1 : 0 ≤ j) (h2 : j < 2 ^ 64) : mulOk i j = true := decide_eq_true (.inr (.inl ⟨by omega, h2⟩))
def Take (f : Fn) : Prop := ∀ (m : Int) (T : List PyData) (n : Int), TinOk m T → m < 1000000 → 1 ≤ n → n ≤ 1000000000 → ∃ d T', 0 ≤ d ∧ d < n ∧ TinOk (m + 1) T' ∧ f [.l T, .d (.int n)] = .ok (.d (.int d)) [.l T', .d (.int n)]
theorem divOk_s {w : Int} (h : 1 ≤ w ∧ w ≤ 1000000000) : divOk w = true := by
  unfold divOk
  refine decide_eq_true ⟨by omega, ?_⟩
  have : w.natAbs < 2 ^ 30 := by omega
  have := log_lt this
  omega
theorem law_take_ok : Take (runD cs fn Lb.law_take) := by
  rintro m T n ⟨a, b, c, rfl, hb0, hb, hc0, hc⟩ hm hn1 hn2
  have t0 := tin0 a b c
  have t1 := tin1 a b c
  have t2 := tin2 a b c
  have dn := divOk_s ⟨hn1, hn2⟩
  by_cases ha : 0 < a
  · have g0 : cmpD .gt (.int a) (.int 0) = some true := by rw [cmp_gt, decide_eq_true ha]
    have m1 := bin_mod (i := a) (j := n) (by omega)
    have f1 := bin_fdiv (i := a) dn
    have i1 : biD .int [.int a] = some (.int a) := rfl
    refine ⟨a % n, tin (a / n) b c, Int.emod_nonneg _ (by omega), Int.emod_lt_of_pos _ (by omega), ⟨_, _, _, rfl, hb0, hb, hc0, by omega⟩, ?_⟩
    refine run_rtO (xs := [.int n]) rfl (Nat.le_of_ble_eq_true rfl) (ρ' := [some (.d (.int n)), none, none, none, some (.d (.int (a % n)))]) ?_ (Nat.le_of_ble_eq_true rfl)
    unfold Lb.law_take
    refine ss_rt (s_if (v := true) (ρ1 := [some (.l (tin a b c)), some (.d (.int n)), none, none, none, none]) (t_cmp (r_ix (r_ovar rfl) r_lit t0) r_lit g0) ?_)
    rw [if_pos rfl]
    refine (ss_nx (ρ1 := [some (.l (tin a b c)), some (.d (.int n)), none, none, none, some (.d (.int (a % n)))]) (s_set (r_bin (r_bi (l_cons (r_ix (r_ovar rfl) r_lit t0) l_nil) i1) (r_var rfl) m1) rfl)).trans ?_
    refine (ss_nx (ρ1 := [some (.l (tin (a / n) b c)), some (.d (.int n)), none, none, none, some (.d (.int (a % n)))]) (s_put (n := 0) rfl (r_bin (r_ix (r_ovar rfl) r_lit t0) (r_var rfl) f1) r_lit rfl ⟨by decide, by show (0 : Int) < 3; decide⟩ rfl)).trans ?_
    exact ss_rt (s_ret (r_var rfl))
  · have g0 : cmpD .gt (.int a) (.int 0) = some false := by rw [cmp_gt, decide_eq_false ha]
    have t1' := tin1 a b (c + 1)
    have t2' := tin2 a b (c + 1)
    have q1 := bin_mul (mulOk_l (i := 48271) (j := c + 1) (by decide) (by decide))
    have q2 := bin_mul (mulOk_r (i := b + 48271 * (c + 1)) (j := 39373 + (c + 1)) (by omega) (by omega))
    have q3 := bin_mod (i := (b + 48271 * (c + 1)) * (39373 + (c + 1))) (j := 2147483647) (by decide)
    generalize ho : (b + 48271 * (c + 1)) * (39373 + (c + 1)) % 2147483647 = once at q3
    have o0 : 0 ≤ once ∧ once < 2147483647 := by rw [← ho]; exact ⟨Int.emod_nonneg _ (by decide), Int.emod_lt_of_pos _ (by decide)⟩
    have q4 := bin_mod (i := once) (j := 40009) (by decide)
    have w0 : 0 ≤ once % 40009 ∧ once % 40009 < 40009 := ⟨Int.emod_nonneg _ (by decide), Int.emod_lt_of_pos _ (by decide)⟩
    generalize hw : once % 40009 = wd at q4 w0
    have q5 := bin_fdiv (i := b) (divOk_s (w := 1000003) (by decide))
    have q6 := bin_mul (mulOk_r (i := once + (c + 1) + b / 1000003) (j := wd + 7) (by omega) (by omega))
    have q7 := bin_mod (i := (once + (c + 1) + b / 1000003) * (wd + 7)) (j := 2147483629) (by decide)
    generalize ht : (once + (c + 1) + b / 1000003) * (wd + 7) % 2147483629 = tw at q7
    have q8 := bin_mul (mulOk_r (i := tw) (j := 48271) (by decide) (by decide))
    have q9 := bin_mod (i := tw * 48271 + once) (j := 2147483587) (by decide)
    have q10 := bin_fdiv (i := (tw * 48271 + once) % 2147483587) (divOk_s (w := 64) (by decide))
    have q11 := bin_mod (i := (tw * 48271 + once) % 2147483587 / 64) (j := n) (by omega)
    have ii : ∀ i : Int, biD .int [.int i] = some (.int i) := fun _ => rfl
    refine ⟨(tw * 48271 + once) % 2147483587 / 64 % n, tin a b (c + 1), Int.emod_nonneg _ (by omega), Int.emod_lt_of_pos _ (by omega), ⟨_, _, _, rfl, hb0, hb, by omega, by omega⟩, ?_⟩
    refine run_rtO (xs := [.int n]) rfl (Nat.le_of_ble_eq_true rfl) (ρ' := [some (.d (.int n)), some (.d (.int once)), some (.d (.int (wd + 7))), some (.d (.int tw)), none]) ?_ (Nat.le_of_ble_eq_true rfl)
    unfold Lb.law_take
    refine (ss_nx (ρ1 := [some (.l (tin a b c)), some (.d (.int n)), none, none, none, none]) (s_if (v := false) (ρ1 := [some (.l (tin a b c)), some (.d (.int n)), none, none, none, none]) (t_cmp (r_ix (r_ovar rfl) r_lit t0) r_lit g0) (by rw [if_neg (by decide)]; exact ss_nil))).trans ?_
    refine (ss_nx (ρ1 := [some (.l (tin a b (c + 1))), some (.d (.int n)), none, none, none, none]) (s_put (n := 2) rfl (r_bin (r_ix (r_ovar rfl) r_lit t2) r_lit rfl) r_lit rfl ⟨by decide, by show (2 : Int) < 3; decide⟩ rfl)).trans ?_
    refine (ss_nx (ρ1 := [some (.l (tin a b (c + 1))), some (.d (.int n)), some (.d (.int once)), none, none, none]) (s_set (r_bin (r_bi (l_cons (r_bin (r_bin (r_ix (r_ovar rfl) r_lit t1') (r_bin r_lit (r_ix (r_ovar rfl) r_lit t2') q1) rfl) (r_bin r_lit (r_ix (r_ovar rfl) r_lit t2') rfl) q2) l_nil) (ii _)) r_lit q3) rfl)).trans ?_
    refine (ss_nx (ρ1 := [some (.l (tin a b (c + 1))), some (.d (.int n)), some (.d (.int once)), some (.d (.int (wd + 7))), none, none]) (s_set (r_bin (r_bin (r_bi (l_cons (r_var rfl) l_nil) (ii _)) r_lit q4) r_lit rfl) rfl)).trans ?_
    refine (ss_nx (ρ1 := [some (.l (tin a b (c + 1))), some (.d (.int n)), some (.d (.int once)), some (.d (.int (wd + 7))), some (.d (.int tw)), none]) (s_set (r_bin (r_bi (l_cons (r_bin (r_bin (r_bin (r_var rfl) (r_ix (r_ovar rfl) r_lit t2') rfl) (r_bin (r_ix (r_ovar rfl) r_lit t1') r_lit q5) rfl) (r_var rfl) q6) l_nil) (ii _)) r_lit q7) rfl)).trans ?_
    exact ss_rt (s_ret (r_bin (r_bi (l_cons (r_bin (r_bin (r_bi (l_cons (r_bin (r_bin (r_var rfl) r_lit q8) (r_var rfl) rfl) l_nil) (ii _)) r_lit q9) r_lit q10) l_nil) (ii _)) (r_var rfl) q11))
end
end Pu
end
section
namespace Pu
open PySem F3
section
variable {cs : List Int} {fn : Nat → Fn}
/-- a call whose first argument is an own list -/
theorem r_callO {Γ : Gm} {ρ ρ1 : F3.Env} {i k : Nat} {es : List IE} {xs T0 T T' : List PyData} {z : PyData} (h0 : ρ[i]? = some (some (.l T0))) (hn : (es.all fun i => !isOvar i) = true) (h : semL Γ es ρ = .ok xs ρ1) (h1 : ρ1[i]? = some (some (.l T)))
    (h2 : Γ.fn k (.l T :: xs.map .d) = .ok (.d z) (.l T' :: xs.map .d)) : sem Γ (.call k (.ovar i :: es)) ρ = .ok z (ρ1.set i (some (.l T'))) := by
  have o0 : isOwn ρ i = true := by unfold isOwn; rw [h0]; rfl
  have e1 : semAr Γ (.ovar i :: es) ρ = .ok (.o i :: xs.map .v) ρ1 := by
    rw [semAr, if_pos o0, ar_data hn h]
    rfl
  have e2 : avs ρ1 (.o i :: xs.map .v) = some (.l T :: xs.map .d) := by
    have a : Ar.av ρ1 (.o i) = some (.l T) := by
      unfold Ar.av
      dsimp only
      rw [h1]
      rfl
    rw [avs, a, avs_data]
    rfl
  have e3 : owns (.o i :: xs.map .v) = [i] := by rw [owns, owns_data]
  have e4 : layBack (.o i :: xs.map .v) (.l T' :: xs.map .d) ρ1 = some (ρ1.set i (some (.l T'))) := by
    rw [layBack]
    simp only [AV.own, if_true]
    rw [lay_data]
  rw [sem, e1]
  show (callR (Γ.fn k) (.o i :: xs.map .v) ρ1).bind _ = _
  unfold callR
  rw [e3, if_pos (by simp), e2]
  dsimp only
  rw [h2]
  dsimp only
  rw [e4]
  rfl
theorem law_prod_ok : ProductOf (runD cs fn Lb.law_prod) := product_of_ok
/-- a good of several: which is left open -/
def LawOf (f : Fn) : Prop := ∀ (m : Int) (T : List PyData) (gs : List PyData), TinOk m T → m < 1000000 → gs ≠ [] → gs.length ≤ 1000000 → ∃ x T', x ∈ gs ∧ TinOk (m + 1) T' ∧ f [.l T, .d (.list gs)] = .ok (.d x) [.l T', .d (.list gs)]
theorem at_mem {xs : List PyData} {d : Int} (h0 : 0 ≤ d) (h1 : d < xs.length) : ∃ x ∈ xs, ixD (.list xs) (.int d) = some x := by
  obtain ⟨k, rfl⟩ := Int.eq_ofNat_of_zero_le h0
  have hk : k < xs.length := by omega
  exact ⟨xs[k], List.getElem_mem hk, at_natL (by simp [hk])⟩
theorem law_of_ok {f0 : Nat} (h0 : Take (fn f0)) : LawOf (runD cs fn (Lb.law_of f0)) := by
  intro m T gs hT hm hne hl
  have hlen : 1 ≤ gs.length := by
    cases gs with
    | nil => exact absurd rfl hne
    | cons _ _ => simp
  obtain ⟨d, T', hd0, hd1, hT', e0⟩ := h0 m T gs.length hT hm (by omega) (by omega)
  obtain ⟨x, hx, e1⟩ := at_mem hd0 hd1
  have l1 : biD .len [.list gs] = some (.int gs.length) := rfl
  refine ⟨x, T', hx, hT', ?_⟩
  refine run_rtO (xs := [.list gs]) rfl (Nat.le_of_ble_eq_true rfl) (ρ' := [some (.d (.list gs))]) ?_ (Nat.le_of_ble_eq_true rfl)
  unfold Lb.law_of
  refine ss_rt (s_ret (r_ix (r_var rfl) (ρ2 := [some (.l T'), some (.d (.list gs))]) ?_ e1))
  exact r_callO (xs := [.int gs.length]) rfl rfl (l_cons (r_bi (l_cons (r_var rfl) l_nil) l1) l_nil) rfl e0
/-- the law's own flip -/
def LawFlip (f : Fn) : Prop := ∀ ws g xs (k : Nat), EqOk ws g → RowB ws xs → k < ws.length → f [.d (eqD ws g), .d (tI xs), .d (.int k)] = .ok (.d (tI (flr ws g xs k))) [.d (eqD ws g), .d (tI xs), .d (.int k)]
theorem law_flip_ok {f0 : Nat} (h0 : ProductOf (fn f0)) : LawFlip (runD cs fn (Lb.law_flip f0)) := by
  intro ws g xs k E R hk
  have hkx : k < xs.length := by rw [R.l]; exact hk
  have l8 : xs.length ≤ 6 := by rw [R.l]; exact E.l2
  have e0 := h0 (tI (xs.take k ++ xs.drop (k + 1))) _ rfl (by simp; omega) fun z hz => by
    rcases List.mem_append.mp hz with hz | hz
    · exact R.sm z (List.mem_of_mem_take hz)
    · exact R.sm z (List.mem_of_mem_drop hz)
  have s1 := cut_toI (xs := xs) (k := k) (by omega)
  have s2 := cut_fromI (xs := xs) (k := k + 1) (by omega)
  have ek : ((k : Int) + 1) = ((k + 1 : Nat) : Int) := by omega
  rw [← ek] at s2
  have a1 := add_tI (xs := xs.take k) (ys := xs.drop (k + 1)) (by simp; omega)
  have i1 := at_tI (xs := ws) hk
  have i2 := at_tI (xs := xs) hkx
  have hw := E.w ws[k] (List.getElem_mem hk)
  have d1 := bin_fdiv (i := g) (divOk_12 hw)
  have d2 := div_60 E.f1 E.f2 hw.1
  have m1 := bin_mul (mulOk_s (x := pr (xs.take k ++ xs.drop (k + 1))) d2.1 d2.2)
  have ef : g / ws[k] * pr (xs.take k ++ xs.drop (k + 1)) - xs[k] = flp ws g xs k := by simp [flp, hk, hkx]
  have a2 := add_tI (xs := xs.take k) (ys := [flp ws g xs k]) (by simp; omega)
  have a3 := add_tI (xs := xs.take k ++ [flp ws g xs k]) (ys := xs.drop (k + 1)) (by simp; omega)
  have t1 : tI [flp ws g xs k] = PyData.tuple [.int (g / ws[k] * pr (xs.take k ++ xs.drop (k + 1)) - xs[k])] := by rw [ef]; rfl
  rw [t1] at a2
  have q0 := eq0 ws g
  have q1 := eq1 ws g
  refine run_rt (xs := [eqD ws g, tI xs, .int k]) rfl (Nat.le_of_ble_eq_true rfl) (ρ1 := [some (.d (eqD ws g)), some (.d (tI xs)), some (.d (.int k)), some (.d (.int (pr (xs.take k ++ xs.drop (k + 1)))))]) ?_ (Nat.le_of_ble_eq_true rfl)
  unfold Lb.law_flip
  refine (ss_nx (ρ1 := [some (.d (eqD ws g)), some (.d (tI xs)), some (.d (.int k)), some (.d (.int (pr (xs.take k ++ xs.drop (k + 1)))))]) ?_).trans (ss_rt ?_)
  · repeat' (first | with_reducible apply l_nil | with_reducible apply o_none | with_reducible apply r_lit | with_reducible apply ss_nil | with_reducible apply r_var | with_reducible apply r_ovar | with_reducible apply l_cons | with_reducible apply o_some | with_reducible apply r_bin | with_reducible apply r_neg | with_reducible apply r_ix | with_reducible apply r_sl | with_reducible apply r_tup | with_reducible apply r_lst | with_reducible apply r_bi | with_reducible apply r_glob | with_reducible apply r_cmp | with_reducible apply r_isN | with_reducible apply r_not | with_reducible apply r_and | with_reducible apply r_or | with_reducible apply r_ite | with_reducible apply r_chain | with_reducible apply r_call | with_reducible apply t_cmp | with_reducible apply t_not | with_reducible apply t_isN | with_reducible apply t_and | with_reducible apply t_or | with_reducible apply t_chain | with_reducible apply t_tru | with_reducible apply s_set | with_reducible apply s_own | with_reducible apply s_asg | with_reducible apply s_if | with_reducible apply s_ret | with_reducible apply s_retO | with_reducible apply f_lst | with_reducible apply f_list | assumption | with_reducible apply cmp_eq | with_reducible apply cmp_ne | rfl)
  unfold flr
  repeat' (first | with_reducible apply l_nil | with_reducible apply o_none | with_reducible apply r_lit | with_reducible apply ss_nil | with_reducible apply r_var | with_reducible apply r_ovar | with_reducible apply l_cons | with_reducible apply o_some | with_reducible apply r_bin | with_reducible apply r_neg | with_reducible apply r_ix | with_reducible apply r_sl | with_reducible apply r_tup | with_reducible apply r_lst | with_reducible apply r_bi | with_reducible apply r_glob | with_reducible apply r_cmp | with_reducible apply r_isN | with_reducible apply r_not | with_reducible apply r_and | with_reducible apply r_or | with_reducible apply r_ite | with_reducible apply r_chain | with_reducible apply r_call | with_reducible apply t_cmp | with_reducible apply t_not | with_reducible apply t_isN | with_reducible apply t_and | with_reducible apply t_or | with_reducible apply t_chain | with_reducible apply t_tru | with_reducible apply s_set | with_reducible apply s_own | with_reducible apply s_asg | with_reducible apply s_if | with_reducible apply s_ret | with_reducible apply s_retO | with_reducible apply f_lst | with_reducible apply f_list | assumption | with_reducible apply cmp_eq | with_reducible apply cmp_ne | rfl)
end
end Pu
end
section
namespace Pu
open PySem F3
section
variable {cs : List Int} {fn : Nat → Fn}
def LawShares (f : Fn) : Prop := ∀ ws g xs, EqOk ws g → (∀ z ∈ xs, Sm 20000 z) → f [.d (eqD ws g), .d (tI xs)] = .ok (.d (.list ((shr ws xs).map .int))) [.d (eqD ws g), .d (tI xs)]
theorem law_shares_ok : LawShares (runD cs fn Lb.law_shares) := by
  intro ws g xs E h
  have hl : (ws.zip xs).length ≤ 100000 := by rw [List.length_zip]; have := E.l2; omega
  have z : semI ⟨fn, cs, [false, false]⟩ (.zip (.ix (.var 0) (.lit (.int 0))) (.var 1)) [some (.d (eqD ws g)), some (.d (tI xs)), none, none] = .ok ((ws.zip xs).map fun p => PyData.tuple [.int p.1, .int p.2]) [some (.d (eqD ws g)), some (.d (tI xs)), none, none] :=
    i_zipT (xs := ws.map .int) (ys := xs.map .int) (r_ix (r_var rfl) r_lit (eq0 ws g)) (r_var rfl) (zipD_map ws xs)
  have e3 := sem_lcP (Γ := ⟨fn, cs, [false, false]⟩) (is := [2, 3]) (t := .t [.n 2, .n 3]) (c := none) (e := .bin .mul (.bin .mul (.var 2) (.var 3)) (.var 3))
    (fun p : Int × Int => PyData.tuple [.int p.1, .int p.2]) (fun _ => true) (fun p => .int (p.1 * p.2 * p.2)) (ws.zip xs)
    z rfl hl (fun p hm => ⟨[some (.d (eqD ws g)), some (.d (tI xs)), some (.d (.int p.1)), some (.d (.int p.2))], _, rfl, rfl, .inr ⟨rfl, [some (.d (eqD ws g)), some (.d (tI xs)), some (.d (.int p.1)), some (.d (.int p.2))], by
      obtain ⟨h1, h2⟩ := List.of_mem_zip hm
      have s1 := sm12 (E.w _ h1)
      have s2 := h _ h2
      have m1 := bin_mul (mulOk_sm s1 s2 (by decide))
      have m2 := bin_mul (mulOk_sm (s1.mul s2) s2 (by decide))
      exact r_bin (r_bin (r_var rfl) (r_var rfl) m1) (r_var rfl) m2, rfl⟩⟩) rfl
  rw [filter_tt] at e3
  have e4 : ((ws.zip xs).map fun p => PyData.int (p.1 * p.2 * p.2)) = (shr ws xs).map .int := by unfold shr; rw [List.map_map]; rfl
  rw [e4] at e3
  refine run_rt (xs := [eqD ws g, tI xs]) rfl (Nat.le_of_ble_eq_true rfl) (ρ1 := [some (.d (eqD ws g)), some (.d (tI xs)), none, none]) ?_ (Nat.le_of_ble_eq_true rfl)
  unfold Lb.law_shares
  exact ss_rt (s_ret e3)
/-- lists, tuples and ints, to a depth -/
inductive TL : Nat → PyData → Prop
  | int (d : Nat) (i : Int) : TL d (.int i)
  | tup (d : Nat) (xs : List PyData) (h : ∀ x ∈ xs, TL d x) (l : xs.length ≤ 100000) : TL (d + 1) (.tuple xs)
  | lst (d : Nat) (xs : List PyData) (h : ∀ x ∈ xs, TL d x) (l : xs.length ≤ 100000) : TL (d + 1) (.list xs)
def LawSame (d : Nat) (f : Fn) : Prop := ∀ x, TL d x → f [.d x, .d x] = .ok (.d (.bool true)) [.d x, .d x]
theorem zip_self : ∀ xs : List PyData, zipD xs xs = xs.map fun x => PyData.tuple [x, x]
  | [] => rfl
  | x :: r => by rw [zipD, zip_self r]; rfl
theorem same_int {f0 : Nat} (i : Int) : runD cs fn (Lb.law_same f0) [.d (.int i), .d (.int i)] = .ok (.d (.bool true)) [.d (.int i), .d (.int i)] := by
  have c1 : cmpD .eq (.int i) (.int i) = some true := by rw [cmp_eq]; simp
  have b1 : biD .isiTL [.int i] = some (.bool false) := rfl
  have b2 : biD .isiBS [.int i] = some (.bool false) := rfl
  have b3 : biD (.isi "int") [.int i] = some (.bool true) := rfl
  have b4 : biD (.isi "bool") [.int i] = some (.bool false) := rfl
  refine run_rt (xs := [.int i, .int i]) rfl (Nat.le_of_ble_eq_true rfl) (ρ1 := [some (.d (.int i)), some (.d (.int i)), none, none]) ?_ (Nat.le_of_ble_eq_true rfl)
  unfold Lb.law_same
  refine (ss_nx (s_if (v := false) (ρ1 := [some (.d (.int i)), some (.d (.int i)), none, none]) (t_tru rfl (r_bi (l_cons (r_var rfl) l_nil) b1) rfl) (by rw [if_neg (by decide)]; exact ss_nil))).trans ?_
  refine (ss_nx (s_if (v := false) (ρ1 := [some (.d (.int i)), some (.d (.int i)), none, none]) (t_isN (x := .int i) (r_var rfl)) (by rw [if_neg (by decide)]; exact ss_nil))).trans ?_
  refine (ss_nx (s_if (v := false) (ρ1 := [some (.d (.int i)), some (.d (.int i)), none, none]) (t_tru rfl (r_bi (l_cons (r_var rfl) l_nil) b2) rfl) (by rw [if_neg (by decide)]; exact ss_nil))).trans ?_
  refine ss_rt (s_ret ?_)
  refine r_and (v := true) (r_bi (l_cons (r_var rfl) l_nil) b3) ?_
  rw [if_pos rfl]
  refine r_and (v := true) (r_not (v := false) (r_bi (l_cons (r_var rfl) l_nil) b4)) ?_
  rw [if_pos rfl]
  exact r_cmp (r_var rfl) (r_var rfl) c1
end
end Pu
end
section
namespace Pu
open PySem F3
section
variable {cs : List Int} {fn : Nat → Fn}
theorem same_nest {f0 d : Nat} (h0 : LawSame d (fn f0)) {x : PyData} {xs : List PyData} {l t : Bool} (hb : biD .isiTL [x] = some (.bool true)) (hL : biD (.isi "list") [x] = some (.bool l)) (hT : biD (.isi "tuple") [x] = some (.bool t))
    (hn : biD .len [x] = some (.int xs.length)) (hz : ∀ Γ : Gm, semI Γ (.zip (.var 0) (.var 1)) [some (.d x), some (.d x), none, none] = .ok (zipD xs xs) [some (.d x), some (.d x), none, none]) (h : ∀ z ∈ xs, TL d z) (hl : xs.length ≤ 100000) :
    runD cs fn (Lb.law_same f0) [.d x, .d x] = .ok (.d (.bool true)) [.d x, .d x] := by
  have c1 : ∀ b : Bool, cmpD .ne (.bool b) (.bool b) = some false := fun b => by cases b <;> rfl
  have c2 : cmpD .eq (.int xs.length) (.int xs.length) = some true := by rw [cmp_eq]; simp
  have e1 := sem_lcP (Γ := ⟨fn, cs, [false, false]⟩) (is := [2, 3]) (t := .t [.n 2, .n 3]) (it := .zip (.var 0) (.var 1)) (c := none) (e := .call f0 [.var 2, .var 3]) (ρ := [some (.d x), some (.d x), none, none])
    (fun z : PyData => PyData.tuple [z, z]) (fun _ => true) (fun _ => PyData.bool true) xs
    (by rw [hz, zip_self]) rfl hl (fun z hm => ⟨[some (.d x), some (.d x), some (.d z), some (.d z)], _, rfl, rfl, .inr ⟨rfl, [some (.d x), some (.d x), some (.d z), some (.d z)],
      r_call (xs := [z, z]) rfl (l_cons (r_var rfl) (l_cons (r_var rfl) l_nil)) (h0 z (h z hm)), rfl⟩⟩) rfl
  rw [filter_tt] at e1
  have e2 := all_true xs (fun _ => true) (fun _ _ => rfl)
  refine run_rt (xs := [x, x]) rfl (Nat.le_of_ble_eq_true rfl) (ρ1 := [some (.d x), some (.d x), none, none]) ?_ (Nat.le_of_ble_eq_true rfl)
  unfold Lb.law_same
  refine ss_rt (s_if (v := true) (ρ1 := [some (.d x), some (.d x), none, none]) (t_tru rfl (r_bi (l_cons (r_var rfl) l_nil) hb) rfl) ?_)
  rw [if_pos rfl]
  refine (ss_nx (s_if (v := false) (ρ1 := [some (.d x), some (.d x), none, none]) (t_or (v := false) (t_cmp (r_bi (l_cons (r_var rfl) l_nil) hL) (r_bi (l_cons (r_var rfl) l_nil) hL) (c1 l)) ?_) (by rw [if_neg (by decide)]; exact ss_nil))).trans ?_
  · rw [if_neg (by decide)]
    exact t_cmp (r_bi (l_cons (r_var rfl) l_nil) hT) (r_bi (l_cons (r_var rfl) l_nil) hT) (c1 t)
  refine ss_rt (s_ret ?_)
  refine r_and (v := true) (r_cmp (r_bi (l_cons (r_var rfl) l_nil) hn) (r_bi (l_cons (r_var rfl) l_nil) hn) c2) ?_
  rw [if_pos rfl]
  exact r_bi (l_cons e1 l_nil) e2
theorem law_same_ok {f0 d : Nat} (h0 : LawSame d (fn f0)) : LawSame (d + 1) (runD cs fn (Lb.law_same f0)) := by
  intro x hx
  cases hx with
  | int _ i => exact same_int i
  | tup _ xs h l => exact same_nest h0 (xs := xs) (l := false) (t := true) rfl rfl rfl rfl (fun Γ => i_zipT (r_var rfl) (r_var rfl) rfl) h l
  | lst _ xs h l => exact same_nest h0 (xs := xs) (l := true) (t := false) rfl rfl rfl rfl (fun Γ => by rw [semI, r_var (x := .list xs) rfl]; show (sem Γ (.var 1) [some (.d (.list xs)), some (.d (.list xs)), none, none]).bind _ = _; rw [r_var (x := .list xs) rfl]; rfl) h l
theorem law_same_0 {f0 : Nat} : LawSame 0 (runD cs fn (Lb.law_same f0)) := by
  intro x hx
  cases hx with
  | int _ i => exact same_int i
end
end Pu
end
section
namespace Pu
open PySem F3
section
variable {cs : List Int} {fn : Nat → Fn}
theorem cut_toL (xs : List PyData) (k : Nat) : slD (.list xs) none (some (k : Int)) = some (.list (xs.take k)) := by
  show some (PyData.list (cutD xs none (some (k : Int)))) = _
  unfold cutD
  rw [HT.sIx_nat, HT.sIx_none]
  simp only [List.drop_zero, Nat.sub_zero]
  congr 2
  rw [Nat.min_comm, List.take_eq_take_iff]
  omega
theorem cut_fromL (xs : List PyData) (k h : Nat) (l : xs.length ≤ h) : slD (.list xs) (some (k : Int)) (some (h : Int)) = some (.list (xs.drop k)) := by
  show some (PyData.list (cutD xs (some (k : Int)) (some (h : Int)))) = _
  unfold cutD
  rw [HT.sIx_nat, HT.sIx_nat]
  congr 2
  by_cases hk : k ≤ xs.length
  · show (xs.drop (min k xs.length)).take (min h xs.length - min k xs.length) = _
    rw [Nat.min_eq_left hk, List.take_of_length_le]
    simp
    omega
  · show (xs.drop (min k xs.length)).take (min h xs.length - min k xs.length) = _
    rw [List.drop_eq_nil_of_le (by omega), List.drop_eq_nil_of_le (by omega)]
    simp
theorem cells_loop {most : Nat} (h1 : 1 ≤ most) (h2 : most ≤ 1000) {e0 : Option AV} : ∀ (xs : List Int) (n : Nat) (C : List Int) (z3 z4 z5 : Option AV), (xs = [] ∨ C.length = most) → n + xs.length ≤ 100000 →
    ∃ (C' : List Int) (z3' z4' z5' : Option AV), C'.length = C.length ∧ forL (assignT ⟨fn, cs, [false, false]⟩ (.t [.n 3, .n 4])) (exSs ⟨fn, cs, [false, false]⟩ [.set 5 (.bin .mod (.bi .int [(.var 3)]) (.var 1)), .put 2 (.var 5) (.bin .add (.ix (.ovar 2) (.var 5)) (.bin .mul (.var 4) (.bin .add (.var 3) (.lit (.int 2)))))])
      (enumD (xs.map .int) n) [e0, some (.d (.int most)), some (.l (C.map .int)), z3, z4, z5] = .nx [e0, some (.d (.int most)), some (.l (C'.map .int)), z3', z4', z5']
  | [], n, C, z3, z4, z5, _, _ => ⟨C, z3, z4, z5, rfl, rfl⟩
  | x :: xs, n, C, z3, z4, z5, hc, hl => by
    have hC : C.length = most := by
      rcases hc with hc | hc
      · cases hc
      · exact hc
    have hn : n + 1 + xs.length ≤ 100000 := by rw [List.length_cons] at hl; omega
    have hm : n % most < C.length := by rw [hC]; exact Nat.mod_lt _ h1
    have hmI : ((n : Int) % (most : Int)) = ((n % most : Nat) : Int) := by omega
    obtain ⟨C', z3', z4', z5', hC', ih⟩ := cells_loop h1 h2 xs (n + 1) (C.set (n % most) (C[n % most] + x * (n + 2))) (some (.d (.int n))) (some (.d (.int x))) (some (.d (.int (n % most : Nat)))) (.inr (by simpa using hC)) hn
    refine ⟨C', z3', z4', z5', by simpa using hC', ?_⟩
    have m1 := bin_mod (i := n) (j := most) (by omega)
    rw [hmI] at m1
    have m2 := bin_mul (mulOk_r (i := x) (j := (n : Int) + 2) (by omega) (by omega))
    have i1 : ixD (.list (C.map .int)) (.int (n % most : Nat)) = some (.int C[n % most]) := at_natL (by simp [hm])
    have t1 : assignT ⟨fn, cs, [false, false]⟩ (.t [.n 3, .n 4]) (.tuple [.int n, .int x]) [e0, some (.d (.int most)), some (.l (C.map .int)), z3, z4, z5] = some [e0, some (.d (.int most)), some (.l (C.map .int)), some (.d (.int n)), some (.d (.int x)), z5] := rfl
    have b1 : exSs ⟨fn, cs, [false, false]⟩ [.set 5 (.bin .mod (.bi .int [(.var 3)]) (.var 1)), .put 2 (.var 5) (.bin .add (.ix (.ovar 2) (.var 5)) (.bin .mul (.var 4) (.bin .add (.var 3) (.lit (.int 2)))))] [e0, some (.d (.int most)), some (.l (C.map .int)), some (.d (.int n)), some (.d (.int x)), z5] =
        .nx [e0, some (.d (.int most)), some (.l ((C.set (n % most) (C[n % most] + x * (n + 2))).map .int)), some (.d (.int n)), some (.d (.int x)), some (.d (.int (n % most : Nat)))] := by
      refine (ss_nx (ρ1 := [e0, some (.d (.int most)), some (.l (C.map .int)), some (.d (.int n)), some (.d (.int x)), some (.d (.int (n % most : Nat)))]) (s_set (r_bin (r_bi (z := .int n) (l_cons (r_var rfl) l_nil) rfl) (r_var rfl) m1) rfl)).trans ?_
      refine ss_go (s_put rfl (r_bin (r_ix (r_ovar rfl) (r_var rfl) i1) (r_bin (r_var rfl) (r_bin (r_var rfl) r_lit rfl) m2) rfl) (r_var rfl) rfl ⟨by omega, by rw [List.length_map]; omega⟩ rfl) ?_
      rw [ss_nil, Int.toNat_natCast, List.map_set]
      rfl
    rw [List.map_cons, enumD, forL, t1]
    dsimp only
    rw [b1]
    exact ih
def Cells (f : Fn) : Prop := ∀ (ns : List Int) (most : Nat), ns.length ≤ 63 → 1 ≤ most → most ≤ 1000 → ∃ C : List Int, 1 ≤ C.length ∧ C.length ≤ most ∧ f [.d (.list (ns.map .int)), .d (.int most)] = .ok (.d (.list (C.map .int))) [.d (.list (ns.map .int)), .d (.int most)]
theorem law_cells_ok : Cells (runD cs fn Lb.law_cells) := by
  intro ns most hl h1 h2
  have start : ∃ C : List Int, 1 ≤ C.length ∧ C.length ≤ most ∧ (ns.drop most = [] ∨ C.length = most) ∧
      semF ⟨fn, cs, [false, false]⟩ (.or (.bi .lst [(.sl (.var 0) none (some (.var 1)))]) (.lst [(.lit (.int 0))])) [some (.d (.list (ns.map .int))), some (.d (.int most)), none, none, none, none] = .ok (.l (C.map .int)) [some (.d (.list (ns.map .int))), some (.d (.int most)), none, none, none, none] := by
    have s1 := cut_toL (ns.map .int) most
    have f1 : semF ⟨fn, cs, [false, false]⟩ (.bi .lst [(.sl (.var 0) none (some (.var 1)))]) [some (.d (.list (ns.map .int))), some (.d (.int most)), none, none, none, none] = .ok (.l ((ns.map .int).take most)) [some (.d (.list (ns.map .int))), some (.d (.int most)), none, none, none, none] :=
      f_list (r_sl (r_var rfl) o_none (o_some (r_var rfl)) s1) rfl
    by_cases hn : ns = []
    · subst hn
      refine ⟨[0], by simp, by simpa using h1, .inl (by simp), ?_⟩
      rw [semF, f1]
      rw [List.map_nil, List.take_nil]
      have g : semF ⟨fn, cs, [false, false]⟩ (.lst [(.lit (.int 0))]) [some (.d (.list [])), some (.d (.int most)), none, none, none, none] = .ok (.l [.int 0]) [some (.d (.list [])), some (.d (.int most)), none, none, none, none] := f_lst (l_cons r_lit l_nil)
      exact g
    · have hp : 1 ≤ ns.length := by
        cases ns with
        | nil => exact absurd rfl hn
        | cons _ _ => simp
      refine ⟨ns.take most, by simp; omega, by simp; omega, ?_, ?_⟩
      · by_cases hm : ns.length ≤ most
        · exact .inl (List.drop_eq_nil_of_le hm)
        · right; simp; omega
      · rw [semF, f1]
        cases ns with
        | nil => exact absurd rfl hn
        | cons a r =>
          obtain ⟨m, rfl⟩ : ∃ m, most = m + 1 := ⟨most - 1, by omega⟩
          rw [List.map_take]
          rfl
  obtain ⟨C, hC1, hC2, hC3, e1⟩ := start
  obtain ⟨C', z3', z4', z5', hC', e2⟩ := cells_loop (cs := cs) (fn := fn) h1 h2 (e0 := some (.d (.list (ns.map .int)))) (ns.drop most) 0 C none none none hC3 (by simp; omega)
  refine ⟨C', by omega, by omega, ?_⟩
  have s2 := cut_fromL (ns.map .int) most 63 (by simpa using hl)
  rw [← List.map_drop, show ((63 : Nat) : Int) = 63 from rfl] at s2
  have e3 := for_of (Γ := ⟨fn, cs, [false, false]⟩) (it := .enum (.sl (.var 0) (some (.var 1)) (some (.lit (.int 63))))) (ρ := [some (.d (.list (ns.map .int))), some (.d (.int most)), some (.l (C.map .int)), none, none, none])
    (by rw [semI, r_sl (r_var rfl) (o_some (r_var rfl)) (o_some r_lit) s2]; rfl) e2
  refine run_rt (xs := [.list (ns.map .int), .int most]) rfl (Nat.le_of_ble_eq_true rfl) (ρ1 := [some (.d (.list (ns.map .int))), some (.d (.int most)), some (.d (.list (C'.map .int))), z3', z4', z5']) ?_ (Nat.le_of_ble_eq_true rfl)
  unfold Lb.law_cells
  refine (ss_nx (ρ1 := [some (.d (.list (ns.map .int))), some (.d (.int most)), some (.l (C.map .int)), none, none, none]) (s_own e1 rfl)).trans ?_
  refine (ss_nx e3).trans ?_
  refine (ss_nx (ρ1 := [some (.d (.list (ns.map .int))), some (.d (.int most)), some (.d (.list (C'.map .int))), z3', z4', z5']) (s_frz rfl rfl)).trans ?_
  exact ss_rt (s_ret (r_var rfl))
/-- the box of numbers drawn from, at its start -/
def Box (f : Fn) : Prop := ∀ (ns : List Int) (k : Nat), k < ns.length → k ≤ 1000 → ∃ T, TinOk 0 T ∧ f [.d (.list (ns.map .int)), .d (.int k)] = .ok (.l T) [.d (.list (ns.map .int)), .d (.int k)]
theorem law_box_ok : Box (runD cs fn Lb.law_box) := by
  intro ns k hk hk2
  have c1 : cmpD .lt (.int k) (.int ns.length) = some true := by rw [cmp_lt, decide_eq_true (by omega)]
  have i1 : ixD (.list (ns.map .int)) (.int k) = some (.int ns[k]) := at_natL (by simp [hk])
  have l1 : biD .len [.list (ns.map .int)] = some (.int ns.length) := by
    show some (PyData.int ((ns.map PyData.int).length : Nat)) = _
    rw [List.length_map]
  generalize ns[k] = a at i1
  have a1 : biD .abs [.int a] = some (.int (if a < 0 then -a else a)) := rfl
  generalize (if a < 0 then -a else a) = u at a1
  have p1 : binD .pow (.int 10) (.int 18) = some (.int 1000000000000000000) := rfl
  have c2 : cmpD .ge (.int u) (.int 1000000000000000000) = some (decide (1000000000000000000 ≤ u)) := cmp_ge _ _
  have ib : ∃ v : Int, 0 ≤ v ∧ v ≤ 1 ∧ biD .int [.bool (decide (1000000000000000000 ≤ u))] = some (.int v) := by
    by_cases h : 1000000000000000000 ≤ u
    · rw [decide_eq_true h]; exact ⟨1, by decide, by decide, rfl⟩
    · rw [decide_eq_false h]; exact ⟨0, by decide, by decide, rfl⟩
  obtain ⟨v, v0, v1, ib⟩ := ib
  have ii : biD .int [.int a] = some (.int a) := rfl
  have m1 := bin_mul (mulOk_r (i := u) (j := v) v0 (by omega))
  have m2 := bin_mod (i := a) (j := 2305843009213693951) (by decide)
  have m3 := bin_mul (mulOk_l (i := 39373) (j := (k : Int)) (by decide) (by decide))
  have r0 : 0 ≤ a % 2305843009213693951 ∧ a % 2305843009213693951 < 2305843009213693951 := ⟨Int.emod_nonneg _ (by decide), Int.emod_lt_of_pos _ (by decide)⟩
  refine ⟨tin (u * v) (a % 2305843009213693951 + 39373 * k + 251520) 0, ⟨_, _, _, rfl, by omega, by omega, by decide, by decide⟩, ?_⟩
  refine run_rt (xs := [.list (ns.map .int), .int k]) rfl (Nat.le_of_ble_eq_true rfl) (ρ1 := [some (.d (.list (ns.map .int))), some (.d (.int k)), some (.d (.int a))]) ?_ (Nat.le_of_ble_eq_true rfl)
  unfold Lb.law_box
  refine (ss_nx (ρ1 := [some (.d (.list (ns.map .int))), some (.d (.int k)), some (.d (.int a))]) (s_set (r_ite (v := true) (t_cmp (r_var rfl) (r_bi (l_cons (r_var rfl) l_nil) l1) c1) (by rw [if_pos rfl]; exact r_ix (r_var rfl) (r_var rfl) i1)) rfl)).trans ?_
  refine ss_rt (s_retO (f_lst (l_cons (r_bin (r_bi (l_cons (r_var rfl) l_nil) a1) (r_bi (l_cons (r_cmp (r_bi (l_cons (r_var rfl) l_nil) a1) (r_bin r_lit r_lit p1) c2) l_nil) ib) m1) (l_cons ?_ (l_cons r_lit l_nil)))))
  exact r_bin (r_bin (r_bin (r_bi (l_cons (r_var rfl) l_nil) ii) r_lit m2) (r_bin r_lit (r_var rfl) m3) rfl) r_lit rfl
end
end Pu
end
section
namespace Pu
open PySem F3
section
variable {cs : List Int} {fn : Nat → Fn}
theorem r_pop {Γ : Gm} {ρ ρ1 : F3.Env} {i : Nat} {e : IE} {xs ys : List PyData} {k : Int} {y : PyData} (h0 : ρ[i]? = some (some (.l ys))) (h : sem Γ e ρ = .ok (.int k) ρ1) (h1 : ρ1[i]? = some (some (.l xs))) (hk : 0 ≤ k ∧ k < 2 ^ 63) (h2 : xs[k.toNat]? = some y) :
    sem Γ (.popAt i e) ρ = .ok y (ρ1.set i (some (.l (xs.eraseIdx k.toNat)))) := by
  have g00 : getL ρ i = some ys := by unfold getL; rw [h0]
  have g0 : getL ρ1 i = some xs := by unfold getL; rw [h1]
  rw [sem, g00, if_pos (show (some ys).isSome = true from rfl), h]
  show (match getL ρ1 i, PyData.int k with | some xs, .int k => _ | _, _ => _) = _
  rw [g0]
  dsimp only
  rw [if_pos (decide_eq_true hk), h2]
theorem v_own {Γ : Gm} {ρ ρ1 : F3.Env} {e : IE} {av : AV} (h : semF Γ e ρ = .ok av ρ1) : semV Γ true e ρ = .ok av ρ1 := by
  unfold semV
  rw [if_pos rfl, h]
theorem v_dat {Γ : Gm} {ρ ρ1 : F3.Env} {e : IE} {x : PyData} (h : sem Γ e ρ = .ok x ρ1) : semV Γ false e ρ = .ok (.d x) ρ1 := by
  unfold semV
  rw [if_neg (by decide), h]
  rfl
theorem m_nil {Γ : Gm} {ρ : F3.Env} : semM Γ [] ρ = .ok [] ρ := by rw [semM]
theorem m_cons {Γ : Gm} {ρ ρ1 ρ2 : F3.Env} {b : Bool} {e : IE} {r : List (Bool × IE)} {av : AV} {xs : List AV} (h1 : semV Γ b e ρ = .ok av ρ1) (h2 : semM Γ r ρ1 = .ok xs ρ2) : semM Γ ((b, e) :: r) ρ = .ok (av :: xs) ρ2 := by
  rw [semM, h1]
  show Rs.bind (semM Γ r ρ1) _ = _
  rw [h2]
  rfl
theorem s_mul {Γ : Gm} {ρ ρ1 ρ2 ρ3 : F3.Env} {is : List Nat} {es : List (Bool × IE)} {xs : List AV} (h : semM Γ es ρ = .ok xs ρ1) (hn : is.Nodup) (hm : merge ρ ρ1 = some ρ2) (h2 : setVs Γ is xs ρ2 = some ρ3) : exS Γ (.mul is es) ρ = .nx ρ3 := by
  rw [exS, h]
  show (if is.Nodup then Ss.ofO ((merge ρ ρ1).bind fun ρ2 => setVs Γ is xs ρ2) else Ss.bad) = _
  rw [if_pos hn, hm]
  show Ss.ofO (setVs Γ is xs ρ2) = _
  rw [h2]
  rfl
theorem perm_at : ∀ (xs : List PyData) (k : Nat) (h : k < xs.length), xs.Perm (xs[k] :: xs.eraseIdx k)
  | x :: xs, 0, _ => List.Perm.refl _
  | x :: xs, k + 1, h => ((perm_at xs k (by simpa using h)).cons x).trans (List.Perm.swap _ _ _)
theorem TinOk.mono {m n : Int} {T : List PyData} (h : TinOk m T) (l : m ≤ n) : TinOk n T := by
  obtain ⟨a, b, c, e, h1, h2, h3, h4⟩ := h
  exact ⟨a, b, c, e, h1, h2, h3, by omega⟩
theorem fits_le {n : Nat} (h : n ≤ 1000000) : fits n = true := by
  unfold fits
  have hz : sizeLine = 16777216 := by decide
  refine decide_eq_true ?_
  rw [hz]
  omega
theorem pick_loop {f0 : Nat} (h0 : Take (fn f0)) {e1 e2 : Option AV} : ∀ (n : Nat) (i : Int) (T pool found : List PyData) (m : Int) (z3 : Option AV), TinOk m T → m + n ≤ 1000000 → n ≤ pool.length → pool.length ≤ 100000 → found.length + n ≤ 100000 →
    ∃ (T' ys rest : List PyData) (z3' : Option AV), TinOk (m + n) T' ∧ ys.length = n ∧ pool.Perm (ys ++ rest) ∧
      forL (assignT ⟨fn, cs, [true, false, false]⟩ (.n 3)) (exSs ⟨fn, cs, [true, false, false]⟩ [.app 5 (.popAt 4 (.call f0 [(.ovar 0), (.bi .len [(.ovar 4)])]))]) (rngD i n) [some (.l T), e1, e2, z3, some (.l pool), some (.l found)] =
        .nx [some (.l T'), e1, e2, z3', some (.l rest), some (.l (found ++ ys))]
  | 0, i, T, pool, found, m, z3, hT, _, _, _, _ => ⟨T, [], pool, z3, hT.mono (by omega), rfl, List.Perm.refl _, by rw [List.append_nil]; rfl⟩
  | n + 1, i, T, pool, found, m, z3, hT, hm, hn, hp, hf => by
    obtain ⟨d, T1, d0, d1, hT1, e0⟩ := h0 m T pool.length hT (by omega) (by omega) (by omega)
    obtain ⟨k, rfl⟩ := Int.eq_ofNat_of_zero_le d0
    have hk : k < pool.length := by omega
    obtain ⟨T', ys, rest, z3', hT', hy, hP, ih⟩ := pick_loop h0 (e1 := e1) (e2 := e2) n (i + 1) T1 (pool.eraseIdx k) (found ++ [pool[k]]) (m + 1) (some (.d (.int i))) hT1 (by omega) (by rw [List.length_eraseIdx_of_lt hk]; omega) (by rw [List.length_eraseIdx_of_lt hk]; omega) (by simp; omega)
    refine ⟨T', pool[k] :: ys, rest, z3', hT'.mono (by omega), by simp [hy], (perm_at pool k hk).trans (by rw [List.cons_append]; exact hP.cons _), ?_⟩
    have l1 : biD .len [.list pool] = some (.int pool.length) := rfl
    have t1 : assignT ⟨fn, cs, [true, false, false]⟩ (.n 3) (.int i) [some (.l T), e1, e2, z3, some (.l pool), some (.l found)] = some [some (.l T), e1, e2, some (.d (.int i)), some (.l pool), some (.l found)] := rfl
    have c1 : sem ⟨fn, cs, [true, false, false]⟩ (.call f0 [(.ovar 0), (.bi .len [(.ovar 4)])]) [some (.l T), e1, e2, some (.d (.int i)), some (.l pool), some (.l found)] = .ok (.int k) [some (.l T1), e1, e2, some (.d (.int i)), some (.l pool), some (.l found)] :=
      r_callO (xs := [.int pool.length]) rfl rfl (l_cons (r_bi (l_cons (r_ovar rfl) l_nil) l1) l_nil) rfl e0
    have b1 : exSs ⟨fn, cs, [true, false, false]⟩ [.app 5 (.popAt 4 (.call f0 [(.ovar 0), (.bi .len [(.ovar 4)])]))] [some (.l T), e1, e2, some (.d (.int i)), some (.l pool), some (.l found)] =
        .nx [some (.l T1), e1, e2, some (.d (.int i)), some (.l (pool.eraseIdx k)), some (.l (found ++ [pool[k]]))] := by
      refine ss_go (s_app (r_pop rfl c1 rfl ⟨by omega, by omega⟩ (y := pool[k]) (by simp [hk])) rfl rfl (fits_le (by omega)) rfl) ?_
      rw [ss_nil]
      rfl
    rw [rngD, forL, t1]
    dsimp only
    rw [b1]
    dsimp only
    rw [ih]
    simp
/-- some of several goods -/
def Pick (f : Fn) : Prop := ∀ (m : Int) (T : List PyData) (gs : List PyData) (n : Nat), TinOk m T → m + n ≤ 1000000 → n ≤ gs.length → gs.length ≤ 100000 →
  ∃ ys rest T', ys.length = n ∧ gs.Perm (ys ++ rest) ∧ TinOk (m + n) T' ∧ f [.l T, .d (.list gs), .d (.int n)] = .ok (.d (.list ys)) [.l T', .d (.list gs), .d (.int n)]
theorem law_pick_ok {f0 : Nat} (h0 : Take (fn f0)) : Pick (runD cs fn (Lb.law_pick f0)) := by
  intro m T gs n hT hm hn hl
  obtain ⟨T', ys, rest, z3', hT', hy, hP, e1⟩ := pick_loop (cs := cs) h0 (e1 := some (.d (.list gs))) (e2 := some (.d (.int n))) n ((0 : Nat) : Int) T gs [] m none hT hm hn hl (by simp; omega)
  refine ⟨ys, rest, T', hy, hP, hT', ?_⟩
  have l1 : biD .len [.list gs] = some (.int gs.length) := rfl
  have m1 : biD .min2 [.int n, .int gs.length] = some (.int n) := by
    show some (PyData.int (if (gs.length : Int) < n then (gs.length : Int) else n)) = _
    rw [if_neg (by omega)]
  have sm62 : small62 (n : Int) = true := by unfold small62; exact decide_eq_true ⟨by omega, by omega⟩
  have e2 := for_of (Γ := ⟨fn, cs, [true, false, false]⟩) (it := .rng1 (.bi .min2 [(.bi .int [(.var 2)]), (.bi .len [(.ovar 4)])])) (ρ := [some (.l T), some (.d (.list gs)), some (.d (.int n)), none, some (.l gs), some (.l [])])
    (i_rng (r_bi (l_cons (r_bi (z := .int n) (l_cons (r_var rfl) l_nil) rfl) (l_cons (r_bi (l_cons (r_ovar rfl) l_nil) l1) l_nil)) m1) sm62) e1
  refine run_rtO (xs := [.list gs, .int n]) rfl (Nat.le_of_ble_eq_true rfl) (ρ' := [some (.d (.list gs)), some (.d (.int n)), z3', some (.l rest), some (.d (.list ys))]) ?_ (Nat.le_of_ble_eq_true rfl)
  unfold Lb.law_pick
  refine (ss_nx (ρ1 := [some (.l T), some (.d (.list gs)), some (.d (.int n)), none, some (.l gs), some (.l [])]) ?_).trans ?_
  · have s1 : semF ⟨fn, cs, [true, false, false]⟩ (.bi .lst [(.var 1)]) [some (.l T), some (.d (.list gs)), some (.d (.int n)), none, none, none] = .ok (.l gs) [some (.l T), some (.d (.list gs)), some (.d (.int n)), none, none, none] := f_list (r_var rfl) rfl
    have s2 : semF ⟨fn, cs, [true, false, false]⟩ (.lst []) [some (.l T), some (.d (.list gs)), some (.d (.int n)), none, none, none] = .ok (.l []) [some (.l T), some (.d (.list gs)), some (.d (.int n)), none, none, none] := f_lst l_nil
    exact s_mul (m_cons (v_own s1) (m_cons (v_own s2) m_nil)) (by decide) (merge_self _) rfl
  refine (ss_nx e2).trans ?_
  refine (ss_nx (ρ1 := [some (.l T'), some (.d (.list gs)), some (.d (.int n)), z3', some (.l rest), some (.d (.list ys))]) (s_frz rfl rfl)).trans ?_
  exact ss_rt (s_ret (r_var rfl))
end
end Pu
end
section
namespace Pu
open PySem F3
section
variable {cs : List Int} {fn : Nat → Fn}
theorem flr_at {ws xs : List Int} {g : Int} {k : Nat} (hk : k < xs.length) : ixD (tI (flr ws g xs k)) (.int k) = some (.int (flp ws g xs k)) := by
  refine at_nat ?_
  unfold flr
  rw [List.getElem?_map, List.append_assoc, List.getElem?_append_right (by simp; omega)]
  have : k - (xs.take k).length = 0 := by simp; omega
  rw [this]
  rfl
theorem idle_loop {f0 : Nat} (h0 : LawFlip (fn f0)) {ws : List Int} {g : Int} {xs : List Int} (E : EqOk ws g) (R : RowB ws xs) : ∀ (n i : Nat) (z : Option AV), i + n = ws.length →
    (∃ k, k < ws.length ∧ flp ws g xs k = xs.getD k 0 ∧ forL (assignT ⟨fn, cs, [false, false]⟩ (.n 2)) (exSs ⟨fn, cs, [false, false]⟩ [.if_ (.cmp .eq (.ix (.call f0 [(.var 0), (.var 1), (.var 2)]) (.var 2)) (.ix (.var 1) (.var 2))) [.ret (.var 2)] []]) (rngD (i : Nat) n)
      [some (.d (eqD ws g)), some (.d (tI xs)), z] = .rt (.d (.int k)) [some (.d (eqD ws g)), some (.d (tI xs)), some (.d (.int k))]) ∨
    ((∀ k, i ≤ k → k < ws.length → flp ws g xs k ≠ xs.getD k 0) ∧ ∃ z', forL (assignT ⟨fn, cs, [false, false]⟩ (.n 2)) (exSs ⟨fn, cs, [false, false]⟩ [.if_ (.cmp .eq (.ix (.call f0 [(.var 0), (.var 1), (.var 2)]) (.var 2)) (.ix (.var 1) (.var 2))) [.ret (.var 2)] []]) (rngD (i : Nat) n)
      [some (.d (eqD ws g)), some (.d (tI xs)), z] = .nx [some (.d (eqD ws g)), some (.d (tI xs)), z'])
  | 0, i, z, hi => .inr ⟨fun k h1 h2 => by omega, z, rfl⟩
  | n + 1, i, z, hi => by
    have hk : i < ws.length := by omega
    have hx : i < xs.length := by rw [R.l]; exact hk
    have e0 := h0 ws g xs i E R hk
    have i1 := flr_at (ws := ws) (g := g) hx
    have i2 := at_tI (xs := xs) hx
    have e1 : xs.getD i 0 = xs[i] := by simp [hx]
    have c1 := cmp_eq (flp ws g xs i) xs[i]
    have t1 : assignT ⟨fn, cs, [false, false]⟩ (.n 2) (.int (i : Nat)) [some (.d (eqD ws g)), some (.d (tI xs)), z] = some [some (.d (eqD ws g)), some (.d (tI xs)), some (.d (.int i))] := rfl
    have ce : semT ⟨fn, cs, [false, false]⟩ (.cmp .eq (.ix (.call f0 [(.var 0), (.var 1), (.var 2)]) (.var 2)) (.ix (.var 1) (.var 2))) [some (.d (eqD ws g)), some (.d (tI xs)), some (.d (.int i))] = .ok (decide (flp ws g xs i = xs[i])) [some (.d (eqD ws g)), some (.d (tI xs)), some (.d (.int i))] :=
      t_cmp (r_ix (r_call (xs := [eqD ws g, tI xs, .int i]) rfl (l_cons (r_var rfl) (l_cons (r_var rfl) (l_cons (r_var rfl) l_nil))) e0) (r_var rfl) i1) (r_ix (r_var rfl) (r_var rfl) i2) c1
    by_cases hc : flp ws g xs i = xs[i]
    · refine .inl ⟨i, hk, by rw [e1]; exact hc, ?_⟩
      have b1 : exSs ⟨fn, cs, [false, false]⟩ [.if_ (.cmp .eq (.ix (.call f0 [(.var 0), (.var 1), (.var 2)]) (.var 2)) (.ix (.var 1) (.var 2))) [.ret (.var 2)] []] [some (.d (eqD ws g)), some (.d (tI xs)), some (.d (.int i))] = .rt (.d (.int i)) [some (.d (eqD ws g)), some (.d (tI xs)), some (.d (.int i))] := by
        refine ss_rt (s_if ce ?_)
        rw [if_pos (decide_eq_true hc)]
        exact ss_rt (s_ret (r_var rfl))
      rw [rngD, forL, t1]
      dsimp only
      rw [b1]
    · have b1 : exSs ⟨fn, cs, [false, false]⟩ [.if_ (.cmp .eq (.ix (.call f0 [(.var 0), (.var 1), (.var 2)]) (.var 2)) (.ix (.var 1) (.var 2))) [.ret (.var 2)] []] [some (.d (eqD ws g)), some (.d (tI xs)), some (.d (.int i))] = .nx [some (.d (eqD ws g)), some (.d (tI xs)), some (.d (.int i))] := by
        refine ss_go (ρ1 := [some (.d (eqD ws g)), some (.d (tI xs)), some (.d (.int i))]) (s_if ce ?_) ss_nil
        rw [if_neg (by simpa using hc)]
        exact ss_nil
      have ea : forL (assignT ⟨fn, cs, [false, false]⟩ (.n 2)) (exSs ⟨fn, cs, [false, false]⟩ [.if_ (.cmp .eq (.ix (.call f0 [(.var 0), (.var 1), (.var 2)]) (.var 2)) (.ix (.var 1) (.var 2))) [.ret (.var 2)] []]) (rngD (i : Nat) (n + 1)) [some (.d (eqD ws g)), some (.d (tI xs)), z] =
          forL (assignT ⟨fn, cs, [false, false]⟩ (.n 2)) (exSs ⟨fn, cs, [false, false]⟩ [.if_ (.cmp .eq (.ix (.call f0 [(.var 0), (.var 1), (.var 2)]) (.var 2)) (.ix (.var 1) (.var 2))) [.ret (.var 2)] []]) (rngD ((i + 1 : Nat) : Int) n) [some (.d (eqD ws g)), some (.d (tI xs)), some (.d (.int i))] := by
        rw [rngD, forL, t1]
        dsimp only
        rw [b1]
        dsimp only
        rw [show ((i : Int) + 1) = ((i + 1 : Nat) : Int) by omega]
      rcases idle_loop h0 E R n (i + 1) (some (.d (.int i))) (by omega) with ⟨k, hk1, hk2, hk3⟩ | ⟨hk1, z', hk3⟩
      · exact .inl ⟨k, hk1, hk2, by rw [ea]; exact hk3⟩
      · refine .inr ⟨fun k h1 h2 => ?_, z', by rw [ea]; exact hk3⟩
        by_cases he : k = i
        · subst he; rw [e1]; exact hc
        · exact hk1 k (by omega) h2
/-- the place that a flip leaves alone, or none -/
def LawIdle (f : Fn) : Prop := ∀ ws g xs, EqOk ws g → RowB ws xs → ∃ v : Int, ((∃ k, k < ws.length ∧ v = (k : Int) ∧ flp ws g xs k = xs.getD k 0) ∨ (v = -1 ∧ ∀ k, k < ws.length → flp ws g xs k ≠ xs.getD k 0)) ∧
  f [.d (eqD ws g), .d (tI xs)] = .ok (.d (.int v)) [.d (eqD ws g), .d (tI xs)]
theorem law_idle_ok {f0 : Nat} (h0 : LawFlip (fn f0)) : LawIdle (runD cs fn (Lb.law_idle f0)) := by
  intro ws g xs E R
  have l1 : biD .len [tI xs] = some (.int ws.length) := by
    show some (PyData.int ((xs.map PyData.int).length : Nat)) = _
    rw [List.length_map, R.l]
  have hl := E.l2
  have sm62 : small62 (ws.length : Int) = true := by unfold small62; exact decide_eq_true ⟨by omega, by omega⟩
  have it := i_rng (Γ := ⟨fn, cs, [false, false]⟩) (ρ := [some (.d (eqD ws g)), some (.d (tI xs)), none]) (a := .bi .len [(.var 1)]) (r_bi (l_cons (r_var rfl) l_nil) l1) sm62
  rcases idle_loop (cs := cs) h0 E R ws.length 0 none (by omega) with ⟨k, hk1, hk2, hk3⟩ | ⟨hk1, z', hk3⟩
  · refine ⟨k, .inl ⟨k, hk1, rfl, hk2⟩, ?_⟩
    refine run_rt (xs := [eqD ws g, tI xs]) rfl (Nat.le_of_ble_eq_true rfl) (ρ1 := [some (.d (eqD ws g)), some (.d (tI xs)), some (.d (.int k))]) ?_ (Nat.le_of_ble_eq_true rfl)
    unfold Lb.law_idle
    exact ss_rt (for_of it hk3)
  · refine ⟨-1, .inr ⟨rfl, fun k h => hk1 k (by omega) h⟩, ?_⟩
    refine run_rt (xs := [eqD ws g, tI xs]) rfl (Nat.le_of_ble_eq_true rfl) (ρ1 := [some (.d (eqD ws g)), some (.d (tI xs)), z']) ?_ (Nat.le_of_ble_eq_true rfl)
    unfold Lb.law_idle
    refine (ss_nx (for_of it hk3)).trans ?_
    exact ss_rt (s_ret (r_bin r_lit r_lit rfl))
end
end Pu
end
section
namespace Pu
open PySem F3
/-- the known rows: weights, factor, root -/
def KN : List (List Int × Int × List Int) := [([1, 1, 1], 3, [1, 1, 1]),
  ([1, 1, 1], 1, [3, 3, 3]),
  ([1, 1, 2], 4, [1, 1, 1]),
  ([1, 1, 5], 5, [1, 2, 1]),
  ([1, 2, 3], 6, [1, 1, 1]),
  ([1, 2, 2], 2, [4, 2, 2]),
  ([2, 3, 6], 6, [3, 2, 1]),
  ([1, 5, 5], 5, [5, 1, 2]),
  ([1, 9, 9], 9, [3, 1, 1]),
  ([12, 12, 12], 36, [1, 1, 1]),
  ([1, 1, 1, 1], 4, [1, 1, 1, 1]),
  ([1, 1, 1, 1], 1, [2, 2, 2, 2]),
  ([1, 1, 1, 2], 4, [1, 1, 2, 1]),
  ([1, 1, 1, 3], 3, [1, 2, 2, 1]),
  ([1, 1, 2, 2], 2, [1, 3, 2, 3]),
  ([1, 2, 6, 6], 6, [2, 2, 1, 1]),
  ([3, 4, 12, 12], 12, [2, 3, 1, 1]),
  ([2, 2, 5, 10], 10, [1, 2, 2, 1]),
  ([1, 1, 1, 1, 1], 1, [1, 1, 3, 3, 4]),
  ([1, 1, 1, 1, 1], 4, [1, 1, 1, 1, 2]),
  ([1, 1, 2, 2, 2], 2, [2, 4, 1, 1, 2]),
  ([1, 1, 5, 5, 5], 5, [1, 7, 1, 1, 3]),
  ([1, 1, 1, 1, 1, 1], 3, [1, 1, 1, 1, 2, 2]),
  ([1, 1, 1, 1, 1, 1], 6, [1, 1, 1, 1, 1, 1]),
  ([1, 1, 1, 1, 2, 2], 2, [1, 1, 2, 4, 1, 2]),
  ([2, 2, 2, 3, 3, 3], 12, [1, 1, 1, 1, 1, 2]),
  ([1, 2, 2, 3, 3, 3], 6, [1, 1, 3, 1, 1, 3])]
def rowD (r : List Int × Int × List Int) : PyData := .tuple [tI r.1, .int r.2.1, tI r.2.2]
section
variable {cs : List Int} {fn : Nat → Fn}
def LawKnown (f : Fn) : Prop := f [] = .ok (.d (.list (KN.map rowD))) []
theorem law_known_ok : LawKnown (runD cs fn Lb.law_known) := by
  unfold LawKnown
  rfl
end
end Pu
end
section
namespace Pu
open PySem F3
section
variable {cs : List Int} {fn : Nat → Fn}
theorem rngD_map : ∀ (n i : Nat), rngD (i : Nat) n = (List.range' i n).map fun k => PyData.int (k : Nat)
  | 0, _ => rfl
  | n + 1, i => by rw [rngD, List.range'_succ, List.map_cons, ← rngD_map n (i + 1)]; rfl
def toN : PyData → Nat
  | .int i => i.toNat
  | _ => 0
theorem perm_back {ys : List PyData} {ks : List Nat} (h : (ks.map fun k => PyData.int (k : Nat)).Perm ys) : ∃ σ : List Nat, σ.Perm ks ∧ ys = σ.map fun k => PyData.int (k : Nat) := by
  refine ⟨ys.map toN, ?_, ?_⟩
  · have := (h.map toN).symm
    rw [List.map_map] at this
    have e : (toN ∘ fun k : Nat => PyData.int (k : Nat)) = id := by funext k; simp [toN]
    rw [e, List.map_id] at this
    exact this
  · rw [List.map_map]
    have : ∀ y ∈ ys, y = ((fun k : Nat => PyData.int (k : Nat)) ∘ toN) y := by
      intro y hy
      obtain ⟨k, _, rfl⟩ := List.mem_map.mp (h.mem_iff.mpr hy)
      simp [toN]
    exact ((List.map_congr_left (fun y hy => (this y hy).symm)).trans (List.map_id ys)).symm
def Mixed (f : Fn) : Prop := ∀ (m : Int) (T : List PyData) (ws : List Int) (g : Int) (xs : List Int), TinOk m T → m < 1000 → ws.length = xs.length → ws.length ≤ 6 →
  ∃ (σ : List Nat) (T' : List PyData), σ.Perm (List.range ws.length) ∧ TinOk (m + 6) T' ∧
    f [.l T, .d (rowD (ws, g, xs))] = .ok (.d (.tuple [eqD (σ.map fun k => ws.getD k 0) g, tI (σ.map fun k => xs.getD k 0)])) [.l T', .d (rowD (ws, g, xs))]
theorem mix_lc {T : List PyData} {σ : List Nat} {xs ws : List Int} {g : Int} {i : Int} {row : List Int} (hi : ixD (rowD (ws, g, xs)) (.int i) = some (tI row)) (hr : ∀ k ∈ σ, k < row.length) (hl : σ.length ≤ 100000) :
    sem ⟨fn, cs, [true, false]⟩ (.lc [3] (.n 3) (.seq (.var 2)) none (.ix (.ix (.var 1) (.lit (.int i))) (.var 3))) [some (.l T), some (.d (rowD (ws, g, xs))), some (.d (.list (σ.map fun k => PyData.int (k : Nat)))), none] =
      .ok (.list ((σ.map fun k => row.getD k 0).map .int)) [some (.l T), some (.d (rowD (ws, g, xs))), some (.d (.list (σ.map fun k => PyData.int (k : Nat)))), none] := by
  have hm : merge [some (.l T), some (.d (rowD (ws, g, xs))), some (.d (.list (σ.map fun k => PyData.int (k : Nat)))), none] (wipeE [some (.l T), some (.d (rowD (ws, g, xs))), some (.d (.list (σ.map fun k => PyData.int (k : Nat)))), none] [3]) = some [some (.l T), some (.d (rowD (ws, g, xs))), some (.d (.list (σ.map fun k => PyData.int (k : Nat)))), none] := merge_self _
  have e1 := sem_lcP (Γ := ⟨fn, cs, [true, false]⟩) (is := [3]) (t := .n 3) (it := .seq (.var 2)) (c := none) (e := .ix (.ix (.var 1) (.lit (.int i))) (.var 3)) (ρ := [some (.l T), some (.d (rowD (ws, g, xs))), some (.d (.list (σ.map fun k => PyData.int (k : Nat)))), none])
    (fun k : Nat => PyData.int (k : Nat)) (fun _ => true) (fun k => PyData.int (row.getD k 0)) σ
    (by rw [semI, r_var (x := .list (σ.map fun k => PyData.int (k : Nat))) rfl]; rfl) rfl hl (fun k hk => ⟨[some (.l T), some (.d (rowD (ws, g, xs))), some (.d (.list (σ.map fun k => PyData.int (k : Nat)))), some (.d (.int k))], _, rfl, rfl, .inr ⟨rfl, [some (.l T), some (.d (rowD (ws, g, xs))), some (.d (.list (σ.map fun k => PyData.int (k : Nat)))), some (.d (.int k))],
      r_ix (r_ix (r_var rfl) r_lit hi) (r_var rfl) (by rw [at_tI (hr k hk)]; simp [hr k hk]), rfl⟩⟩) hm
  rw [filter_tt] at e1
  rw [e1, List.map_map]
  rfl
theorem law_mixed_ok {f0 : Nat} (h0 : Pick (fn f0)) : Mixed (runD cs fn (Lb.law_mixed f0)) := by
  intro m T ws g xs hT hm hl h6
  obtain ⟨ys, rest, T', hy, hP, hT', e0⟩ := h0 m T ((List.range ws.length).map fun k => PyData.int (k : Nat)) ws.length hT (by omega) (by simp) (by simp; omega)
  have hrest : rest = [] := by
    have := hP.length_eq
    simp at this
    exact List.eq_nil_of_length_eq_zero (by omega)
  subst hrest
  rw [List.append_nil] at hP
  obtain ⟨σ, hσ, rfl⟩ := perm_back hP
  have hk : ∀ k ∈ σ, k < ws.length := fun k h => List.mem_range.mp (hσ.mem_iff.mp h)
  have hsl : σ.length = ws.length := by rw [hσ.length_eq]; simp
  refine ⟨σ, T', hσ, hT'.mono (by omega), ?_⟩
  have i0 : ixD (rowD (ws, g, xs)) (.int 0) = some (tI ws) := ix0 _ _
  have i1 : ixD (rowD (ws, g, xs)) (.int 1) = some (.int g) := ix1 _ _ _
  have i2 : ixD (rowD (ws, g, xs)) (.int 2) = some (tI xs) := at_nat (k := 2) rfl
  have l1 : biD .len [tI ws] = some (.int ws.length) := by
    show some (PyData.int ((ws.map PyData.int).length : Nat)) = _
    rw [List.length_map]
  have g1 : biD .rngL [.int ws.length] = some (.list ((List.range ws.length).map fun k => PyData.int (k : Nat))) := by
    show (if decide (0 ≤ (ws.length : Int) ∧ (ws.length : Int) ≤ 100000) = true then _ else _) = _
    rw [if_pos (decide_eq_true ⟨by omega, by omega⟩), Int.toNat_natCast]
  have q1 := mix_lc (cs := cs) (fn := fn) (T := T') (σ := σ) (xs := xs) (ws := ws) (g := g) i0 hk (by omega)
  have q2 := mix_lc (cs := cs) (fn := fn) (T := T') (σ := σ) (xs := xs) (ws := ws) (g := g) i2 (fun k h => by rw [← hl]; exact hk k h) (by omega)
  refine run_rtO (xs := [rowD (ws, g, xs)]) rfl (Nat.le_of_ble_eq_true rfl) (ρ' := [some (.d (rowD (ws, g, xs))), some (.d (.list (σ.map fun k => PyData.int (k : Nat)))), none]) ?_ (Nat.le_of_ble_eq_true rfl)
  unfold Lb.law_mixed
  refine (ss_nx (ρ1 := [some (.l T'), some (.d (rowD (ws, g, xs))), some (.d (.list (σ.map fun k => PyData.int (k : Nat)))), none]) ?_).trans ?_
  · refine s_set (ρ1 := [some (.l T'), some (.d (rowD (ws, g, xs))), none, none]) ?_ rfl
    refine r_callO (xs := [.list ((List.range ws.length).map fun k => PyData.int (k : Nat)), .int ws.length]) rfl rfl (l_cons (r_bi (l_cons (r_bi (l_cons (r_ix (r_var rfl) r_lit i0) l_nil) l1) l_nil) g1) (l_cons (r_bi (l_cons (r_ix (r_var rfl) r_lit i0) l_nil) l1) l_nil)) rfl e0
  have u1 : ∀ zs : List Int, biD .tup [.list (zs.map .int)] = some (tI zs) := fun _ => rfl
  exact ss_rt (s_ret (r_tup (l_cons (r_tup (l_cons (r_bi (l_cons q1 l_nil) (u1 _)) (l_cons (r_ix (r_var rfl) r_lit i1) l_nil))) (l_cons (r_bi (l_cons q2 l_nil) (u1 _)) l_nil))))
end
end Pu
end
section
namespace Pu
open PySem F3
section
variable {cs : List Int} {fn : Nat → Fn}
def Drawn (f : Fn) : Prop := ∀ (m : Int) (T : List PyData) (long : Int), TinOk m T → m < 900 → 3 ≤ long →
  ∃ (r : List Int × Int × List Int) (σ : List Nat) (T' : List PyData), r ∈ KN ∧ (r.1.length : Int) ≤ long ∧ σ.Perm (List.range r.1.length) ∧ TinOk (m + 7) T' ∧
    f [.l T, .d (.int long)] = .ok (.d (.tuple [eqD (σ.map fun k => r.1.getD k 0) r.2.1, tI (σ.map fun k => r.2.2.getD k 0)])) [.l T', .d (.int long)]
theorem KN_len : ∀ r ∈ KN, r.1.length = r.2.2.length ∧ r.1.length ≤ 6 := by decide
theorem law_drawn_ok {f0 f1 f2 : Nat} (h0 : Mixed (fn f0)) (h1 : LawOf (fn f1)) (h2 : LawKnown (fn f2)) : Drawn (runD cs fn (Lb.law_drawn f0 f1 f2)) := by
  intro m T long hT hm hlong
  have hk : (fn f2) [] = .ok (.d (.list (KN.map rowD))) [] := h2
  have lc := sem_lcP (Γ := ⟨fn, cs, [true, false]⟩) (is := [2]) (t := .n 2) (it := .seq (.call f2 [])) (c := some (.cmp .le (.bi .len [(.ix (.var 2) (.lit (.int 0)))]) (.var 1))) (e := .var 2) (ρ := [some (.l T), some (.d (.int long)), none])
    rowD (fun r => decide ((r.1.length : Int) ≤ long)) rowD KN
    (by rw [semI, r_call (xs := []) (z := .list (KN.map rowD)) rfl l_nil hk]; rfl) rfl (by decide) (fun r hr => ⟨[some (.l T), some (.d (.int long)), some (.d (rowD r))], [some (.l T), some (.d (.int long)), some (.d (rowD r))], rfl, by
      have l1 : biD .len [tI r.1] = some (.int r.1.length) := by
        show some (PyData.int ((r.1.map PyData.int).length : Nat)) = _
        rw [List.length_map]
      have i0 : ixD (rowD r) (.int 0) = some (tI r.1) := ix0 _ _
      exact t_cmp (r_bi (l_cons (r_ix (r_var rfl) r_lit i0) l_nil) l1) (r_var rfl) (cmp_le _ _), by
      by_cases hd : (r.1.length : Int) ≤ long
      · exact .inr ⟨decide_eq_true hd, _, r_var rfl, rfl⟩
      · exact .inl ⟨decide_eq_false hd, rfl⟩⟩) rfl
  have hne : (KN.filter fun r => decide ((r.1.length : Int) ≤ long)).map rowD ≠ [] := by
    intro h
    have h3 : ([1, 1, 1], 3, [1, 1, 1]) ∈ KN.filter fun r => decide ((r.1.length : Int) ≤ long) := List.mem_filter.mpr ⟨by decide, decide_eq_true hlong⟩
    rw [List.map_eq_nil_iff.mp h] at h3
    cases h3
  obtain ⟨G, hG⟩ : ∃ G, G = (KN.filter fun r => decide ((r.1.length : Int) ≤ long)).map rowD := ⟨_, rfl⟩
  rw [← hG] at lc hne
  obtain ⟨x, T1, hx, hT1, e1⟩ := h1 m T G hT (by omega) hne (by rw [hG, List.length_map]; exact Nat.le_trans (List.length_filter_le _ _) (by decide))
  rw [hG] at hx
  obtain ⟨r, hr, rfl⟩ := List.mem_map.mp hx
  obtain ⟨hr1, hr2⟩ := List.mem_filter.mp hr
  obtain ⟨σ, T', hσ, hT', e2⟩ := h0 (m + 1) T1 r.1 r.2.1 r.2.2 hT1 (by omega) (KN_len r hr1).1 (KN_len r hr1).2
  refine ⟨r, σ, T', hr1, of_decide_eq_true hr2, hσ, hT'.mono (by omega), ?_⟩
  refine run_rtO (xs := [.int long]) rfl (Nat.le_of_ble_eq_true rfl) (ρ' := [some (.d (.int long)), none]) ?_ (Nat.le_of_ble_eq_true rfl)
  unfold Lb.law_drawn
  refine ss_rt (s_ret ?_)
  refine r_callO (xs := [rowD r]) (T := T1) (ρ1 := [some (.l T1), some (.d (.int long)), none]) rfl rfl (l_cons ?_ l_nil) rfl e2
  exact r_callO (xs := [.list G]) (T := T) (ρ1 := [some (.l T), some (.d (.int long)), none]) rfl rfl (l_cons lc l_nil) rfl e1
end
end Pu
end
section
namespace Pu
open PySem F3
section
variable {cs : List Int} {fn : Nat → Fn}
/-- how tall at most, for so many places -/
def tallOf (n : Nat) : Nat := [0, 0, 0, 9, 6, 5, 4].getD n 0
def Tall (f : Fn) : Prop := ∀ (m : Int) (T : List PyData) (ws : List Int) (g : Int), TinOk m T → m < 900 → 3 ≤ ws.length → ws.length ≤ 6 → ∃ (d : Nat) (T' : List PyData), d < tallOf ws.length ∧ TinOk (m + 1) T' ∧ f [.l T, .d (eqD ws g)] = .ok (.d (.int d)) [.l T', .d (eqD ws g)]
theorem law_tall_ok {f0 : Nat} (h0 : Take (fn f0)) : Tall (runD cs fn (Lb.law_tall f0)) := by
  intro m T ws g hT hm h3 h6
  have ht : 1 ≤ tallOf ws.length ∧ tallOf ws.length ≤ 9 ∧ ixD (.list ([0, 0, 0, 9, 6, 5, 4].map PyData.int)) (.int ws.length) = some (.int (tallOf ws.length)) := by
    generalize ws.length = n at h3 h6
    have : n = 3 ∨ n = 4 ∨ n = 5 ∨ n = 6 := by omega
    rcases this with rfl | rfl | rfl | rfl <;> exact ⟨by decide, by decide, at_natL rfl⟩
  obtain ⟨t1, t2, i1⟩ := ht
  obtain ⟨d, T', d0, d1, hT', e0⟩ := h0 m T (tallOf ws.length) hT (by omega) (by omega) (by omega)
  obtain ⟨k, rfl⟩ := Int.eq_ofNat_of_zero_le d0
  refine ⟨k, T', by omega, hT', ?_⟩
  have l1 : biD .len [tI ws] = some (.int ws.length) := by
    show some (PyData.int ((ws.map PyData.int).length : Nat)) = _
    rw [List.length_map]
  have q0 := eq0 ws g
  refine run_rtO (xs := [eqD ws g]) rfl (Nat.le_of_ble_eq_true rfl) (ρ' := [some (.d (eqD ws g))]) ?_ (Nat.le_of_ble_eq_true rfl)
  unfold Lb.law_tall
  refine ss_rt (s_ret ?_)
  refine r_callO (xs := [.int (tallOf ws.length)]) (T := T) (ρ1 := [some (.l T), some (.d (eqD ws g))]) rfl rfl (l_cons ?_ l_nil) rfl e0
  exact r_ix (r_lst (l_cons r_lit (l_cons r_lit (l_cons r_lit (l_cons r_lit (l_cons r_lit (l_cons r_lit (l_cons r_lit l_nil)))))))) (r_bi (l_cons (r_ix (r_var rfl) r_lit q0) l_nil) l1) i1
end
end Pu
end
section
namespace Pu
/-! ### products and shares, a place taken out -/
theorem foldl_mul (xs : List Int) : ∀ a : Int, xs.foldl (· * ·) a = a * pr xs := by
  unfold pr
  induction xs with
  | nil => intro a; simp
  | cons x r ih => intro a; rw [List.foldl_cons, List.foldl_cons, ih (a * x), ih (1 * x)]; grind
theorem pr_nil : pr [] = 1 := rfl
theorem pr_cons (x : Int) (xs : List Int) : pr (x :: xs) = x * pr xs := by
  show xs.foldl (· * ·) (1 * x) = _
  rw [foldl_mul, Int.one_mul]
theorem pr_app (xs ys : List Int) : pr (xs ++ ys) = pr xs * pr ys := by
  induction xs with
  | nil => rw [List.nil_append, pr_nil, Int.one_mul]
  | cons x r ih => rw [List.cons_append, pr_cons, pr_cons, ih, Int.mul_assoc]
theorem pr_perm {xs ys : List Int} (h : xs.Perm ys) : pr xs = pr ys := by
  induction h with
  | nil => rfl
  | cons x _ ih => rw [pr_cons, pr_cons, ih]
  | swap x y l => simp only [pr_cons]; grind
  | trans _ _ h1 h2 => rw [h1, h2]
theorem pr_pos {xs : List Int} (h : ∀ x ∈ xs, 1 ≤ x) : 1 ≤ pr xs := by
  induction xs with
  | nil => decide
  | cons x r ih =>
    rw [pr_cons]
    have h1 := h x (by simp)
    have h2 := ih fun y hy => h y (by simp [hy])
    have := Int.mul_pos (show 0 < x by omega) (show 0 < pr r by omega)
    omega
theorem pr_erase : ∀ (xs : List Int) (k : Nat), k < xs.length → pr xs = xs.getD k 0 * pr (xs.eraseIdx k)
  | [], k, h => by simp at h
  | x :: r, 0, _ => by rw [pr_cons]; rfl
  | x :: r, k + 1, h => by
    rw [pr_cons, pr_erase r k (by simpa using h), List.eraseIdx_cons_succ, pr_cons, List.getD_cons_succ]
    grind
theorem shr_cons (w x : Int) (ws xs : List Int) : shr (w :: ws) (x :: xs) = w * x * x :: shr ws xs := rfl
theorem shr_len : ∀ {ws xs : List Int}, xs.length = ws.length → (shr ws xs).length = ws.length := by
  intro ws xs h
  simp [shr, h]
theorem shr_at : ∀ (ws xs : List Int) (k : Nat), xs.length = ws.length → k < ws.length → (shr ws xs).getD k 0 = ws.getD k 1 * xs.getD k 0 * xs.getD k 0
  | [], xs, k, h, hk => by simp at hk
  | w :: ws, [], k, h, hk => by simp at h
  | w :: ws, x :: xs, 0, h, hk => rfl
  | w :: ws, x :: xs, k + 1, h, hk => by
    rw [shr_cons, List.getD_cons_succ, List.getD_cons_succ, List.getD_cons_succ]
    exact shr_at ws xs k (by simpa using h) (by simpa using hk)
theorem shr_erase : ∀ (ws xs : List Int) (k : Nat), xs.length = ws.length → (shr ws xs).eraseIdx k = shr (ws.eraseIdx k) (xs.eraseIdx k)
  | [], xs, k, h => by
    have : xs = [] := by simpa using h
    subst this
    rfl
  | w :: ws, [], k, h => by simp at h
  | w :: ws, x :: xs, 0, h => rfl
  | w :: ws, x :: xs, k + 1, h => by
    rw [shr_cons, List.eraseIdx_cons_succ, List.eraseIdx_cons_succ, List.eraseIdx_cons_succ, shr_cons, shr_erase ws xs k (by simpa using h)]
theorem shr_set : ∀ (ws xs : List Int) (k : Nat) (y : Int), xs.length = ws.length → shr ws (xs.set k y) = (shr ws xs).set k (ws.getD k 1 * y * y)
  | [], xs, k, y, h => by
    have : xs = [] := by simpa using h
    subst this
    rfl
  | w :: ws, [], k, y, h => by simp at h
  | w :: ws, x :: xs, 0, y, h => rfl
  | w :: ws, x :: xs, k + 1, y, h => by
    rw [List.set_cons_succ, shr_cons, shr_cons, List.set_cons_succ, List.getD_cons_succ, shr_set ws xs k y (by simpa using h)]
theorem sum_erase : ∀ (s : List Int) (k : Nat), k < s.length → s.sum = s.getD k 0 + (s.eraseIdx k).sum
  | [], k, h => by simp at h
  | x :: r, 0, _ => by simp
  | x :: r, k + 1, h => by
    rw [List.sum_cons, sum_erase r k (by simpa using h), List.eraseIdx_cons_succ, List.sum_cons, List.getD_cons_succ]
    omega
theorem erase_td (xs : List Int) (k : Nat) : xs.take k ++ xs.drop (k + 1) = xs.eraseIdx k := (List.eraseIdx_eq_take_drop_succ xs k).symm
theorem flr_set {ws xs : List Int} {g : Int} {k : Nat} (hk : k < xs.length) : flr ws g xs k = xs.set k (flp ws g xs k) := by
  unfold flr
  rw [List.set_eq_take_append_cons_drop, if_pos hk]
  simp
theorem getD_mem {xs : List Int} {k : Nat} {d : Int} (h : k < xs.length) : xs.getD k d ∈ xs := by
  have e : xs.getD k d = xs[k] := by simp [h]
  rw [e]
  exact List.getElem_mem h
theorem getD_set_self {xs : List Int} {k : Nat} {d y : Int} (h : k < xs.length) : (xs.set k y).getD k d = y := by
  simp [h]
theorem getD_set_ne {xs : List Int} {j k : Nat} {d y : Int} (h : k ≠ j) : (xs.set k y).getD j d = xs.getD j d := by
  simp [List.getD, List.getElem?_set, h]
/-- a solution in numbers from one on, of any size -/
structure Pos (ws : List Int) (g : Int) (xs : List Int) : Prop where
  l : xs.length = ws.length
  x : ∀ x ∈ xs, 1 ≤ x
  e : (shr ws xs).sum = g * pr xs
theorem SolOk.pos {ws xs : List Int} {g B : Int} (S : SolOk ws g xs B) : Pos ws g xs := ⟨S.l, fun x h => (S.x x h).1, S.e⟩
theorem Pos.sol {ws xs : List Int} {g B : Int} (S : Pos ws g xs) (h : ∀ x ∈ xs, x < B) : SolOk ws g xs B := ⟨S.l, fun x hx => ⟨S.x x hx, h x hx⟩, S.e⟩
theorem Pos.at {ws xs : List Int} {g : Int} (S : Pos ws g xs) {k : Nat} (hk : k < ws.length) : 1 ≤ xs.getD k 0 := S.x _ (getD_mem (by rw [S.l]; exact hk))
theorem EqOk.at {ws : List Int} {g : Int} (E : EqOk ws g) {k : Nat} (hk : k < ws.length) : 1 ≤ ws.getD k 1 := (E.w _ (getD_mem hk)).1
theorem EqOk.dv' {ws : List Int} {g : Int} (E : EqOk ws g) {k : Nat} (hk : k < ws.length) : ws.getD k 1 * (g / ws.getD k 1) = g := by
  have h := E.dv _ (getD_mem (d := 1) hk)
  exact Int.mul_ediv_cancel' (Int.dvd_of_emod_eq_zero h)
theorem shr_pos {ws xs : List Int} {g : Int} (hw : ∀ w ∈ ws, 1 ≤ w) (hx : ∀ x ∈ xs, 1 ≤ x) : ∀ s ∈ shr ws xs, 1 ≤ s := by
  intro s hs
  obtain ⟨p, hp, rfl⟩ := List.mem_map.mp hs
  obtain ⟨h1, h2⟩ := List.of_mem_zip hp
  have a := hw _ h1
  have b := hx _ h2
  have c := Int.mul_pos (show 0 < p.1 by omega) (show 0 < p.2 by omega)
  have d := Int.mul_pos c (show 0 < p.2 by omega)
  show 1 ≤ p.1 * p.2 * p.2
  omega
theorem mem_erase {α : Type} {xs : List α} {k : Nat} {x : α} (h : x ∈ xs.eraseIdx k) : x ∈ xs := List.mem_of_mem_eraseIdx h
theorem sum_pos {s : List Int} (h : ∀ x ∈ s, 1 ≤ x) : (s.length : Int) ≤ s.sum := by
  induction s with
  | nil => simp
  | cons x r ih =>
    have := h x (by simp)
    have := ih fun y hy => h y (by simp [hy])
    rw [List.sum_cons, List.length_cons]
    omega
/-- what one place's number is to the others: w x x' is the rest of the shares -/
structure Fl (ws : List Int) (g : Int) (xs : List Int) (k : Nat) : Prop where
  /-- the rest of the shares -/
  r : ws.getD k 1 * xs.getD k 0 * flp ws g xs k = ((shr ws xs).eraseIdx k).sum
  /-- the sum of both numbers -/
  s : ws.getD k 1 * (xs.getD k 0 + flp ws g xs k) = g * pr (xs.eraseIdx k)
  pos : 1 ≤ flp ws g xs k
  new : Pos ws g (flr ws g xs k)
theorem Pos.fl {ws xs : List Int} {g : Int} (E : EqOk ws g) (S : Pos ws g xs) {k : Nat} (hk : k < ws.length) : Fl ws g xs k := by
  have hkx : k < xs.length := by rw [S.l]; exact hk
  have hw := E.at hk
  have hx := S.at hk
  have dv := E.dv' hk
  have e := S.e
  have hs : k < (shr ws xs).length := by rw [shr_len S.l]; exact hk
  rw [sum_erase _ k hs, shr_at ws xs k S.l hk, pr_erase xs k hkx] at e
  have hf : flp ws g xs k = g / ws.getD k 1 * pr (xs.eraseIdx k) - xs.getD k 0 := by unfold flp; rw [erase_td]
  have hs2 : ws.getD k 1 * (xs.getD k 0 + flp ws g xs k) = g * pr (xs.eraseIdx k) := by
    rw [hf]
    generalize pr (xs.eraseIdx k) = P at *
    generalize xs.getD k 0 = x at *
    generalize ws.getD k 1 = w at *
    generalize g / w = q at *
    subst dv
    grind
  have hr : ws.getD k 1 * xs.getD k 0 * flp ws g xs k = ((shr ws xs).eraseIdx k).sum := by
    generalize pr (xs.eraseIdx k) = P at *
    generalize xs.getD k 0 = x at *
    generalize ws.getD k 1 = w at *
    generalize flp ws g xs k = y at *
    generalize ((shr ws xs).eraseIdx k).sum = R at *
    grind
  have hR : 1 ≤ ((shr ws xs).eraseIdx k).sum := by
    have h1 := sum_pos (s := (shr ws xs).eraseIdx k) fun z hz => shr_pos (g := g) (fun w h => (E.w w h).1) S.x z (mem_erase hz)
    rw [List.length_eraseIdx_of_lt hs, shr_len S.l] at h1
    have := E.l1
    omega
  have hp : 1 ≤ flp ws g xs k := by
    rw [← hr] at hR
    by_cases h : 1 ≤ flp ws g xs k
    · exact h
    · exfalso
      have h0 : 0 ≤ ws.getD k 1 * xs.getD k 0 := Int.mul_nonneg (by omega) (by omega)
      have := Int.mul_nonneg h0 (show 0 ≤ - flp ws g xs k by omega)
      rw [Int.mul_neg] at this
      omega
  refine ⟨hr, hs2, hp, ?_⟩
  rw [flr_set hkx]
  refine ⟨by rw [List.length_set]; exact S.l, fun x h => ?_, ?_⟩
  · rcases List.mem_or_eq_of_mem_set h with h | h
    · exact S.x x h
    · omega
  · have l2 : (xs.set k (flp ws g xs k)).length = ws.length := by rw [List.length_set]; exact S.l
    rw [sum_erase _ k (by rw [shr_len l2]; exact hk), shr_set _ _ _ _ S.l, List.eraseIdx_set_eq, getD_set_self hs, pr_erase _ k (by rw [List.length_set]; exact hkx), List.eraseIdx_set_eq, getD_set_self hkx, ← hr]
    generalize pr (xs.eraseIdx k) = P at *
    generalize xs.getD k 0 = x at *
    generalize ws.getD k 1 = w at *
    generalize flp ws g xs k = y at *
    grind
end Pu
end
section
namespace Pu
/-! ### great places -/
theorem fst_some {p : Int → Bool} : ∀ {s : List Int} {k : Nat} (n : Nat), k < s.length → p (s.getD k 0) = true → (∀ j, j < k → p (s.getD j 0) = false) → fst' p s n = some (n + k)
  | [], k, n, h, _, _ => by simp at h
  | a :: r, 0, n, _, hp, _ => by
    have : p a = true := hp
    simp [fst', this]
  | a :: r, k + 1, n, h, hp, hn => by
    have h0 : p a = false := hn 0 (by omega)
    have ih := fst_some (p := p) (s := r) (k := k) (n + 1) (by simpa using h) (by simpa using hp) fun j hj => by simpa using hn (j + 1) (by omega)
    simp only [fst', h0]
    rw [show n + (k + 1) = n + 1 + k by omega]
    simpa using ih
theorem fst_none {p : Int → Bool} : ∀ {s : List Int} (n : Nat), (∀ j, j < s.length → p (s.getD j 0) = false) → fst' p s n = none
  | [], n, _ => rfl
  | a :: r, n, h => by
    have h0 : p a = false := h 0 (by simp)
    have ih := fst_none (p := p) (s := r) (n + 1) fun j hj => by simpa using h (j + 1) (by simpa using hj)
    simp only [fst', h0]
    simpa using ih
theorem fst_of_some {p : Int → Bool} : ∀ {s : List Int} {k : Nat} (n : Nat), fst' p s n = some (n + k) → k < s.length ∧ p (s.getD k 0) = true
  | [], k, n, h => by cases h
  | a :: r, k, n, h => by
    by_cases ha : p a = true
    · simp only [fst', ha, if_true] at h
      have : k = 0 := by injection h with h; omega
      subst this
      exact ⟨by simp, ha⟩
    · simp only [fst', ha] at h
      cases k with
      | zero =>
        have g : ∀ (r : List Int) (m j : Nat), fst' p r m = some j → m ≤ j := by
          intro r
          induction r with
          | nil => intro m j h; cases h
          | cons b r ih =>
            intro m j h
            by_cases hb : p b = true
            · simp only [fst', hb, if_true] at h; injection h with h; omega
            · simp only [fst', hb] at h
              have := ih (m + 1) j (by simpa using h)
              omega
        have := g r (n + 1) (n + 0) (by simpa using h)
        omega
      | succ k =>
        have ih := fst_of_some (p := p) (s := r) (k := k) (n + 1) (by rw [show n + 1 + k = n + (k + 1) by omega]; simpa using h)
        exact ⟨by simpa using ih.1, by simpa using ih.2⟩
theorem fst_of_none {p : Int → Bool} : ∀ {s : List Int} {k : Nat} (n : Nat), fst' p s n = none → k < s.length → p (s.getD k 0) = false
  | [], k, n, _, h => by simp at h
  | a :: r, k, n, h, hk => by
    by_cases ha : p a = true
    · simp only [fst', ha, if_true] at h; cases h
    · simp only [fst', ha] at h
      cases k with
      | zero => simpa using ha
      | succ k => simpa using fst_of_none (p := p) (s := r) (k := k) (n + 1) (by simpa using h) (by simpa using hk)
theorem le_sum {s : List Int} (h : ∀ x ∈ s, 1 ≤ x) {x : Int} (hx : x ∈ s) : x + ((s.length : Int) - 1) ≤ s.sum := by
  induction s with
  | nil => cases hx
  | cons a r ih =>
    have h1 := h a (by simp)
    have h2 := sum_pos (s := r) fun y hy => h y (by simp [hy])
    rw [List.sum_cons, List.length_cons]
    rcases List.mem_cons.mp hx with rfl | hx
    · omega
    · have := ih (fun y hy => h y (by simp [hy])) hx
      omega
theorem two_lt {s : List Int} (h : ∀ x ∈ s, 1 ≤ x) {j k : Nat} (hj : j < s.length) (hk : k < s.length) (hne : j ≠ k) : s.getD j 0 + s.getD k 0 + ((s.length : Int) - 2) ≤ s.sum := by
  rw [sum_erase s k hk]
  have hm : s.getD j 0 ∈ s.eraseIdx k := by
    have e : s.getD j 0 = s[j] := by simp [hj]
    rw [e]
    exact List.mem_eraseIdx_iff_getElem.mpr ⟨j, hj, hne, rfl⟩
  have := le_sum (s := s.eraseIdx k) (fun x hx => h x (mem_erase hx)) hm
  rw [List.length_eraseIdx_of_lt hk] at this
  omega
section
variable {ws xs : List Int} {g : Int} {k j : Nat}
theorem Pos.shr1 (E : EqOk ws g) (S : Pos ws g xs) : ∀ s ∈ shr ws xs, 1 ≤ s := shr_pos (g := g) (fun w h => (E.w w h).1) S.x
/-- a place's share is more than all others -/
def Big (ws xs : List Int) (k : Nat) : Prop := k < ws.length ∧ (shr ws xs).sum < (shr ws xs).getD k 0 + (shr ws xs).getD k 0
theorem Big.uniq (E : EqOk ws g) (S : Pos ws g xs) (B : Big ws xs k) (hj : j < ws.length) (hne : j ≠ k) : (shr ws xs).getD j 0 + (shr ws xs).getD j 0 < (shr ws xs).sum := by
  have hl := shr_len S.l
  have := two_lt (S.shr1 E) (by rw [hl]; exact hj) (by rw [hl]; exact B.1) hne
  have h1 := B.2
  have := E.l1
  omega
theorem Big.low (E : EqOk ws g) (S : Pos ws g xs) (B : Big ws xs k) : low ws xs = some k := by
  have hl := shr_len S.l
  have := fst_some (p := fun a => decide ((shr ws xs).sum < a + a)) (s := shr ws xs) (k := k) 0 (by rw [hl]; exact B.1) (decide_eq_true B.2) fun j hj => decide_eq_false (by
    have := B.uniq E S (j := j) (by have := B.1; omega) (by omega)
    omega)
  rw [Nat.zero_add] at this
  exact this
theorem low_big (S : Pos ws g xs) (h : low ws xs = some k) : Big ws xs k := by
  have hl := shr_len S.l
  have := fst_of_some (p := fun a => decide ((shr ws xs).sum < a + a)) (s := shr ws xs) (k := k) 0 (by rw [Nat.zero_add]; exact h)
  exact ⟨by rw [← hl]; exact this.1, of_decide_eq_true this.2⟩
theorem low_none (S : Pos ws g xs) (h : low ws xs = none) (hj : j < ws.length) : (shr ws xs).getD j 0 + (shr ws xs).getD j 0 ≤ (shr ws xs).sum := by
  have hl := shr_len S.l
  have := fst_of_none (p := fun a => decide ((shr ws xs).sum < a + a)) (s := shr ws xs) (k := j) 0 h (by rw [hl]; exact hj)
  have := of_decide_eq_false this
  omega
theorem none_low (S : Pos ws g xs) (h : ∀ j, j < ws.length → (shr ws xs).getD j 0 + (shr ws xs).getD j 0 ≤ (shr ws xs).sum) : low ws xs = none := by
  have hl := shr_len S.l
  refine fst_none 0 fun j hj => decide_eq_false ?_
  have := h j (by rw [← hl]; exact hj)
  omega
/-- kinds of flips, by shares and by numbers -/
theorem Fl.lt (E : EqOk ws g) (S : Pos ws g xs) (F : Fl ws g xs k) (hk : k < ws.length) : ((shr ws xs).getD k 0 + (shr ws xs).getD k 0 < (shr ws xs).sum ↔ xs.getD k 0 < flp ws g xs k) ∧ ((shr ws xs).getD k 0 + (shr ws xs).getD k 0 = (shr ws xs).sum ↔ xs.getD k 0 = flp ws g xs k) := by
  have hw := E.at hk
  have hx := S.at hk
  have r := F.r
  have hs : k < (shr ws xs).length := by rw [shr_len S.l]; exact hk
  rw [sum_erase _ k hs, ← r, shr_at ws xs k S.l hk]
  generalize xs.getD k 0 = x at *
  generalize ws.getD k 1 = w at *
  generalize flp ws g xs k = y at *
  have hwx : 0 < w * x := Int.mul_pos (by omega) (by omega)
  constructor
  · constructor
    · intro h
      have : w * x * x < w * x * y := by omega
      exact Int.lt_of_mul_lt_mul_left this (by omega)
    · intro h
      have := Int.mul_lt_mul_of_pos_left h hwx
      omega
  · constructor
    · intro h
      have : w * x * x = w * x * y := by omega
      exact Int.eq_of_mul_eq_mul_left (by omega) this
    · intro h
      subst h
      omega
/-- behind a flip that raises its place is great -/
theorem Fl.big (E : EqOk ws g) (S : Pos ws g xs) (F : Fl ws g xs k) (hk : k < ws.length) (h : xs.getD k 0 < flp ws g xs k) : Big ws (flr ws g xs k) k := by
  have hw := E.at hk
  have hkx : k < xs.length := by rw [S.l]; exact hk
  have hs : k < (shr ws xs).length := by rw [shr_len S.l]; exact hk
  refine ⟨hk, ?_⟩
  rw [flr_set hkx, shr_set _ _ _ _ S.l, sum_erase _ k (by rw [List.length_set]; exact hs), List.eraseIdx_set_eq, getD_set_self hs, ← F.r]
  have hp := F.pos
  generalize xs.getD k 0 = x at *
  generalize ws.getD k 1 = w at *
  generalize flp ws g xs k = y at *
  have h2 : 0 < w * y := Int.mul_pos (by omega) (by omega)
  have h3 := Int.mul_lt_mul_of_pos_left h h2
  have h4 : w * x * y = w * y * x := by grind
  omega
/-- a flip twice -/
theorem flp_flr (hk : k < xs.length) : flp ws g (flr ws g xs k) k = xs.getD k 0 := by
  rw [flr_set hk]
  unfold flp
  rw [erase_td, erase_td, List.eraseIdx_set_eq, getD_set_self hk]
  omega
theorem flr_flr (hk : k < xs.length) : flr ws g (flr ws g xs k) k = xs := by
  rw [flr_set (by rw [flr_set hk, List.length_set]; exact hk), flp_flr hk, flr_set hk, List.set_set]
  have e : xs.getD k 0 = xs[k] := by simp [hk]
  rw [e]
  exact List.set_getElem_self hk
theorem flr_len (hk : k < xs.length) : (flr ws g xs k).length = xs.length := by rw [flr_set hk, List.length_set]
/-- a way down that may be gone up: the next letter raises -/
theorem Dn.pos {ys : List Int} {v : List Nat} : ∀ {xs : List Int}, Dn ws g xs v ys → True := fun _ => trivial
theorem raise_of {ys : List Int} {v : List Nat} (E : EqOk ws g) (S : Pos ws g xs) (D : Dn ws g xs v ys) (hk : k < ws.length) (h1 : ∀ p ∈ v.head?, k ≠ p) (h2 : v = [] → flp ws g xs k ≠ xs.getD k 0) : xs.getD k 0 < flp ws g xs k := by
  have F := S.fl E hk
  have K := F.lt E S hk
  refine K.1.mp ?_
  cases v with
  | nil =>
    have a := low_none S D.2.1 hk
    have b : ¬ (shr ws xs).getD k 0 + (shr ws xs).getD k 0 = (shr ws xs).sum := fun h => h2 rfl (K.2.mp h).symm
    omega
  | cons p r => exact (low_big S D.2.1).uniq E S hk (h1 p rfl)
/-- up a cut word: the way back down is the word turned about -/
theorem up_dn {root : List Int} (E : EqOk ws g) : ∀ (w : List Nat) (xs : List Int) (v : List Nat), Pos ws g xs → Dn ws g xs v root → WOk ws g xs w → (∀ k ∈ w.head?, (∀ p ∈ v.head?, k ≠ p) ∧ (v = [] → flp ws g xs k ≠ xs.getD k 0)) → Cut w →
    Dn ws g (wlk ws g xs w) (w.reverse ++ v) root ∧ Pos ws g (wlk ws g xs w)
  | [], xs, v, S, D, _, _, _ => ⟨D, S⟩
  | k :: r, xs, v, S, D, W, h, C => by
    obtain ⟨R, hk, hB, W⟩ := W
    obtain ⟨h1, h2⟩ := h k rfl
    have F := S.fl E hk
    have up := raise_of E S D hk h1 h2
    have B := F.big E S hk up
    have hkx : k < xs.length := by rw [S.l]; exact hk
    have R' : RowB ws (flr ws g xs k) := by
      cases r with
      | nil => exact W
      | cons _ _ => exact W.1
    have D' : Dn ws g (flr ws g xs k) (k :: v) root := by
      refine ⟨R', B.low E F.new, hk, ?_, by rw [flr_flr hkx]; exact D⟩
      rw [flp_flr hkx]
      exact (R.x _ (getD_mem hkx)).2
    have C' : Cut r := by
      intro p hp
      cases r with
      | nil => cases hp
      | cons j t => exact C p (by simp only [List.drop_succ_cons, List.drop_zero] at hp ⊢; exact List.mem_cons_of_mem _ hp)
    have hn : ∀ j ∈ r.head?, (∀ p ∈ (k :: v).head?, j ≠ p) ∧ (k :: v = [] → flp ws g (flr ws g xs k) j ≠ (flr ws g xs k).getD j 0) := by
      intro j hj
      cases r with
      | nil => cases hj
      | cons i t =>
        cases hj
        refine ⟨fun p hp => ?_, fun z => by cases z⟩
        cases hp
        exact (C (k, _) (List.mem_cons_self)).symm
    have := up_dn E r (flr ws g xs k) (k :: v) F.new D' W hn C'
    rw [List.reverse_cons, List.append_assoc]
    exact this
end
end Pu
end
section
namespace Pu
/-! ### bounds on products of some shares -/
theorem pr_shr : ∀ (ws xs : List Int), xs.length = ws.length → pr (shr ws xs) = pr ws * pr xs * pr xs
  | [], xs, h => by
    have : xs = [] := by simpa using h
    subst this
    rfl
  | w :: ws, [], h => by simp at h
  | w :: ws, x :: xs, h => by
    rw [shr_cons, pr_cons, pr_cons, pr_cons, pr_shr ws xs (by simpa using h)]
    generalize pr ws = a
    generalize pr xs = b
    grind
/-- each product of some of the numbers is at most this, by how many they are -/
def PB (n : Nat) (E : List Int) (s : List Int) : Prop := ∀ t r : List Int, s.Perm (t ++ r) → t.length < n → pr t ≤ E.getD t.length 0
theorem PB.perm {n : Nat} {E s s' : List Int} (h : PB n E s) (p : s'.Perm s) : PB n E s' := fun t r hp hl => h t r (p.symm.trans hp) hl
/-- the greatest product of so many -/
def mx : List Int → Nat → Int
  | _, 0 => 1
  | [], _ + 1 => 0
  | a :: s, m + 1 => max (a * mx s m) (mx s (m + 1))
def startE (s : List Int) : List Int := (List.range s.length).map (mx s)
theorem perm_at' {α : Type} : ∀ (xs : List α) (k : Nat) (h : k < xs.length), xs.Perm (xs[k] :: xs.eraseIdx k)
  | x :: xs, 0, _ => List.Perm.refl _
  | x :: xs, k + 1, h => ((perm_at' xs k (by simpa using h)).cons x).trans (List.Perm.swap _ _ _)
theorem perm_in {y : Int} {s t r : List Int} (h : (y :: s).Perm (t ++ r)) : (∃ t1, t.Perm (y :: t1) ∧ s.Perm (t1 ++ r)) ∨ (∃ r1, r.Perm (y :: r1) ∧ s.Perm (t ++ r1)) := by
  have hy : y ∈ t ++ r := h.mem_iff.mp (by simp)
  rcases List.mem_append.mp hy with hy | hy
  · have p := List.perm_cons_erase hy
    exact .inl ⟨t.erase y, p, (h.trans (p.append_right r)).cons_inv⟩
  · have p := List.perm_cons_erase hy
    exact .inr ⟨r.erase y, p, (h.trans ((p.append_left t).trans List.perm_middle)).cons_inv⟩
theorem mx_le : ∀ (s : List Int), (∀ x ∈ s, 1 ≤ x) → ∀ t r, s.Perm (t ++ r) → pr t ≤ mx s t.length
  | [], _, t, r, h => by
    have := h.symm.eq_nil
    have : t = [] := by simp at this; exact this.1
    subst this
    exact Int.le_refl _
  | a :: s, hp, t, r, h => by
    have ih := mx_le s fun x hx => hp x (by simp [hx])
    have ha := hp a (by simp)
    rcases perm_in h with ⟨t1, p, q⟩ | ⟨r1, p, q⟩
    · have h1 := ih t1 r q
      rw [pr_perm p, p.length_eq, pr_cons]
      show a * pr t1 ≤ max (a * mx s t1.length) (mx s (t1.length + 1))
      have := Int.mul_le_mul_of_nonneg_left h1 (show 0 ≤ a by omega)
      omega
    · have h1 := ih t r1 q
      cases t with
      | nil => exact Int.le_refl _
      | cons b t =>
        show pr (b :: t) ≤ max (a * mx s t.length) (mx s (t.length + 1))
        have : (b :: t).length = t.length + 1 := rfl
        rw [this] at h1
        omega
theorem getD_rng {f : Nat → Int} {n m : Nat} (h : m < n) : ((List.range n).map f).getD m 0 = f m := by simp [h]
theorem PB.start {s : List Int} (h : ∀ x ∈ s, 1 ≤ x) : PB s.length (startE s) s := by
  intro t r hp hl
  unfold startE
  rw [getD_rng hl]
  exact mx_le s h t r hp
def nextE (G W : Int) (n : Nat) (E : List Int) : List Int := (List.range n).map fun m => if m = 0 then 1 else max (E.getD m 0) (G * E.getD (n - 1) 0 * E.getD (m - 1) 0 / W)
theorem PB.flip {n k : Nat} {E s : List Int} {G W y : Int} (h : PB n E s) (hn : s.length = n) (hk : k < n) (h1 : ∀ x ∈ s, 1 ≤ x) (hy : 1 ≤ y) (hG : 0 ≤ G) (hW : 1 ≤ W) (hb : y * W ≤ G * pr (s.eraseIdx k)) : PB n (nextE G W n E) (s.set k y) := by
  intro t r hp hl
  have hks : k < s.length := by omega
  have p0 : s.Perm (s[k] :: s.eraseIdx k) := perm_at' s k hks
  have p1 : (s.set k y).Perm (y :: s.eraseIdx k) := by
    have := perm_at' (s.set k y) k (by simpa using hks)
    rw [List.eraseIdx_set_eq, List.getElem_set_self] at this
    exact this
  unfold nextE
  rw [getD_rng hl]
  by_cases h0 : t.length = 0
  · rw [if_pos h0]
    have : t = [] := List.eq_nil_of_length_eq_zero h0
    subst this
    exact Int.le_refl _
  rw [if_neg h0]
  rcases perm_in (p1.symm.trans hp) with ⟨t1, p, q⟩ | ⟨r1, p, q⟩
  · have a1 := h t1 (s[k] :: r) (p0.trans ((q.cons _).trans List.perm_middle.symm)) (by have := p.length_eq; simp at this; omega)
    have a2 := h (s.eraseIdx k) [s[k]] (p0.trans (List.perm_append_comm (l₁ := [s[k]]))) (by rw [List.length_eraseIdx_of_lt hks]; omega)
    rw [List.length_eraseIdx_of_lt hks, hn] at a2
    have tl : t.length - 1 = t1.length := by have := p.length_eq; simp at this; omega
    rw [tl, pr_perm p, pr_cons]
    have pt1 : 1 ≤ pr t1 := pr_pos fun x hx => h1 x (mem_erase (q.mem_iff.mpr (by simp [hx])))
    have b1 : y * W ≤ G * E.getD (n - 1) 0 := Int.le_trans hb (Int.mul_le_mul_of_nonneg_left a2 hG)
    have b2 : y * W * pr t1 ≤ G * E.getD (n - 1) 0 * pr t1 := Int.mul_le_mul_of_nonneg_right b1 (by omega)
    have b0 : 0 ≤ G * E.getD (n - 1) 0 := by
      have := Int.mul_pos (show 0 < y by omega) (show 0 < W by omega)
      omega
    have b3 : G * E.getD (n - 1) 0 * pr t1 ≤ G * E.getD (n - 1) 0 * E.getD t1.length 0 := Int.mul_le_mul_of_nonneg_left a1 b0
    have b4 : y * pr t1 * W ≤ G * E.getD (n - 1) 0 * E.getD t1.length 0 := by
      have : y * pr t1 * W = y * W * pr t1 := by grind
      omega
    have b5 := Int.le_ediv_of_mul_le (show 0 < W by omega) b4
    omega
  · have a1 := h t (s[k] :: r1) (p0.trans ((q.cons _).trans List.perm_middle.symm)) hl
    omega
/-- how many flips on, at most -/
def powE (G W : Int) (n : Nat) (E : List Int) : Nat → List Int
  | 0 => E
  | h + 1 => powE G W n (nextE G W n E) h
section
variable {ws xs : List Int} {g : Int} {k j : Nat}
theorem new_share (E : EqOk ws g) (S : Pos ws g xs) (hk : k < ws.length) : ws.getD k 1 * flp ws g xs k * flp ws g xs k * pr ws ≤ g * g * pr ((shr ws xs).eraseIdx k) := by
  have F := S.fl E hk
  have hw := E.at hk
  have hx := S.at hk
  have e0 : pr ws = ws.getD k 1 * pr (ws.eraseIdx k) := by
    have := pr_erase ws k hk
    have e : ws.getD k 0 = ws.getD k 1 := by simp [hk]
    rw [e] at this
    exact this
  have lk : (xs.eraseIdx k).length = (ws.eraseIdx k).length := by
    rw [List.length_eraseIdx_of_lt hk, List.length_eraseIdx_of_lt (by rw [S.l]; exact hk), S.l]
  rw [shr_erase _ _ _ S.l, pr_shr _ _ lk, e0]
  have hW : 1 ≤ pr (ws.eraseIdx k) := pr_pos fun w h => (E.w w (mem_erase h)).1
  have s := F.s
  have p := F.pos
  generalize pr (ws.eraseIdx k) = W at *
  generalize pr (xs.eraseIdx k) = P at *
  generalize xs.getD k 0 = x at *
  generalize ws.getD k 1 = w at *
  generalize flp ws g xs k = y at *
  have h1 : 0 ≤ w * x := Int.mul_nonneg (by omega) (by omega)
  have h2 : 0 ≤ w * y := Int.mul_nonneg (by omega) (by omega)
  have h3 : w * y ≤ g * P := by have : w * (x + y) = w * x + w * y := by grind
                                omega
  have h4 : w * y * (w * y) ≤ g * P * (g * P) := Int.mul_le_mul h3 h3 h2 (by omega)
  have h5 := Int.mul_le_mul_of_nonneg_right h4 (show 0 ≤ W by omega)
  have e1 : w * y * y * (w * W) = w * y * (w * y) * W := by grind
  have e2 : g * g * (W * P * P) = g * P * (g * P) * W := by grind
  omega
theorem PB.flr {Eb : List Int} (E : EqOk ws g) (S : Pos ws g xs) (hk : k < ws.length) (h : PB ws.length Eb (shr ws xs)) : PB ws.length (nextE (g * g) (pr ws) ws.length Eb) (shr ws (flr ws g xs k)) := by
  rw [flr_set (by rw [S.l]; exact hk), shr_set _ _ _ _ S.l]
  have F := S.fl E hk
  have hw := E.at hk
  have p := F.pos
  refine h.flip (shr_len S.l) hk (S.shr1 E) ?_ ?_ (pr_pos fun w h => (E.w w h).1) (new_share E S hk)
  · have c := Int.mul_pos (show 0 < ws.getD k 1 by omega) (show 0 < flp ws g xs k by omega)
    have d := Int.mul_pos c (show 0 < flp ws g xs k by omega)
    omega
  · exact Int.mul_nonneg (by have := E.f1; omega) (by have := E.f1; omega)
/-- a number by its share -/
theorem sq_lt {x w s B : Int} (hx : 1 ≤ x) (hw : 1 ≤ w) (h : w * x * x ≤ s) (hB : 0 ≤ B) (hs : s < B * B) : x < B := by
  by_cases h' : x < B
  · exact h'
  · exfalso
    have h1 : B * B ≤ x * x := Int.mul_le_mul (by omega) (by omega) hB (by omega)
    have h2 : 1 * (x * x) ≤ w * (x * x) := Int.mul_le_mul_of_nonneg_right hw (Int.mul_nonneg (by omega) (by omega))
    have h3 : w * (x * x) = w * x * x := by grind
    omega
theorem PB.at1 {Eb s : List Int} {n : Nat} (h : PB n Eb s) (hn : 1 < n) (hk : k < s.length) : s.getD k 0 ≤ Eb.getD 1 0 := by
  have p0 : s.Perm ([s[k]] ++ s.eraseIdx k) := perm_at' s k hk
  have := h [s[k]] _ p0 (by simpa using hn)
  have e : s.getD k 0 = s[k] := by simp [hk]
  rw [e]
  simpa [pr] using this
theorem PB.row {Eb : List Int} (E : EqOk ws g) (S : Pos ws g xs) (h : PB ws.length Eb (shr ws xs)) (hB : Eb.getD 1 0 < BIG * BIG) : ∀ x ∈ xs, x < BIG := by
  intro x hx
  obtain ⟨k, hk, rfl⟩ := List.getElem_of_mem hx
  have hkw : k < ws.length := by rw [← S.l]; exact hk
  have a := h.at1 (k := k) (by have := E.l1; omega) (by rw [shr_len S.l]; exact hkw)
  rw [shr_at _ _ _ S.l hkw] at a
  have e : xs.getD k 0 = xs[k] := by simp [hk]
  rw [e] at a
  exact sq_lt (S.x _ (List.getElem_mem hk)) (E.at hkw) a (by unfold BIG; decide +kernel) (by omega)
/-- a look at the bounds, before each of so many flips and behind them -/
def okE (c : List Int → Bool) (G W : Int) (n : Nat) (E : List Int) : Nat → Bool
  | 0 => c E
  | h + 1 => c E && okE c G W n (nextE G W n E) h
theorem okE_hd {c : List Int → Bool} {G W : Int} {n h : Nat} {Eb : List Int} (o : okE c G W n Eb h = true) : c Eb = true := by
  cases h with
  | zero => exact o
  | succ h => simp only [okE, Bool.and_eq_true] at o; exact o.1
theorem wok_of {c : List Int → Bool} (hc : ∀ Eb, c Eb = true → Eb.getD 1 0 < BIG * BIG) (E : EqOk ws g) : ∀ (w : List Nat) (xs : List Int) (h : Nat) (Eb : List Int), Pos ws g xs → PB ws.length Eb (shr ws xs) → okE c (g * g) (pr ws) ws.length Eb h = true → w.length ≤ h → (∀ k ∈ w, k < ws.length) →
    WOk ws g xs w ∧ Pos ws g (wlk ws g xs w) ∧ ∃ Eb', PB ws.length Eb' (shr ws (wlk ws g xs w)) ∧ c Eb' = true
  | [], xs, h, Eb, S, P, o, _, _ => ⟨⟨S.l, fun x hx => ⟨S.x x hx, P.row E S (hc _ (okE_hd o)) x hx⟩⟩, S, Eb, P, okE_hd o⟩
  | k :: r, xs, 0, Eb, S, P, o, hl, _ => by simp at hl
  | k :: r, xs, h + 1, Eb, S, P, o, hl, hk => by
    have hk0 := hk k (by simp)
    have F := S.fl E hk0
    have P' := P.flr E S hk0
    have o' : okE c (g * g) (pr ws) ws.length (nextE (g * g) (pr ws) ws.length Eb) h = true := by
      simp only [okE, Bool.and_eq_true] at o; exact o.2
    have ih := wok_of hc E r (flr ws g xs k) h _ F.new P' o' (by simpa using hl) fun j hj => hk j (by simp [hj])
    have hkx : k < xs.length := by rw [S.l]; exact hk0
    refine ⟨⟨⟨S.l, fun x hx => ⟨S.x x hx, P.row E S (hc _ (okE_hd o)) x hx⟩⟩, hk0, ?_, ih.1⟩, ih.2⟩
    refine P'.row E F.new (hc _ (okE_hd o')) _ ?_
    rw [flr_set hkx]
    exact List.mem_set hkx _
end
end Pu
end
section
namespace Pu
/-! ### roads -/
/-- the product of the numbers at some places -/
def pq (q : Nat → Bool) : List Int → Nat → Int
  | [], _ => 1
  | x :: r, n => (if q n then x else 1) * pq q r (n + 1)
theorem pq_congr {q q' : Nat → Bool} : ∀ (xs : List Int) (n : Nat), (∀ i, n ≤ i → i < n + xs.length → q i = q' i) → pq q xs n = pq q' xs n
  | [], n, _ => rfl
  | x :: r, n, h => by
    simp only [pq]
    rw [h n (by omega) (by simp), pq_congr r (n + 1) fun i h1 h2 => h i (by omega) (by simp; omega)]
theorem pq_all : ∀ (xs : List Int) (n : Nat), pq (fun _ => true) xs n = pr xs
  | [], n => rfl
  | x :: r, n => by simp only [pq]; rw [pq_all r, pr_cons]; simp
theorem pq_take {q : Nat → Bool} : ∀ (xs : List Int) (n j : Nat), j < xs.length → q (n + j) = true → pq q xs n = xs.getD j 0 * pq (fun i => q i && decide (i ≠ n + j)) xs n
  | [], n, j, h, _ => by simp at h
  | x :: r, n, 0, h, hq => by
    simp only [pq]
    have e : pq (fun i => q i && decide (i ≠ n + 0)) r (n + 1) = pq q r (n + 1) := pq_congr _ _ fun i h1 h2 => by
      have : i ≠ n + 0 := by omega
      rw [decide_eq_true this, Bool.and_true]
    rw [e]
    have hq' : q n = true := hq
    simp [hq']
  | x :: r, n, j + 1, h, hq => by
    simp only [pq]
    have ih := pq_take (q := q) r (n + 1) j (by simpa using h) (by rw [show n + 1 + j = n + (j + 1) by omega]; exact hq)
    rw [show n + 1 + j = n + (j + 1) by omega] at ih
    rw [ih, List.getD_cons_succ]
    have : n ≠ n + (j + 1) := by omega
    simp only [decide_eq_true this, Bool.and_true]
    grind
theorem pq_rst (xs : List Int) (q : Nat → Bool) : ∀ n : Nat, pr (((xs.zipIdx n).filter fun p => q p.2).map (·.1)) = pq q xs n := by
  induction xs with
  | nil => intro n; rfl
  | cons x r ih =>
    intro n
    rw [List.zipIdx_cons]
    simp only [pq]
    by_cases h : q n = true
    · rw [List.filter_cons_of_pos (by exact h), List.map_cons, pr_cons, ih, if_pos h]
    · rw [List.filter_cons_of_neg (by exact h), ih, if_neg h, Int.one_mul]
theorem pr_rst (xs : List Int) (j k : Nat) : pr (rst xs j k) = pq (fun i => decide (i ≠ j ∧ i ≠ k)) xs 0 := by
  unfold rst
  exact pq_rst xs (fun i => decide (i ≠ j ∧ i ≠ k)) 0
theorem rst_comm (xs : List Int) (j k : Nat) : rst xs j k = rst xs k j := by
  unfold rst
  congr 2
  funext p
  simp [And.comm]
theorem erase_pq (xs : List Int) (k : Nat) (hk : k < xs.length) (h1 : 1 ≤ xs.getD k 0) : pr (xs.eraseIdx k) = pq (fun i => decide (i ≠ k)) xs 0 := by
  have a := pr_erase xs k hk
  have b := pq_take (q := fun _ => true) xs 0 k hk rfl
  rw [pq_all, a] at b
  have := Int.eq_of_mul_eq_mul_left (by omega) b
  rw [this]
  exact pq_congr _ _ fun i _ _ => by simp
section
variable {ws xs : List Int} {g : Int} {k j : Nat}
theorem pr_two (S : Pos ws g xs) (hj : j < ws.length) (hk : k < ws.length) (hne : j ≠ k) : pr (xs.eraseIdx k) = xs.getD j 0 * pr (rst xs j k) := by
  rw [erase_pq xs k (by rw [S.l]; exact hk) (S.at hk), pr_rst, pq_take (q := fun i => decide (i ≠ k)) xs 0 j (by rw [S.l]; exact hj) (by simp; omega)]
  congr 1
  exact pq_congr _ _ fun i _ _ => by simp [And.comm]
theorem rst_pos (S : Pos ws g xs) : 1 ≤ pr (rst xs j k) := pr_pos fun x hx => by
  unfold rst at hx
  obtain ⟨p, hp, rfl⟩ := List.mem_map.mp hx
  exact S.x _ (List.fst_mem_of_mem_zipIdx (List.mem_filter.mp hp).1)
theorem rst_set_map (xs : List Int) (j k : Nat) (y : Int) (n : Nat) (q : Nat → Bool) (hq : q (n + k) = false) : (((xs.set k y).zipIdx n).filter fun p => q p.2).map (·.1) = ((xs.zipIdx n).filter fun p => q p.2).map (·.1) := by
  induction xs generalizing k n with
  | nil => rfl
  | cons x r ih =>
    cases k with
    | zero =>
      rw [List.set_cons_zero, List.zipIdx_cons, List.zipIdx_cons]
      have hq' : q n = false := hq
      rw [List.filter_cons_of_neg (by simp [hq']), List.filter_cons_of_neg (by simp [hq'])]
    | succ k =>
      rw [List.set_cons_succ, List.zipIdx_cons, List.zipIdx_cons]
      have := ih k (n + 1) (by rw [show n + 1 + k = n + (k + 1) by omega]; exact hq)
      by_cases h : q n = true
      · rw [List.filter_cons_of_pos (by exact h), List.filter_cons_of_pos (by exact h), List.map_cons, List.map_cons, this]
      · rw [List.filter_cons_of_neg (by exact h), List.filter_cons_of_neg (by exact h), this]
theorem rst_flr (hk : k < xs.length) : rst (flr ws g xs k) j k = rst xs j k := by
  rw [flr_set hk]
  unfold rst
  exact rst_set_map xs j k _ 0 (fun i => decide (i ≠ j ∧ i ≠ k)) (by simp)
/-- the numbers of a road's beginning -/
structure Rd (ws : List Int) (g : Int) (xs : List Int) (j k : Nat) : Prop where
  a : nr ws g xs j k j * ws.getD j 1 = g * pr (rst xs j k)
  b : nr ws g xs j k k * ws.getD k 1 = g * pr (rst xs j k)
  fj : flp ws g xs j = nr ws g xs j k j * xs.getD k 0 - xs.getD j 0
  fk : flp ws g xs k = nr ws g xs j k k * xs.getD j 0 - xs.getD k 0
  pa : 1 ≤ nr ws g xs j k j
  pb : 1 ≤ nr ws g xs j k k
  st : 5 ≤ nr ws g xs j k j * nr ws g xs j k k
  sq : nr ws g xs j k j * nr ws g xs j k k * ws.getD j 1 * ws.getD k 1 = g * pr (rst xs j k) * (g * pr (rst xs j k))
theorem Pos.road (E : EqOk ws g) (S : Pos ws g xs) (hj : j < ws.length) (hk : k < ws.length) (hne : j ≠ k) : Rd ws g xs j k := by
  have dj := E.dv' hj
  have dk := E.dv' hk
  have wj := E.at hj
  have wk := E.at hk
  have xj := S.at hj
  have xk := S.at hk
  have q1 := pr_two S hj hk hne
  have q2 := pr_two S hk hj (Ne.symm hne)
  rw [rst_comm] at q2
  have rp := rst_pos (j := j) (k := k) S
  have fj : flp ws g xs j = nr ws g xs j k j * xs.getD k 0 - xs.getD j 0 := by
    unfold flp nr
    rw [erase_td, q2]
    grind
  have fk : flp ws g xs k = nr ws g xs j k k * xs.getD j 0 - xs.getD k 0 := by
    unfold flp nr
    rw [erase_td, q1]
    grind
  have a : nr ws g xs j k j * ws.getD j 1 = g * pr (rst xs j k) := by
    unfold nr
    rw [← dj]
    grind
  have b : nr ws g xs j k k * ws.getD k 1 = g * pr (rst xs j k) := by
    unfold nr
    rw [← dk]
    grind
  have g1 := E.f1
  have gr : 0 < g * pr (rst xs j k) := Int.mul_pos (by omega) (by omega)
  have pa : 1 ≤ nr ws g xs j k j := by
    by_cases h : 1 ≤ nr ws g xs j k j
    · exact h
    · exfalso
      have := Int.mul_nonneg (show 0 ≤ - nr ws g xs j k j by omega) (show 0 ≤ ws.getD j 1 by omega)
      rw [Int.neg_mul] at this
      omega
  have pb : 1 ≤ nr ws g xs j k k := by
    by_cases h : 1 ≤ nr ws g xs j k k
    · exact h
    · exfalso
      have := Int.mul_nonneg (show 0 ≤ - nr ws g xs j k k by omega) (show 0 ≤ ws.getD k 1 by omega)
      rw [Int.neg_mul] at this
      omega
  have sq : nr ws g xs j k j * nr ws g xs j k k * ws.getD j 1 * ws.getD k 1 = g * pr (rst xs j k) * (g * pr (rst xs j k)) := by
    rw [← a]
    have : nr ws g xs j k j * nr ws g xs j k k * ws.getD j 1 * ws.getD k 1 = nr ws g xs j k j * ws.getD j 1 * (nr ws g xs j k k * ws.getD k 1) := by grind
    rw [this, b, ← a]
  refine ⟨a, b, fj, fk, pa, pb, ?_, sq⟩
  have l := two_lt (S.shr1 E) (j := j) (k := k) (by rw [shr_len S.l]; exact hj) (by rw [shr_len S.l]; exact hk) hne
  rw [shr_at _ _ _ S.l hj, shr_at _ _ _ S.l hk, S.e, pr_erase xs k (by rw [S.l]; exact hk), q1, shr_len S.l] at l
  have := E.l1
  generalize nr ws g xs j k j * nr ws g xs j k k = N at *
  generalize pr (rst xs j k) = r at *
  generalize ws.getD j 1 = u at *
  generalize ws.getD k 1 = v at *
  generalize xs.getD j 0 = x at *
  generalize xs.getD k 0 = y at *
  have h1 : u * x * x + v * y * y < g * r * (x * y) := by
    have : g * (y * (x * r)) = g * r * (x * y) := by grind
    omega
  have h0 : 0 < u * x * x + v * y * y := by
    have c := Int.mul_pos (Int.mul_pos (show 0 < u by omega) (show 0 < x by omega)) (show 0 < x by omega)
    have d := Int.mul_pos (Int.mul_pos (show 0 < v by omega) (show 0 < y by omega)) (show 0 < y by omega)
    omega
  have h2 : (u * x * x + v * y * y) * (u * x * x + v * y * y) < g * r * (x * y) * (g * r * (x * y)) := by
    have a1 := Int.mul_lt_mul_of_pos_left h1 h0
    have a2 := Int.mul_lt_mul_of_pos_right h1 (Int.lt_trans h0 h1)
    omega
  have h3 : 4 * (u * v * (x * y) * (x * y)) ≤ (u * x * x + v * y * y) * (u * x * x + v * y * y) := by
    have : 0 ≤ (u * x * x - v * y * y) * (u * x * x - v * y * y) := by
      rcases Int.le_total 0 (u * x * x - v * y * y) with h | h
      · exact Int.mul_nonneg h h
      · exact Int.mul_nonneg_of_nonpos_of_nonpos h h
    have e : (u * x * x + v * y * y) * (u * x * x + v * y * y) = (u * x * x - v * y * y) * (u * x * x - v * y * y) + 4 * (u * v * (x * y) * (x * y)) := by grind
    omega
  have h4 : g * r * (x * y) * (g * r * (x * y)) = N * (u * v * (x * y) * (x * y)) := by
    have : g * r * (x * y) * (g * r * (x * y)) = g * r * (g * r) * ((x * y) * (x * y)) := by grind
    rw [this, ← sq]
    grind
  have h5 : 0 < u * v * (x * y) * (x * y) := by
    have c := Int.mul_pos (show 0 < u by omega) (show 0 < v by omega)
    have d := Int.mul_pos (show 0 < x by omega) (show 0 < y by omega)
    exact Int.mul_pos (Int.mul_pos c d) d
  have h6 : 4 * (u * v * (x * y) * (x * y)) < N * (u * v * (x * y) * (x * y)) := by omega
  have := Int.lt_of_mul_lt_mul_right h6 (by omega)
  omega
/-- the whole of a share, the flipped one and twice all others -/
theorem whole_eq (E : EqOk ws g) (S : Pos ws g xs) (hj : j < ws.length) (hk : k < ws.length) (hne : j ≠ k) :
    (shr ws (flr ws g xs k)).getD k 0 + (shr ws xs).getD k 0 + 2 * ((shr ws xs).sum - (shr ws xs).getD k 0) = (nr ws g xs j k j * nr ws g xs j k k - 2 + 2) * (shr ws xs).getD j 0 := by
  have F := S.fl E hk
  have hkx : k < xs.length := by rw [S.l]; exact hk
  have hs : k < (shr ws xs).length := by rw [shr_len S.l]; exact hk
  have R := S.road E hj hk hne
  have q1 := pr_two S hj hk hne
  rw [flr_set hkx, shr_set _ _ _ _ S.l, getD_set_self hs, sum_erase _ k hs, ← F.r, shr_at _ _ _ S.l hk, shr_at _ _ _ S.l hj]
  have s := F.s
  rw [q1] at s
  have a := R.a
  have b := R.b
  have wk := E.at hk
  generalize nr ws g xs j k j = A at *
  generalize nr ws g xs j k k = B at *
  generalize pr (rst xs j k) = r at *
  generalize ws.getD j 1 = u at *
  generalize ws.getD k 1 = v at *
  generalize xs.getD j 0 = x at *
  generalize xs.getD k 0 = y at *
  generalize flp ws g xs k = z at *
  have h : v * (y + z) = B * v * x := by rw [b]; grind
  have h' : y + z = B * x := Int.eq_of_mul_eq_mul_left (show v ≠ 0 by omega) (by grind)
  have e1 : v * z * z + v * y * y + 2 * (v * y * y + v * y * z - v * y * y) = v * ((y + z) * (y + z)) := by grind
  have e2 : (A * B - 2 + 2) * (u * x * x) = A * u * (B * x * x) := by grind
  rw [e1, e2, a, h', ← b]
  grind
/-! the numbers of a road -/
theorem nr_flr (hk : k < xs.length) (i : Nat) : nr ws g (flr ws g xs k) j k i = nr ws g xs j k i := by
  unfold nr
  rw [rst_flr hk]
theorem nr_comm (i : Nat) : nr ws g xs j k i = nr ws g xs k j i := by
  unfold nr
  rw [rst_comm]
theorem rd_pos (E : EqOk ws g) : ∀ (m : Nat) (xs : List Int) (j k : Nat), Pos ws g xs → j < ws.length → k < ws.length → j ≠ k → ∀ z ∈ rd (nr ws g xs j k j) (nr ws g xs j k k) m (xs.getD j 0) (xs.getD k 0), 1 ≤ z
  | 0, xs, j, k, S, hj, hk, hne => by intro z hz; cases hz
  | m + 1, xs, j, k, S, hj, hk, hne => by
    have R := S.road E hj hk hne
    have F := S.fl E hj
    have hjx : j < xs.length := by rw [S.l]; exact hj
    have ih := rd_pos E m (flr ws g xs j) k j F.new hk hj (Ne.symm hne)
    have e1 : (flr ws g xs j).getD j 0 = flp ws g xs j := by rw [flr_set hjx, getD_set_self hjx]
    have e2 : (flr ws g xs j).getD k 0 = xs.getD k 0 := by rw [flr_set hjx, getD_set_ne hne]
    rw [e1, e2, nr_flr hjx, nr_flr hjx, nr_comm, nr_comm (i := j), R.fj] at ih
    intro z hz
    rw [rd] at hz
    rcases List.mem_cons.mp hz with rfl | hz
    · have := F.pos; rw [R.fj] at this; exact this
    · exact ih z hz
theorem rd_le {N : Int} (hN : 1 ≤ N) : ∀ (t m : Nat) (c d p q M : Int), c * d = N → 1 ≤ c → 1 ≤ d → 1 ≤ p → 1 ≤ q → q ≤ M → c * q - p ≤ M → m ≤ 2 * t + 1 → (∀ z ∈ rd c d m p q, 1 ≤ z) → ∀ z ∈ rd c d m p q, z ≤ N ^ t * M
  | t, 0, c, d, p, q, M, _, _, _, _, _, _, _, _, _ => by intro z hz; cases hz
  | t, 1, c, d, p, q, M, hcd, hc, hd, hp, hq, h1, h2, _, _ => by
    intro z hz
    simp only [rd, List.mem_singleton] at hz
    subst hz
    have : 1 ≤ N ^ t := Int.pow_pos (by omega)
    have := Int.mul_le_mul_of_nonneg_right this (show 0 ≤ M by omega)
    omega
  | 0, m + 2, c, d, p, q, M, _, _, _, _, _, _, _, h, _ => by omega
  | t + 1, m + 2, c, d, p, q, M, hcd, hc, hd, hp, hq, h1, h2, hm, h => by
    have z0 := h (c * q - p) (by simp [rd])
    have z1 := h (d * (c * q - p) - q) (by simp [rd])
    have b1 : d * (c * q - p) - q ≤ N * M := by
      have a1 : N * q ≤ N * M := Int.mul_le_mul_of_nonneg_left h1 (by omega)
      have a2 : d * (c * q - p) = c * d * q - d * p := by grind
      have a3 : 0 < d * p := Int.mul_pos (by omega) (by omega)
      rw [hcd] at a2
      omega
    have b2 : c * (d * (c * q - p) - q) - (c * q - p) ≤ N * M := by
      have a1 : N * (c * q - p) ≤ N * M := Int.mul_le_mul_of_nonneg_left h2 (by omega)
      have a2 : c * (d * (c * q - p) - q) = c * d * (c * q - p) - c * q := by grind
      have a3 : 0 < c * q := Int.mul_pos (by omega) (by omega)
      rw [hcd] at a2
      omega
    have ih := rd_le hN t m c d (c * q - p) (d * (c * q - p) - q) (N * M) hcd hc hd z0 z1 b1 b2 (by omega) fun z hz => h z (by simp only [rd]; exact List.mem_cons_of_mem _ (List.mem_cons_of_mem _ hz))
    intro z hz
    have hp1 : 1 ≤ N ^ t := Int.pow_pos (by omega)
    have hM : N ^ (t + 1) * M = N ^ t * (N * M) := by rw [Int.pow_succ]; grind
    have hNM : M ≤ N * M := by
      have := Int.mul_le_mul_of_nonneg_right hN (show 0 ≤ M by omega)
      omega
    have hg : N * M ≤ N ^ t * (N * M) := by
      have := Int.mul_le_mul_of_nonneg_right hp1 (show 0 ≤ N * M by omega)
      omega
    rw [hM]
    simp only [rd, List.mem_cons] at hz
    rcases hz with rfl | rfl | hz
    · omega
    · omega
    · exact ih z hz
theorem rd_rec : ∀ (m : Nat) (c d p q : Int) (i : Nat), i < m → (p :: q :: rd c d m p q).getD (i + 2) 0 = (if i % 2 = 0 then c else d) * (p :: q :: rd c d m p q).getD (i + 1) 0 - (p :: q :: rd c d m p q).getD i 0
  | 0, c, d, p, q, i, h => by omega
  | m + 1, c, d, p, q, 0, h => by simp [rd]
  | m + 1, c, d, p, q, i + 1, h => by
    have ih := rd_rec m d c q (c * q - p) i (by omega)
    rw [rd, List.getD_cons_succ, ih, List.getD_cons_succ, List.getD_cons_succ]
    by_cases hi : i % 2 = 0
    · rw [if_pos hi, if_neg (by omega)]; rfl
    · rw [if_neg hi, if_pos (by omega)]; rfl
theorem rd_len : ∀ (m : Nat) (c d p q : Int), (rd c d m p q).length = m
  | 0, _, _, _, _ => rfl
  | m + 1, c, d, p, q => by rw [rd, List.length_cons, rd_len m]
/-- two ahead and two behind -/
theorem rd_step (m : Nat) (c d p q : Int) (i : Nat) (h : i + 2 < m) : (p :: q :: rd c d m p q).getD (i + 4) 0 + (p :: q :: rd c d m p q).getD i 0 = (c * d - 2) * (p :: q :: rd c d m p q).getD (i + 2) 0 := by
  have a := rd_rec m c d p q i (by omega)
  have b := rd_rec m c d p q (i + 1) (by omega)
  have e := rd_rec m c d p q (i + 2) h
  generalize (p :: q :: rd c d m p q).getD (i + 4) 0 = f4 at *
  generalize (p :: q :: rd c d m p q).getD (i + 2) 0 = f2 at *
  generalize (p :: q :: rd c d m p q).getD i 0 = f0 at *
  have b' : (p :: q :: rd c d m p q).getD (i + 3) 0 = (if (i + 1) % 2 = 0 then c else d) * f2 - (p :: q :: rd c d m p q).getD (i + 1) 0 := b
  have e' : f4 = (if (i + 2) % 2 = 0 then c else d) * (p :: q :: rd c d m p q).getD (i + 3) 0 - f2 := e
  generalize (p :: q :: rd c d m p q).getD (i + 3) 0 = f3 at *
  generalize (p :: q :: rd c d m p q).getD (i + 1) 0 = f1 at *
  by_cases hi : i % 2 = 0
  · rw [if_pos hi] at a
    rw [if_neg (by omega)] at b'
    rw [if_pos (by omega)] at e'
    grind
  · rw [if_neg hi] at a
    rw [if_pos (by omega)] at b'
    rw [if_neg (by omega)] at e'
    grind
/-- growth -/
theorem rd_grow {c d : Int} (hN : 5 ≤ c * d) (m : Nat) (p q : Int) (h0 : (p :: q :: rd c d m p q).getD 0 0 ≤ (p :: q :: rd c d m p q).getD 2 0) (h1 : (p :: q :: rd c d m p q).getD 1 0 ≤ (p :: q :: rd c d m p q).getD 3 0) (hp : ∀ i, i < m + 2 → 1 ≤ (p :: q :: rd c d m p q).getD i 0) :
    ∀ i, i + 2 < m → 2 * (p :: q :: rd c d m p q).getD (i + 2) 0 ≤ (p :: q :: rd c d m p q).getD (i + 4) 0 := by
  intro i
  induction i using Nat.strongRecOn with
  | _ i ih =>
    intro hi
    have s := rd_step m c d p q i hi
    have hx := hp (i + 2) (by omega)
    have prev : (p :: q :: rd c d m p q).getD i 0 ≤ (p :: q :: rd c d m p q).getD (i + 2) 0 := by
      match i, ih, hx with
      | 0, _, _ => exact h0
      | 1, _, _ => exact h1
      | i + 2, ih, _ =>
        have a := ih i (by omega) (by omega)
        have b := hp (i + 2) (by omega)
        have a : 2 * (p :: q :: rd c d m p q).getD (i + 2) 0 ≤ (p :: q :: rd c d m p q).getD (i + 2 + 2) 0 := a
        omega
    generalize (p :: q :: rd c d m p q).getD (i + 4) 0 = f4 at *
    generalize (p :: q :: rd c d m p q).getD (i + 2) 0 = f2 at *
    generalize (p :: q :: rd c d m p q).getD i 0 = f0 at *
    have : 3 * f2 ≤ (c * d - 2) * f2 := Int.mul_le_mul_of_nonneg_right (by omega) (by omega)
    omega
/-- the step is bounded by products of all shares but two -/
theorem step_le {Eb : List Int} (E : EqOk ws g) (S : Pos ws g xs) (P : PB ws.length Eb (shr ws xs)) (hj : j < ws.length) (hk : k < ws.length) (hne : j ≠ k) : nr ws g xs j k j * nr ws g xs j k k ≤ g * g * Eb.getD (ws.length - 2) 0 / pr ws := by
  have R := S.road E hj hk hne
  have hl := shr_len S.l
  have hks : k < (shr ws xs).length := by rw [hl]; exact hk
  have hjs : j < (shr ws xs).length := by rw [hl]; exact hj
  have p0 := perm_at' (shr ws xs) k hks
  have hm : (shr ws xs)[j] ∈ (shr ws xs).eraseIdx k := List.mem_eraseIdx_iff_getElem.mpr ⟨j, hjs, hne, rfl⟩
  have p1 := List.perm_cons_erase hm
  have ek : (shr ws xs)[k] = ws.getD k 1 * xs.getD k 0 * xs.getD k 0 := by
    have := shr_at ws xs k S.l hk
    simpa [hks] using this
  have ej : (shr ws xs)[j] = ws.getD j 1 * xs.getD j 0 * xs.getD j 0 := by
    have := shr_at ws xs j S.l hj
    simpa [hjs] using this
  generalize ht : ((shr ws xs).eraseIdx k).erase (shr ws xs)[j] = t at p1
  have tl : t.length = ws.length - 2 := by
    have := p1.length_eq
    rw [List.length_eraseIdx_of_lt hks, List.length_cons, hl] at this
    omega
  have b := P t [(shr ws xs)[j], (shr ws xs)[k]] ((p0.trans (p1.cons _)).trans (by
    refine (List.Perm.swap _ _ _).trans ?_
    exact List.perm_append_comm (l₁ := [(shr ws xs)[j], (shr ws xs)[k]]))) (by have := E.l1; omega)
  rw [tl] at b
  have e0 := pr_perm (p0.trans (p1.cons _))
  rw [pr_cons, pr_cons, pr_shr _ _ S.l, ej, ek, pr_erase xs k (by rw [S.l]; exact hk), pr_two S hj hk hne] at e0
  have hW : 1 ≤ pr ws := pr_pos fun w h => (E.w w h).1
  refine Int.le_ediv_of_mul_le (by omega) ?_
  have sq := R.sq
  have xj := S.at hj
  have xk := S.at hk
  have wj := E.at hj
  have wk := E.at hk
  have g1 := E.f1
  generalize nr ws g xs j k j * nr ws g xs j k k = N at *
  generalize pr (rst xs j k) = r at *
  generalize ws.getD j 1 = u at *
  generalize ws.getD k 1 = v at *
  generalize xs.getD j 0 = x at *
  generalize xs.getD k 0 = y at *
  generalize pr ws = W at *
  generalize pr t = T at *
  have h1 : W * (r * r) = v * (u * T) := by
    have z : x * x * (y * y) * (W * (r * r)) = x * x * (y * y) * (v * (u * T)) := by grind
    have nz : x * x * (y * y) ≠ 0 := by
      have a := Int.mul_pos (show 0 < x by omega) (show 0 < x by omega)
      have b := Int.mul_pos (show 0 < y by omega) (show 0 < y by omega)
      have := Int.mul_pos a b
      omega
    exact Int.eq_of_mul_eq_mul_left nz z
  have h2 : N * W = g * g * T := by
    have z : u * v * (N * W) = u * v * (g * g * T) := by grind
    have nz : u * v ≠ 0 := by
      have := Int.mul_pos (show 0 < u by omega) (show 0 < v by omega)
      omega
    exact Int.eq_of_mul_eq_mul_left nz z
  rw [h2]
  exact Int.mul_le_mul_of_nonneg_left b (Int.mul_nonneg (by omega) (by omega))
end
end Pu
end
section
namespace Pu
section
variable {ws xs : List Int} {g : Int} {k j : Nat}
/-- the shares that a word's flips come to -/
def seenL (ws : List Int) (g : Int) : List Int → List Nat → List Int
  | _, [] => []
  | xs, k :: r => ws.getD k 1 * flp ws g xs k * flp ws g xs k :: seenL ws g (flr ws g xs k) r
theorem seenL_len : ∀ (w : List Nat) (xs : List Int), (seenL ws g xs w).length = w.length
  | [], _ => rfl
  | k :: r, xs => by rw [seenL, List.length_cons, List.length_cons, seenL_len r]
theorem seen3 {a b c : Nat} (E : EqOk ws g) (S : Pos ws g xs) (ha : a < ws.length) (hb : b < ws.length) (hc : c < ws.length) (hab : a ≠ b) (hbc : b ≠ c) (B1 : Big ws (flr ws g xs a) a) :
    ∀ s0 s1 s2, s0 = ws.getD a 1 * flp ws g xs a * flp ws g xs a → s1 = ws.getD b 1 * flp ws g (flr ws g xs a) b * flp ws g (flr ws g xs a) b →
    s2 = ws.getD c 1 * flp ws g (flr ws g (flr ws g xs a) b) c * flp ws g (flr ws g (flr ws g xs a) b) c → s1 * s1 ≤ s2 * s0 := by
  intro s0 s1 s2 h0 h1 h2
  have hax : a < xs.length := by rw [S.l]; exact ha
  have F1 := S.fl E ha
  have S1 := F1.new
  generalize hx1 : flr ws g xs a = x1 at *
  have hbx : b < x1.length := by rw [S1.l]; exact hb
  have F2 := S1.fl E hb
  have S2 := F2.new
  generalize hx2 : flr ws g x1 b = x2 at *
  have F3 := S2.fl E hc
  have l1 := shr_len S1.l
  have l2 := shr_len S2.l
  have hcs : c < (shr ws x2).length := by rw [l2]; exact hc
  have hbs : b < (shr ws x2).length := by rw [l2]; exact hb
  -- the share of c before its flip
  have ea : (shr ws x1).getD a 0 = s0 := by
    rw [h0, ← hx1, flr_set hax, shr_set _ _ _ _ S.l, getD_set_self (by rw [shr_len S.l]; exact ha)]
  have eb : (shr ws x2).getD b 0 = s1 := by
    rw [h1, ← hx2, flr_set hbx, shr_set _ _ _ _ S1.l, getD_set_self (by rw [l1]; exact hb)]
  have ec : (shr ws x2).getD c 0 = (shr ws x1).getD c 0 := by
    rw [← hx2, flr_set hbx, shr_set _ _ _ _ S1.l, getD_set_ne hbc]
  have cle : (shr ws x2).getD c 0 ≤ s0 := by
    rw [ec, ← ea]
    by_cases h : c = a
    · rw [h]; exact Int.le_refl _
    · have u := B1.uniq E S1 hc h
      have v := B1.2
      omega
  have r := F3.r
  have hR : s1 ≤ ((shr ws x2).eraseIdx c).sum := by
    have t := two_lt (S2.shr1 E) hbs hcs hbc
    rw [eb, sum_erase _ c hcs, l2] at t
    have := E.l1
    omega
  have s1p : 1 ≤ s1 := by rw [← eb]; exact S2.shr1 E _ (getD_mem hbs)
  have s2p : 1 ≤ s2 := by
    have p := F3.pos
    have w := E.at hc
    have q := Int.mul_pos (Int.mul_pos (show 0 < ws.getD c 1 by omega) (show 0 < flp ws g x2 c by omega)) (show 0 < flp ws g x2 c by omega)
    omega
  have sq : s2 * (shr ws x2).getD c 0 = ((shr ws x2).eraseIdx c).sum * ((shr ws x2).eraseIdx c).sum := by
    rw [← r, h2, shr_at _ _ _ S2.l hc]
    grind
  have k1 : s1 * s1 ≤ s2 * (shr ws x2).getD c 0 := by
    rw [sq]
    exact Int.mul_le_mul hR hR (by omega) (by omega)
  have k2 := Int.mul_le_mul_of_nonneg_left cle (show 0 ≤ s2 by omega)
  omega
theorem seen_ok {root : List Int} (E : EqOk ws g) : ∀ (w : List Nat) (xs : List Int) (v : List Nat), Pos ws g xs → Dn ws g xs v root → WOk ws g xs w → (∀ k ∈ w.head?, (∀ p ∈ v.head?, k ≠ p) ∧ (v = [] → flp ws g xs k ≠ xs.getD k 0)) → Cut w →
    ∀ i, i + 2 < w.length → (seenL ws g xs w).getD (i + 1) 0 * (seenL ws g xs w).getD (i + 1) 0 ≤ (seenL ws g xs w).getD (i + 2) 0 * (seenL ws g xs w).getD i 0
  | [], xs, v, S, D, _, _, _ => by intro i h; simp at h
  | k :: r, xs, v, S, D, W, h, C => by
    obtain ⟨R, hk, hB, W⟩ := W
    obtain ⟨h1, h2⟩ := h k rfl
    have F := S.fl E hk
    have up := raise_of E S D hk h1 h2
    have B := F.big E S hk up
    have hkx : k < xs.length := by rw [S.l]; exact hk
    have R' : RowB ws (flr ws g xs k) := by
      cases r with
      | nil => exact W
      | cons _ _ => exact W.1
    have D' : Dn ws g (flr ws g xs k) (k :: v) root := by
      refine ⟨R', B.low E F.new, hk, ?_, by rw [flr_flr hkx]; exact D⟩
      rw [flp_flr hkx]
      exact (R.x _ (getD_mem hkx)).2
    have C' : Cut r := by
      intro p hp
      cases r with
      | nil => cases hp
      | cons j t => exact C p (by simp only [List.drop_succ_cons, List.drop_zero] at hp ⊢; exact List.mem_cons_of_mem _ hp)
    have hn : ∀ j ∈ r.head?, (∀ p ∈ (k :: v).head?, j ≠ p) ∧ (k :: v = [] → flp ws g (flr ws g xs k) j ≠ (flr ws g xs k).getD j 0) := by
      intro j hj
      cases r with
      | nil => cases hj
      | cons i t =>
        cases hj
        refine ⟨fun p hp => ?_, fun z => by cases z⟩
        cases hp
        exact (C (k, _) (List.mem_cons_self)).symm
    have ih := seen_ok E r (flr ws g xs k) (k :: v) F.new D' W hn C'
    intro i hi
    cases i with
    | succ i =>
      have := ih i (by simp only [List.length_cons] at hi; omega)
      simpa [seenL] using this
    | zero =>
      match r, W, C with
      | a :: b :: t, W, C =>
        obtain ⟨_, ha, _, W⟩ := W
        obtain ⟨_, hb, _, W⟩ := W
        have e1 := C (k, a) (List.mem_cons_self)
        have e2 := C (a, b) (List.mem_cons_of_mem _ List.mem_cons_self)
        exact seen3 E S hk ha hb e1 e2 B _ _ _ rfl rfl rfl
end
end Pu
end
section
namespace Pu
/-! ### the known rows, in any order of the places -/
def okRow (r : List Int × Int × List Int) : Bool :=
  decide (3 ≤ r.1.length) && decide (r.1.length ≤ 6) && decide (∀ w ∈ r.1, (1 ≤ w ∧ w ≤ 12) ∧ r.2.1 % w = 0) && decide (1 ≤ r.2.1 ∧ r.2.1 ≤ 60) &&
  decide (r.2.2.length = r.1.length) && decide (∀ x ∈ r.2.2, 1 ≤ x) && decide ((shr r.1 r.2.2).sum = r.2.1 * pr r.2.2) && decide (∀ s ∈ shr r.1 r.2.2, s + s ≤ (shr r.1 r.2.2).sum)
theorem KN_all : KN.all okRow = true := by decide +kernel
/-- a root -/
structure Root (ws : List Int) (g : Int) (xs : List Int) : Prop where
  E : EqOk ws g
  S : Pos ws g xs
  lo : low ws xs = none
theorem shr_map (σ : List Nat) (a b : Nat → Int) : shr (σ.map a) (σ.map b) = σ.map fun k => a k * b k * b k := by
  induction σ with
  | nil => rfl
  | cons k r ih => rw [List.map_cons, List.map_cons, List.map_cons, shr_cons, ih]
theorem map_range (xs : List Int) : (List.range xs.length).map (fun k => xs.getD k 0) = xs := by
  apply List.ext_getElem
  · simp
  · intro i h1 h2
    simp at h1
    simp [h1]
theorem sum_perm {s t : List Int} (h : s.Perm t) : s.sum = t.sum := by
  induction h with
  | nil => rfl
  | cons x _ ih => rw [List.sum_cons, List.sum_cons, ih]
  | swap x y l => simp only [List.sum_cons]; omega
  | trans _ _ h1 h2 => rw [h1, h2]
section
variable {ws xs : List Int} {g : Int} {σ : List Nat}
theorem mix_w (h : σ.Perm (List.range ws.length)) : (σ.map fun k => ws.getD k 0).Perm ws := by
  have := h.map fun k => ws.getD k 0
  rw [map_range] at this
  exact this
theorem mix_x (h : σ.Perm (List.range ws.length)) (l : xs.length = ws.length) : (σ.map fun k => xs.getD k 0).Perm xs := by
  have := h.map fun k => xs.getD k 0
  rw [← l, map_range] at this
  exact this
theorem mix_s (h : σ.Perm (List.range ws.length)) (l : xs.length = ws.length) : (shr (σ.map fun k => ws.getD k 0) (σ.map fun k => xs.getD k 0)).Perm (shr ws xs) := by
  rw [shr_map]
  have e := h.map fun k => ws.getD k 0 * xs.getD k 0 * xs.getD k 0
  have e2 : (List.range ws.length).map (fun k => ws.getD k 0 * xs.getD k 0 * xs.getD k 0) = shr ws xs := by
    rw [← shr_map, map_range, ← l, map_range]
  rw [e2] at e
  exact e
theorem mix_root (ok : okRow (ws, g, xs) = true) (h : σ.Perm (List.range ws.length)) : Root (σ.map fun k => ws.getD k 0) g (σ.map fun k => xs.getD k 0) ∧ xs.length = ws.length ∧ (∀ s ∈ shr ws xs, 1 ≤ s) := by
  simp only [okRow, Bool.and_eq_true, decide_eq_true_eq] at ok
  obtain ⟨⟨⟨⟨⟨⟨⟨h1, h2⟩, h3⟩, h4⟩, h5⟩, h6⟩, h7⟩, h8⟩ := ok
  have pw := mix_w h
  have px := mix_x (xs := xs) h h5
  have ps := mix_s (xs := xs) h h5
  have E : EqOk (σ.map fun k => ws.getD k 0) g := ⟨by rw [pw.length_eq]; exact h1, by rw [pw.length_eq]; exact h2, fun w hw => (h3 w (pw.mem_iff.mp hw)).1, h4.1, h4.2, fun w hw => (h3 w (pw.mem_iff.mp hw)).2⟩
  have S : Pos (σ.map fun k => ws.getD k 0) g (σ.map fun k => xs.getD k 0) := ⟨by simp, fun x hx => h6 x (px.mem_iff.mp hx), by rw [sum_perm ps, pr_perm px]; exact h7⟩
  refine ⟨⟨E, S, none_low S fun j hj => ?_⟩, h5, shr_pos (g := g) (fun w hw => (h3 w hw).1.1) h6⟩
  rw [sum_perm ps]
  exact h8 _ (ps.mem_iff.mp (getD_mem (by rw [shr_len S.l]; exact hj)))
/-- a look at bounds for each known row -/
def lookB (c : Int → Int → Nat → List Int → Bool) (tall : Nat → Nat) (r : List Int × Int × List Int) : Bool :=
  okE (c (r.2.1 * r.2.1) (pr r.1) r.1.length) (r.2.1 * r.2.1) (pr r.1) r.1.length (startE (shr r.1 r.2.2)) (tall r.1.length)
theorem mix_look {c : Int → Int → Nat → List Int → Bool} {tall : Nat → Nat} (h : σ.Perm (List.range ws.length)) (l : xs.length = ws.length) (p : ∀ s ∈ shr ws xs, 1 ≤ s) (k : lookB c tall (ws, g, xs) = true) :
    ∃ Eb, PB (σ.map fun k => ws.getD k 0).length Eb (shr (σ.map fun k => ws.getD k 0) (σ.map fun k => xs.getD k 0)) ∧
      okE (c (g * g) (pr (σ.map fun k => ws.getD k 0)) (σ.map fun k => ws.getD k 0).length) (g * g) (pr (σ.map fun k => ws.getD k 0)) (σ.map fun k => ws.getD k 0).length Eb (tall (σ.map fun k => ws.getD k 0).length) = true := by
  have pw := mix_w h
  rw [pw.length_eq, pr_perm pw]
  refine ⟨startE (shr ws xs), ?_, k⟩
  have := PB.start p
  rw [shr_len l] at this
  exact this.perm (mix_s h l)
end
/-- numbers, one flip more, nine flips of a road more: all below the bound -/
def chk25 (G W : Int) (n : Nat) (E : List Int) : Bool :=
  decide (E.getD 1 0 < BIG * BIG) && decide ((nextE G W n E).getD 1 0 < BIG * BIG) && decide ((G * E.getD (n - 2) 0 / W) ^ 8 * (nextE G W n E).getD 1 0 < BIG * BIG)
theorem KN_25 : KN.all (lookB chk25 fun n => tallOf n - 1) = true := by decide +kernel
end Pu
end
section
namespace Pu
open PySem F3
section
variable {Γ : Gm} {ρ ρ1 ρ2 ρ3 : F3.Env} {e : IE} {x : PyData} {i k : Nat} {cs : List Int} {fn : Nat → Fn}
/-- a slot is laid anew -/
def SetE (ρ : F3.Env) (i : Nat) (v : Option AV) (ρ' : F3.Env) : Prop := ρ.set i v = ρ'
theorem set_0 {a v : Option AV} {r : F3.Env} : SetE (a :: r) 0 v (v :: r) := rfl
theorem set_s {a v : Option AV} {r r' : F3.Env} (h : SetE r i v r') : SetE (a :: r) (i + 1) v (a :: r') := by
  unfold SetE at *
  rw [List.set_cons_succ, h]
def NE (ρ ρ' : F3.Env) : Prop := ρ = ρ'
theorem ne_of {ρ ρ' : F3.Env} (h : ρ = ρ') : NE ρ ρ' := h
theorem s_setE (h : sem Γ e ρ = .ok x ρ1) (h1 : Γ.fix i = false) (h2 : i < ρ1.length) (h3 : SetE ρ1 i (some (.d x)) ρ2) : exS Γ (.set i e) ρ = .nx ρ2 := by
  refine s_set h ?_
  unfold setV
  rw [h1, if_neg Bool.false_ne_true, if_pos h2, show ρ1.set i _ = ρ2 from h3]
theorem s_ownE {av : AV} (h : semF Γ e ρ = .ok av ρ1) (h1 : Γ.fix i = false) (h2 : i < ρ1.length) (h3 : SetE ρ1 i (some av) ρ2) : exS Γ (.own i e) ρ = .nx ρ2 := by
  refine s_own h ?_
  unfold setV
  rw [h1, if_neg Bool.false_ne_true, if_pos h2, show ρ1.set i _ = ρ2 from h3]
theorem s_asgE {t : Tg} (h : sem Γ e ρ = .ok x ρ1) (h2 : assignT Γ t x ρ1 = some ρ2) (h3 : NE ρ2 ρ3) : exS Γ (.asg t e) ρ = .nx ρ3 := by
  cases h3
  exact s_asg h h2
theorem for_cons {t : PyData → F3.Env → Option F3.Env} {b : F3.Env → Ss} {xs : List PyData} (h1 : t x ρ = some ρ1) (h2 : b ρ1 = .nx ρ2) : forL t b (x :: xs) ρ = forL t b xs ρ2 := by
  rw [forL, h1]
  dsimp only
  rw [h2]
theorem lt_b {i n : Nat} (h : Nat.ble (i + 1) n = true) : i < n := Nat.le_of_ble_eq_true h
theorem i_t {α : Type} {a b r : α} (h : a = r) : (if true = true then a else b) = r := h
theorem i_f {α : Type} {a b r : α} (h : b = r) : (if false = true then a else b) = r := h
theorem i_nt {α : Type} {a b r : α} (h : b = r) : (if (!true) = true then a else b) = r := h
theorem i_nf {α : Type} {a b r : α} (h : a = r) : (if (!false) = true then a else b) = r := h
theorem e_nil : merge [] [] = some [] := rfl
theorem e_eq {a : Option AV} {r s t : F3.Env} (h : merge r s = some t) : merge (a :: r) (a :: s) = some (a :: t) := by
  rw [merge, mrg1_self, h]
  rfl
theorem e_no {b : Option AV} {r s t : F3.Env} (h : merge r s = some t) : merge (none :: r) (b :: s) = some (none :: t) := by
  rw [merge, h]
  rfl
theorem r_callE {es : List IE} {xs T0 T T' : List PyData} {z : PyData} (h0 : ρ[i]? = some (some (.l T0))) (hn : (es.all fun i => !isOvar i) = true) (h : semL Γ es ρ = .ok xs ρ1) (h1 : ρ1[i]? = some (some (.l T)))
    (h2 : Γ.fn k (.l T :: xs.map .d) = .ok (.d z) (.l T' :: xs.map .d)) (h3 : SetE ρ1 i (some (.l T')) ρ2) : sem Γ (.call k (.ovar i :: es)) ρ = .ok z ρ2 := by
  rw [r_callO h0 hn h h1 h2, show ρ1.set i _ = ρ2 from h3]
theorem tuple_in (k : Nat) (l : List Nat) : inD (.int k) (l.map fun k => PyData.int (k : Nat)) = some (decide (k ∈ l)) := by
  unfold inD
  rw [if_pos (by simp)]
  congr 1
  induction l with
  | nil => rfl
  | cons a r ih =>
    rw [List.map_cons, List.any_cons, ih]
    have q : PyData.eqv (.int (a : Nat)) (.int (k : Nat)) = decide (k = a) := by
      by_cases h : k = a
      · simp [PyData.eqv, h]
      · have h' : ¬ (a : Int) = k := by omega
        simp [PyData.eqv, h, h']
    rw [q]
    by_cases h : k = a <;> simp [h]
theorem notinN (k : Nat) (l : List Nat) : cmpD .notin (.int k) (nI l) = some (decide (k ∉ l)) := by
  show (inD (.int k) (l.map fun k => PyData.int (k : Nat))).map (!·) = _
  rw [tuple_in]
  simp
theorem sIx_neg1 (n d : Nat) : HT.sIx n d (some (-1)) = n - 1 := by
  unfold HT.sIx
  simp
  omega
theorem sl_last (w : List Nat) : slD (nI w) (some (-1)) none = some (nI (w.drop (w.length - 1))) := by
  show some (PyData.tuple (cutD _ _ _)) = _
  unfold cutD
  rw [sIx_neg1, HT.sIx_none]
  simp only []
  rw [List.take_of_length_le (by simp), List.length_map, ← List.map_drop]
  rfl
theorem at_lastT (xs : List PyData) (y : PyData) : ixD (.tuple (xs ++ [y])) (.int (-1)) = some y := by
  show (L2.ixN (xs ++ [y]).length (-1)).bind _ = _
  unfold L2.ixN
  rw [if_neg (by omega), if_pos (by simp; omega)]
  have e : ((-1 : Int) + ((xs ++ [y]).length : Int)).toNat = xs.length := by simp; omega
  rw [e]
  simp
theorem lastN (w : List Nat) (k : Nat) : ixD (nI (w ++ [k])) (.int (-1)) = some (.int k) := by
  unfold nI
  rw [List.map_append]
  exact at_lastT _ _
theorem addN {v w : List Nat} (h : v.length + w.length ≤ 100000) : binD .add (nI v) (nI w) = some (nI (v ++ w)) := by
  rw [nI_tI, nI_tI, nI_tI, add_tI (by simpa using h), List.map_append]
theorem Cut.snoc : ∀ {w : List Nat} {k : Nat}, Cut w → k ∉ w.drop (w.length - 1) → Cut (w ++ [k])
  | [], k, _, _ => by intro p hp; cases hp
  | [a], k, _, h => by
    intro p hp
    have : p = (a, k) := by simpa using hp
    subst this
    exact fun z => h (by simp [show a = k from z])
  | a :: b :: t, k, C, h => by
    have C' : Cut (b :: t) := fun p hp => C p (List.mem_cons_of_mem _ hp)
    have ih := Cut.snoc (w := b :: t) (k := k) C' (by simpa using h)
    intro p hp
    have hp : p ∈ (a, b) :: (b :: t ++ [k]).zip ((b :: t ++ [k]).drop 1) := hp
    rcases List.mem_cons.mp hp with rfl | hp
    · exact C (a, b) List.mem_cons_self
    · exact ih p hp
theorem wlk_snoc {ws : List Int} {g : Int} : ∀ (w : List Nat) (xs : List Int) (k : Nat), wlk ws g xs (w ++ [k]) = flr ws g (wlk ws g xs w) k
  | [], _, _ => rfl
  | a :: w, xs, k => wlk_snoc w (flr ws g xs a) k
theorem WOk.row {ws : List Int} {g : Int} : ∀ {w : List Nat} {xs : List Int}, WOk ws g xs w → RowB ws (wlk ws g xs w)
  | [], _, h => h
  | a :: w, xs, h => WOk.row (w := w) (xs := flr ws g xs a) h.2.2.2
/-- a word that may be gone up from a root -/
structure UpW (ws : List Int) (g : Int) (xs : List Int) (w : List Nat) : Prop where
  k : ∀ k ∈ w, k < ws.length
  c : Cut w
  h : ∀ k ∈ w.head?, flp ws g xs k ≠ xs.getD k 0
def LawUp (f : Fn) : Prop := ∀ (m : Int) (T : List PyData) (ws : List Int) (g : Int) (xs : List Int) (tall : Nat), TinOk m T → m + tall ≤ 900000 → tall ≤ 1000 → EqOk ws g → SolOk ws g xs BIG → (∀ w : List Nat, w.length ≤ tall → (∀ k ∈ w, k < ws.length) → WOk ws g xs w) →
  ∃ (w : List Nat) (T' : List PyData), w.length = tall ∧ UpW ws g xs w ∧ TinOk (m + tall) T' ∧ f [.l T, .d (eqD ws g), .d (tI xs), .d (.int tall)] = .ok (.d (.tuple [nI w, tI (wlk ws g xs w)])) [.l T', .d (eqD ws g), .d (tI xs), .d (.int tall)]
theorem idle_uniq {ws xs : List Int} {g : Int} {j k : Nat} (E : EqOk ws g) (S : Pos ws g xs) (hj : j < ws.length) (hk : k < ws.length) (h1 : flp ws g xs j = xs.getD j 0) (h2 : flp ws g xs k = xs.getD k 0) : j = k := by
  by_cases h : j = k
  · exact h
  · exfalso
    have a := (((S.fl E hj).lt E S hj).2).mpr h1.symm
    have b := (((S.fl E hk).lt E S hk).2).mpr h2.symm
    have l := shr_len S.l
    have c := two_lt (S.shr1 E) (by rw [l]; exact hj) (by rw [l]; exact hk) h
    have := E.l1
    omega
theorem up_loop {f1 f2 : Nat} (h1 : LawOf (fn f1)) (h2 : LawFlip (fn f2)) {ws : List Int} {g v : Int} {xs : List Int} {e3 : Option AV} (E : EqOk ws g) (R : RowB ws xs) (hv : ∀ k, k < ws.length → flp ws g xs k = xs.getD k 0 → (k : Int) = v) (hv2 : v = -1 ∨ ∃ k : Nat, k < ws.length ∧ v = k) :
    ∀ (n i : Nat) (m : Int) (T : List PyData) (w : List Nat) (z5 z8 : Option AV), TinOk m T → m + n ≤ 900000 → w.length = i → i + n ≤ 1000 → UpW ws g xs w → (∀ u : List Nat, u.length ≤ i + n → (∀ k ∈ u, k < ws.length) → WOk ws g xs u) →
    ∃ (w' : List Nat) (T' : List PyData) (z5' z8' : Option AV), w'.length = i + n ∧ UpW ws g xs w' ∧ TinOk (m + n) T' ∧
      forL (assignT ⟨fn, cs, [true, false, false, false]⟩ (.n 5)) (exSs ⟨fn, cs, [true, false, false, false]⟩
       [.set 8 (.lc [9] (.n 9) (.rng1 (.bi .len [(.var 2)])) (some (.and (.cmp .notin (.var 9) (.sl (.var 6) (some (.neg (.lit (.int 1)))) none)) (.or (.cmp .gt (.var 5) (.lit (.int 0))) (.cmp .ne (.var 9) (.var 4))))) (.var 9)),
        .set 6 (.bin .add (.var 6) (.tup [(.call f1 [(.ovar 0), (.var 8)])])),
        .set 7 (.call f2 [(.var 1), (.var 7), (.ix (.var 6) (.neg (.lit (.int 1))))])]) (rngD (i : Nat) n)
       [some (.l T), some (.d (eqD ws g)), some (.d (tI xs)), e3, some (.d (.int v)), z5, some (.d (nI w)), some (.d (tI (wlk ws g xs w))), z8, none] =
      .nx [some (.l T'), some (.d (eqD ws g)), some (.d (tI xs)), e3, some (.d (.int v)), z5', some (.d (nI w')), some (.d (tI (wlk ws g xs w'))), z8', none]
  | 0, i, m, T, w, z5, z8, hT, hm, hw, hi, U, W => ⟨w, T, z5, z8, by omega, U, hT.mono (by omega), rfl⟩
  | n + 1, i, m, T, w, z5, z8, hT, hm, hw, hi, U, W => by
    have l1 : biD .len [tI xs] = some (.int ws.length) := by
      show some (PyData.int ((xs.map PyData.int).length : Nat)) = _
      rw [List.length_map, R.l]
    have E2 := E.l2
    have E1 := E.l1
    have sm62 : small62 (ws.length : Int) = true := by unfold small62; exact decide_eq_true ⟨by omega, by omega⟩
    let p : Nat → Bool := fun k => decide (k ∉ w.drop (w.length - 1)) && (decide ((0 : Int) < (i : Nat)) || !decide ((k : Int) = v))
    have lc := sem_lcP (Γ := ⟨fn, cs, [true, false, false, false]⟩) (is := [9]) (t := .n 9) (it := .rng1 (.bi .len [(.var 2)])) (c := some (.and (.cmp .notin (.var 9) (.sl (.var 6) (some (.neg (.lit (.int 1)))) none)) (.or (.cmp .gt (.var 5) (.lit (.int 0))) (.cmp .ne (.var 9) (.var 4))))) (e := .var 9)
      (ρ := [some (.l T), some (.d (eqD ws g)), some (.d (tI xs)), e3, some (.d (.int v)), some (.d (.int (i : Nat))), some (.d (nI w)), some (.d (tI (wlk ws g xs w))), z8, none])
      (fun k : Nat => PyData.int (k : Nat)) p (fun k : Nat => PyData.int (k : Nat)) (List.range' 0 ws.length)
      (by rw [← rngD_map]; exact i_rng (r_bi (l_cons (r_var rfl) l_nil) l1) sm62) rfl (by simp; omega)
      (fun k hk => ⟨[some (.l T), some (.d (eqD ws g)), some (.d (tI xs)), e3, some (.d (.int v)), some (.d (.int (i : Nat))), some (.d (nI w)), some (.d (tI (wlk ws g xs w))), z8, some (.d (.int (k : Nat)))], [some (.l T), some (.d (eqD ws g)), some (.d (tI xs)), e3, some (.d (.int v)), some (.d (.int (i : Nat))), some (.d (nI w)), some (.d (tI (wlk ws g xs w))), z8, some (.d (.int (k : Nat)))], rfl, by
        rw [semC]
        refine t_and (t_cmp (r_var rfl) (r_sl (r_var rfl) (o_some (r_neg r_lit)) o_none (sl_last w)) (notinN k _)) ?_
        by_cases hk : k ∉ w.drop (w.length - 1)
        · rw [if_pos (decide_eq_true hk)]
          refine t_or (t_cmp (r_var rfl) r_lit (cmp_gt _ _)) ?_
          by_cases h0 : (0 : Int) < (i : Nat)
          · rw [if_pos (decide_eq_true h0), show p k = true by simp only [p]; rw [decide_eq_true hk, decide_eq_true h0]; rfl]
          · rw [if_neg (by rw [decide_eq_false h0]; exact Bool.false_ne_true)]
            have := t_cmp (Γ := ⟨fn, cs, [true, false, false, false]⟩) (ρ := [some (.l T), some (.d (eqD ws g)), some (.d (tI xs)), e3, some (.d (.int v)), some (.d (.int (i : Nat))), some (.d (nI w)), some (.d (tI (wlk ws g xs w))), z8, some (.d (.int (k : Nat)))]) (a := .var 9) (b := .var 4) (r_var rfl) (r_var rfl) (cmp_ne _ _)
            rw [this, show p k = !decide ((k : Int) = v) by simp only [p]; rw [decide_eq_true hk, decide_eq_false h0]; rfl]
        · rw [if_neg (by rw [decide_eq_false hk]; exact Bool.false_ne_true), show p k = false by simp only [p]; rw [decide_eq_false hk]; rfl], by
        by_cases q : p k = true
        · exact .inr ⟨q, _, r_var rfl, by repeat' (first | exact e_nil | apply e_eq | apply e_no)⟩
        · exact .inl ⟨by simpa using q, by repeat' (first | exact e_nil | apply e_eq | apply e_no)⟩⟩) (merge_self _)
    obtain ⟨G, hG⟩ : ∃ G, G = (List.range' 0 ws.length).filter p := ⟨_, rfl⟩
    rw [← hG] at lc
    have hmem : ∀ k, k ∈ G ↔ k < ws.length ∧ p k = true := by
      intro k
      rw [hG, List.mem_filter, List.mem_range']
      constructor
      · rintro ⟨⟨j, h, rfl⟩, h2⟩
        exact ⟨by omega, h2⟩
      · rintro ⟨h, h2⟩
        exact ⟨⟨k, h, by omega⟩, h2⟩
    have hne : (G.map fun k : Nat => PyData.int (k : Nat)) ≠ [] := by
      intro z
      rw [List.map_eq_nil_iff] at z
      have key : ∀ a : Int, ∃ k : Nat, k < 2 ∧ (k : Int) ≠ a := fun a => by
        by_cases h : a = 0
        · exact ⟨1, by omega, by omega⟩
        · exact ⟨0, by omega, by omega⟩
      have : ∃ k, k < ws.length ∧ p k = true := by
        by_cases hz : w = []
        · obtain ⟨k, k1, k2⟩ := key v
          exact ⟨k, by omega, by simp [p, hz, k2]⟩
        · have hi : (0 : Int) < (i : Nat) := by
            have := List.length_pos_iff.mpr hz
            omega
          obtain ⟨k, k1, k2⟩ := key (w.getLast hz)
          refine ⟨k, by omega, ?_⟩
          have : k ∉ w.drop (w.length - 1) := by
            have e : w.drop (w.length - 1) = [w.getLast hz] := by
              rcases List.eq_nil_or_concat w with h | ⟨u, a, rfl⟩
              · exact absurd h hz
              · simp
            rw [e, List.mem_singleton]
            omega
          simp only [p]
          rw [decide_eq_true this, decide_eq_true hi]
          rfl
      obtain ⟨k, hk⟩ := this
      have := (hmem k).mpr hk
      rw [z] at this
      cases this
    have hGl : (G.map fun k : Nat => PyData.int (k : Nat)).length ≤ 1000000 := by
      rw [List.length_map, hG]
      have := List.length_filter_le p (List.range' 0 ws.length)
      rw [List.length_range'] at this
      omega
    obtain ⟨x, T1, hx, hT1, e1⟩ := h1 m T _ hT (by omega) hne hGl
    obtain ⟨k, hk, rfl⟩ := List.mem_map.mp hx
    obtain ⟨hk1, hk2⟩ := (hmem k).mp hk
    simp only [p, Bool.and_eq_true, Bool.or_eq_true, decide_eq_true_eq, Bool.not_eq_true', decide_eq_false_iff_not] at hk2
    have U' : UpW ws g xs (w ++ [k]) := by
      refine ⟨fun j hj => ?_, U.c.snoc hk2.1, fun j hj => ?_⟩
      · rcases List.mem_append.mp hj with hj | hj
        · exact U.k j hj
        · rw [List.mem_singleton] at hj; subst hj; exact hk1
      · cases w with
        | nil =>
          have : k = j := by simpa using hj
          subst this
          intro z
          have := hv k hk1 z
          rcases hk2.2 with h | h
          · simp at hw; omega
          · exact h this
        | cons a t => exact U.h j hj
    have R' : RowB ws (wlk ws g xs w) := (W w (by omega) U.k).row
    have e2 := h2 ws g (wlk ws g xs w) k E R' hk1
    rw [← wlk_snoc] at e2
    have a1 := addN (v := w) (w := [k]) (by simp; omega)
    have t1 : nI [k] = PyData.tuple [.int k] := rfl
    rw [t1] at a1
    have i1 := lastN w k
    have t0 : assignT ⟨fn, cs, [true, false, false, false]⟩ (.n 5) (.int (i : Nat)) [some (.l T), some (.d (eqD ws g)), some (.d (tI xs)), e3, some (.d (.int v)), z5, some (.d (nI w)), some (.d (tI (wlk ws g xs w))), z8, none] = some [some (.l T), some (.d (eqD ws g)), some (.d (tI xs)), e3, some (.d (.int v)), some (.d (.int (i : Nat))), some (.d (nI w)), some (.d (tI (wlk ws g xs w))), z8, none] := rfl
    have body : exSs ⟨fn, cs, [true, false, false, false]⟩
       [.set 8 (.lc [9] (.n 9) (.rng1 (.bi .len [(.var 2)])) (some (.and (.cmp .notin (.var 9) (.sl (.var 6) (some (.neg (.lit (.int 1)))) none)) (.or (.cmp .gt (.var 5) (.lit (.int 0))) (.cmp .ne (.var 9) (.var 4))))) (.var 9)),
        .set 6 (.bin .add (.var 6) (.tup [(.call f1 [(.ovar 0), (.var 8)])])),
        .set 7 (.call f2 [(.var 1), (.var 7), (.ix (.var 6) (.neg (.lit (.int 1))))])]
       [some (.l T), some (.d (eqD ws g)), some (.d (tI xs)), e3, some (.d (.int v)), some (.d (.int (i : Nat))), some (.d (nI w)), some (.d (tI (wlk ws g xs w))), z8, none] =
       .nx [some (.l T1), some (.d (eqD ws g)), some (.d (tI xs)), e3, some (.d (.int v)), some (.d (.int (i : Nat))), some (.d (nI (w ++ [k]))), some (.d (tI (wlk ws g xs (w ++ [k])))), some (.d (.list (G.map fun k : Nat => PyData.int (k : Nat)))), none] := by
      apply ss_go
      · repeat' (first | with_reducible apply l_nil | with_reducible apply o_none | with_reducible apply r_lit | with_reducible apply ss_nil | with_reducible apply r_var | with_reducible apply r_ovar | with_reducible apply l_cons | with_reducible apply o_some | with_reducible apply r_bin | with_reducible apply r_neg | with_reducible apply r_ix | with_reducible apply r_sl | with_reducible apply r_tup | with_reducible apply r_lst | with_reducible apply r_bi | with_reducible apply r_glob | with_reducible apply r_cmp | with_reducible apply r_isN | with_reducible apply r_not | with_reducible apply r_and | with_reducible apply r_or | with_reducible apply r_ite | with_reducible apply r_chain | with_reducible apply r_callE | with_reducible apply r_call | with_reducible apply t_cmp | with_reducible apply t_not | with_reducible apply t_isN | with_reducible apply t_and | with_reducible apply t_or | with_reducible apply t_chain | with_reducible apply t_tru | with_reducible apply s_setE | with_reducible apply s_ownE | with_reducible apply s_asgE | with_reducible apply s_if | with_reducible apply s_ret | with_reducible apply s_retO | with_reducible apply f_lst | with_reducible apply f_list | with_reducible assumption | (dsimp only [List.map]; with_reducible assumption) | with_reducible apply i_t | with_reducible apply i_f | with_reducible apply i_nt | with_reducible apply i_nf | with_reducible exact set_0 | with_reducible apply set_s | (with_reducible refine ne_of ?_; dsimp only [List.set_cons_zero, List.set_cons_succ]; exact rfl) | with_reducible apply lt_b | with_reducible apply ss_go | with_reducible apply s_mulE | with_reducible apply m_nil | with_reducible apply m_cons | with_reducible apply v_own | with_reducible apply v_dat | exact merge_self _ | with_reducible apply cmp_eq | with_reducible apply cmp_ne | rfl)
      apply ss_go
      · repeat' (first | with_reducible apply l_nil | with_reducible apply o_none | with_reducible apply r_lit | with_reducible apply ss_nil | with_reducible apply r_var | with_reducible apply r_ovar | with_reducible apply l_cons | with_reducible apply o_some | with_reducible apply r_bin | with_reducible apply r_neg | with_reducible apply r_ix | with_reducible apply r_sl | with_reducible apply r_tup | with_reducible apply r_lst | with_reducible apply r_bi | with_reducible apply r_glob | with_reducible apply r_cmp | with_reducible apply r_isN | with_reducible apply r_not | with_reducible apply r_and | with_reducible apply r_or | with_reducible apply r_ite | with_reducible apply r_chain | with_reducible apply r_callE | with_reducible apply r_call | with_reducible apply t_cmp | with_reducible apply t_not | with_reducible apply t_isN | with_reducible apply t_and | with_reducible apply t_or | with_reducible apply t_chain | with_reducible apply t_tru | with_reducible apply s_setE | with_reducible apply s_ownE | with_reducible apply s_asgE | with_reducible apply s_if | with_reducible apply s_ret | with_reducible apply s_retO | with_reducible apply f_lst | with_reducible apply f_list | with_reducible assumption | (dsimp only [List.map]; with_reducible assumption) | with_reducible apply i_t | with_reducible apply i_f | with_reducible apply i_nt | with_reducible apply i_nf | with_reducible exact set_0 | with_reducible apply set_s | (with_reducible refine ne_of ?_; dsimp only [List.set_cons_zero, List.set_cons_succ]; exact rfl) | with_reducible apply lt_b | with_reducible apply ss_go | with_reducible apply s_mulE | with_reducible apply m_nil | with_reducible apply m_cons | with_reducible apply v_own | with_reducible apply v_dat | exact merge_self _ | with_reducible apply cmp_eq | with_reducible apply cmp_ne | rfl)
      apply ss_go
      · repeat' (first | with_reducible apply l_nil | with_reducible apply o_none | with_reducible apply r_lit | with_reducible apply ss_nil | with_reducible apply r_var | with_reducible apply r_ovar | with_reducible apply l_cons | with_reducible apply o_some | with_reducible apply r_bin | with_reducible apply r_neg | with_reducible apply r_ix | with_reducible apply r_sl | with_reducible apply r_tup | with_reducible apply r_lst | with_reducible apply r_bi | with_reducible apply r_glob | with_reducible apply r_cmp | with_reducible apply r_isN | with_reducible apply r_not | with_reducible apply r_and | with_reducible apply r_or | with_reducible apply r_ite | with_reducible apply r_chain | with_reducible apply r_callE | with_reducible apply r_call | with_reducible apply t_cmp | with_reducible apply t_not | with_reducible apply t_isN | with_reducible apply t_and | with_reducible apply t_or | with_reducible apply t_chain | with_reducible apply t_tru | with_reducible apply s_setE | with_reducible apply s_ownE | with_reducible apply s_asgE | with_reducible apply s_if | with_reducible apply s_ret | with_reducible apply s_retO | with_reducible apply f_lst | with_reducible apply f_list | with_reducible assumption | (dsimp only [List.map]; with_reducible assumption) | with_reducible apply i_t | with_reducible apply i_f | with_reducible apply i_nt | with_reducible apply i_nf | with_reducible exact set_0 | with_reducible apply set_s | (with_reducible refine ne_of ?_; dsimp only [List.set_cons_zero, List.set_cons_succ]; exact rfl) | with_reducible apply lt_b | with_reducible apply ss_go | with_reducible apply s_mulE | with_reducible apply m_nil | with_reducible apply m_cons | with_reducible apply v_own | with_reducible apply v_dat | exact merge_self _ | with_reducible apply cmp_eq | with_reducible apply cmp_ne | rfl)
      exact ss_nil
    obtain ⟨w', T', z5', z8', hw', hU', hT', ih⟩ := up_loop h1 h2 E R hv hv2 (e3 := e3) n (i + 1) (m + 1) T1 (w ++ [k]) (some (.d (.int (i : Nat)))) (some (.d (.list (G.map fun k : Nat => PyData.int (k : Nat))))) hT1 (by omega) (by simp; omega) (by omega) U' fun u hu => W u (by omega)
    refine ⟨w', T', z5', z8', by omega, hU', hT'.mono (by omega), ?_⟩
    rw [rngD]
    refine (for_cons t0 body).trans ?_
    rw [show ((i : Int) + 1) = ((i + 1 : Nat) : Int) by omega, ih]
theorem law_up_ok {f0 f1 f2 : Nat} (h0 : LawIdle (fn f0)) (h1 : LawOf (fn f1)) (h2 : LawFlip (fn f2)) : LawUp (runD cs fn (Lb.law_up f0 f1 f2)) := by
  intro m T ws g xs tall hT hm ht E S W
  have R := S.row
  obtain ⟨v, hv, e0⟩ := h0 ws g xs E R
  have sm62 : small62 (tall : Int) = true := by unfold small62; exact decide_eq_true ⟨by omega, by omega⟩
  have hk : ∀ k, k < ws.length → flp ws g xs k = xs.getD k 0 → (k : Int) = v := by
    intro k hk he
    rcases hv with ⟨j, a, b, c⟩ | ⟨_, a⟩
    · rw [b, idle_uniq E S.pos hk a he c]
    · exact absurd he (a k hk)
  obtain ⟨w, T', z5, z8, hw, U, hT', e1⟩ := up_loop (cs := cs) h1 h2 E R hk (by
    rcases hv with ⟨k, a, b, _⟩ | ⟨a, _⟩
    · exact .inr ⟨k, a, b⟩
    · exact .inl a) (e3 := some (.d (.int tall))) tall 0 m T [] none none hT hm rfl (by omega) ⟨fun k h => (by cases h), fun p h => (by cases h), fun k h => (by cases h)⟩ (fun u hu hk => W u (by omega) hk)
  have hw : w.length = tall := by omega
  have e2 := for_of (Γ := ⟨fn, cs, [true, false, false, false]⟩) (it := .rng1 (.var 3)) (ρ := [some (.l T), some (.d (eqD ws g)), some (.d (tI xs)), some (.d (.int tall)), some (.d (.int v)), none, some (.d (nI [])), some (.d (tI xs)), none, none]) (i_rng (r_var rfl) sm62) e1
  refine ⟨w, T', hw, U, hT', ?_⟩
  refine run_rtO (xs := [eqD ws g, tI xs, .int tall]) rfl (Nat.le_of_ble_eq_true rfl) (ρ' := [some (.d (eqD ws g)), some (.d (tI xs)), some (.d (.int tall)), some (.d (.int v)), z5, some (.d (nI w)), some (.d (tI (wlk ws g xs w))), z8, none]) ?_ (Nat.le_of_ble_eq_true rfl)
  unfold Lb.law_up
  have m0 : exS ⟨fn, cs, [true, false, false, false]⟩ (.mul [6, 7] [(false, (.tup [])), (false, (.var 2))]) [some (.l T), some (.d (eqD ws g)), some (.d (tI xs)), some (.d (.int tall)), none, none, none, none, none, none] =
      .nx [some (.l T), some (.d (eqD ws g)), some (.d (tI xs)), some (.d (.int tall)), none, none, some (.d (nI [])), some (.d (tI xs)), none, none] :=
    s_mul (m_cons (v_dat (r_tup l_nil)) (m_cons (v_dat (r_var rfl)) m_nil)) (by decide) (merge_self _) rfl
  refine ss_go m0 ?_
  apply ss_go
  · repeat' (first | with_reducible apply l_nil | with_reducible apply o_none | with_reducible apply r_lit | with_reducible apply ss_nil | with_reducible apply r_var | with_reducible apply r_ovar | with_reducible apply l_cons | with_reducible apply o_some | with_reducible apply r_bin | with_reducible apply r_neg | with_reducible apply r_ix | with_reducible apply r_sl | with_reducible apply r_tup | with_reducible apply r_lst | with_reducible apply r_bi | with_reducible apply r_glob | with_reducible apply r_cmp | with_reducible apply r_isN | with_reducible apply r_not | with_reducible apply r_and | with_reducible apply r_or | with_reducible apply r_ite | with_reducible apply r_chain | with_reducible apply r_callE | with_reducible apply r_call | with_reducible apply t_cmp | with_reducible apply t_not | with_reducible apply t_isN | with_reducible apply t_and | with_reducible apply t_or | with_reducible apply t_chain | with_reducible apply t_tru | with_reducible apply s_setE | with_reducible apply s_ownE | with_reducible apply s_asgE | with_reducible apply s_if | with_reducible apply s_ret | with_reducible apply s_retO | with_reducible apply f_lst | with_reducible apply f_list | with_reducible assumption | (dsimp only [List.map]; with_reducible assumption) | with_reducible apply i_t | with_reducible apply i_f | with_reducible apply i_nt | with_reducible apply i_nf | with_reducible exact set_0 | with_reducible apply set_s | (with_reducible refine ne_of ?_; dsimp only [List.set_cons_zero, List.set_cons_succ]; exact rfl) | with_reducible apply lt_b | with_reducible apply ss_go | with_reducible apply s_mulE | with_reducible apply m_nil | with_reducible apply m_cons | with_reducible apply v_own | with_reducible apply v_dat | exact merge_self _ | with_reducible apply cmp_eq | with_reducible apply cmp_ne | rfl)
  refine ss_go e2 ?_
  refine ss_rt ?_
  repeat' (first | with_reducible apply l_nil | with_reducible apply o_none | with_reducible apply r_lit | with_reducible apply ss_nil | with_reducible apply r_var | with_reducible apply r_ovar | with_reducible apply l_cons | with_reducible apply o_some | with_reducible apply r_bin | with_reducible apply r_neg | with_reducible apply r_ix | with_reducible apply r_sl | with_reducible apply r_tup | with_reducible apply r_lst | with_reducible apply r_bi | with_reducible apply r_glob | with_reducible apply r_cmp | with_reducible apply r_isN | with_reducible apply r_not | with_reducible apply r_and | with_reducible apply r_or | with_reducible apply r_ite | with_reducible apply r_chain | with_reducible apply r_callE | with_reducible apply r_call | with_reducible apply t_cmp | with_reducible apply t_not | with_reducible apply t_isN | with_reducible apply t_and | with_reducible apply t_or | with_reducible apply t_chain | with_reducible apply t_tru | with_reducible apply s_setE | with_reducible apply s_ownE | with_reducible apply s_asgE | with_reducible apply s_if | with_reducible apply s_ret | with_reducible apply s_retO | with_reducible apply f_lst | with_reducible apply f_list | with_reducible assumption | (dsimp only [List.map]; with_reducible assumption) | with_reducible apply i_t | with_reducible apply i_f | with_reducible apply i_nt | with_reducible apply i_nf | with_reducible exact set_0 | with_reducible apply set_s | (with_reducible refine ne_of ?_; dsimp only [List.set_cons_zero, List.set_cons_succ]; exact rfl) | with_reducible apply lt_b | with_reducible apply ss_go | with_reducible apply s_mulE | with_reducible apply m_nil | with_reducible apply m_cons | with_reducible apply v_own | with_reducible apply v_dat | exact merge_self _ | with_reducible apply cmp_eq | with_reducible apply cmp_ne | rfl)
end
end Pu
end
section
namespace Pu
section
variable {ws xs : List Int} {g : Int} {w : List Nat}
theorem le_of_sq {a b : Int} (hb : 0 ≤ b) (h : a * a < b * b) : a < b := by
  by_cases h' : a < b
  · exact h'
  · have := Int.mul_le_mul (show b ≤ a by omega) (show b ≤ a by omega) hb (by omega)
    omega
theorem pow_mono {a b : Int} (ha : 0 ≤ a) (h : a ≤ b) : ∀ n : Nat, a ^ n ≤ b ^ n
  | 0 => by simp
  | n + 1 => by
    rw [Int.pow_succ, Int.pow_succ]
    exact Int.mul_le_mul (pow_mono ha h n) h ha (Int.pow_nonneg (by omega))
theorem sq_mono {a b : Int} (ha : 0 ≤ a) (h : a ≤ b) : a * a ≤ b * b := Int.mul_le_mul h h ha (by omega)
theorem chk25_hd {G W : Int} {n : Nat} {Eb : List Int} (h : chk25 G W n Eb = true) : Eb.getD 1 0 < BIG * BIG := by
  simp only [chk25, Bool.and_eq_true, decide_eq_true_eq] at h
  exact h.1.1
theorem BIG_pos : 0 ≤ BIG := by unfold BIG; decide +kernel
/-- one flip more is below the bound, and nine flips of a road -/
theorem chk25_flip {Eb : List Int} (E : EqOk ws g) (S : Pos ws g xs) (P : PB ws.length Eb (shr ws xs)) (h : chk25 (g * g) (pr ws) ws.length Eb = true) {k : Nat} (hk : k < ws.length) : SolOk ws g (flr ws g xs k) BIG ∧ flp ws g xs k < BIG := by
  simp only [chk25, Bool.and_eq_true, decide_eq_true_eq] at h
  have F := S.fl E hk
  have r := (P.flr E S hk).row E F.new h.1.2
  refine ⟨F.new.sol r, r _ ?_⟩
  have hkx : k < xs.length := by rw [S.l]; exact hk
  rw [flr_set hkx]
  exact List.mem_set hkx _
theorem chk25_road {Eb : List Int} (E : EqOk ws g) (S : Pos ws g xs) (P : PB ws.length Eb (shr ws xs)) (h : chk25 (g * g) (pr ws) ws.length Eb = true) {j k : Nat} (hj : j < ws.length) (hk : k < ws.length) (hne : j ≠ k) :
    ∀ z ∈ rd (nr ws g xs j k j) (nr ws g xs j k k) 9 (xs.getD j 0) (xs.getD k 0), 1 ≤ z ∧ z < BIG := by
  simp only [chk25, Bool.and_eq_true, decide_eq_true_eq] at h
  have R := S.road E hj hk hne
  have F := S.fl E hj
  have hjx : j < xs.length := by rw [S.l]; exact hj
  have pos := rd_pos E 9 xs j k S hj hk hne
  have st := step_le E S P hj hk hne
  have P' := P.flr E S hj
  generalize hE : nextE (g * g) (pr ws) ws.length Eb = E' at *
  have a1 : xs.getD k 0 * xs.getD k 0 ≤ E'.getD 1 0 := by
    have a := P'.at1 (k := k) (by have := E.l1; omega) (by rw [shr_len F.new.l]; exact hk)
    rw [shr_at _ _ _ F.new.l hk, flr_set hjx, getD_set_ne hne] at a
    have b := E.at hk
    have c := S.at hk
    have d := Int.mul_le_mul_of_nonneg_right b (Int.mul_nonneg (show 0 ≤ xs.getD k 0 by omega) (show 0 ≤ xs.getD k 0 by omega))
    have e : ws.getD k 1 * (xs.getD k 0 * xs.getD k 0) = ws.getD k 1 * xs.getD k 0 * xs.getD k 0 := by grind
    omega
  have a2 : flp ws g xs j * flp ws g xs j ≤ E'.getD 1 0 := by
    have a := P'.at1 (k := j) (by have := E.l1; omega) (by rw [shr_len F.new.l]; exact hj)
    rw [shr_at _ _ _ F.new.l hj, flr_set hjx, getD_set_self hjx] at a
    have b := E.at hj
    have c := F.pos
    have d := Int.mul_le_mul_of_nonneg_right b (Int.mul_nonneg (show 0 ≤ flp ws g xs j by omega) (show 0 ≤ flp ws g xs j by omega))
    have e : ws.getD j 1 * (flp ws g xs j * flp ws g xs j) = ws.getD j 1 * flp ws g xs j * flp ws g xs j := by grind
    omega
  have xj := S.at hj
  have xk := S.at hk
  have fp := F.pos
  rw [R.fj] at a2 fp
  have pa := R.pa
  have pb := R.pb
  have hN := R.st
  have key : ∀ M, xs.getD k 0 ≤ M → nr ws g xs j k j * xs.getD k 0 - xs.getD j 0 ≤ M → M * M ≤ E'.getD 1 0 → ∀ z ∈ rd (nr ws g xs j k j) (nr ws g xs j k k) 9 (xs.getD j 0) (xs.getD k 0), z < BIG := by
    intro M h1 h2 hM z hz
    have hz1 := pos z hz
    have le := rd_le (show 1 ≤ nr ws g xs j k j * nr ws g xs j k k by omega) 4 9 _ _ _ _ M rfl pa pb xj xk h1 h2 (by omega) pos z hz
    generalize nr ws g xs j k j * nr ws g xs j k k = N at *
    generalize g * g * Eb.getD (ws.length - 2) 0 / pr ws = ST at *
    have n4 : N ^ 4 ≤ ST ^ 4 := pow_mono (by omega) st 4
    have p4 : 0 ≤ N ^ 4 := Int.pow_nonneg (by omega)
    have l2 : z ≤ ST ^ 4 * M := Int.le_trans le (Int.mul_le_mul_of_nonneg_right n4 (by omega))
    refine le_of_sq BIG_pos ?_
    have l3 := sq_mono (show 0 ≤ z by omega) l2
    have l4 : ST ^ 4 * M * (ST ^ 4 * M) = ST ^ 8 * (M * M) := by grind
    have p8 : 0 ≤ ST ^ 8 := Int.pow_nonneg (by omega)
    have l5 := Int.mul_le_mul_of_nonneg_left hM p8
    have := h.2
    omega
  intro z hz
  refine ⟨pos z hz, ?_⟩
  rcases Int.le_total (xs.getD k 0) (nr ws g xs j k j * xs.getD k 0 - xs.getD j 0) with hh | hh
  · exact key _ hh (Int.le_refl _) a2 z hz
  · exact key _ (Int.le_refl _) hh a1 z hz
theorem UpW.ad (R : Root ws g xs) (S : SolOk ws g xs BIG) (U : UpW ws g xs w) (hl : w.length ≤ 5000) : AdOk ws g xs w := by
  refine ⟨S, hl, U.k, R.lo, U.c, fun k hk z => ?_⟩
  refine U.h k hk ?_
  have hl := shr_len S.l
  have := fst_of_some (p := fun a => decide (a + a = (shr ws xs).sum)) (s := shr ws xs) (k := k) 0 (by rw [Nat.zero_add]; exact z)
  have hk2 : k < ws.length := by rw [← hl]; exact this.1
  exact (((R.S.fl R.E hk2).lt R.E R.S hk2).2.mp (of_decide_eq_true this.2)).symm
/-- all about what a word leads to -/
structure Here (ws : List Int) (g : Int) (xs : List Int) (w : List Nat) : Prop where
  W : WOk ws g xs w
  ad : AdOk ws g xs w
  S : SolOk ws g (wlk ws g xs w) BIG
  D : Dn ws g (wlk ws g xs w) w.reverse xs
theorem Root.here {c : List Int → Bool} (hc : ∀ Eb, c Eb = true → Eb.getD 1 0 < BIG * BIG) (R : Root ws g xs) {Eb : List Int} {h : Nat} (P : PB ws.length Eb (shr ws xs)) (o : okE c (g * g) (pr ws) ws.length Eb h = true) (U : UpW ws g xs w) (hl : w.length ≤ h) (hl2 : w.length ≤ 5000) :
    Here ws g xs w ∧ ∃ Eb', PB ws.length Eb' (shr ws (wlk ws g xs w)) ∧ c Eb' = true := by
  obtain ⟨W, S, Eb', P', k⟩ := wok_of hc R.E w xs h Eb R.S P o hl U.k
  have RB : RowB ws xs := by
    cases w with
    | nil => exact W
    | cons _ _ => exact W.1
  have S0 := R.S.sol (B := BIG) fun x hx => (RB.x x hx).2
  have D0 : Dn ws g xs [] xs := ⟨RB, R.lo, rfl⟩
  have D := (up_dn R.E w xs [] R.S D0 W (fun k hk => ⟨fun p hp => (by cases hp), fun _ => U.h k hk⟩) U.c).1
  rw [List.append_nil] at D
  exact ⟨⟨W, U.ad R S0 hl2, S.sol fun x hx => (D.row.x x hx).2, D⟩, Eb', P', k⟩
theorem Root.seen (R : Root ws g xs) (W : WOk ws g xs w) (U : UpW ws g xs w) : ∀ i, i + 2 < w.length → (seenL ws g xs w).getD (i + 1) 0 * (seenL ws g xs w).getD (i + 1) 0 ≤ (seenL ws g xs w).getD (i + 2) 0 * (seenL ws g xs w).getD i 0 := by
  have RB : RowB ws xs := by
    cases w with
    | nil => exact W
    | cons _ _ => exact W.1
  exact seen_ok R.E w xs [] R.S ⟨RB, R.lo, rfl⟩ W (fun k hk => ⟨fun p hp => (by cases hp), fun _ => U.h k hk⟩) U.c
end
end Pu
end
section
namespace Pu
open PySem F3
section
variable {Γ : Gm} {ρ ρ1 ρ2 ρ3 ρ4 : F3.Env} {e : IE} {x : PyData} {i k : Nat} {cs : List Int} {fn : Nat → Fn}
theorem s_mulE {is : List Nat} {es : List (Bool × IE)} {xs : List AV} (h : semM Γ es ρ = .ok xs ρ1) (hn : decide is.Nodup = true) (hm : merge ρ ρ1 = some ρ2) (h2 : setVs Γ is xs ρ2 = some ρ3) (h3 : NE ρ3 ρ4) : exS Γ (.mul is es) ρ = .nx ρ4 := by
  cases h3
  exact s_mul h (of_decide_eq_true hn) hm h2
theorem s_appE {xs ys : List PyData} (h : sem Γ e ρ = .ok x ρ1) (h0 : ρ[i]? = some (some (.l ys))) (h1 : ρ1[i]? = some (some (.l xs))) (h2 : fits (xs.length + 1) = true) (h3 : SetE ρ1 i (some (.l (xs ++ [x]))) ρ2) : exS Γ (.app i e) ρ = .nx ρ2 := s_app h h0 h1 h2 h3
theorem e_d {b : Option AV} {x : PyData} {r s t : F3.Env} (h : merge r s = some t) : merge (some (.d x) :: r) (b :: s) = some (some (.d x) :: t) := by
  rw [merge, h]
  rfl
theorem filter_ff {α : Type} (xs : List α) : xs.filter (fun _ => false) = [] := List.filter_eq_nil_iff.mpr (by simp)
theorem at_DL {xs : List Int} {k : Nat} (h : k < xs.length) : ixD (.list (xs.map .int)) (.int (k : Int)) = some (.int (xs.getD k 0)) := by
  rw [getD_at h]
  exact at_natL (by simp [h])
theorem at_DL' {xs : List Int} {k : Nat} {v : Int} (h : k < xs.length) (e : v = (k : Int)) : ixD (.list (xs.map .int)) (.int v) = some (.int (xs.getD k 0)) := by
  rw [e]
  exact at_DL h
theorem i_rng2A {a b : IE} {m n : Int} (h : sem Γ a ρ = .ok (.int m) ρ1) (h2 : sem Γ b ρ1 = .ok (.int n) ρ2) {s : Bool} (hs : (small62 m && small62 n) = s) : semI Γ (.rng2 a b) ρ = if s = true then .ok (rngD m (n - m).toNat) ρ2 else .bad := by
  rw [semI, h]
  show (sem Γ b ρ1).bind _ = _
  rw [h2]
  subst hs
  exact rfl
theorem sm62 {n : Nat} (h : n < 1000000) : small62 (n : Int) = true := by unfold small62; exact decide_eq_true ⟨by omega, by omega⟩
theorem i_rng2 {a b : IE} {m n : Nat} (h : sem Γ a ρ = .ok (.int (m : Nat)) ρ1) (h2 : sem Γ b ρ1 = .ok (.int (n : Nat)) ρ2) (hm : m < 1000000) (hn : n < 1000000) : semI Γ (.rng2 a b) ρ = .ok ((List.range' m (n - m)).map fun k : Nat => PyData.int (k : Nat)) ρ2 := by
  rw [i_rng2A h h2 (s := true) (by rw [sm62 hm, sm62 hn]; rfl), if_pos rfl, ← rngD_map]
  have e : ((n : Int) - (m : Int)).toNat = n - m := by omega
  rw [e]
/-- nothing is left of a comprehension whose test never holds -/
theorem lc_none {is : List Nat} {t : Tg} {it : II} {c : IE} {α : Type} (gg : α → PyData) (xs : List α) (h1 : semI Γ it ρ = .ok (xs.map gg) ρ) (h2 : noOwn ρ is = true) (hl : xs.length ≤ 100000)
    (h : ∀ x ∈ xs, ∃ ρ1 ρ2, assignT Γ t (gg x) (wipeE ρ is) = some ρ1 ∧ semT Γ c ρ1 = .ok false ρ2 ∧ merge (wipeE ρ is) ρ2 = some (wipeE ρ is))
    (hm : merge ρ (wipeE ρ is) = some ρ) : sem Γ (.lc is t it (some c) e) ρ = .ok (.list []) ρ := by
  have := sem_lcP (Γ := Γ) (is := is) (t := t) (it := it) (c := some c) (e := e) (ρ := ρ) gg (fun _ => false) (fun _ => PyData.none) xs h1 h2 hl (fun x hx => by
    obtain ⟨ρ1, ρ2, a, b, c⟩ := h x hx
    exact ⟨ρ1, ρ2, a, by rw [semC]; exact b, .inl ⟨rfl, c⟩⟩) hm
  rw [filter_ff] at this
  exact this
theorem prR (q : Nat → Bool) : ∀ (xs : List Int) (m : Nat), pr (((List.range' m xs.length).filter q).map fun i => xs.getD (i - m) 0) = pq q xs m
  | [], m => rfl
  | x :: r, m => by
    have ih := prR q r (m + 1)
    have e : ((List.range' (m + 1) r.length).filter q).map (fun i => (x :: r).getD (i - m) 0) = ((List.range' (m + 1) r.length).filter q).map (fun i => r.getD (i - (m + 1)) 0) := by
      apply List.map_congr_left
      intro i hi
      have := (List.mem_range'.mp (List.mem_filter.mp hi).1)
      obtain ⟨j, _, rfl⟩ := this
      rw [show m + 1 + 1 * j - m = (m + 1 + 1 * j - (m + 1)) + 1 by omega]
      rfl
    rw [List.length_cons, List.range'_succ]
    simp only [pq]
    by_cases h : q m = true
    · rw [List.filter_cons_of_pos (by exact h), List.map_cons, pr_cons, e, ih, if_pos h, Nat.sub_self]
      rfl
    · rw [List.filter_cons_of_neg (by exact h), e, ih, if_neg h, Int.one_mul]
theorem prR2 (xs : List Int) (j k : Nat) : pr (((List.range' 0 xs.length).filter fun i => decide (i ≠ j ∧ i ≠ k)).map fun i => xs.getD i 0) = pr (rst xs j k) := by
  rw [pr_rst, ← prR]
  rfl
end
end Pu
end
section
namespace Pu
open PySem F3
section
variable {cs : List Int} {fn : Nat → Fn}
theorem len_tI {xs : List Int} {n : Nat} (h : xs.length = n) : biD .len [tI xs] = some (.int n) := by
  show some (PyData.int ((xs.map PyData.int).length : Nat)) = _
  rw [List.length_map, h]
theorem shr_sm {ws X : List Int} {g : Int} (E : EqOk ws g) (S : SolOk ws g X BIG) {k : Nat} (hk : k < ws.length) : Sm 50000 ((shr ws X).getD k 0) := by
  rw [shr_at _ _ _ S.l hk]
  have a := sm12 (E.w _ (getD_mem (d := 1) hk))
  have b := S.row.sm _ (getD_mem (xs := X) (d := 0) (by rw [S.l]; exact hk))
  have a' : Sm 10000 (ws.getD k 1) := by
    unfold Sm
    have := E.w _ (getD_mem (d := 1) hk)
    have h4 : (ws.getD k 1).natAbs < 2 ^ 4 := by omega
    exact Nat.lt_of_lt_of_le h4 (Nat.pow_le_pow_right (by decide) (by decide))
  exact ((a'.mul b).mul b)

/-- one other place -/
theorem k25_j {X ws : List Int} {g whole : Int} {s' : List Int} {e0 e1 e2 e4 e5 e8 e9 e16 e17 e18 z6 z19 : Option AV} {j k : Nat} (E : EqOk ws g) (S : SolOk ws g X BIG) (hj : j < ws.length) (hk : k < ws.length) (hne : j ≠ k)
    (h20 : RoadStep (fn 20)) (h39 : ProductOf (fn 39)) (h38 : LawSame 1 (fn 38)) (hw : whole = (nr ws g X j k j * nr ws g X j k k - 2 + 2) * (shr ws X).getD j 0) :
    ∃ z6' z19', exSs (⟨fn, cs, [false]⟩ : Gm) [.if_ (.cmp .ne (.var 15) (.var 3))     [.set 6 (.call 20 [(.var 7), (.var 10), (.var 3), (.var 15)]), .set 19 (.bin .mul (.ix (.var 7) (.lit (.int 1))) (.call 39 [(.lc [20] (.n 20) (.rng1 (.var 11)) (some (.cmp .notin (.var 20) (.tup [(.var 15), (.var 3)]))) (.ix (.var 10) (.var 20)))])), .if_ (.or (.cmp .ne (.var 14) (.bin .mul (.bin .add (.var 6) (.lit (.int 2))) (.ix (.var 12) (.var 15)))) (.or (.cmp .lt (.var 6) (.lit (.int 3))) (.cmp .ne (.bin .mul (.bin .mul (.bin .add (.var 6) (.lit (.int 2))) (.ix (.ix (.var 7) (.lit (.int 0))) (.var 15))) (.ix (.ix (.var 7) (.lit (.int 0))) (.var 3))) (.bin .mul (.var 19) (.var 19)))))     [.ret (.lit (.bool false))]     [], .if_ (.not (.call 38 [(.call 20 [(.var 7), (.var 10), (.var 15), (.var 3)]), (.var 6)]))     [.ret (.lit (.bool false))]     []]     []] [e0, e1, e2, some (.d (.int (k : Nat))), e4, e5, z6, some (.d (eqD ws g)), e8, e9, some (.d (tI X)), some (.d (.int ws.length)), some (.d (tI (shr ws X))), some (.d (tI s')), some (.d (.int whole)), some (.d (.int (j : Nat))), e16, e17, e18, z19, none] = .nx [e0, e1, e2, some (.d (.int (k : Nat))), e4, e5, z6', some (.d (eqD ws g)), e8, e9, some (.d (tI X)), some (.d (.int ws.length)), some (.d (tI (shr ws X))), some (.d (tI s')), some (.d (.int whole)), some (.d (.int (j : Nat))), e16, e17, e18, z19', none] := by
  have P := S.pos
  have R := P.road E hj hk hne
  have a20 := h20 ws g X k j E S hk hj (Ne.symm hne)
  rw [nr_comm (j := k) (k := j) k, nr_comm (j := k) (k := j) j, Int.mul_comm] at a20
  have b20 := h20 ws g X j k E S hj hk hne
  have sA := nr_sm (j := j) (k := k) E S hj
  have sB := nr_sm (j := j) (k := k) E S hk
  have st := R.st
  have sq := R.sq
  have sAB := sA.mul sB
  generalize nr ws g X j k j * nr ws g X j k k = N at *
  have c38 := h38 (.int (N - 2)) (.int _ _)
  have lX : X.length = ws.length := S.l
  have l6 := E.l2
  have l3 := E.l1
  have sb := shr_sm E S hj
  have ls := shr_len S.l
  have i12 := at_D (xs := shr ws X) 0 (k := j) (by rw [ls]; exact hj)
  have ij := at_D (xs := ws) 1 hj
  have ik := at_D (xs := ws) 1 hk
  have q0 := eq0 ws g
  have q1 := eq1 ws g
  have n1 : cmpD .ne (.int (j : Nat)) (.int (k : Nat)) = some true := by
    rw [cmp_ne]
    have : ¬ (j : Int) = k := by omega
    simp [this]
  have eN : N - 2 + 2 = N := by omega
  have m1 : binD .mul (.int (N - 2 + 2)) (.int ((shr ws X).getD j 0)) = some (.int ((N - 2 + 2) * (shr ws X).getD j 0)) := by
    rw [eN]; exact bin_mul (mulOk_sm sAB sb (by decide))
  have wj := E.w _ (getD_mem (d := 1) hj)
  have wk := E.w _ (getD_mem (d := 1) hk)
  have m2 : binD .mul (.int (N - 2 + 2)) (.int (ws.getD j 1)) = some (.int ((N - 2 + 2) * ws.getD j 1)) := bin_mul (mulOk_r (by omega) (by omega))
  have m3 : binD .mul (.int ((N - 2 + 2) * ws.getD j 1)) (.int (ws.getD k 1)) = some (.int ((N - 2 + 2) * ws.getD j 1 * ws.getD k 1)) := bin_mul (mulOk_r (by omega) (by omega))
  have rp := rst_pos (j := j) (k := k) P
  have srst : Sm 120001 (pr (rst X j k)) := (pr_sm (b := 20000) (rst X j k) 1 1 (by simp [Sm]) fun z hz => S.row.sm z (rst_mem hz)).mono (by have := rst_len X j k; omega)
  have m4 : binD .mul (.int g) (.int (pr (rst X j k))) = some (.int (g * pr (rst X j k))) := bin_mul (mulOk_60 E.f1 E.f2)
  have sg : Sm 6 g := by unfold Sm; have := E.f1; have := E.f2; omega
  have m5 := bin_mul (mulOk_sm (sg.mul srst) (sg.mul srst) (by decide))
  have c1 : cmpD .ne (.int whole) (.int ((N - 2 + 2) * (shr ws X).getD j 0)) = some false := by rw [cmp_ne, ← hw]; simp
  have c2 : cmpD .lt (.int (N - 2)) (.int 3) = some false := by rw [cmp_lt, decide_eq_false (by omega)]
  have c3 : cmpD .ne (.int ((N - 2 + 2) * ws.getD j 1 * ws.getD k 1)) (.int (g * pr (rst X j k) * (g * pr (rst X j k)))) = some false := by rw [cmp_ne, eN, sq]; simp
  have z62 : small62 (ws.length : Int) = true := sm62 (by omega)
  have lc := sem_lcP (Γ := ⟨fn, cs, [false]⟩) (is := [20]) (t := .n 20) (it := (.rng1 (.var 11))) (c := some (.cmp .notin (.var 20) (.tup [(.var 15), (.var 3)]))) (e := (.ix (.var 10) (.var 20))) (ρ := [e0, e1, e2, some (.d (.int (k : Nat))), e4, e5, some (.d (.int (N - 2))), some (.d (eqD ws g)), e8, e9, some (.d (tI X)), some (.d (.int ws.length)), some (.d (tI (shr ws X))), some (.d (tI s')), some (.d (.int whole)), some (.d (.int (j : Nat))), e16, e17, e18, z19, none])
    (fun i : Nat => PyData.int (i : Nat)) (fun i => decide (i ≠ j ∧ i ≠ k)) (fun i => PyData.int (X.getD i 0)) (List.range' 0 ws.length) (by rw [← rngD_map]; exact i_rng (r_var rfl) z62) rfl (by rw [List.length_range']; omega)
    (fun i hi => ⟨[e0, e1, e2, some (.d (.int (k : Nat))), e4, e5, some (.d (.int (N - 2))), some (.d (eqD ws g)), e8, e9, some (.d (tI X)), some (.d (.int ws.length)), some (.d (tI (shr ws X))), some (.d (tI s')), some (.d (.int whole)), some (.d (.int (j : Nat))), e16, e17, e18, z19, some (.d (.int (i : Nat)))], [e0, e1, e2, some (.d (.int (k : Nat))), e4, e5, some (.d (.int (N - 2))), some (.d (eqD ws g)), e8, e9, some (.d (tI X)), some (.d (.int ws.length)), some (.d (tI (shr ws X))), some (.d (tI s')), some (.d (.int whole)), some (.d (.int (j : Nat))), e16, e17, e18, z19, some (.d (.int (i : Nat)))], rfl, by rw [semC]; exact t_cmp (r_var rfl) (r_tup (l_cons (r_var rfl) (l_cons (r_var rfl) l_nil))) (notin2 i j k), by
      have hi : i < X.length := by obtain ⟨t, h, rfl⟩ := List.mem_range'.mp hi; omega
      by_cases q : i ≠ j ∧ i ≠ k
      · exact .inr ⟨decide_eq_true q, _, r_ix (r_var rfl) (r_var rfl) (at_D 0 hi), by repeat' (first | exact e_nil | apply e_eq | apply e_no)⟩
      · exact .inl ⟨decide_eq_false q, by repeat' (first | exact e_nil | apply e_eq | apply e_no)⟩⟩) (merge_self _)
  obtain ⟨G, hG⟩ : ∃ G, G = ((List.range' 0 ws.length).filter fun i => decide (i ≠ j ∧ i ≠ k)).map fun i => X.getD i 0 := ⟨_, rfl⟩
  have eG : (((List.range' 0 ws.length).filter fun i => decide (i ≠ j ∧ i ≠ k)).map fun i => PyData.int (X.getD i 0)) = G.map .int := by rw [hG, List.map_map]; rfl
  rw [eG] at lc
  have pG : pr G = pr (rst X j k) := by rw [hG, ← lX, prR2]
  have a39 := h39 (.list (G.map .int)) G rfl (by rw [hG, List.length_map]; have := List.length_filter_le (fun i => decide (i ≠ j ∧ i ≠ k)) (List.range' 0 ws.length); rw [List.length_range'] at this; omega) fun z hz => by
    rw [hG] at hz
    obtain ⟨i, hi, rfl⟩ := List.mem_map.mp hz
    obtain ⟨t, h, rfl⟩ := List.mem_range'.mp (List.mem_filter.mp hi).1
    exact S.row.sm _ (getD_mem (by omega))
  rw [pG] at a39
  refine ⟨some (.d (.int (N - 2))), some (.d (.int (g * pr (rst X j k)))), ?_⟩
  repeat' (first | with_reducible apply l_nil | with_reducible apply o_none | with_reducible apply r_lit | with_reducible apply ss_nil | with_reducible apply r_var | with_reducible apply r_ovar | with_reducible apply l_cons | with_reducible apply o_some | with_reducible apply r_bin | with_reducible apply r_neg | with_reducible apply r_ix | with_reducible apply r_sl | with_reducible apply r_tup | with_reducible apply r_lst | with_reducible apply r_bi | with_reducible apply r_glob | with_reducible apply r_cmp | with_reducible apply r_isN | with_reducible apply r_not | with_reducible apply r_and | with_reducible apply r_or | with_reducible apply r_ite | with_reducible apply r_chain | with_reducible apply r_callE | with_reducible apply r_call | with_reducible apply t_cmp | with_reducible apply t_not | with_reducible apply t_isN | with_reducible apply t_and | with_reducible apply t_or | with_reducible apply t_chain | with_reducible apply t_tru | with_reducible apply s_setE | with_reducible apply s_ownE | with_reducible apply s_asgE | with_reducible apply s_if | with_reducible apply s_ret | with_reducible apply s_retO | with_reducible apply f_lst | with_reducible apply f_list | with_reducible assumption | (dsimp only [List.map]; with_reducible assumption) | with_reducible apply i_t | with_reducible apply i_f | with_reducible apply i_nt | with_reducible apply i_nf | with_reducible exact set_0 | with_reducible apply set_s | (with_reducible refine ne_of ?_; dsimp only [List.set_cons_zero, List.set_cons_succ]; exact rfl) | with_reducible apply lt_b | with_reducible apply ss_go | with_reducible apply s_appE | with_reducible apply s_mulE | with_reducible apply m_nil | with_reducible apply m_cons | with_reducible apply v_own | with_reducible apply v_dat | exact merge_self _ | with_reducible apply cmp_eq | with_reducible apply cmp_ne | rfl)

end
end Pu
end
section
namespace Pu
open PySem F3
section
variable {cs : List Int} {fn : Nat → Fn}
/-- all other places -/
theorem k25_js {X ws : List Int} {g whole : Int} {s' : List Int} {e0 e1 e2 e4 e5 e8 e9 e16 e17 e18 : Option AV} {k : Nat} (E : EqOk ws g) (S : SolOk ws g X BIG) (hk : k < ws.length)
    (h20 : RoadStep (fn 20)) (h39 : ProductOf (fn 39)) (h38 : LawSame 1 (fn 38)) (hw : ∀ j, j < ws.length → j ≠ k → whole = (nr ws g X j k j * nr ws g X j k k - 2 + 2) * (shr ws X).getD j 0) :
    ∀ (n i : Nat) (z6 z15 z19 : Option AV), i + n = ws.length → ∃ z6' z15' z19', forL (assignT (⟨fn, cs, [false]⟩ : Gm) (.n 15)) (exSs (⟨fn, cs, [false]⟩ : Gm) [.if_ (.cmp .ne (.var 15) (.var 3))     [.set 6 (.call 20 [(.var 7), (.var 10), (.var 3), (.var 15)]), .set 19 (.bin .mul (.ix (.var 7) (.lit (.int 1))) (.call 39 [(.lc [20] (.n 20) (.rng1 (.var 11)) (some (.cmp .notin (.var 20) (.tup [(.var 15), (.var 3)]))) (.ix (.var 10) (.var 20)))])), .if_ (.or (.cmp .ne (.var 14) (.bin .mul (.bin .add (.var 6) (.lit (.int 2))) (.ix (.var 12) (.var 15)))) (.or (.cmp .lt (.var 6) (.lit (.int 3))) (.cmp .ne (.bin .mul (.bin .mul (.bin .add (.var 6) (.lit (.int 2))) (.ix (.ix (.var 7) (.lit (.int 0))) (.var 15))) (.ix (.ix (.var 7) (.lit (.int 0))) (.var 3))) (.bin .mul (.var 19) (.var 19)))))     [.ret (.lit (.bool false))]     [], .if_ (.not (.call 38 [(.call 20 [(.var 7), (.var 10), (.var 15), (.var 3)]), (.var 6)]))     [.ret (.lit (.bool false))]     []]     []]) (rngD (i : Nat) n) [e0, e1, e2, some (.d (.int (k : Nat))), e4, e5, z6, some (.d (eqD ws g)), e8, e9, some (.d (tI X)), some (.d (.int ws.length)), some (.d (tI (shr ws X))), some (.d (tI s')), some (.d (.int whole)), z15, e16, e17, e18, z19, none] = .nx [e0, e1, e2, some (.d (.int (k : Nat))), e4, e5, z6', some (.d (eqD ws g)), e8, e9, some (.d (tI X)), some (.d (.int ws.length)), some (.d (tI (shr ws X))), some (.d (tI s')), some (.d (.int whole)), z15', e16, e17, e18, z19', none]
  | 0, i, z6, z15, z19, _ => ⟨z6, z15, z19, rfl⟩
  | n + 1, i, z6, z15, z19, hi => by
    have t0 : assignT (⟨fn, cs, [false]⟩ : Gm) (.n 15) (.int (i : Nat)) [e0, e1, e2, some (.d (.int (k : Nat))), e4, e5, z6, some (.d (eqD ws g)), e8, e9, some (.d (tI X)), some (.d (.int ws.length)), some (.d (tI (shr ws X))), some (.d (tI s')), some (.d (.int whole)), z15, e16, e17, e18, z19, none] = some [e0, e1, e2, some (.d (.int (k : Nat))), e4, e5, z6, some (.d (eqD ws g)), e8, e9, some (.d (tI X)), some (.d (.int ws.length)), some (.d (tI (shr ws X))), some (.d (tI s')), some (.d (.int whole)), some (.d (.int (i : Nat))), e16, e17, e18, z19, none] := rfl
    have body : ∃ z6' z19', exSs (⟨fn, cs, [false]⟩ : Gm) [.if_ (.cmp .ne (.var 15) (.var 3))     [.set 6 (.call 20 [(.var 7), (.var 10), (.var 3), (.var 15)]), .set 19 (.bin .mul (.ix (.var 7) (.lit (.int 1))) (.call 39 [(.lc [20] (.n 20) (.rng1 (.var 11)) (some (.cmp .notin (.var 20) (.tup [(.var 15), (.var 3)]))) (.ix (.var 10) (.var 20)))])), .if_ (.or (.cmp .ne (.var 14) (.bin .mul (.bin .add (.var 6) (.lit (.int 2))) (.ix (.var 12) (.var 15)))) (.or (.cmp .lt (.var 6) (.lit (.int 3))) (.cmp .ne (.bin .mul (.bin .mul (.bin .add (.var 6) (.lit (.int 2))) (.ix (.ix (.var 7) (.lit (.int 0))) (.var 15))) (.ix (.ix (.var 7) (.lit (.int 0))) (.var 3))) (.bin .mul (.var 19) (.var 19)))))     [.ret (.lit (.bool false))]     [], .if_ (.not (.call 38 [(.call 20 [(.var 7), (.var 10), (.var 15), (.var 3)]), (.var 6)]))     [.ret (.lit (.bool false))]     []]     []] [e0, e1, e2, some (.d (.int (k : Nat))), e4, e5, z6, some (.d (eqD ws g)), e8, e9, some (.d (tI X)), some (.d (.int ws.length)), some (.d (tI (shr ws X))), some (.d (tI s')), some (.d (.int whole)), some (.d (.int (i : Nat))), e16, e17, e18, z19, none] = .nx [e0, e1, e2, some (.d (.int (k : Nat))), e4, e5, z6', some (.d (eqD ws g)), e8, e9, some (.d (tI X)), some (.d (.int ws.length)), some (.d (tI (shr ws X))), some (.d (tI s')), some (.d (.int whole)), some (.d (.int (i : Nat))), e16, e17, e18, z19', none] := by
      by_cases h : i = k
      · have n1 : cmpD .ne (.int (i : Nat)) (.int (k : Nat)) = some false := by rw [cmp_ne, h]; simp
        refine ⟨z6, z19, ?_⟩
        repeat' (first | with_reducible apply l_nil | with_reducible apply o_none | with_reducible apply r_lit | with_reducible apply ss_nil | with_reducible apply r_var | with_reducible apply r_ovar | with_reducible apply l_cons | with_reducible apply o_some | with_reducible apply r_bin | with_reducible apply r_neg | with_reducible apply r_ix | with_reducible apply r_sl | with_reducible apply r_tup | with_reducible apply r_lst | with_reducible apply r_bi | with_reducible apply r_glob | with_reducible apply r_cmp | with_reducible apply r_isN | with_reducible apply r_not | with_reducible apply r_and | with_reducible apply r_or | with_reducible apply r_ite | with_reducible apply r_chain | with_reducible apply r_callE | with_reducible apply r_call | with_reducible apply t_cmp | with_reducible apply t_not | with_reducible apply t_isN | with_reducible apply t_and | with_reducible apply t_or | with_reducible apply t_chain | with_reducible apply t_tru | with_reducible apply s_setE | with_reducible apply s_ownE | with_reducible apply s_asgE | with_reducible apply s_if | with_reducible apply s_ret | with_reducible apply s_retO | with_reducible apply f_lst | with_reducible apply f_list | with_reducible assumption | (dsimp only [List.map]; with_reducible assumption) | with_reducible apply i_t | with_reducible apply i_f | with_reducible apply i_nt | with_reducible apply i_nf | with_reducible exact set_0 | with_reducible apply set_s | (with_reducible refine ne_of ?_; dsimp only [List.set_cons_zero, List.set_cons_succ]; exact rfl) | with_reducible apply lt_b | with_reducible apply ss_go | with_reducible apply s_appE | with_reducible apply s_mulE | with_reducible apply m_nil | with_reducible apply m_cons | with_reducible apply v_own | with_reducible apply v_dat | exact merge_self _ | with_reducible apply cmp_eq | with_reducible apply cmp_ne | rfl)
      · exact k25_j E S (by omega) hk h h20 h39 h38 (hw i (by omega) h)
    obtain ⟨z6', z19', body⟩ := body
    obtain ⟨a, b, c, ih⟩ := k25_js E S hk h20 h39 h38 hw n (i + 1) z6' (some (.d (.int (i : Nat)))) z19' (by omega)
    refine ⟨a, b, c, ?_⟩
    rw [rngD]
    refine (for_cons t0 body).trans ?_
    rw [show ((i : Int) + 1) = ((i + 1 : Nat) : Int) by omega, ih]
/-- all places -/
theorem k25_ks {X ws : List Int} {g : Int} {e0 e1 e2 e4 e5 e8 e9 e16 e17 e18 : Option AV} (E : EqOk ws g) (S : SolOk ws g X BIG) (hf : ∀ k, k < ws.length → SolOk ws g (flr ws g X k) BIG ∧ flp ws g X k < BIG)
    (h17 : Shares (fn 17)) (h26 : Flip (fn 26)) (h20 : RoadStep (fn 20)) (h39 : ProductOf (fn 39)) (h38 : LawSame 1 (fn 38)) :
    ∀ (n i : Nat) (z3 z6 z13 z14 z15 z19 : Option AV), i + n = ws.length → (n = 0 → ∃ x, z3 = some (.d x)) → ∃ z3' z6' z13' z14' z15' z19', forL (assignT (⟨fn, cs, [false]⟩ : Gm) (.n 3)) (exSs (⟨fn, cs, [false]⟩ : Gm) [.set 13 (.call 17 [(.var 7), (.call 26 [(.var 7), (.var 10), (.var 3)])]), .set 14 (.bin .add (.bin .add (.ix (.var 13) (.var 3)) (.ix (.var 12) (.var 3))) (.bin .mul (.lit (.int 2)) (.bin .sub (.bi .sum [(.var 12)]) (.ix (.var 12) (.var 3))))), .for_ (.n 15) (.rng1 (.var 11))     [.if_ (.cmp .ne (.var 15) (.var 3))     [.set 6 (.call 20 [(.var 7), (.var 10), (.var 3), (.var 15)]), .set 19 (.bin .mul (.ix (.var 7) (.lit (.int 1))) (.call 39 [(.lc [20] (.n 20) (.rng1 (.var 11)) (some (.cmp .notin (.var 20) (.tup [(.var 15), (.var 3)]))) (.ix (.var 10) (.var 20)))])), .if_ (.or (.cmp .ne (.var 14) (.bin .mul (.bin .add (.var 6) (.lit (.int 2))) (.ix (.var 12) (.var 15)))) (.or (.cmp .lt (.var 6) (.lit (.int 3))) (.cmp .ne (.bin .mul (.bin .mul (.bin .add (.var 6) (.lit (.int 2))) (.ix (.ix (.var 7) (.lit (.int 0))) (.var 15))) (.ix (.ix (.var 7) (.lit (.int 0))) (.var 3))) (.bin .mul (.var 19) (.var 19)))))     [.ret (.lit (.bool false))]     [], .if_ (.not (.call 38 [(.call 20 [(.var 7), (.var 10), (.var 15), (.var 3)]), (.var 6)]))     [.ret (.lit (.bool false))]     []]     []]]) (rngD (i : Nat) n) [e0, e1, e2, z3, e4, e5, z6, some (.d (eqD ws g)), e8, e9, some (.d (tI X)), some (.d (.int ws.length)), some (.d (tI (shr ws X))), z13, z14, z15, e16, e17, e18, z19, none] = .nx [e0, e1, e2, some (.d z3'), e4, e5, z6', some (.d (eqD ws g)), e8, e9, some (.d (tI X)), some (.d (.int ws.length)), some (.d (tI (shr ws X))), z13', z14', z15', e16, e17, e18, z19', none]
  | 0, i, z3, z6, z13, z14, z15, z19, _, hz => by
    obtain ⟨x, rfl⟩ := hz rfl
    exact ⟨x, z6, z13, z14, z15, z19, rfl⟩
  | n + 1, i, z3, z6, z13, z14, z15, z19, hi, _ => by
    have hk : i < ws.length := by omega
    have F := hf i hk
    have t0 : assignT (⟨fn, cs, [false]⟩ : Gm) (.n 3) (.int (i : Nat)) [e0, e1, e2, z3, e4, e5, z6, some (.d (eqD ws g)), e8, e9, some (.d (tI X)), some (.d (.int ws.length)), some (.d (tI (shr ws X))), z13, z14, z15, e16, e17, e18, z19, none] = some [e0, e1, e2, some (.d (.int (i : Nat))), e4, e5, z6, some (.d (eqD ws g)), e8, e9, some (.d (tI X)), some (.d (.int ws.length)), some (.d (tI (shr ws X))), z13, z14, z15, e16, e17, e18, z19, none] := rfl
    have a26 := h26 ws g X i E S hk F.2
    have a17 := h17 ws g (flr ws g X i) E F.1
    have ls := shr_len S.l
    have ls' := shr_len F.1.l
    have i13 := at_D (xs := shr ws (flr ws g X i)) 0 (k := i) (by rw [ls']; exact hk)
    have i12 := at_D (xs := shr ws X) 0 (k := i) (by rw [ls]; exact hk)
    have sm : biD .sum [tI (shr ws X)] = some (.int (shr ws X).sum) := sum_tup _
    have m2 : binD .mul (.int 2) (.int ((shr ws X).sum - (shr ws X).getD i 0)) = some (.int (2 * ((shr ws X).sum - (shr ws X).getD i 0))) := bin_mul (mulOk_l (by decide) (by decide))
    have z62 : small62 (ws.length : Int) = true := sm62 (by have := E.l2; omega)
    obtain ⟨z6a, z15a, z19a, js⟩ := k25_js (cs := cs) (fn := fn) (X := X) (ws := ws) (g := g) (whole := (shr ws (flr ws g X i)).getD i 0 + (shr ws X).getD i 0 + 2 * ((shr ws X).sum - (shr ws X).getD i 0)) (s' := shr ws (flr ws g X i)) (e0 := e0) (e1 := e1) (e2 := e2) (e4 := e4) (e5 := e5) (e8 := e8) (e9 := e9) (e16 := e16) (e17 := e17) (e18 := e18) (k := i) E S hk h20 h39 h38 (fun j hj hne => whole_eq E S.pos hj hk hne) ws.length 0 z6 z15 z19 (by omega)
    have js := for_of (it := (.rng1 (.var 11))) (i_rng (r_var rfl) z62) js
    have body : exSs (⟨fn, cs, [false]⟩ : Gm) [.set 13 (.call 17 [(.var 7), (.call 26 [(.var 7), (.var 10), (.var 3)])]), .set 14 (.bin .add (.bin .add (.ix (.var 13) (.var 3)) (.ix (.var 12) (.var 3))) (.bin .mul (.lit (.int 2)) (.bin .sub (.bi .sum [(.var 12)]) (.ix (.var 12) (.var 3))))), .for_ (.n 15) (.rng1 (.var 11))     [.if_ (.cmp .ne (.var 15) (.var 3))     [.set 6 (.call 20 [(.var 7), (.var 10), (.var 3), (.var 15)]), .set 19 (.bin .mul (.ix (.var 7) (.lit (.int 1))) (.call 39 [(.lc [20] (.n 20) (.rng1 (.var 11)) (some (.cmp .notin (.var 20) (.tup [(.var 15), (.var 3)]))) (.ix (.var 10) (.var 20)))])), .if_ (.or (.cmp .ne (.var 14) (.bin .mul (.bin .add (.var 6) (.lit (.int 2))) (.ix (.var 12) (.var 15)))) (.or (.cmp .lt (.var 6) (.lit (.int 3))) (.cmp .ne (.bin .mul (.bin .mul (.bin .add (.var 6) (.lit (.int 2))) (.ix (.ix (.var 7) (.lit (.int 0))) (.var 15))) (.ix (.ix (.var 7) (.lit (.int 0))) (.var 3))) (.bin .mul (.var 19) (.var 19)))))     [.ret (.lit (.bool false))]     [], .if_ (.not (.call 38 [(.call 20 [(.var 7), (.var 10), (.var 15), (.var 3)]), (.var 6)]))     [.ret (.lit (.bool false))]     []]     []]] [e0, e1, e2, some (.d (.int (i : Nat))), e4, e5, z6, some (.d (eqD ws g)), e8, e9, some (.d (tI X)), some (.d (.int ws.length)), some (.d (tI (shr ws X))), z13, z14, z15, e16, e17, e18, z19, none] = .nx [e0, e1, e2, some (.d (.int (i : Nat))), e4, e5, z6a, some (.d (eqD ws g)), e8, e9, some (.d (tI X)), some (.d (.int ws.length)), some (.d (tI (shr ws X))), some (.d (tI (shr ws (flr ws g X i)))), some (.d (.int ((shr ws (flr ws g X i)).getD i 0 + (shr ws X).getD i 0 + 2 * ((shr ws X).sum - (shr ws X).getD i 0)))), z15a, e16, e17, e18, z19a, none] := by
      apply ss_go
      · repeat' (first | with_reducible apply l_nil | with_reducible apply o_none | with_reducible apply r_lit | with_reducible apply ss_nil | with_reducible apply r_var | with_reducible apply r_ovar | with_reducible apply l_cons | with_reducible apply o_some | with_reducible apply r_bin | with_reducible apply r_neg | with_reducible apply r_ix | with_reducible apply r_sl | with_reducible apply r_tup | with_reducible apply r_lst | with_reducible apply r_bi | with_reducible apply r_glob | with_reducible apply r_cmp | with_reducible apply r_isN | with_reducible apply r_not | with_reducible apply r_and | with_reducible apply r_or | with_reducible apply r_ite | with_reducible apply r_chain | with_reducible apply r_callE | with_reducible apply r_call | with_reducible apply t_cmp | with_reducible apply t_not | with_reducible apply t_isN | with_reducible apply t_and | with_reducible apply t_or | with_reducible apply t_chain | with_reducible apply t_tru | with_reducible apply s_setE | with_reducible apply s_ownE | with_reducible apply s_asgE | with_reducible apply s_if | with_reducible apply s_ret | with_reducible apply s_retO | with_reducible apply f_lst | with_reducible apply f_list | with_reducible assumption | (dsimp only [List.map]; with_reducible assumption) | with_reducible apply i_t | with_reducible apply i_f | with_reducible apply i_nt | with_reducible apply i_nf | with_reducible exact set_0 | with_reducible apply set_s | (with_reducible refine ne_of ?_; dsimp only [List.set_cons_zero, List.set_cons_succ]; exact rfl) | with_reducible apply lt_b | with_reducible apply ss_go | with_reducible apply s_appE | with_reducible apply s_mulE | with_reducible apply m_nil | with_reducible apply m_cons | with_reducible apply v_own | with_reducible apply v_dat | exact merge_self _ | with_reducible apply cmp_eq | with_reducible apply cmp_ne | rfl)
      apply ss_go
      · repeat' (first | with_reducible apply l_nil | with_reducible apply o_none | with_reducible apply r_lit | with_reducible apply ss_nil | with_reducible apply r_var | with_reducible apply r_ovar | with_reducible apply l_cons | with_reducible apply o_some | with_reducible apply r_bin | with_reducible apply r_neg | with_reducible apply r_ix | with_reducible apply r_sl | with_reducible apply r_tup | with_reducible apply r_lst | with_reducible apply r_bi | with_reducible apply r_glob | with_reducible apply r_cmp | with_reducible apply r_isN | with_reducible apply r_not | with_reducible apply r_and | with_reducible apply r_or | with_reducible apply r_ite | with_reducible apply r_chain | with_reducible apply r_callE | with_reducible apply r_call | with_reducible apply t_cmp | with_reducible apply t_not | with_reducible apply t_isN | with_reducible apply t_and | with_reducible apply t_or | with_reducible apply t_chain | with_reducible apply t_tru | with_reducible apply s_setE | with_reducible apply s_ownE | with_reducible apply s_asgE | with_reducible apply s_if | with_reducible apply s_ret | with_reducible apply s_retO | with_reducible apply f_lst | with_reducible apply f_list | with_reducible assumption | (dsimp only [List.map]; with_reducible assumption) | with_reducible apply i_t | with_reducible apply i_f | with_reducible apply i_nt | with_reducible apply i_nf | with_reducible exact set_0 | with_reducible apply set_s | (with_reducible refine ne_of ?_; dsimp only [List.set_cons_zero, List.set_cons_succ]; exact rfl) | with_reducible apply lt_b | with_reducible apply ss_go | with_reducible apply s_appE | with_reducible apply s_mulE | with_reducible apply m_nil | with_reducible apply m_cons | with_reducible apply v_own | with_reducible apply v_dat | exact merge_self _ | with_reducible apply cmp_eq | with_reducible apply cmp_ne | rfl)
      exact ss_go js ss_nil
    obtain ⟨a, b, c, d, e, f, ih⟩ := k25_ks E S hf h17 h26 h20 h39 h38 n (i + 1) (some (.d (.int (i : Nat)))) z6a (some (.d (tI (shr ws (flr ws g X i))))) (some (.d (.int ((shr ws (flr ws g X i)).getD i 0 + (shr ws X).getD i 0 + 2 * ((shr ws X).sum - (shr ws X).getD i 0))))) z15a z19a (by omega) (fun _ => ⟨_, rfl⟩)
    refine ⟨a, b, c, d, e, f, ?_⟩
    rw [rngD]
    refine (for_cons t0 body).trans ?_
    rw [show ((i : Int) + 1) = ((i + 1 : Nat) : Int) by omega, ih]
theorem WOk.hd {ws xs : List Int} {g : Int} {w : List Nat} (W : WOk ws g xs w) : RowB ws xs := by
  cases w with
  | nil => exact W
  | cons _ _ => exact W.1
theorem k25_w {X ws : List Int} {g : Int} {e0 e1 e2 e4 e5 e6 e8 e9 e13 e14 e15 e19 : Option AV} (E : EqOk ws g) (h41 : LawFlip (fn 41)) : ∀ (r : List Nat) (Y : List Int) (acc : List Int) (z3 : PyData) (z18 : Option AV), WOk ws g Y r → acc.length + r.length ≤ 1000 →
    ∃ z3' z16' z18', forL (assignT (⟨fn, cs, [false]⟩ : Gm) (.n 3)) (exSs (⟨fn, cs, [false]⟩ : Gm) [.set 18 (.call 41 [(.var 7), (.var 16), (.var 3)]), .app 17 (.bin .mul (.bin .mul (.ix (.ix (.var 7) (.lit (.int 0))) (.var 3)) (.ix (.var 18) (.var 3))) (.ix (.var 18) (.var 3))), .set 16 (.var 18)]) (r.map fun k => PyData.int (k : Nat)) [e0, e1, e2, some (.d z3), e4, e5, e6, some (.d (eqD ws g)), e8, e9, some (.d (tI X)), some (.d (.int ws.length)), some (.d (tI (shr ws X))), e13, e14, e15, some (.d (tI Y)), some (.l (acc.map .int)), z18, e19, none] = .nx [e0, e1, e2, some (.d z3'), e4, e5, e6, some (.d (eqD ws g)), e8, e9, some (.d (tI X)), some (.d (.int ws.length)), some (.d (tI (shr ws X))), e13, e14, e15, z16', some (.l ((acc ++ seenL ws g Y r).map .int)), z18', e19, none]
  | [], Y, acc, z3, z18, _, _ => ⟨z3, _, z18, by rw [seenL, List.append_nil]; rfl⟩
  | k :: r, Y, acc, z3, z18, ⟨R, hk, hB, W⟩, hl => by
    have a41 := h41 ws g Y k E R hk
    have kx : k < Y.length := by rw [R.l]; exact hk
    have R' := W.hd
    have sf : Sm 20000 (flp ws g Y k) := by
      refine R'.sm _ ?_
      rw [flr_set kx]
      exact List.mem_set kx _
    have iw := at_D (xs := ws) 1 hk
    have ig := flr_at (ws := ws) (g := g) kx
    have q0 := eq0 ws g
    have ww := E.w _ (getD_mem (d := 1) hk)
    have m1 : binD .mul (.int (ws.getD k 1)) (.int (flp ws g Y k)) = some (.int (ws.getD k 1 * flp ws g Y k)) := bin_mul (mulOk_l (by omega) (by omega))
    have m2 := bin_mul (mulOk_sm ((sm12 ww).mul sf) sf (by decide))
    have ft : fits ((acc.map PyData.int).length + 1) = true := fits_le (by rw [List.length_map]; omega)
    have t0 : assignT (⟨fn, cs, [false]⟩ : Gm) (.n 3) (.int (k : Nat)) [e0, e1, e2, some (.d z3), e4, e5, e6, some (.d (eqD ws g)), e8, e9, some (.d (tI X)), some (.d (.int ws.length)), some (.d (tI (shr ws X))), e13, e14, e15, some (.d (tI Y)), some (.l (acc.map .int)), z18, e19, none] = some [e0, e1, e2, some (.d (.int (k : Nat))), e4, e5, e6, some (.d (eqD ws g)), e8, e9, some (.d (tI X)), some (.d (.int ws.length)), some (.d (tI (shr ws X))), e13, e14, e15, some (.d (tI Y)), some (.l (acc.map .int)), z18, e19, none] := rfl
    have body : exSs (⟨fn, cs, [false]⟩ : Gm) [.set 18 (.call 41 [(.var 7), (.var 16), (.var 3)]), .app 17 (.bin .mul (.bin .mul (.ix (.ix (.var 7) (.lit (.int 0))) (.var 3)) (.ix (.var 18) (.var 3))) (.ix (.var 18) (.var 3))), .set 16 (.var 18)] [e0, e1, e2, some (.d (.int (k : Nat))), e4, e5, e6, some (.d (eqD ws g)), e8, e9, some (.d (tI X)), some (.d (.int ws.length)), some (.d (tI (shr ws X))), e13, e14, e15, some (.d (tI Y)), some (.l (acc.map .int)), z18, e19, none] = .nx [e0, e1, e2, some (.d (.int (k : Nat))), e4, e5, e6, some (.d (eqD ws g)), e8, e9, some (.d (tI X)), some (.d (.int ws.length)), some (.d (tI (shr ws X))), e13, e14, e15, some (.d (tI (flr ws g Y k))), some (.l (acc.map .int ++ [.int (ws.getD k 1 * flp ws g Y k * flp ws g Y k)])), some (.d (tI (flr ws g Y k))), e19, none] := by
      apply ss_go
      · repeat' (first | with_reducible apply l_nil | with_reducible apply o_none | with_reducible apply r_lit | with_reducible apply ss_nil | with_reducible apply r_var | with_reducible apply r_ovar | with_reducible apply l_cons | with_reducible apply o_some | with_reducible apply r_bin | with_reducible apply r_neg | with_reducible apply r_ix | with_reducible apply r_sl | with_reducible apply r_tup | with_reducible apply r_lst | with_reducible apply r_bi | with_reducible apply r_glob | with_reducible apply r_cmp | with_reducible apply r_isN | with_reducible apply r_not | with_reducible apply r_and | with_reducible apply r_or | with_reducible apply r_ite | with_reducible apply r_chain | with_reducible apply r_callE | with_reducible apply r_call | with_reducible apply t_cmp | with_reducible apply t_not | with_reducible apply t_isN | with_reducible apply t_and | with_reducible apply t_or | with_reducible apply t_chain | with_reducible apply t_tru | with_reducible apply s_setE | with_reducible apply s_ownE | with_reducible apply s_asgE | with_reducible apply s_if | with_reducible apply s_ret | with_reducible apply s_retO | with_reducible apply f_lst | with_reducible apply f_list | with_reducible assumption | (dsimp only [List.map]; with_reducible assumption) | with_reducible apply i_t | with_reducible apply i_f | with_reducible apply i_nt | with_reducible apply i_nf | with_reducible exact set_0 | with_reducible apply set_s | (with_reducible refine ne_of ?_; dsimp only [List.set_cons_zero, List.set_cons_succ]; exact rfl) | with_reducible apply lt_b | with_reducible apply ss_go | with_reducible apply s_appE | with_reducible apply s_mulE | with_reducible apply m_nil | with_reducible apply m_cons | with_reducible apply v_own | with_reducible apply v_dat | exact merge_self _ | with_reducible apply cmp_eq | with_reducible apply cmp_ne | rfl)
      apply ss_go
      · repeat' (first | with_reducible apply l_nil | with_reducible apply o_none | with_reducible apply r_lit | with_reducible apply ss_nil | with_reducible apply r_var | with_reducible apply r_ovar | with_reducible apply l_cons | with_reducible apply o_some | with_reducible apply r_bin | with_reducible apply r_neg | with_reducible apply r_ix | with_reducible apply r_sl | with_reducible apply r_tup | with_reducible apply r_lst | with_reducible apply r_bi | with_reducible apply r_glob | with_reducible apply r_cmp | with_reducible apply r_isN | with_reducible apply r_not | with_reducible apply r_and | with_reducible apply r_or | with_reducible apply r_ite | with_reducible apply r_chain | with_reducible apply r_callE | with_reducible apply r_call | with_reducible apply t_cmp | with_reducible apply t_not | with_reducible apply t_isN | with_reducible apply t_and | with_reducible apply t_or | with_reducible apply t_chain | with_reducible apply t_tru | with_reducible apply s_setE | with_reducible apply s_ownE | with_reducible apply s_asgE | with_reducible apply s_if | with_reducible apply s_ret | with_reducible apply s_retO | with_reducible apply f_lst | with_reducible apply f_list | with_reducible assumption | (dsimp only [List.map]; with_reducible assumption) | with_reducible apply i_t | with_reducible apply i_f | with_reducible apply i_nt | with_reducible apply i_nf | with_reducible exact set_0 | with_reducible apply set_s | (with_reducible refine ne_of ?_; dsimp only [List.set_cons_zero, List.set_cons_succ]; exact rfl) | with_reducible apply lt_b | with_reducible apply ss_go | with_reducible apply s_appE | with_reducible apply s_mulE | with_reducible apply m_nil | with_reducible apply m_cons | with_reducible apply v_own | with_reducible apply v_dat | exact merge_self _ | with_reducible apply cmp_eq | with_reducible apply cmp_ne | rfl)
      apply ss_go
      · repeat' (first | with_reducible apply l_nil | with_reducible apply o_none | with_reducible apply r_lit | with_reducible apply ss_nil | with_reducible apply r_var | with_reducible apply r_ovar | with_reducible apply l_cons | with_reducible apply o_some | with_reducible apply r_bin | with_reducible apply r_neg | with_reducible apply r_ix | with_reducible apply r_sl | with_reducible apply r_tup | with_reducible apply r_lst | with_reducible apply r_bi | with_reducible apply r_glob | with_reducible apply r_cmp | with_reducible apply r_isN | with_reducible apply r_not | with_reducible apply r_and | with_reducible apply r_or | with_reducible apply r_ite | with_reducible apply r_chain | with_reducible apply r_callE | with_reducible apply r_call | with_reducible apply t_cmp | with_reducible apply t_not | with_reducible apply t_isN | with_reducible apply t_and | with_reducible apply t_or | with_reducible apply t_chain | with_reducible apply t_tru | with_reducible apply s_setE | with_reducible apply s_ownE | with_reducible apply s_asgE | with_reducible apply s_if | with_reducible apply s_ret | with_reducible apply s_retO | with_reducible apply f_lst | with_reducible apply f_list | with_reducible assumption | (dsimp only [List.map]; with_reducible assumption) | with_reducible apply i_t | with_reducible apply i_f | with_reducible apply i_nt | with_reducible apply i_nf | with_reducible exact set_0 | with_reducible apply set_s | (with_reducible refine ne_of ?_; dsimp only [List.set_cons_zero, List.set_cons_succ]; exact rfl) | with_reducible apply lt_b | with_reducible apply ss_go | with_reducible apply s_appE | with_reducible apply s_mulE | with_reducible apply m_nil | with_reducible apply m_cons | with_reducible apply v_own | with_reducible apply v_dat | exact merge_self _ | with_reducible apply cmp_eq | with_reducible apply cmp_ne | rfl)
      exact ss_nil
    obtain ⟨a, b, c, ih⟩ := k25_w (X := X) E h41 (e0 := e0) (e1 := e1) (e2 := e2) (e4 := e4) (e5 := e5) (e6 := e6) (e8 := e8) (e9 := e9) (e13 := e13) (e14 := e14) (e15 := e15) (e19 := e19) r (flr ws g Y k) (acc ++ [ws.getD k 1 * flp ws g Y k * flp ws g Y k]) (.int (k : Nat)) (some (.d (tI (flr ws g Y k)))) W (by simp at hl ⊢; omega)
    refine ⟨a, b, c, ?_⟩
    rw [List.map_cons]
    refine (for_cons t0 body).trans ?_
    rw [List.map_append] at ih
    refine ih.trans ?_
    rw [seenL, List.append_assoc]
    rfl
end
end Pu
end
section
namespace Pu
open PySem F3
section
variable {cs : List Int} {fn : Nat → Fn}
theorem drawn_of {f : Fn} {c : Int → Int → Nat → List Int → Bool} {tall : Nat → Nat} (h : Drawn f) (look : KN.all (lookB c tall) = true) (m : Int) (T : List PyData) (long : Int) (hT : TinOk m T) (hm : m < 900) (hl : 3 ≤ long) :
    ∃ (ws : List Int) (g : Int) (xs : List Int) (T' : List PyData) (Eb : List Int), Root ws g xs ∧ (ws.length : Int) ≤ long ∧ PB ws.length Eb (shr ws xs) ∧ okE (c (g * g) (pr ws) ws.length) (g * g) (pr ws) ws.length Eb (tall ws.length) = true ∧ TinOk (m + 7) T' ∧
      f [.l T, .d (.int long)] = .ok (.d (.tuple [eqD ws g, tI xs])) [.l T', .d (.int long)] := by
  obtain ⟨r, σ, T', hr, hlen, hσ, hT', e⟩ := h m T long hT hm hl
  obtain ⟨ws, g, xs⟩ := r
  have ok := List.all_eq_true.mp KN_all _ hr
  have lk := List.all_eq_true.mp look _ hr
  obtain ⟨R, l, p⟩ := mix_root ok hσ
  obtain ⟨Eb, P, o⟩ := mix_look hσ l p lk
  exact ⟨_, _, _, T', Eb, R, by simpa [hσ.length_eq] using hlen, P, o, hT', e⟩
theorem pick2 {n : Nat} {ys rest : List PyData} (hy : ys.length = 2) (h : ((List.range n).map fun k => PyData.int (k : Nat)).Perm (ys ++ rest)) : ∃ j k : Nat, j < n ∧ k < n ∧ j ≠ k ∧ ys = [.int (j : Nat), .int (k : Nat)] := by
  obtain ⟨σ, hσ, e⟩ := perm_back h
  have nd : σ.Nodup := hσ.nodup_iff.mpr List.nodup_range
  have hk : ∀ k ∈ σ, k < n := fun k h => List.mem_range.mp (hσ.mem_iff.mp h)
  match ys, hy with
  | [a, b], _ =>
    match σ, e, nd, hk with
    | j :: k :: t, e, nd, hk =>
      simp only [List.cons_append, List.nil_append, List.map_cons, List.cons.injEq] at e
      obtain ⟨rfl, rfl, _⟩ := e
      refine ⟨j, k, hk j (by simp), hk k (by simp), ?_, rfl⟩
      intro z
      subst z
      simp at nd
theorem TL.tI {d : Nat} {xs : List Int} (l : xs.length ≤ 100000) : TL (d + 1) (Pu.tI xs) := .tup _ _ (fun x h => by
  obtain ⟨i, _, rfl⟩ := List.mem_map.mp h
  exact .int _ i) (by simpa using l)
theorem TL.nI {d : Nat} {w : List Nat} (l : w.length ≤ 100000) : TL (d + 1) (Pu.nI w) := by
  rw [nI_tI]
  exact TL.tI (by simpa using l)
theorem TL.lst' {d : Nat} {xs : List PyData} (l : xs.length ≤ 100000) (h : ∀ x ∈ xs, TL d x) : TL (d + 1) (.list xs) := .lst _ _ h l
theorem ne_nil0 : cmpD .ne (.list []) (.list []) = some false := rfl

theorem k25_lap {e0 e2 : Option AV} (h45 : Drawn (fn 45)) (h46 : LawUp (fn 46)) (h47 : Tall (fn 47)) (h17 : Shares (fn 17)) (h32 : SolutionAt (fn 32)) (h28 : Height (fn 28)) (h40 : LawShares (fn 40)) (h38 : ∀ d, d ≤ 5 → LawSame d (fn 38))
    (h26 : Flip (fn 26)) (h20 : RoadStep (fn 20)) (h39 : ProductOf (fn 39)) (h41 : LawFlip (fn 41)) (h37 : Pick (fn 37)) (h19 : Road (fn 19))
    (m : Int) (T : List PyData) (z3 z4 z5 z6 z7 z8 z9 z10 z11 z12 z13 z14 z15 z16 z17 z18 z19 : Option AV) (hT : TinOk m T) (hm : m ≤ 200) :
    ∃ (T' : List PyData) (z3' z4' z5' z6' z7' z8' z9' z10' z11' z12' z13' z14' z15' z16' z17' z18' z19' : Option AV), TinOk (m + 100) T' ∧ exSs (⟨fn, cs, [false]⟩ : Gm) [.asg (.t [(.n 7), (.n 8)]) (.call 45 [(.ovar 1), (.lit (.int 6))]), .asg (.t [(.n 9), (.n 10)]) (.call 46 [(.ovar 1), (.var 7), (.var 8), (.call 47 [(.ovar 1), (.var 7)])]), .mul [11, 12] [(false, (.bi .len [(.var 10)])), (false, (.call 17 [(.var 7), (.var 10)]))], .if_ (.not (.call 38 [(.lst [(.var 12), (.call 32 [(.var 7), (.tup [(.var 8), (.var 9)])]), (.call 28 [(.var 7), (.var 10)])]), (.lst [(.bi .tup [(.call 40 [(.var 7), (.var 10)])]), (.var 10), (.bi .len [(.var 9)])])]))     [.ret (.lit (.bool false))]     [], .for_ (.n 3) (.rng1 (.var 11))     [.set 13 (.call 17 [(.var 7), (.call 26 [(.var 7), (.var 10), (.var 3)])]),      .set 14 (.bin .add (.bin .add (.ix (.var 13) (.var 3)) (.ix (.var 12) (.var 3))) (.bin .mul (.lit (.int 2)) (.bin .sub (.bi .sum [(.var 12)]) (.ix (.var 12) (.var 3))))),      .for_ (.n 15) (.rng1 (.var 11))     [.if_ (.cmp .ne (.var 15) (.var 3))     [.set 6 (.call 20 [(.var 7), (.var 10), (.var 3), (.var 15)]), .set 19 (.bin .mul (.ix (.var 7) (.lit (.int 1))) (.call 39 [(.lc [20] (.n 20) (.rng1 (.var 11)) (some (.cmp .notin (.var 20) (.tup [(.var 15), (.var 3)]))) (.ix (.var 10) (.var 20)))])), .if_ (.or (.cmp .ne (.var 14) (.bin .mul (.bin .add (.var 6) (.lit (.int 2))) (.ix (.var 12) (.var 15)))) (.or (.cmp .lt (.var 6) (.lit (.int 3))) (.cmp .ne (.bin .mul (.bin .mul (.bin .add (.var 6) (.lit (.int 2))) (.ix (.ix (.var 7) (.lit (.int 0))) (.var 15))) (.ix (.ix (.var 7) (.lit (.int 0))) (.var 3))) (.bin .mul (.var 19) (.var 19)))))     [.ret (.lit (.bool false))]     [], .if_ (.not (.call 38 [(.call 20 [(.var 7), (.var 10), (.var 15), (.var 3)]), (.var 6)]))     [.ret (.lit (.bool false))]     []]     []]], .mul [16, 17] [(false, (.var 8)), (true, (.lst []))], .for_ (.n 3) (.seq (.var 9))     [.set 18 (.call 41 [(.var 7), (.var 16), (.var 3)]),      .app 17 (.bin .mul (.bin .mul (.ix (.ix (.var 7) (.lit (.int 0))) (.var 3)) (.ix (.var 18) (.var 3))) (.ix (.var 18) (.var 3))),      .set 16 (.var 18)], .if_ (.cmp .ne (.lc [3] (.n 3) (.rng2 (.lit (.int 2)) (.bi .len [(.ovar 17)])) (some (.cmp .lt (.bin .mul (.ix (.ovar 17) (.var 3)) (.ix (.ovar 17) (.bin .sub (.var 3) (.lit (.int 2))))) (.bin .mul (.ix (.ovar 17) (.bin .sub (.var 3) (.lit (.int 1)))) (.ix (.ovar 17) (.bin .sub (.var 3) (.lit (.int 1))))))) (.var 3)) (.lst []))     [.ret (.lit (.bool false))]     [], .set 4 (.call 37 [(.ovar 1), (.bi .rngL [(.var 11)]), (.lit (.int 2))]), .set 5 (.call 19 [(.var 7), (.var 10), (.ix (.var 4) (.lit (.int 0))), (.ix (.var 4) (.lit (.int 1))), (.lit (.int 9))]), .set 6 (.call 20 [(.var 7), (.var 10), (.ix (.var 4) (.lit (.int 0))), (.ix (.var 4) (.lit (.int 1)))]), .if_ (.cmp .ne (.lc [3] (.n 3) (.rng2 (.lit (.int 2)) (.lit (.int 9))) (some (.cmp .ne (.bin .add (.ix (.var 5) (.bin .add (.var 3) (.lit (.int 2)))) (.ix (.var 5) (.bin .sub (.var 3) (.lit (.int 2))))) (.bin .mul (.var 6) (.ix (.var 5) (.var 3))))) (.var 3)) (.lst []))     [.ret (.lit (.bool false))]     [], .if_ (.and (.cmp .ge (.ix (.var 5) (.lit (.int 2))) (.ix (.var 5) (.lit (.int 0)))) (.and (.cmp .ge (.ix (.var 5) (.lit (.int 3))) (.ix (.var 5) (.lit (.int 1)))) (.cmp .ne (.lc [3] (.n 3) (.rng2 (.lit (.int 2)) (.lit (.int 9))) (some (.cmp .lt (.ix (.var 5) (.bin .add (.var 3) (.lit (.int 2)))) (.bin .mul (.lit (.int 2)) (.ix (.var 5) (.var 3))))) (.var 3)) (.lst []))))     [.ret (.lit (.bool false))]     []] [e0, some (.l (T)), e2, z3, z4, z5, z6, z7, z8, z9, z10, z11, z12, z13, z14, z15, z16, z17, z18, z19, none] = .nx [e0, some (.l (T')), e2, z3', z4', z5', z6', z7', z8', z9', z10', z11', z12', z13', z14', z15', z16', z17', z18', z19', none] := by
  obtain ⟨ws, g, xs, T1, Eb, R, _, P, ok, hT1, a45⟩ := drawn_of h45 KN_25 m T 6 hT (by omega) (by omega)
  have E := R.E
  have l3 := E.l1
  have l6 := E.l2
  obtain ⟨d, T2, hd, hT2, a47⟩ := h47 (m + 7) T1 ws g hT1 (by omega) l3 l6
  have dl : d ≤ 8 := by
    have : tallOf ws.length ≤ 9 := by
      generalize ws.length = n at l3 l6
      have : n = 3 ∨ n = 4 ∨ n = 5 ∨ n = 6 := by omega
      rcases this with rfl | rfl | rfl | rfl <;> decide
    omega
  have hW : ∀ w : List Nat, w.length ≤ d → (∀ k ∈ w, k < ws.length) → WOk ws g xs w := fun w h1 h2 => (wok_of (fun _ => chk25_hd) E w xs _ Eb R.S P ok (by omega) h2).1
  have S0 : SolOk ws g xs BIG := by
    have RB := (hW [] (by simp) (by simp)).hd
    exact R.S.sol fun x hx => (RB.x x hx).2
  obtain ⟨w, T3, hw, U, hT3, a46⟩ := h46 (m + 7 + 1) T2 ws g xs d hT2 (by omega) (by omega) E S0 hW
  obtain ⟨H, Eb', P', c'⟩ := R.here (fun _ => chk25_hd) P ok U (by omega) (by omega)
  have a32 : fn 32 [.d (eqD ws g), .d (.tuple [tI xs, nI w])] = .ok (.d (tI (wlk ws g xs w))) [.d (eqD ws g), .d (.tuple [tI xs, nI w])] := h32 ws g xs w E H.ad H.W
  have a28 := h28 ws g (wlk ws g xs w) w.reverse xs E H.S (by simp; omega) H.D
  rw [List.length_reverse] at a28
  have S := H.S
  have seen := R.seen H.W U
  have W := H.W
  have hf : ∀ k, k < ws.length → SolOk ws g (flr ws g (wlk ws g xs w) k) BIG ∧ flp ws g (wlk ws g xs w) k < BIG := fun k hk => chk25_flip E S.pos P' c' hk
  have hroad := fun (j k : Nat) (hj : j < ws.length) (hk : k < ws.length) (hne : j ≠ k) => chk25_road E S.pos P' c' hj hk hne
  have lX : (wlk ws g xs w).length = ws.length := S.l
  generalize wlk ws g xs w = X at *
  clear H hW P ok P' c' hd
  have a17 := h17 ws g X E S
  have a40 := h40 ws g X E S.row.sm
  have lnX : biD .len [tI X] = some (.int ws.length) := len_tI lX
  have lnw : biD .len [nI w] = some (.int w.length) := by rw [nI_tI]; exact len_tI (by simp)
  have bt : biD .tup [.list ((shr ws X).map .int)] = some (tI (shr ws X)) := rfl
  have ls := shr_len S.l
  have a38 := h38 2 (by omega) (.list [tI (shr ws X), tI X, .int w.length]) (TL.lst' (by simp) fun x hx => by
    simp only [List.mem_cons, List.not_mem_nil, or_false] at hx
    rcases hx with rfl | rfl | rfl
    · exact TL.tI (by omega)
    · exact TL.tI (by omega)
    · exact .int _ _)
  have z62 : small62 (ws.length : Int) = true := sm62 (by omega)
  obtain ⟨y3, y6, y13, y14, y15, y19, ks⟩ := k25_ks (cs := cs) (fn := fn) (X := X) (ws := ws) (g := g) (e0 := e0) (e1 := some (.l T3)) (e2 := e2) (e4 := z4) (e5 := z5) (e8 := some (.d (tI xs))) (e9 := some (.d (nI w))) (e16 := z16) (e17 := z17) (e18 := z18) E S hf h17 h26 h20 h39 (h38 1 (by omega)) ws.length 0 z3 z6 z13 z14 z15 z19 (by omega) (by omega)
  have ks := for_of (it := (.rng1 (.var 11))) (i_rng (r_var rfl) z62) ks
  obtain ⟨x3, x16, x18, fw⟩ := k25_w (cs := cs) (fn := fn) (X := X) (ws := ws) (g := g) (e0 := e0) (e1 := some (.l T3)) (e2 := e2) (e4 := z4) (e5 := z5) (e6 := y6) (e8 := some (.d (tI xs))) (e9 := some (.d (nI w))) (e13 := y13) (e14 := y14) (e15 := y15) (e19 := y19) E h41 w xs [] y3 z18 W (by simp; omega)
  rw [List.nil_append] at fw
  have fw := for_of (it := (.seq (.var 9))) (ρ := [e0, some (.l (T3)), e2, some (.d y3), z4, z5, y6, some (.d (eqD ws g)), some (.d (tI xs)), some (.d (nI w)), some (.d (tI X)), some (.d (.int ws.length)), some (.d (tI (shr ws X))), y13, y14, y15, some (.d (tI xs)), some (.l ([])), z18, y19, none]) (by rw [semI, r_var (x := nI w) rfl]; rfl) fw
  have lseen := seenL_len (ws := ws) (g := g) w xs
  have sseen : ∀ i, i < w.length → mulOk ((seenL ws g xs w).getD i 0) ((seenL ws g xs w).getD i 0) = true ∧ ∀ j, j < w.length → mulOk ((seenL ws g xs w).getD i 0) ((seenL ws g xs w).getD j 0) = true := by
    have key : ∀ (r : List Nat) (Y : List Int), WOk ws g Y r → ∀ i, i < r.length → Sm 60000 ((seenL ws g Y r).getD i 0) := by
      intro r
      induction r with
      | nil => intro Y W i h; simp at h
      | cons k r ih =>
        intro Y W i h
        obtain ⟨RB, hk, hB, W⟩ := W
        cases i with
        | zero =>
          have R' := W.hd
          have kx : k < Y.length := by rw [RB.l]; exact hk
          have sf : Sm 20000 (flp ws g Y k) := by
            refine R'.sm _ ?_
            rw [flr_set kx]
            exact List.mem_set kx _
          have q : Sm 60000 (ws.getD k 1 * flp ws g Y k * flp ws g Y k) := (((sm12 (E.w _ (getD_mem (d := 1) hk))).mul sf).mul sf).mono (by decide)
          rw [seenL, List.getD_cons_zero]
          exact q
        | succ i =>
          rw [seenL, List.getD_cons_succ]
          exact ih _ W i (by simpa using h)
    intro i hi
    exact ⟨mulOk_sm (key w xs W i hi) (key w xs W i hi) (by decide), fun j hj => mulOk_sm (key w xs W i hi) (key w xs W j hj) (by decide)⟩
  have ln17 : biD .len [.list ((seenL ws g xs w).map .int)] = some (.int (w.length : Nat)) := by
    show some (PyData.int (((seenL ws g xs w).map PyData.int).length : Nat)) = _
    rw [List.length_map, lseen]
  have lc7 := lc_none (Γ := (⟨fn, cs, [false]⟩ : Gm)) (is := [3]) (t := .n 3) (it := (.rng2 (.lit (.int 2)) (.bi .len [(.ovar 17)]))) (c := (.cmp .lt (.bin .mul (.ix (.ovar 17) (.var 3)) (.ix (.ovar 17) (.bin .sub (.var 3) (.lit (.int 2))))) (.bin .mul (.ix (.ovar 17) (.bin .sub (.var 3) (.lit (.int 1)))) (.ix (.ovar 17) (.bin .sub (.var 3) (.lit (.int 1))))))) (e := (.var 3)) (ρ := [e0, some (.l (T3)), e2, some (.d x3), z4, z5, y6, some (.d (eqD ws g)), some (.d (tI xs)), some (.d (nI w)), some (.d (tI X)), some (.d (.int ws.length)), some (.d (tI (shr ws X))), y13, y14, y15, x16, some (.l ((seenL ws g xs w).map .int)), x18, y19, none]) (fun k : Nat => PyData.int (k : Nat)) (List.range' 2 (w.length - 2)) (i_rng2 (m := 2) r_lit (r_bi (l_cons (r_ovar rfl) l_nil) ln17) (by omega) (by omega)) rfl (by rw [List.length_range']; omega)
    (fun q hq => ⟨[e0, some (.l (T3)), e2, some (.d (.int (q : Nat))), z4, z5, y6, some (.d (eqD ws g)), some (.d (tI xs)), some (.d (nI w)), some (.d (tI X)), some (.d (.int ws.length)), some (.d (tI (shr ws X))), y13, y14, y15, x16, some (.l ((seenL ws g xs w).map .int)), x18, y19, none], [e0, some (.l (T3)), e2, some (.d (.int (q : Nat))), z4, z5, y6, some (.d (eqD ws g)), some (.d (tI xs)), some (.d (nI w)), some (.d (tI X)), some (.d (.int ws.length)), some (.d (tI (shr ws X))), y13, y14, y15, x16, some (.l ((seenL ws g xs w).map .int)), x18, y19, none], rfl, by
      obtain ⟨t, ht, rfl⟩ := List.mem_range'.mp hq
      have h := seen t (by omega)
      rw [show 2 + 1 * t = t + 2 by omega]
      have i1 := at_DL' (xs := seenL ws g xs w) (k := t + 2) (v := ((t + 2 : Nat) : Int)) (by omega) rfl
      have i2 := at_DL' (xs := seenL ws g xs w) (k := t) (v := ((t + 2 : Nat) : Int) - 2) (by omega) (by omega)
      have i3 := at_DL' (xs := seenL ws g xs w) (k := t + 1) (v := ((t + 2 : Nat) : Int) - 1) (by omega) (by omega)
      have m1 := bin_mul ((sseen (t + 2) (by omega)).2 t (by omega))
      have m2 := bin_mul (sseen (t + 1) (by omega)).1
      have c1 : cmpD .lt (.int ((seenL ws g xs w).getD (t + 2) 0 * (seenL ws g xs w).getD t 0)) (.int ((seenL ws g xs w).getD (t + 1) 0 * (seenL ws g xs w).getD (t + 1) 0)) = some false := by rw [cmp_lt, decide_eq_false (by omega)]
      repeat' (first | with_reducible apply l_nil | with_reducible apply o_none | with_reducible apply r_lit | with_reducible apply ss_nil | with_reducible apply r_var | with_reducible apply r_ovar | with_reducible apply l_cons | with_reducible apply o_some | with_reducible apply r_bin | with_reducible apply r_neg | with_reducible apply r_ix | with_reducible apply r_sl | with_reducible apply r_tup | with_reducible apply r_lst | with_reducible apply r_bi | with_reducible apply r_glob | with_reducible apply r_cmp | with_reducible apply r_isN | with_reducible apply r_not | with_reducible apply r_and | with_reducible apply r_or | with_reducible apply r_ite | with_reducible apply r_chain | with_reducible apply r_callE | with_reducible apply r_call | with_reducible apply t_cmp | with_reducible apply t_not | with_reducible apply t_isN | with_reducible apply t_and | with_reducible apply t_or | with_reducible apply t_chain | with_reducible apply t_tru | with_reducible apply s_setE | with_reducible apply s_ownE | with_reducible apply s_asgE | with_reducible apply s_if | with_reducible apply s_ret | with_reducible apply s_retO | with_reducible apply f_lst | with_reducible apply f_list | with_reducible assumption | (dsimp only [List.map]; with_reducible assumption) | with_reducible apply i_t | with_reducible apply i_f | with_reducible apply i_nt | with_reducible apply i_nf | with_reducible exact set_0 | with_reducible apply set_s | (with_reducible refine ne_of ?_; dsimp only [List.set_cons_zero, List.set_cons_succ]; exact rfl) | with_reducible apply lt_b | with_reducible apply ss_go | with_reducible apply s_appE | with_reducible apply s_mulE | with_reducible apply m_nil | with_reducible apply m_cons | with_reducible apply v_own | with_reducible apply v_dat | exact merge_self _ | with_reducible apply cmp_eq | with_reducible apply cmp_ne | rfl), by repeat' (first | exact e_nil | apply e_eq | apply e_no)⟩) (by repeat' (first | exact e_nil | apply e_eq | apply e_d | apply e_no))
  obtain ⟨ys, rest, T4, hy, hP, hT4, a37⟩ := h37 (m + 7 + 1 + d) T3 ((List.range ws.length).map fun k => PyData.int (k : Nat)) 2 hT3 (by omega) (by simp; omega) (by simp; omega)
  obtain ⟨j, k, hj, hk, hne, rfl⟩ := pick2 hy hP
  have a37 : fn 37 [.l T3, .d (.list ((List.range ws.length).map fun k => PyData.int (k : Nat))), .d (.int 2)] = .ok (.d (.list [.int (j : Nat), .int (k : Nat)])) [.l T4, .d (.list ((List.range ws.length).map fun k => PyData.int (k : Nat))), .d (.int 2)] := a37
  have g1 : biD .rngL [.int ws.length] = some (.list ((List.range ws.length).map fun k => PyData.int (k : Nat))) := by
    show (if decide (0 ≤ (ws.length : Int) ∧ (ws.length : Int) ≤ 100000) = true then _ else _) = _
    rw [if_pos (decide_eq_true ⟨by omega, by omega⟩), Int.toNat_natCast]
  have i40 : ixD (.list [.int (j : Nat), .int (k : Nat)]) (.int 0) = some (.int (j : Nat)) := at_natL (k := 0) rfl
  have i41 : ixD (.list [.int (j : Nat), .int (k : Nat)]) (.int 1) = some (.int (k : Nat)) := at_natL (k := 1) rfl
  have hr := hroad j k hj hk hne
  have a19 : fn 19 [.d (eqD ws g), .d (tI X), .d (.int (j : Nat)), .d (.int (k : Nat)), .d (.int 9)] = .ok (.d (.list ((X.getD j 0 :: X.getD k 0 :: rd (nr ws g X j k j) (nr ws g X j k k) 9 (X.getD j 0) (X.getD k 0)).map .int))) [.d (eqD ws g), .d (tI X), .d (.int (j : Nat)), .d (.int (k : Nat)), .d (.int 9)] := h19 ws g X j k 9 E S hj hk hne (by omega) hr
  have a20 := h20 ws g X j k E S hj hk hne
  have Rd := S.pos.road E hj hk hne
  have sA := (nr_sm (j := j) (k := k) E S hj).mul (nr_sm (j := j) (k := k) E S hk)
  have hN := Rd.st
  have xj := S.x _ (getD_mem (xs := X) (k := j) (d := 0) (by omega))
  have xk := S.x _ (getD_mem (xs := X) (k := k) (d := 0) (by omega))
  have step := rd_step 9 (nr ws g X j k j) (nr ws g X j k k) (X.getD j 0) (X.getD k 0)
  have grow := rd_grow (c := nr ws g X j k j) (d := nr ws g X j k k) hN 9 (X.getD j 0) (X.getD k 0)
  have fl : (X.getD j 0 :: X.getD k 0 :: rd (nr ws g X j k j) (nr ws g X j k k) 9 (X.getD j 0) (X.getD k 0)).length = 11 := by rw [List.length_cons, List.length_cons, rd_len]
  have fb : ∀ i, i < 11 → 1 ≤ (X.getD j 0 :: X.getD k 0 :: rd (nr ws g X j k j) (nr ws g X j k k) 9 (X.getD j 0) (X.getD k 0)).getD i 0 ∧ (X.getD j 0 :: X.getD k 0 :: rd (nr ws g X j k j) (nr ws g X j k k) 9 (X.getD j 0) (X.getD k 0)).getD i 0 < BIG := by
    intro i hi
    have hm := getD_mem (xs := X.getD j 0 :: X.getD k 0 :: rd (nr ws g X j k j) (nr ws g X j k k) 9 (X.getD j 0) (X.getD k 0)) (k := i) (d := 0) (by omega)
    rcases List.mem_cons.mp hm with h | h
    · rw [h]; exact xj
    · rcases List.mem_cons.mp h with h | h
      · rw [h]; exact xk
      · exact hr _ h
  generalize (X.getD j 0 :: X.getD k 0 :: rd (nr ws g X j k j) (nr ws g X j k k) 9 (X.getD j 0) (X.getD k 0)) = F at *
  generalize nr ws g X j k j * nr ws g X j k k = N at *
  have sN : Sm 260000 (N - 2) := by
    unfold Sm at *
    have : (N - 2).natAbs ≤ N.natAbs := by omega
    exact Nat.lt_of_le_of_lt this sA
  have lc11 := lc_none (Γ := (⟨fn, cs, [false]⟩ : Gm)) (is := [3]) (t := .n 3) (it := (.rng2 (.lit (.int 2)) (.lit (.int 9)))) (c := (.cmp .ne (.bin .add (.ix (.var 5) (.bin .add (.var 3) (.lit (.int 2)))) (.ix (.var 5) (.bin .sub (.var 3) (.lit (.int 2))))) (.bin .mul (.var 6) (.ix (.var 5) (.var 3))))) (e := (.var 3)) (ρ := [e0, some (.l (T4)), e2, some (.d x3), some (.d (.list [.int (j : Nat), .int (k : Nat)])), some (.d (.list (F.map .int))), some (.d (.int (N - 2))), some (.d (eqD ws g)), some (.d (tI xs)), some (.d (nI w)), some (.d (tI X)), some (.d (.int ws.length)), some (.d (tI (shr ws X))), y13, y14, y15, x16, some (.l ((seenL ws g xs w).map .int)), x18, y19, none]) (fun k : Nat => PyData.int (k : Nat)) (List.range' 2 7) (i_rng2 (m := 2) (n := 9) r_lit r_lit (by omega) (by omega)) rfl (by rw [List.length_range']; omega)
    (fun q hq => ⟨[e0, some (.l (T4)), e2, some (.d (.int (q : Nat))), some (.d (.list [.int (j : Nat), .int (k : Nat)])), some (.d (.list (F.map .int))), some (.d (.int (N - 2))), some (.d (eqD ws g)), some (.d (tI xs)), some (.d (nI w)), some (.d (tI X)), some (.d (.int ws.length)), some (.d (tI (shr ws X))), y13, y14, y15, x16, some (.l ((seenL ws g xs w).map .int)), x18, y19, none], [e0, some (.l (T4)), e2, some (.d (.int (q : Nat))), some (.d (.list [.int (j : Nat), .int (k : Nat)])), some (.d (.list (F.map .int))), some (.d (.int (N - 2))), some (.d (eqD ws g)), some (.d (tI xs)), some (.d (nI w)), some (.d (tI X)), some (.d (.int ws.length)), some (.d (tI (shr ws X))), y13, y14, y15, x16, some (.l ((seenL ws g xs w).map .int)), x18, y19, none], rfl, by
      obtain ⟨t, ht, rfl⟩ := List.mem_range'.mp hq
      rw [show 2 + 1 * t = t + 2 by omega]
      have i1 := at_DL' (xs := F) (k := t + 4) (v := ((t + 2 : Nat) : Int) + 2) (by omega) (by omega)
      have i3 := at_DL' (xs := F) (k := t + 2) (v := ((t + 2 : Nat) : Int)) (by omega) rfl
      have h := step t (by omega)
      have i2 := at_DL' (xs := F) (k := t) (v := ((t + 2 : Nat) : Int) - 2) (by omega) (by omega)
      have b := fb (t + 2) (by omega)
      have m1 := bin_mul (mulOk_sm sN (big_sm b.1 b.2) (by decide))
      have c1 : cmpD .ne (.int (F.getD (t + 4) 0 + F.getD t 0)) (.int ((N - 2) * F.getD (t + 2) 0)) = some false := by rw [cmp_ne, h]; simp
      repeat' (first | with_reducible apply l_nil | with_reducible apply o_none | with_reducible apply r_lit | with_reducible apply ss_nil | with_reducible apply r_var | with_reducible apply r_ovar | with_reducible apply l_cons | with_reducible apply o_some | with_reducible apply r_bin | with_reducible apply r_neg | with_reducible apply r_ix | with_reducible apply r_sl | with_reducible apply r_tup | with_reducible apply r_lst | with_reducible apply r_bi | with_reducible apply r_glob | with_reducible apply r_cmp | with_reducible apply r_isN | with_reducible apply r_not | with_reducible apply r_and | with_reducible apply r_or | with_reducible apply r_ite | with_reducible apply r_chain | with_reducible apply r_callE | with_reducible apply r_call | with_reducible apply t_cmp | with_reducible apply t_not | with_reducible apply t_isN | with_reducible apply t_and | with_reducible apply t_or | with_reducible apply t_chain | with_reducible apply t_tru | with_reducible apply s_setE | with_reducible apply s_ownE | with_reducible apply s_asgE | with_reducible apply s_if | with_reducible apply s_ret | with_reducible apply s_retO | with_reducible apply f_lst | with_reducible apply f_list | with_reducible assumption | (dsimp only [List.map]; with_reducible assumption) | with_reducible apply i_t | with_reducible apply i_f | with_reducible apply i_nt | with_reducible apply i_nf | with_reducible exact set_0 | with_reducible apply set_s | (with_reducible refine ne_of ?_; dsimp only [List.set_cons_zero, List.set_cons_succ]; exact rfl) | with_reducible apply lt_b | with_reducible apply ss_go | with_reducible apply s_appE | with_reducible apply s_mulE | with_reducible apply m_nil | with_reducible apply m_cons | with_reducible apply v_own | with_reducible apply v_dat | exact merge_self _ | with_reducible apply cmp_eq | with_reducible apply cmp_ne | rfl), by repeat' (first | exact e_nil | apply e_eq | apply e_no)⟩) (by repeat' (first | exact e_nil | apply e_eq | apply e_d | apply e_no))
  have lc12 : F.getD 0 0 ≤ F.getD 2 0 → F.getD 1 0 ≤ F.getD 3 0 → _ := fun h1 h2 =>
    lc_none (Γ := (⟨fn, cs, [false]⟩ : Gm)) (is := [3]) (t := .n 3) (it := (.rng2 (.lit (.int 2)) (.lit (.int 9)))) (c := (.cmp .lt (.ix (.var 5) (.bin .add (.var 3) (.lit (.int 2)))) (.bin .mul (.lit (.int 2)) (.ix (.var 5) (.var 3))))) (e := (.var 3)) (ρ := [e0, some (.l (T4)), e2, some (.d x3), some (.d (.list [.int (j : Nat), .int (k : Nat)])), some (.d (.list (F.map .int))), some (.d (.int (N - 2))), some (.d (eqD ws g)), some (.d (tI xs)), some (.d (nI w)), some (.d (tI X)), some (.d (.int ws.length)), some (.d (tI (shr ws X))), y13, y14, y15, x16, some (.l ((seenL ws g xs w).map .int)), x18, y19, none]) (fun k : Nat => PyData.int (k : Nat)) (List.range' 2 7) (i_rng2 (m := 2) (n := 9) r_lit r_lit (by omega) (by omega)) rfl (by rw [List.length_range']; omega)
    (fun q hq => ⟨[e0, some (.l (T4)), e2, some (.d (.int (q : Nat))), some (.d (.list [.int (j : Nat), .int (k : Nat)])), some (.d (.list (F.map .int))), some (.d (.int (N - 2))), some (.d (eqD ws g)), some (.d (tI xs)), some (.d (nI w)), some (.d (tI X)), some (.d (.int ws.length)), some (.d (tI (shr ws X))), y13, y14, y15, x16, some (.l ((seenL ws g xs w).map .int)), x18, y19, none], [e0, some (.l (T4)), e2, some (.d (.int (q : Nat))), some (.d (.list [.int (j : Nat), .int (k : Nat)])), some (.d (.list (F.map .int))), some (.d (.int (N - 2))), some (.d (eqD ws g)), some (.d (tI xs)), some (.d (nI w)), some (.d (tI X)), some (.d (.int ws.length)), some (.d (tI (shr ws X))), y13, y14, y15, x16, some (.l ((seenL ws g xs w).map .int)), x18, y19, none], rfl, by
      obtain ⟨t, ht, rfl⟩ := List.mem_range'.mp hq
      rw [show 2 + 1 * t = t + 2 by omega]
      have i1 := at_DL' (xs := F) (k := t + 4) (v := ((t + 2 : Nat) : Int) + 2) (by omega) (by omega)
      have i3 := at_DL' (xs := F) (k := t + 2) (v := ((t + 2 : Nat) : Int)) (by omega) rfl
      have h := grow h1 h2 (fun i hi => (fb i hi).1) t (by omega)
      have m1 : binD .mul (.int 2) (.int (F.getD (t + 2) 0)) = some (.int (2 * F.getD (t + 2) 0)) := bin_mul (mulOk_l (by decide) (by decide))
      have c1 : cmpD .lt (.int (F.getD (t + 4) 0)) (.int (2 * F.getD (t + 2) 0)) = some false := by rw [cmp_lt, decide_eq_false (by omega)]
      repeat' (first | with_reducible apply l_nil | with_reducible apply o_none | with_reducible apply r_lit | with_reducible apply ss_nil | with_reducible apply r_var | with_reducible apply r_ovar | with_reducible apply l_cons | with_reducible apply o_some | with_reducible apply r_bin | with_reducible apply r_neg | with_reducible apply r_ix | with_reducible apply r_sl | with_reducible apply r_tup | with_reducible apply r_lst | with_reducible apply r_bi | with_reducible apply r_glob | with_reducible apply r_cmp | with_reducible apply r_isN | with_reducible apply r_not | with_reducible apply r_and | with_reducible apply r_or | with_reducible apply r_ite | with_reducible apply r_chain | with_reducible apply r_callE | with_reducible apply r_call | with_reducible apply t_cmp | with_reducible apply t_not | with_reducible apply t_isN | with_reducible apply t_and | with_reducible apply t_or | with_reducible apply t_chain | with_reducible apply t_tru | with_reducible apply s_setE | with_reducible apply s_ownE | with_reducible apply s_asgE | with_reducible apply s_if | with_reducible apply s_ret | with_reducible apply s_retO | with_reducible apply f_lst | with_reducible apply f_list | with_reducible assumption | (dsimp only [List.map]; with_reducible assumption) | with_reducible apply i_t | with_reducible apply i_f | with_reducible apply i_nt | with_reducible apply i_nf | with_reducible exact set_0 | with_reducible apply set_s | (with_reducible refine ne_of ?_; dsimp only [List.set_cons_zero, List.set_cons_succ]; exact rfl) | with_reducible apply lt_b | with_reducible apply ss_go | with_reducible apply s_appE | with_reducible apply s_mulE | with_reducible apply m_nil | with_reducible apply m_cons | with_reducible apply v_own | with_reducible apply v_dat | exact merge_self _ | with_reducible apply cmp_eq | with_reducible apply cmp_ne | rfl), by repeat' (first | exact e_nil | apply e_eq | apply e_no)⟩) (by repeat' (first | exact e_nil | apply e_eq | apply e_d | apply e_no))
  have j0 := at_DL' (xs := F) (k := 0) (v := 0) (by omega) rfl
  have j1 := at_DL' (xs := F) (k := 1) (v := 1) (by omega) rfl
  have j2 := at_DL' (xs := F) (k := 2) (v := 2) (by omega) rfl
  have j3 := at_DL' (xs := F) (k := 3) (v := 3) (by omega) rfl
  have t12 : semT (⟨fn, cs, [false]⟩ : Gm) (.and (.cmp .ge (.ix (.var 5) (.lit (.int 2))) (.ix (.var 5) (.lit (.int 0)))) (.and (.cmp .ge (.ix (.var 5) (.lit (.int 3))) (.ix (.var 5) (.lit (.int 1)))) (.cmp .ne (.lc [3] (.n 3) (.rng2 (.lit (.int 2)) (.lit (.int 9))) (some (.cmp .lt (.ix (.var 5) (.bin .add (.var 3) (.lit (.int 2)))) (.bin .mul (.lit (.int 2)) (.ix (.var 5) (.var 3))))) (.var 3)) (.lst [])))) [e0, some (.l (T4)), e2, some (.d x3), some (.d (.list [.int (j : Nat), .int (k : Nat)])), some (.d (.list (F.map .int))), some (.d (.int (N - 2))), some (.d (eqD ws g)), some (.d (tI xs)), some (.d (nI w)), some (.d (tI X)), some (.d (.int ws.length)), some (.d (tI (shr ws X))), y13, y14, y15, x16, some (.l ((seenL ws g xs w).map .int)), x18, y19, none] = .ok false [e0, some (.l (T4)), e2, some (.d x3), some (.d (.list [.int (j : Nat), .int (k : Nat)])), some (.d (.list (F.map .int))), some (.d (.int (N - 2))), some (.d (eqD ws g)), some (.d (tI xs)), some (.d (nI w)), some (.d (tI X)), some (.d (.int ws.length)), some (.d (tI (shr ws X))), y13, y14, y15, x16, some (.l ((seenL ws g xs w).map .int)), x18, y19, none] := by
    refine t_and (t_cmp (r_ix (r_var rfl) r_lit j2) (r_ix (r_var rfl) r_lit j0) (cmp_ge _ _)) ?_
    by_cases h1 : F.getD 0 0 ≤ F.getD 2 0
    · rw [if_pos (decide_eq_true h1)]
      refine t_and (t_cmp (r_ix (r_var rfl) r_lit j3) (r_ix (r_var rfl) r_lit j1) (cmp_ge _ _)) ?_
      by_cases h2 : F.getD 1 0 ≤ F.getD 3 0
      · rw [if_pos (decide_eq_true h2)]
        exact t_cmp (lc12 h1 h2) (r_lst l_nil) ne_nil0
      · rw [if_neg (by rw [decide_eq_false h2]; exact Bool.false_ne_true)]
    · rw [if_neg (by rw [decide_eq_false h1]; exact Bool.false_ne_true)]
  refine ⟨T4, some (.d x3), some (.d (.list [.int (j : Nat), .int (k : Nat)])), some (.d (.list (F.map .int))), some (.d (.int (N - 2))), some (.d (eqD ws g)), some (.d (tI xs)), some (.d (nI w)), some (.d (tI X)), some (.d (.int ws.length)), some (.d (tI (shr ws X))), y13, y14, y15, x16, some (.l ((seenL ws g xs w).map .int)), x18, y19, hT4.mono (by omega), ?_⟩
  clear hf hroad step grow fb lc12 seen sseen hr
  apply ss_go
  · repeat' (first | with_reducible apply l_nil | with_reducible apply o_none | with_reducible apply r_lit | with_reducible apply ss_nil | with_reducible apply r_var | with_reducible apply r_ovar | with_reducible apply l_cons | with_reducible apply o_some | with_reducible apply r_bin | with_reducible apply r_neg | with_reducible apply r_ix | with_reducible apply r_sl | with_reducible apply r_tup | with_reducible apply r_lst | with_reducible apply r_bi | with_reducible apply r_glob | with_reducible apply r_cmp | with_reducible apply r_isN | with_reducible apply r_not | with_reducible apply r_and | with_reducible apply r_or | with_reducible apply r_ite | with_reducible apply r_chain | with_reducible apply r_callE | with_reducible apply r_call | with_reducible apply t_cmp | with_reducible apply t_not | with_reducible apply t_isN | with_reducible apply t_and | with_reducible apply t_or | with_reducible apply t_chain | with_reducible apply t_tru | with_reducible apply s_setE | with_reducible apply s_ownE | with_reducible apply s_asgE | with_reducible apply s_if | with_reducible apply s_ret | with_reducible apply s_retO | with_reducible apply f_lst | with_reducible apply f_list | with_reducible assumption | (dsimp only [List.map]; with_reducible assumption) | with_reducible apply i_t | with_reducible apply i_f | with_reducible apply i_nt | with_reducible apply i_nf | with_reducible exact set_0 | with_reducible apply set_s | (with_reducible refine ne_of ?_; dsimp only [List.set_cons_zero, List.set_cons_succ]; exact rfl) | with_reducible apply lt_b | with_reducible apply ss_go | with_reducible apply s_appE | with_reducible apply s_mulE | with_reducible apply m_nil | with_reducible apply m_cons | with_reducible apply v_own | with_reducible apply v_dat | exact merge_self _ | with_reducible apply cmp_eq | with_reducible apply cmp_ne | rfl)
  apply ss_go
  · repeat' (first | with_reducible apply l_nil | with_reducible apply o_none | with_reducible apply r_lit | with_reducible apply ss_nil | with_reducible apply r_var | with_reducible apply r_ovar | with_reducible apply l_cons | with_reducible apply o_some | with_reducible apply r_bin | with_reducible apply r_neg | with_reducible apply r_ix | with_reducible apply r_sl | with_reducible apply r_tup | with_reducible apply r_lst | with_reducible apply r_bi | with_reducible apply r_glob | with_reducible apply r_cmp | with_reducible apply r_isN | with_reducible apply r_not | with_reducible apply r_and | with_reducible apply r_or | with_reducible apply r_ite | with_reducible apply r_chain | with_reducible apply r_callE | with_reducible apply r_call | with_reducible apply t_cmp | with_reducible apply t_not | with_reducible apply t_isN | with_reducible apply t_and | with_reducible apply t_or | with_reducible apply t_chain | with_reducible apply t_tru | with_reducible apply s_setE | with_reducible apply s_ownE | with_reducible apply s_asgE | with_reducible apply s_if | with_reducible apply s_ret | with_reducible apply s_retO | with_reducible apply f_lst | with_reducible apply f_list | with_reducible assumption | (dsimp only [List.map]; with_reducible assumption) | with_reducible apply i_t | with_reducible apply i_f | with_reducible apply i_nt | with_reducible apply i_nf | with_reducible exact set_0 | with_reducible apply set_s | (with_reducible refine ne_of ?_; dsimp only [List.set_cons_zero, List.set_cons_succ]; exact rfl) | with_reducible apply lt_b | with_reducible apply ss_go | with_reducible apply s_appE | with_reducible apply s_mulE | with_reducible apply m_nil | with_reducible apply m_cons | with_reducible apply v_own | with_reducible apply v_dat | exact merge_self _ | with_reducible apply cmp_eq | with_reducible apply cmp_ne | rfl)
  apply ss_go
  · repeat' (first | with_reducible apply l_nil | with_reducible apply o_none | with_reducible apply r_lit | with_reducible apply ss_nil | with_reducible apply r_var | with_reducible apply r_ovar | with_reducible apply l_cons | with_reducible apply o_some | with_reducible apply r_bin | with_reducible apply r_neg | with_reducible apply r_ix | with_reducible apply r_sl | with_reducible apply r_tup | with_reducible apply r_lst | with_reducible apply r_bi | with_reducible apply r_glob | with_reducible apply r_cmp | with_reducible apply r_isN | with_reducible apply r_not | with_reducible apply r_and | with_reducible apply r_or | with_reducible apply r_ite | with_reducible apply r_chain | with_reducible apply r_callE | with_reducible apply r_call | with_reducible apply t_cmp | with_reducible apply t_not | with_reducible apply t_isN | with_reducible apply t_and | with_reducible apply t_or | with_reducible apply t_chain | with_reducible apply t_tru | with_reducible apply s_setE | with_reducible apply s_ownE | with_reducible apply s_asgE | with_reducible apply s_if | with_reducible apply s_ret | with_reducible apply s_retO | with_reducible apply f_lst | with_reducible apply f_list | with_reducible assumption | (dsimp only [List.map]; with_reducible assumption) | with_reducible apply i_t | with_reducible apply i_f | with_reducible apply i_nt | with_reducible apply i_nf | with_reducible exact set_0 | with_reducible apply set_s | (with_reducible refine ne_of ?_; dsimp only [List.set_cons_zero, List.set_cons_succ]; exact rfl) | with_reducible apply lt_b | with_reducible apply ss_go | with_reducible apply s_appE | with_reducible apply s_mulE | with_reducible apply m_nil | with_reducible apply m_cons | with_reducible apply v_own | with_reducible apply v_dat | exact merge_self _ | with_reducible apply cmp_eq | with_reducible apply cmp_ne | rfl)
  apply ss_go
  · repeat' (first | with_reducible apply l_nil | with_reducible apply o_none | with_reducible apply r_lit | with_reducible apply ss_nil | with_reducible apply r_var | with_reducible apply r_ovar | with_reducible apply l_cons | with_reducible apply o_some | with_reducible apply r_bin | with_reducible apply r_neg | with_reducible apply r_ix | with_reducible apply r_sl | with_reducible apply r_tup | with_reducible apply r_lst | with_reducible apply r_bi | with_reducible apply r_glob | with_reducible apply r_cmp | with_reducible apply r_isN | with_reducible apply r_not | with_reducible apply r_and | with_reducible apply r_or | with_reducible apply r_ite | with_reducible apply r_chain | with_reducible apply r_callE | with_reducible apply r_call | with_reducible apply t_cmp | with_reducible apply t_not | with_reducible apply t_isN | with_reducible apply t_and | with_reducible apply t_or | with_reducible apply t_chain | with_reducible apply t_tru | with_reducible apply s_setE | with_reducible apply s_ownE | with_reducible apply s_asgE | with_reducible apply s_if | with_reducible apply s_ret | with_reducible apply s_retO | with_reducible apply f_lst | with_reducible apply f_list | with_reducible assumption | (dsimp only [List.map]; with_reducible assumption) | with_reducible apply i_t | with_reducible apply i_f | with_reducible apply i_nt | with_reducible apply i_nf | with_reducible exact set_0 | with_reducible apply set_s | (with_reducible refine ne_of ?_; dsimp only [List.set_cons_zero, List.set_cons_succ]; exact rfl) | with_reducible apply lt_b | with_reducible apply ss_go | with_reducible apply s_appE | with_reducible apply s_mulE | with_reducible apply m_nil | with_reducible apply m_cons | with_reducible apply v_own | with_reducible apply v_dat | exact merge_self _ | with_reducible apply cmp_eq | with_reducible apply cmp_ne | rfl)
  refine ss_go ks ?_
  apply ss_go
  · repeat' (first | with_reducible apply l_nil | with_reducible apply o_none | with_reducible apply r_lit | with_reducible apply ss_nil | with_reducible apply r_var | with_reducible apply r_ovar | with_reducible apply l_cons | with_reducible apply o_some | with_reducible apply r_bin | with_reducible apply r_neg | with_reducible apply r_ix | with_reducible apply r_sl | with_reducible apply r_tup | with_reducible apply r_lst | with_reducible apply r_bi | with_reducible apply r_glob | with_reducible apply r_cmp | with_reducible apply r_isN | with_reducible apply r_not | with_reducible apply r_and | with_reducible apply r_or | with_reducible apply r_ite | with_reducible apply r_chain | with_reducible apply r_callE | with_reducible apply r_call | with_reducible apply t_cmp | with_reducible apply t_not | with_reducible apply t_isN | with_reducible apply t_and | with_reducible apply t_or | with_reducible apply t_chain | with_reducible apply t_tru | with_reducible apply s_setE | with_reducible apply s_ownE | with_reducible apply s_asgE | with_reducible apply s_if | with_reducible apply s_ret | with_reducible apply s_retO | with_reducible apply f_lst | with_reducible apply f_list | with_reducible assumption | (dsimp only [List.map]; with_reducible assumption) | with_reducible apply i_t | with_reducible apply i_f | with_reducible apply i_nt | with_reducible apply i_nf | with_reducible exact set_0 | with_reducible apply set_s | (with_reducible refine ne_of ?_; dsimp only [List.set_cons_zero, List.set_cons_succ]; exact rfl) | with_reducible apply lt_b | with_reducible apply ss_go | with_reducible apply s_appE | with_reducible apply s_mulE | with_reducible apply m_nil | with_reducible apply m_cons | with_reducible apply v_own | with_reducible apply v_dat | exact merge_self _ | with_reducible apply cmp_eq | with_reducible apply cmp_ne | rfl)
  refine ss_go fw ?_
  refine ss_go (s_if (t_cmp lc7 (r_lst l_nil) ne_nil0) (i_f ss_nil)) ?_
  apply ss_go
  · repeat' (first | with_reducible apply l_nil | with_reducible apply o_none | with_reducible apply r_lit | with_reducible apply ss_nil | with_reducible apply r_var | with_reducible apply r_ovar | with_reducible apply l_cons | with_reducible apply o_some | with_reducible apply r_bin | with_reducible apply r_neg | with_reducible apply r_ix | with_reducible apply r_sl | with_reducible apply r_tup | with_reducible apply r_lst | with_reducible apply r_bi | with_reducible apply r_glob | with_reducible apply r_cmp | with_reducible apply r_isN | with_reducible apply r_not | with_reducible apply r_and | with_reducible apply r_or | with_reducible apply r_ite | with_reducible apply r_chain | with_reducible apply r_callE | with_reducible apply r_call | with_reducible apply t_cmp | with_reducible apply t_not | with_reducible apply t_isN | with_reducible apply t_and | with_reducible apply t_or | with_reducible apply t_chain | with_reducible apply t_tru | with_reducible apply s_setE | with_reducible apply s_ownE | with_reducible apply s_asgE | with_reducible apply s_if | with_reducible apply s_ret | with_reducible apply s_retO | with_reducible apply f_lst | with_reducible apply f_list | with_reducible assumption | (dsimp only [List.map]; with_reducible assumption) | with_reducible apply i_t | with_reducible apply i_f | with_reducible apply i_nt | with_reducible apply i_nf | with_reducible exact set_0 | with_reducible apply set_s | (with_reducible refine ne_of ?_; dsimp only [List.set_cons_zero, List.set_cons_succ]; exact rfl) | with_reducible apply lt_b | with_reducible apply ss_go | with_reducible apply s_appE | with_reducible apply s_mulE | with_reducible apply m_nil | with_reducible apply m_cons | with_reducible apply v_own | with_reducible apply v_dat | exact merge_self _ | with_reducible apply cmp_eq | with_reducible apply cmp_ne | rfl)
  apply ss_go
  · repeat' (first | with_reducible apply l_nil | with_reducible apply o_none | with_reducible apply r_lit | with_reducible apply ss_nil | with_reducible apply r_var | with_reducible apply r_ovar | with_reducible apply l_cons | with_reducible apply o_some | with_reducible apply r_bin | with_reducible apply r_neg | with_reducible apply r_ix | with_reducible apply r_sl | with_reducible apply r_tup | with_reducible apply r_lst | with_reducible apply r_bi | with_reducible apply r_glob | with_reducible apply r_cmp | with_reducible apply r_isN | with_reducible apply r_not | with_reducible apply r_and | with_reducible apply r_or | with_reducible apply r_ite | with_reducible apply r_chain | with_reducible apply r_callE | with_reducible apply r_call | with_reducible apply t_cmp | with_reducible apply t_not | with_reducible apply t_isN | with_reducible apply t_and | with_reducible apply t_or | with_reducible apply t_chain | with_reducible apply t_tru | with_reducible apply s_setE | with_reducible apply s_ownE | with_reducible apply s_asgE | with_reducible apply s_if | with_reducible apply s_ret | with_reducible apply s_retO | with_reducible apply f_lst | with_reducible apply f_list | with_reducible assumption | (dsimp only [List.map]; with_reducible assumption) | with_reducible apply i_t | with_reducible apply i_f | with_reducible apply i_nt | with_reducible apply i_nf | with_reducible exact set_0 | with_reducible apply set_s | (with_reducible refine ne_of ?_; dsimp only [List.set_cons_zero, List.set_cons_succ]; exact rfl) | with_reducible apply lt_b | with_reducible apply ss_go | with_reducible apply s_appE | with_reducible apply s_mulE | with_reducible apply m_nil | with_reducible apply m_cons | with_reducible apply v_own | with_reducible apply v_dat | exact merge_self _ | with_reducible apply cmp_eq | with_reducible apply cmp_ne | rfl)
  apply ss_go
  · repeat' (first | with_reducible apply l_nil | with_reducible apply o_none | with_reducible apply r_lit | with_reducible apply ss_nil | with_reducible apply r_var | with_reducible apply r_ovar | with_reducible apply l_cons | with_reducible apply o_some | with_reducible apply r_bin | with_reducible apply r_neg | with_reducible apply r_ix | with_reducible apply r_sl | with_reducible apply r_tup | with_reducible apply r_lst | with_reducible apply r_bi | with_reducible apply r_glob | with_reducible apply r_cmp | with_reducible apply r_isN | with_reducible apply r_not | with_reducible apply r_and | with_reducible apply r_or | with_reducible apply r_ite | with_reducible apply r_chain | with_reducible apply r_callE | with_reducible apply r_call | with_reducible apply t_cmp | with_reducible apply t_not | with_reducible apply t_isN | with_reducible apply t_and | with_reducible apply t_or | with_reducible apply t_chain | with_reducible apply t_tru | with_reducible apply s_setE | with_reducible apply s_ownE | with_reducible apply s_asgE | with_reducible apply s_if | with_reducible apply s_ret | with_reducible apply s_retO | with_reducible apply f_lst | with_reducible apply f_list | with_reducible assumption | (dsimp only [List.map]; with_reducible assumption) | with_reducible apply i_t | with_reducible apply i_f | with_reducible apply i_nt | with_reducible apply i_nf | with_reducible exact set_0 | with_reducible apply set_s | (with_reducible refine ne_of ?_; dsimp only [List.set_cons_zero, List.set_cons_succ]; exact rfl) | with_reducible apply lt_b | with_reducible apply ss_go | with_reducible apply s_appE | with_reducible apply s_mulE | with_reducible apply m_nil | with_reducible apply m_cons | with_reducible apply v_own | with_reducible apply v_dat | exact merge_self _ | with_reducible apply cmp_eq | with_reducible apply cmp_ne | rfl)
  refine ss_go (s_if (t_cmp lc11 (r_lst l_nil) ne_nil0) (i_f ss_nil)) ?_
  exact ss_go (s_if t12 (i_f ss_nil)) ss_nil
end
end Pu
end
section
namespace Lk25
open PySem F3 Pu
theorem rn0 (k : Nat) : run cs tab (k + 1) 0 = runD cs (run cs tab k) (Lb.is_number) := rfl
theorem s0 (k : Nat) (h : 1 ≤ k) : IsNumber (run cs tab k 0) := by
  obtain ⟨k, rfl⟩ : ∃ j, k = j + 1 := ⟨k - 1, by omega⟩
  rw [rn0]
  exact is_number_ok 
theorem rn1 (k : Nat) : run cs tab (k + 1) 1 = runD cs (run cs tab k) (Lb.is_within 0) := rfl
theorem s1 (k : Nat) (h : 2 ≤ k) : IsWithin (run cs tab k 1) := by
  obtain ⟨k, rfl⟩ : ∃ j, k = j + 1 := ⟨k - 1, by omega⟩
  rw [rn1]
  exact is_within_ok (s0 k (by omega))
theorem rn2 (k : Nat) : run cs tab (k + 1) 2 = runD cs (run cs tab k) (Lb.is_long) := rfl
theorem s2 (k : Nat) (h : 1 ≤ k) : IsLong (run cs tab k 2) := by
  obtain ⟨k, rfl⟩ : ∃ j, k = j + 1 := ⟨k - 1, by omega⟩
  rw [rn2]
  exact is_long_ok 
theorem rn3 (k : Nat) : run cs tab (k + 1) 3 = runD cs (run cs tab k) (Lb.are_numbers 0) := rfl
theorem s3 (k : Nat) (h : 2 ≤ k) : AreNumbers (run cs tab k 3) := by
  obtain ⟨k, rfl⟩ : ∃ j, k = j + 1 := ⟨k - 1, by omega⟩
  rw [rn3]
  exact are_numbers_ok (s0 k (by omega))
theorem rn4 (k : Nat) : run cs tab (k + 1) 4 = runD cs (run cs tab k) (Lb.tupled 4) := rfl
theorem s4_0 (k : Nat) (h : 1 ≤ k) : Tupled 0 (run cs tab k 4) := by
  obtain ⟨k, rfl⟩ : ∃ j, k = j + 1 := ⟨k - 1, by omega⟩
  rw [rn4]
  exact tupled_int
theorem s4_1 (k : Nat) (h : 2 ≤ k) : Tupled 1 (run cs tab k 4) := by
  obtain ⟨k, rfl⟩ : ∃ j, k = j + 1 := ⟨k - 1, by omega⟩
  rw [rn4]
  exact tupled_ok (s4_0 k (by omega))
theorem s4_2 (k : Nat) (h : 3 ≤ k) : Tupled 2 (run cs tab k 4) := by
  obtain ⟨k, rfl⟩ : ∃ j, k = j + 1 := ⟨k - 1, by omega⟩
  rw [rn4]
  exact tupled_ok (s4_1 k (by omega))
theorem rn5 (k : Nat) : run cs tab (k + 1) 5 = runD cs (run cs tab k) (Lb.sure_within 1 1) := rfl
theorem s5 (k : Nat) (h : 3 ≤ k) : SureWithin (run cs tab k 5) := by
  obtain ⟨k, rfl⟩ : ∃ j, k = j + 1 := ⟨k - 1, by omega⟩
  rw [rn5]
  exact sure_within_ok (s1 k (by omega))
theorem rn6 (k : Nat) : run cs tab (k + 1) 6 = runD cs (run cs tab k) (Lb.are_weights 3 0 1 2) := rfl
theorem s6 (k : Nat) (h : 3 ≤ k) : AreWeights (run cs tab k 6) := by
  obtain ⟨k, rfl⟩ : ∃ j, k = j + 1 := ⟨k - 1, by omega⟩
  rw [rn6]
  exact are_weights_ok (s3 k (by omega)) rfl rfl rfl
theorem rn7 (k : Nat) : run cs tab (k + 1) 7 = runD cs (run cs tab k) (Lb.is_equation_in 2 6 1 3) := rfl
theorem s7 (k : Nat) (h : 4 ≤ k) : IsEquationIn (run cs tab k 7) := by
  obtain ⟨k, rfl⟩ : ∃ j, k = j + 1 := ⟨k - 1, by omega⟩
  rw [rn7]
  exact is_equation_in_ok (s2 k (by omega)) (s6 k (by omega)) (s1 k (by omega)) rfl
theorem rn8 (k : Nat) : run cs tab (k + 1) 8 = runD cs (run cs tab k) (Lb.sure_equation 4 7 1) := rfl
theorem s8 (k : Nat) (h : 5 ≤ k) : SureEquation (run cs tab k 8) := by
  obtain ⟨k, rfl⟩ : ∃ j, k = j + 1 := ⟨k - 1, by omega⟩
  rw [rn8]
  exact sure_equation_ok (s4_2 k (by omega)) (s7 k (by omega))
theorem rn9 (k : Nat) : run cs tab (k + 1) 9 = runD cs (run cs tab k) (Lb.product_of) := rfl
theorem s9 (k : Nat) (h : 1 ≤ k) : ProductOf (run cs tab k 9) := by
  obtain ⟨k, rfl⟩ : ∃ j, k = j + 1 := ⟨k - 1, by omega⟩
  rw [rn9]
  exact product_of_ok 
theorem rn10 (k : Nat) : run cs tab (k + 1) 10 = runD cs (run cs tab k) (Lb.shares_in) := rfl
theorem s10 (k : Nat) (h : 1 ≤ k) : SharesIn (run cs tab k 10) := by
  obtain ⟨k, rfl⟩ : ∃ j, k = j + 1 := ⟨k - 1, by omega⟩
  rw [rn10]
  exact shares_in_ok 
theorem rn11 (k : Nat) : run cs tab (k + 1) 11 = runD cs (run cs tab k) (Lb.sides_in 10 9) := rfl
theorem s11 (k : Nat) (h : 2 ≤ k) : SidesIn (run cs tab k 11) := by
  obtain ⟨k, rfl⟩ : ∃ j, k = j + 1 := ⟨k - 1, by omega⟩
  rw [rn11]
  exact sides_in_ok (s10 k (by omega)) (s9 k (by omega))
theorem rn12 (k : Nat) : run cs tab (k + 1) 12 = runD cs (run cs tab k) (Lb.are_from_one 2 3) := rfl
theorem s12 (k : Nat) (h : 3 ≤ k) : AreFromOne (run cs tab k 12) := by
  obtain ⟨k, rfl⟩ : ∃ j, k = j + 1 := ⟨k - 1, by omega⟩
  rw [rn12]
  exact are_from_one_ok (s2 k (by omega)) (s3 k (by omega))
theorem rn13 (k : Nat) : run cs tab (k + 1) 13 = runD cs (run cs tab k) (Lb.is_solution_in 12 4 11) := rfl
theorem s13 (k : Nat) (h : 4 ≤ k) : IsSolutionIn (run cs tab k 13) := by
  obtain ⟨k, rfl⟩ : ∃ j, k = j + 1 := ⟨k - 1, by omega⟩
  rw [rn13]
  exact is_solution_in_ok (s12 k (by omega)) rfl (s11 k (by omega))
theorem rn14 (k : Nat) : run cs tab (k + 1) 14 = runD cs (run cs tab k) (Lb.sure_solution 4 13 1) := rfl
theorem s14 (k : Nat) (h : 5 ≤ k) : SureSolution (run cs tab k 14) := by
  obtain ⟨k, rfl⟩ : ∃ j, k = j + 1 := ⟨k - 1, by omega⟩
  rw [rn14]
  exact sure_solution_ok (s4_2 k (by omega)) (s13 k (by omega))
theorem rn15 (k : Nat) : run cs tab (k + 1) 15 = runD cs (run cs tab k) (Lb.sure_place 5) := rfl
theorem s15 (k : Nat) (h : 4 ≤ k) : SurePlace (run cs tab k 15) := by
  obtain ⟨k, rfl⟩ : ∃ j, k = j + 1 := ⟨k - 1, by omega⟩
  rw [rn15]
  exact sure_place_ok (s5 k (by omega))
theorem rn16 (k : Nat) : run cs tab (k + 1) 16 = runD cs (run cs tab k) (Lb.is_word_in 3 5) := rfl
theorem s16 (k : Nat) (h : 3 ≤ k) : IsWordIn (run cs tab k 16) := by
  obtain ⟨k, rfl⟩ : ∃ j, k = j + 1 := ⟨k - 1, by omega⟩
  rw [rn16]
  exact is_word_in_ok (s3 k (by omega)) rfl
theorem rn17 (k : Nat) : run cs tab (k + 1) 17 = runD cs (run cs tab k) (Lb.shares 8 10 14) := rfl
theorem s17 (k : Nat) (h : 6 ≤ k) : Shares (run cs tab k 17) := by
  obtain ⟨k, rfl⟩ : ∃ j, k = j + 1 := ⟨k - 1, by omega⟩
  rw [rn17]
  exact shares_ok (s8 k (by omega)) (s10 k (by omega)) (s14 k (by omega))
theorem rn18 (k : Nat) : run cs tab (k + 1) 18 = runD cs (run cs tab k) (Lb.sure_road 8 14 15 1 9) := rfl
theorem s18 (k : Nat) (h : 6 ≤ k) : SureRoad (run cs tab k 18) := by
  obtain ⟨k, rfl⟩ : ∃ j, k = j + 1 := ⟨k - 1, by omega⟩
  rw [rn18]
  exact sure_road_ok (s8 k (by omega)) (s14 k (by omega)) (s15 k (by omega)) (s9 k (by omega))
theorem rn19 (k : Nat) : run cs tab (k + 1) 19 = runD cs (run cs tab k) (Lb.road 18 5 6 4 0) := rfl
theorem s19 (k : Nat) (h : 7 ≤ k) : Road (run cs tab k 19) := by
  obtain ⟨k, rfl⟩ : ∃ j, k = j + 1 := ⟨k - 1, by omega⟩
  rw [rn19]
  exact road_ok (s18 k (by omega)) (s5 k (by omega)) rfl rfl
theorem rn20 (k : Nat) : run cs tab (k + 1) 20 = runD cs (run cs tab k) (Lb.road_step 18) := rfl
theorem s20 (k : Nat) (h : 7 ≤ k) : RoadStep (run cs tab k 20) := by
  obtain ⟨k, rfl⟩ : ∃ j, k = j + 1 := ⟨k - 1, by omega⟩
  rw [rn20]
  exact road_step_ok (s18 k (by omega))
theorem rn21 (k : Nat) : run cs tab (k + 1) 21 = runD cs (run cs tab k) (Lb.flipped_in 9 4 0) := rfl
theorem s21 (k : Nat) (h : 2 ≤ k) : FlippedIn (run cs tab k 21) := by
  obtain ⟨k, rfl⟩ : ∃ j, k = j + 1 := ⟨k - 1, by omega⟩
  rw [rn21]
  exact flipped_in_ok (s9 k (by omega)) rfl
theorem rn22 (k : Nat) : run cs tab (k + 1) 22 = runD cs (run cs tab k) (Lb.lowering_in 10) := rfl
theorem s22 (k : Nat) (h : 2 ≤ k) : LoweringIn (run cs tab k 22) := by
  obtain ⟨k, rfl⟩ : ∃ j, k = j + 1 := ⟨k - 1, by omega⟩
  rw [rn22]
  exact lowering_in_ok (s10 k (by omega))
theorem rn23 (k : Nat) : run cs tab (k + 1) 23 = runD cs (run cs tab k) (Lb.idle_in 10) := rfl
theorem s23 (k : Nat) (h : 2 ≤ k) : IdleIn (run cs tab k 23) := by
  obtain ⟨k, rfl⟩ : ∃ j, k = j + 1 := ⟨k - 1, by omega⟩
  rw [rn23]
  exact idle_in_ok (s10 k (by omega))
theorem rn24 (k : Nat) : run cs tab (k + 1) 24 = runD cs (run cs tab k) (Lb.way_down 22 21) := rfl
theorem s24 (k : Nat) (h : 3 ≤ k) : WayDown (run cs tab k 24) := by
  obtain ⟨k, rfl⟩ : ∃ j, k = j + 1 := ⟨k - 1, by omega⟩
  rw [rn24]
  exact way_down_ok (s22 k (by omega)) (s21 k (by omega))
theorem rn25 (k : Nat) : run cs tab (k + 1) 25 = runD cs (run cs tab k) (Lb.walked_in 21) := rfl
theorem s25 (k : Nat) (h : 3 ≤ k) : WalkedIn (run cs tab k 25) := by
  obtain ⟨k, rfl⟩ : ∃ j, k = j + 1 := ⟨k - 1, by omega⟩
  rw [rn25]
  exact walked_in_ok (s21 k (by omega))
theorem rn26 (k : Nat) : run cs tab (k + 1) 26 = runD cs (run cs tab k) (Lb.flip 8 14 21 15) := rfl
theorem s26 (k : Nat) (h : 6 ≤ k) : Flip (run cs tab k 26) := by
  obtain ⟨k, rfl⟩ : ∃ j, k = j + 1 := ⟨k - 1, by omega⟩
  rw [rn26]
  exact flip_ok (s8 k (by omega)) (s14 k (by omega)) (s21 k (by omega)) (s15 k (by omega))
theorem rn27 (k : Nat) : run cs tab (k + 1) 27 = runD cs (run cs tab k) (Lb.down 8 24 14) := rfl
theorem s27 (k : Nat) (h : 6 ≤ k) : Down (run cs tab k 27) := by
  obtain ⟨k, rfl⟩ : ∃ j, k = j + 1 := ⟨k - 1, by omega⟩
  rw [rn27]
  exact down_ok (s8 k (by omega)) (s24 k (by omega)) (s14 k (by omega))
theorem rn28 (k : Nat) : run cs tab (k + 1) 28 = runD cs (run cs tab k) (Lb.height 27) := rfl
theorem s28 (k : Nat) (h : 7 ≤ k) : Height (run cs tab k 28) := by
  obtain ⟨k, rfl⟩ : ∃ j, k = j + 1 := ⟨k - 1, by omega⟩
  rw [rn28]
  exact height_ok (s27 k (by omega))
theorem rn29 (k : Nat) : run cs tab (k + 1) 29 = runD cs (run cs tab k) (Lb.is_cut) := rfl
theorem s29 (k : Nat) (h : 1 ≤ k) : IsCut (run cs tab k 29) := by
  obtain ⟨k, rfl⟩ : ∃ j, k = j + 1 := ⟨k - 1, by omega⟩
  rw [rn29]
  exact is_cut_ok 
theorem rn30 (k : Nat) : run cs tab (k + 1) 30 = runD cs (run cs tab k) (Lb.is_address_in 2 13 16 22 29 23) := rfl
theorem s30 (k : Nat) (h : 5 ≤ k) : IsAddressIn (run cs tab k 30) := by
  obtain ⟨k, rfl⟩ : ∃ j, k = j + 1 := ⟨k - 1, by omega⟩
  rw [rn30]
  exact is_address_in_ok (s2 k (by omega)) (s13 k (by omega)) (s16 k (by omega)) (s22 k (by omega)) (s29 k (by omega)) (s23 k (by omega))
theorem rn31 (k : Nat) : run cs tab (k + 1) 31 = runD cs (run cs tab k) (Lb.sure_address 4 30 1) := rfl
theorem s31 (k : Nat) (h : 6 ≤ k) : SureAddress (run cs tab k 31) := by
  obtain ⟨k, rfl⟩ : ∃ j, k = j + 1 := ⟨k - 1, by omega⟩
  rw [rn31]
  exact sure_address_ok (s4_2 k (by omega)) (s30 k (by omega))
theorem rn32 (k : Nat) : run cs tab (k + 1) 32 = runD cs (run cs tab k) (Lb.solution_at 8 31 25) := rfl
theorem s32 (k : Nat) (h : 7 ≤ k) : SolutionAt (run cs tab k 32) := by
  obtain ⟨k, rfl⟩ : ∃ j, k = j + 1 := ⟨k - 1, by omega⟩
  rw [rn32]
  exact solution_at_ok (s8 k (by omega)) (s31 k (by omega)) (s25 k (by omega))
theorem rn33 (k : Nat) : run cs tab (k + 1) 33 = runD cs (run cs tab k) (Lb.law_box) := rfl
theorem s33 (k : Nat) (h : 1 ≤ k) : Box (run cs tab k 33) := by
  obtain ⟨k, rfl⟩ : ∃ j, k = j + 1 := ⟨k - 1, by omega⟩
  rw [rn33]
  exact law_box_ok 
theorem rn34 (k : Nat) : run cs tab (k + 1) 34 = runD cs (run cs tab k) (Lb.law_take) := rfl
theorem s34 (k : Nat) (h : 1 ≤ k) : Take (run cs tab k 34) := by
  obtain ⟨k, rfl⟩ : ∃ j, k = j + 1 := ⟨k - 1, by omega⟩
  rw [rn34]
  exact law_take_ok 
theorem rn35 (k : Nat) : run cs tab (k + 1) 35 = runD cs (run cs tab k) (Lb.law_cells) := rfl
theorem s35 (k : Nat) (h : 1 ≤ k) : Cells (run cs tab k 35) := by
  obtain ⟨k, rfl⟩ : ∃ j, k = j + 1 := ⟨k - 1, by omega⟩
  rw [rn35]
  exact law_cells_ok 
theorem rn36 (k : Nat) : run cs tab (k + 1) 36 = runD cs (run cs tab k) (Lb.law_of 34) := rfl
theorem s36 (k : Nat) (h : 2 ≤ k) : LawOf (run cs tab k 36) := by
  obtain ⟨k, rfl⟩ : ∃ j, k = j + 1 := ⟨k - 1, by omega⟩
  rw [rn36]
  exact law_of_ok (s34 k (by omega))
theorem rn37 (k : Nat) : run cs tab (k + 1) 37 = runD cs (run cs tab k) (Lb.law_pick 34) := rfl
theorem s37 (k : Nat) (h : 2 ≤ k) : Pick (run cs tab k 37) := by
  obtain ⟨k, rfl⟩ : ∃ j, k = j + 1 := ⟨k - 1, by omega⟩
  rw [rn37]
  exact law_pick_ok (s34 k (by omega))
theorem rn38 (k : Nat) : run cs tab (k + 1) 38 = runD cs (run cs tab k) (Lb.law_same 38) := rfl
theorem s38 : ∀ (d k : Nat), d + 1 ≤ k → LawSame d (run cs tab k 38)
  | 0, k, h => by
    obtain ⟨k, rfl⟩ : ∃ j, k = j + 1 := ⟨k - 1, by omega⟩
    rw [rn38]
    exact law_same_0
  | d + 1, k, h => by
    obtain ⟨k, rfl⟩ : ∃ j, k = j + 1 := ⟨k - 1, by omega⟩
    rw [rn38]
    exact law_same_ok (s38 d k (by omega))
theorem rn39 (k : Nat) : run cs tab (k + 1) 39 = runD cs (run cs tab k) (Lb.law_prod) := rfl
theorem s39 (k : Nat) (h : 1 ≤ k) : ProductOf (run cs tab k 39) := by
  obtain ⟨k, rfl⟩ : ∃ j, k = j + 1 := ⟨k - 1, by omega⟩
  rw [rn39]
  exact law_prod_ok 
theorem rn40 (k : Nat) : run cs tab (k + 1) 40 = runD cs (run cs tab k) (Lb.law_shares) := rfl
theorem s40 (k : Nat) (h : 1 ≤ k) : LawShares (run cs tab k 40) := by
  obtain ⟨k, rfl⟩ : ∃ j, k = j + 1 := ⟨k - 1, by omega⟩
  rw [rn40]
  exact law_shares_ok 
theorem rn41 (k : Nat) : run cs tab (k + 1) 41 = runD cs (run cs tab k) (Lb.law_flip 39) := rfl
theorem s41 (k : Nat) (h : 2 ≤ k) : LawFlip (run cs tab k 41) := by
  obtain ⟨k, rfl⟩ : ∃ j, k = j + 1 := ⟨k - 1, by omega⟩
  rw [rn41]
  exact law_flip_ok (s39 k (by omega))
theorem rn42 (k : Nat) : run cs tab (k + 1) 42 = runD cs (run cs tab k) (Lb.law_idle 41) := rfl
theorem s42 (k : Nat) (h : 3 ≤ k) : LawIdle (run cs tab k 42) := by
  obtain ⟨k, rfl⟩ : ∃ j, k = j + 1 := ⟨k - 1, by omega⟩
  rw [rn42]
  exact law_idle_ok (s41 k (by omega))
theorem rn43 (k : Nat) : run cs tab (k + 1) 43 = runD cs (run cs tab k) (Lb.law_known) := rfl
theorem s43 (k : Nat) (h : 1 ≤ k) : LawKnown (run cs tab k 43) := by
  obtain ⟨k, rfl⟩ : ∃ j, k = j + 1 := ⟨k - 1, by omega⟩
  rw [rn43]
  exact law_known_ok 
theorem rn44 (k : Nat) : run cs tab (k + 1) 44 = runD cs (run cs tab k) (Lb.law_mixed 37) := rfl
theorem s44 (k : Nat) (h : 3 ≤ k) : Mixed (run cs tab k 44) := by
  obtain ⟨k, rfl⟩ : ∃ j, k = j + 1 := ⟨k - 1, by omega⟩
  rw [rn44]
  exact law_mixed_ok (s37 k (by omega))
theorem rn45 (k : Nat) : run cs tab (k + 1) 45 = runD cs (run cs tab k) (Lb.law_drawn 44 36 43) := rfl
theorem s45 (k : Nat) (h : 4 ≤ k) : Drawn (run cs tab k 45) := by
  obtain ⟨k, rfl⟩ : ∃ j, k = j + 1 := ⟨k - 1, by omega⟩
  rw [rn45]
  exact law_drawn_ok (s44 k (by omega)) (s36 k (by omega)) (s43 k (by omega))
theorem rn46 (k : Nat) : run cs tab (k + 1) 46 = runD cs (run cs tab k) (Lb.law_up 42 36 41) := rfl
theorem s46 (k : Nat) (h : 4 ≤ k) : LawUp (run cs tab k 46) := by
  obtain ⟨k, rfl⟩ : ∃ j, k = j + 1 := ⟨k - 1, by omega⟩
  rw [rn46]
  exact law_up_ok (s42 k (by omega)) (s36 k (by omega)) (s41 k (by omega))
theorem rn47 (k : Nat) : run cs tab (k + 1) 47 = runD cs (run cs tab k) (Lb.law_tall 34) := rfl
theorem s47 (k : Nat) (h : 2 ≤ k) : Tall (run cs tab k 47) := by
  obtain ⟨k, rfl⟩ : ∃ j, k = j + 1 := ⟨k - 1, by omega⟩
  rw [rn47]
  exact law_tall_ok (s34 k (by omega))
end Lk25
end
section
namespace Pu
open PySem F3
section
variable {cs : List Int} {fn : Nat → Fn}
/-- a new list that a call makes -/
theorem f_call {Γ : Gm} {ρ ρ1 : F3.Env} {es : List IE} {xs T : List PyData} {k : Nat} (hn : (es.all fun i => !isOvar i) = true) (h : semL Γ es ρ = .ok xs ρ1) (h2 : Γ.fn k (xs.map .d) = .ok (.l T) (xs.map .d)) (hT : (intsOf T).isSome = true) : semF Γ (.call k es) ρ = .ok (.l T) ρ1 := by
  rw [semF, ar_data hn h]
  have e : callR (Γ.fn k) (xs.map .v) ρ1 = .ok (.l T) ρ1 := by
    unfold callR
    rw [owns_data, if_pos List.nodup_nil, avs_data]
    dsimp only
    rw [h2]
    dsimp only
    rw [lay_data]
  show (callR (Γ.fn k) (xs.map .v) ρ1).bind _ = _
  rw [e]
  show (if ((es.all fun i => !isOvar i) && (intsOf T).isSome) = true then _ else _) = _
  rw [hn, hT]
  rfl
/-- the box that the laws draw from -/
theorem box_of {f33 f35 : Nat} (h33 : Box (fn f33)) (h35 : Cells (fn f35)) (ns : List Int) (hl : ns.length ≤ 63) {Γ : Gm} (hΓ : Γ.fn = fn) {r : List (Option AV)} : ∃ T, TinOk 0 T ∧ semF Γ (.call f33 [(.call f35 [(.var 0), (.lit (.int 1))]), (.lit (.int 0))]) (some (.d (.list (ns.map .int))) :: r) = .ok (.l T) (some (.d (.list (ns.map .int))) :: r) := by
  obtain ⟨C, c1, c2, a35⟩ := h35 ns 1 hl (by omega) (by omega)
  obtain ⟨T, hT, a33⟩ := h33 C 0 (by omega) (by omega)
  refine ⟨T, hT, ?_⟩
  have hI : (intsOf T).isSome = true := by
    obtain ⟨a, b, c, rfl, _⟩ := hT
    rfl
  subst hΓ
  exact f_call (xs := [.list (C.map .int), .int 0]) rfl (l_cons (r_call (xs := [.list (ns.map .int), .int 1]) rfl (l_cons (r_var rfl) (l_cons r_lit l_nil)) a35) (l_cons r_lit l_nil)) a33 hI

theorem k25_law (h33 : Box (fn 33)) (h35 : Cells (fn 35)) (h45 : Drawn (fn 45)) (h46 : LawUp (fn 46)) (h47 : Tall (fn 47)) (h17 : Shares (fn 17)) (h32 : SolutionAt (fn 32)) (h28 : Height (fn 28)) (h40 : LawShares (fn 40)) (h38 : ∀ d, d ≤ 5 → LawSame d (fn 38))
    (h26 : Flip (fn 26)) (h20 : RoadStep (fn 20)) (h39 : ProductOf (fn 39)) (h41 : LawFlip (fn 41)) (h37 : Pick (fn 37)) (h19 : Road (fn 19)) (ns : List Int) (hl : ns.length ≤ 63) : runD cs fn Lk25.d48 [.d (.list (ns.map .int))] = .ok (.d (.bool true)) [.d (.list (ns.map .int))] := by
  obtain ⟨T0, hT0, b0⟩ := box_of h33 h35 ns hl (Γ := (⟨fn, cs, [false]⟩ : Gm)) rfl (r := [none, none, none, none, none, none, none, none, none, none, none, none, none, none, none, none, none, none, none, none])
  obtain ⟨T1, a3, a4, a5, a6, a7, a8, a9, a10, a11, a12, a13, a14, a15, a16, a17, a18, a19, hT1, l1⟩ := k25_lap (cs := cs) (e0 := some (.d (.list (ns.map .int)))) (e2 := some (.d (.int 0))) h45 h46 h47 h17 h32 h28 h40 h38 h26 h20 h39 h41 h37 h19 0 T0 none none none none none none none none none none none none none none none none none hT0 (by omega)
  obtain ⟨T2, b3, b4, b5, b6, b7, b8, b9, b10, b11, b12, b13, b14, b15, b16, b17, b18, b19, hT2, l2⟩ := k25_lap (cs := cs) (e0 := some (.d (.list (ns.map .int)))) (e2 := some (.d (.int 1))) h45 h46 h47 h17 h32 h28 h40 h38 h26 h20 h39 h41 h37 h19 (0 + 100) T1 a3 a4 a5 a6 a7 a8 a9 a10 a11 a12 a13 a14 a15 a16 a17 a18 a19 hT1 (by omega)
  have t1 : assignT (⟨fn, cs, [false]⟩ : Gm) (.n 2) (.int 0) [some (.d (.list (ns.map .int))), some (.l (T0)), none, none, none, none, none, none, none, none, none, none, none, none, none, none, none, none, none, none, none] = some [some (.d (.list (ns.map .int))), some (.l (T0)), some (.d (.int 0)), none, none, none, none, none, none, none, none, none, none, none, none, none, none, none, none, none, none] := rfl
  have t2 : assignT (⟨fn, cs, [false]⟩ : Gm) (.n 2) (.int 1) [some (.d (.list (ns.map .int))), some (.l (T1)), some (.d (.int 0)), a3, a4, a5, a6, a7, a8, a9, a10, a11, a12, a13, a14, a15, a16, a17, a18, a19, none] = some [some (.d (.list (ns.map .int))), some (.l (T1)), some (.d (.int 1)), a3, a4, a5, a6, a7, a8, a9, a10, a11, a12, a13, a14, a15, a16, a17, a18, a19, none] := rfl
  have lp : forL (assignT (⟨fn, cs, [false]⟩ : Gm) (.n 2)) (exSs (⟨fn, cs, [false]⟩ : Gm) [.asg (.t [(.n 7), (.n 8)]) (.call 45 [(.ovar 1), (.lit (.int 6))]), .asg (.t [(.n 9), (.n 10)]) (.call 46 [(.ovar 1), (.var 7), (.var 8), (.call 47 [(.ovar 1), (.var 7)])]), .mul [11, 12] [(false, (.bi .len [(.var 10)])), (false, (.call 17 [(.var 7), (.var 10)]))], .if_ (.not (.call 38 [(.lst [(.var 12), (.call 32 [(.var 7), (.tup [(.var 8), (.var 9)])]), (.call 28 [(.var 7), (.var 10)])]), (.lst [(.bi .tup [(.call 40 [(.var 7), (.var 10)])]), (.var 10), (.bi .len [(.var 9)])])]))     [.ret (.lit (.bool false))]     [], .for_ (.n 3) (.rng1 (.var 11))     [.set 13 (.call 17 [(.var 7), (.call 26 [(.var 7), (.var 10), (.var 3)])]),      .set 14 (.bin .add (.bin .add (.ix (.var 13) (.var 3)) (.ix (.var 12) (.var 3))) (.bin .mul (.lit (.int 2)) (.bin .sub (.bi .sum [(.var 12)]) (.ix (.var 12) (.var 3))))),      .for_ (.n 15) (.rng1 (.var 11))     [.if_ (.cmp .ne (.var 15) (.var 3))     [.set 6 (.call 20 [(.var 7), (.var 10), (.var 3), (.var 15)]), .set 19 (.bin .mul (.ix (.var 7) (.lit (.int 1))) (.call 39 [(.lc [20] (.n 20) (.rng1 (.var 11)) (some (.cmp .notin (.var 20) (.tup [(.var 15), (.var 3)]))) (.ix (.var 10) (.var 20)))])), .if_ (.or (.cmp .ne (.var 14) (.bin .mul (.bin .add (.var 6) (.lit (.int 2))) (.ix (.var 12) (.var 15)))) (.or (.cmp .lt (.var 6) (.lit (.int 3))) (.cmp .ne (.bin .mul (.bin .mul (.bin .add (.var 6) (.lit (.int 2))) (.ix (.ix (.var 7) (.lit (.int 0))) (.var 15))) (.ix (.ix (.var 7) (.lit (.int 0))) (.var 3))) (.bin .mul (.var 19) (.var 19)))))     [.ret (.lit (.bool false))]     [], .if_ (.not (.call 38 [(.call 20 [(.var 7), (.var 10), (.var 15), (.var 3)]), (.var 6)]))     [.ret (.lit (.bool false))]     []]     []]], .mul [16, 17] [(false, (.var 8)), (true, (.lst []))], .for_ (.n 3) (.seq (.var 9))     [.set 18 (.call 41 [(.var 7), (.var 16), (.var 3)]),      .app 17 (.bin .mul (.bin .mul (.ix (.ix (.var 7) (.lit (.int 0))) (.var 3)) (.ix (.var 18) (.var 3))) (.ix (.var 18) (.var 3))),      .set 16 (.var 18)], .if_ (.cmp .ne (.lc [3] (.n 3) (.rng2 (.lit (.int 2)) (.bi .len [(.ovar 17)])) (some (.cmp .lt (.bin .mul (.ix (.ovar 17) (.var 3)) (.ix (.ovar 17) (.bin .sub (.var 3) (.lit (.int 2))))) (.bin .mul (.ix (.ovar 17) (.bin .sub (.var 3) (.lit (.int 1)))) (.ix (.ovar 17) (.bin .sub (.var 3) (.lit (.int 1))))))) (.var 3)) (.lst []))     [.ret (.lit (.bool false))]     [], .set 4 (.call 37 [(.ovar 1), (.bi .rngL [(.var 11)]), (.lit (.int 2))]), .set 5 (.call 19 [(.var 7), (.var 10), (.ix (.var 4) (.lit (.int 0))), (.ix (.var 4) (.lit (.int 1))), (.lit (.int 9))]), .set 6 (.call 20 [(.var 7), (.var 10), (.ix (.var 4) (.lit (.int 0))), (.ix (.var 4) (.lit (.int 1)))]), .if_ (.cmp .ne (.lc [3] (.n 3) (.rng2 (.lit (.int 2)) (.lit (.int 9))) (some (.cmp .ne (.bin .add (.ix (.var 5) (.bin .add (.var 3) (.lit (.int 2)))) (.ix (.var 5) (.bin .sub (.var 3) (.lit (.int 2))))) (.bin .mul (.var 6) (.ix (.var 5) (.var 3))))) (.var 3)) (.lst []))     [.ret (.lit (.bool false))]     [], .if_ (.and (.cmp .ge (.ix (.var 5) (.lit (.int 2))) (.ix (.var 5) (.lit (.int 0)))) (.and (.cmp .ge (.ix (.var 5) (.lit (.int 3))) (.ix (.var 5) (.lit (.int 1)))) (.cmp .ne (.lc [3] (.n 3) (.rng2 (.lit (.int 2)) (.lit (.int 9))) (some (.cmp .lt (.ix (.var 5) (.bin .add (.var 3) (.lit (.int 2)))) (.bin .mul (.lit (.int 2)) (.ix (.var 5) (.var 3))))) (.var 3)) (.lst []))))     [.ret (.lit (.bool false))]     []]) [.int 0, .int 1] [some (.d (.list (ns.map .int))), some (.l (T0)), none, none, none, none, none, none, none, none, none, none, none, none, none, none, none, none, none, none, none] = .nx [some (.d (.list (ns.map .int))), some (.l (T2)), some (.d (.int 1)), b3, b4, b5, b6, b7, b8, b9, b10, b11, b12, b13, b14, b15, b16, b17, b18, b19, none] := by
    refine (for_cons t1 l1).trans ?_
    refine (for_cons t2 l2).trans ?_
    rfl
  have it : semI (⟨fn, cs, [false]⟩ : Gm) (.rng1 (.lit (.int 2))) [some (.d (.list (ns.map .int))), some (.l (T0)), none, none, none, none, none, none, none, none, none, none, none, none, none, none, none, none, none, none, none] = .ok [.int 0, .int 1] [some (.d (.list (ns.map .int))), some (.l (T0)), none, none, none, none, none, none, none, none, none, none, none, none, none, none, none, none, none, none, none] := by
    have := i_rngA (Γ := (⟨fn, cs, [false]⟩ : Gm)) (ρ := [some (.d (.list (ns.map .int))), some (.l (T0)), none, none, none, none, none, none, none, none, none, none, none, none, none, none, none, none, none, none, none]) (a := .lit (.int 2)) (n := 2) r_lit (b := true) (sm62 (n := 2) (by omega))
    rw [if_pos rfl] at this
    exact this
  have lp := for_of it lp
  refine run_rt (xs := [.list (ns.map .int)]) rfl (Nat.le_of_ble_eq_true rfl) (ρ1 := [some (.d (.list (ns.map .int))), some (.l (T2)), some (.d (.int 1)), b3, b4, b5, b6, b7, b8, b9, b10, b11, b12, b13, b14, b15, b16, b17, b18, b19, none]) ?_ (Nat.le_of_ble_eq_true rfl)
  unfold Lk25.d48
  refine ss_go (s_own b0 rfl) ?_
  refine ss_go lp ?_
  exact ss_rt (s_ret r_lit)
end
end Pu
theorem Lk25.runs0 (ns : List Int) (hl : ns.length ≤ 63) : ∃ ys, F3.run Lk25.cs Lk25.tab 40 48 [.d (.list (ns.map .int))] = .ok (.d (.bool true)) ys := by
  refine ⟨[.d (.list (ns.map .int))], ?_⟩
  show F3.runD Lk25.cs (F3.run Lk25.cs Lk25.tab 39) Lk25.d48 _ = _
  exact Pu.k25_law (Lk25.s33 39 (by omega)) (Lk25.s35 39 (by omega)) (Lk25.s45 39 (by omega)) (Lk25.s46 39 (by omega)) (Lk25.s47 39 (by omega)) (Lk25.s17 39 (by omega)) (Lk25.s32 39 (by omega)) (Lk25.s28 39 (by omega)) (Lk25.s40 39 (by omega)) (fun d h => Lk25.s38 d 39 (by omega))
    (Lk25.s26 39 (by omega)) (Lk25.s20 39 (by omega)) (Lk25.s39 39 (by omega)) (Lk25.s41 39 (by omega)) (Lk25.s37 39 (by omega)) (Lk25.s19 39 (by omega)) ns hl
end
section
open F3 PySem L2
theorem Lk25.runs : ∀ ns : List Int, ns.length ≤ 63 → ∃ ys, run Lk25.cs (Lk25.rows.map F3.Row.D) 40 48 [.d (.list (ns.map .int))] = .ok (.d (.bool true)) ys := fun ns h => Lk25.runs0 ns h
open PySem PySem.W PyProof.Rows in
set_option maxRecDepth 100000 in
set_option maxHeartbeats 0 in
theorem PySem.Challenge.cw_flippedthrees_k25_across_shares_and_step_holds : PySem.Challenge.rw_flippedthrees_k25_across_shares_and_step.Holds := by
  w_on; o_law; k_head; (case hw => w_witness2)
  k_fill
  refine F3.walk_f3 (l := PySem.Challenge.rw_flippedthrees_k25_across_shares_and_step) (rows := Lk25.rows) (cs := Lk25.cs) (csT := Lk25.csT) (exT := Lk25.exT) (n := 60) (m := 60) (lv := 40) (nl := 48) (rl := Lk25.r48) rfl rfl ⟨rfl, by decide, by decide⟩ (fun w h Y => PySem.W.kIn_of Y) Lk25.all_ck rfl rfl (by decide) rfl ?F Lk25.runs
  case F =>
    intro w mg fa h KX G hmg
    refine' Lk25.all_mk KX G ?h_a0 ?h_l0 ?h_c0 ?h_k0 ?h_a1 ?h_l1 ?h_c1 ?h_k1 ?h_a2 ?h_l2 ?h_c2 ?h_k2 ?h_a3 ?h_l3 ?h_c3 ?h_k3 ?h_a4 ?h_l4 ?h_c4 ?h_k4 ?h_a5 ?h_l5 ?h_c5 ?h_k5 ?h_a6 ?h_l6 ?h_c6 ?h_k6 ?h_a7 ?h_l7 ?h_c7 ?h_k7 ?h_a8 ?h_l8 ?h_c8 ?h_k8 ?h_a9 ?h_l9 ?h_c9 ?h_k9 ?h_a10 ?h_l10 ?h_c10 ?h_k10 ?h_a11 ?h_l11 ?h_c11 ?h_k11 ?h_a12 ?h_l12 ?h_c12 ?h_k12 ?h_a13 ?h_l13 ?h_c13 ?h_k13 ?h_a14 ?h_l14 ?h_c14 ?h_k14 ?h_a15 ?h_l15 ?h_c15 ?h_k15 ?h_a16 ?h_l16 ?h_c16 ?h_k16 ?h_a17 ?h_l17 ?h_c17 ?h_k17 ?h_a18 ?h_l18 ?h_c18 ?h_k18 ?h_a19 ?h_l19 ?h_c19 ?h_k19 ?h_a20 ?h_l20 ?h_c20 ?h_k20 ?h_a21 ?h_l21 ?h_c21 ?h_k21 ?h_a22 ?h_l22 ?h_c22 ?h_k22 ?h_a23 ?h_l23 ?h_c23 ?h_k23 ?h_a24 ?h_l24 ?h_c24 ?h_k24 ?h_a25 ?h_l25 ?h_c25 ?h_k25 ?h_a26 ?h_l26 ?h_c26 ?h_k26 ?h_a27 ?h_l27 ?h_c27 ?h_k27 ?h_a28 ?h_l28 ?h_c28 ?h_k28 ?h_a29 ?h_l29 ?h_c29 ?h_k29 ?h_a30 ?h_l30 ?h_c30 ?h_k30 ?h_a31 ?h_l31 ?h_c31 ?h_k31 ?h_a32 ?h_l32 ?h_c32 ?h_k32 ?h_a33 ?h_l33 ?h_c33 ?h_k33 ?h_a34 ?h_l34 ?h_c34 ?h_k34 ?h_a35 ?h_l35 ?h_c35 ?h_k35 ?h_a36 ?h_l36 ?h_c36 ?h_k36 ?h_a37 ?h_l37 ?h_c37 ?h_k37 ?h_a38 ?h_l38 ?h_c38 ?h_k38 ?h_a39 ?h_l39 ?h_c39 ?h_k39 ?h_a40 ?h_l40 ?h_c40 ?h_k40 ?h_a41 ?h_l41 ?h_c41 ?h_k41 ?h_a42 ?h_l42 ?h_c42 ?h_k42 ?h_a43 ?h_l43 ?h_c43 ?h_k43 ?h_a44 ?h_l44 ?h_c44 ?h_k44 ?h_a45 ?h_l45 ?h_c45 ?h_k45 ?h_a46 ?h_l46 ?h_c46 ?h_k46 ?h_a47 ?h_l47 ?h_c47 ?h_k47 ?h_a48 ?h_l48 ?h_c48 ?h_k48 ?h_g0 ?h_g1 ?h_g2 ?h_g3 ?h_g4 ?h_g5 ?h_g6 ?h_x0 ?h_xk0 ?h_xs0 ?h_xt0 ?h_xi0 ?h_x1 ?h_xk1 ?h_xs1 ?h_xt1 ?h_xi1 ?h_z0 ?h_z1 ?h_z2 ?h_z3 ?h_z4 ?h_z5 ?h_z6 ?h_z7 ?h_z8 ?h_z9 ?h_z10 ?h_z11 ?h_z12 ?h_z13 ?h_z14 ?h_z15 ?h_z16 ?h_z17 ?h_z18
    (case h_a0 => k_is)
    (case h_l0 => k_is)
    (case h_c0 => k_is)
    (case h_k0 => k_is)
    (case h_a1 => k_is)
    (case h_l1 => k_is)
    (case h_c1 => k_is)
    (case h_k1 => k_is)
    (case h_a2 => k_is)
    (case h_l2 => k_is)
    (case h_c2 => k_is)
    (case h_k2 => k_is)
    (case h_a3 => k_is)
    (case h_l3 => k_is)
    (case h_c3 => k_is)
    (case h_k3 => k_is)
    (case h_a4 => k_is)
    (case h_l4 => k_is)
    (case h_c4 => k_is)
    (case h_k4 => k_is)
    (case h_a5 => k_is)
    (case h_l5 => k_is)
    (case h_c5 => k_is)
    (case h_k5 => k_is)
    (case h_a6 => k_is)
    (case h_l6 => k_is)
    (case h_c6 => k_is)
    (case h_k6 => k_is)
    (case h_a7 => k_is)
    (case h_l7 => k_is)
    (case h_c7 => k_is)
    (case h_k7 => k_is)
    (case h_a8 => k_is)
    (case h_l8 => k_is)
    (case h_c8 => k_is)
    (case h_k8 => k_is)
    (case h_a9 => k_is)
    (case h_l9 => k_is)
    (case h_c9 => k_is)
    (case h_k9 => k_is)
    (case h_a10 => k_is)
    (case h_l10 => k_is)
    (case h_c10 => k_is)
    (case h_k10 => k_is)
    (case h_a11 => k_is)
    (case h_l11 => k_is)
    (case h_c11 => k_is)
    (case h_k11 => k_is)
    (case h_a12 => k_is)
    (case h_l12 => k_is)
    (case h_c12 => k_is)
    (case h_k12 => k_is)
    (case h_a13 => k_is)
    (case h_l13 => k_is)
    (case h_c13 => k_is)
    (case h_k13 => k_is)
    (case h_a14 => k_is)
    (case h_l14 => k_is)
    (case h_c14 => k_is)
    (case h_k14 => k_is)
    (case h_a15 => k_is)
    (case h_l15 => k_is)
    (case h_c15 => k_is)
    (case h_k15 => k_is)
    (case h_a16 => k_is)
    (case h_l16 => k_is)
    (case h_c16 => k_is)
    (case h_k16 => k_is)
    (case h_a17 => k_is)
    (case h_l17 => k_is)
    (case h_c17 => k_is)
    (case h_k17 => k_is)
    (case h_a18 => k_is)
    (case h_l18 => k_is)
    (case h_c18 => k_is)
    (case h_k18 => k_is)
    (case h_a19 => k_is)
    (case h_l19 => k_is)
    (case h_c19 => k_is)
    (case h_k19 => k_is)
    (case h_a20 => k_is)
    (case h_l20 => k_is)
    (case h_c20 => k_is)
    (case h_k20 => k_is)
    (case h_a21 => k_is)
    (case h_l21 => k_is)
    (case h_c21 => k_is)
    (case h_k21 => k_is)
    (case h_a22 => k_is)
    (case h_l22 => k_is)
    (case h_c22 => k_is)
    (case h_k22 => k_is)
    (case h_a23 => k_is)
    (case h_l23 => k_is)
    (case h_c23 => k_is)
    (case h_k23 => k_is)
    (case h_a24 => k_is)
    (case h_l24 => k_is)
    (case h_c24 => k_is)
    (case h_k24 => k_is)
    (case h_a25 => k_is)
    (case h_l25 => k_is)
    (case h_c25 => k_is)
    (case h_k25 => k_is)
    (case h_a26 => k_is)
    (case h_l26 => k_is)
    (case h_c26 => k_is)
    (case h_k26 => k_is)
    (case h_a27 => k_is)
    (case h_l27 => k_is)
    (case h_c27 => k_is)
    (case h_k27 => k_is)
    (case h_a28 => k_is)
    (case h_l28 => k_is)
    (case h_c28 => k_is)
    (case h_k28 => k_is)
    (case h_a29 => k_is)
    (case h_l29 => k_is)
    (case h_c29 => k_is)
    (case h_k29 => k_is)
    (case h_a30 => k_is)
    (case h_l30 => k_is)
    (case h_c30 => k_is)
    (case h_k30 => k_is)
    (case h_a31 => k_is)
    (case h_l31 => k_is)
    (case h_c31 => k_is)
    (case h_k31 => k_is)
    (case h_a32 => k_is)
    (case h_l32 => k_is)
    (case h_c32 => k_is)
    (case h_k32 => k_is)
    (case h_a33 => k_is)
    (case h_l33 => k_is)
    (case h_c33 => k_is)
    (case h_k33 => k_is)
    (case h_a34 => k_is)
    (case h_l34 => k_is)
    (case h_c34 => k_is)
    (case h_k34 => k_is)
    (case h_a35 => k_is)
    (case h_l35 => k_is)
    (case h_c35 => k_is)
    (case h_k35 => k_is)
    (case h_a36 => k_is)
    (case h_l36 => k_is)
    (case h_c36 => k_is)
    (case h_k36 => k_is)
    (case h_a37 => k_is)
    (case h_l37 => k_is)
    (case h_c37 => k_is)
    (case h_k37 => k_is)
    (case h_a38 => k_is)
    (case h_l38 => k_is)
    (case h_c38 => k_is)
    (case h_k38 => k_is)
    (case h_a39 => k_is)
    (case h_l39 => k_is)
    (case h_c39 => k_is)
    (case h_k39 => k_is)
    (case h_a40 => k_is)
    (case h_l40 => k_is)
    (case h_c40 => k_is)
    (case h_k40 => k_is)
    (case h_a41 => k_is)
    (case h_l41 => k_is)
    (case h_c41 => k_is)
    (case h_k41 => k_is)
    (case h_a42 => k_is)
    (case h_l42 => k_is)
    (case h_c42 => k_is)
    (case h_k42 => k_is)
    (case h_a43 => k_is)
    (case h_l43 => k_is)
    (case h_c43 => k_is)
    (case h_k43 => k_is)
    (case h_a44 => k_is)
    (case h_l44 => k_is)
    (case h_c44 => k_is)
    (case h_k44 => k_is)
    (case h_a45 => k_is)
    (case h_l45 => k_is)
    (case h_c45 => k_is)
    (case h_k45 => k_is)
    (case h_a46 => k_is)
    (case h_l46 => k_is)
    (case h_c46 => k_is)
    (case h_k46 => k_is)
    (case h_a47 => k_is)
    (case h_l47 => k_is)
    (case h_c47 => k_is)
    (case h_k47 => k_is)
    (case h_a48 => k_is)
    (case h_l48 => k_is)
    (case h_c48 => k_is)
    (case h_k48 => k_is)
    (case h_g0 => k_is)
    (case h_g1 => k_is)
    (case h_g2 => k_is)
    (case h_g3 => k_is)
    (case h_g4 => k_is)
    (case h_g5 => k_is)
    (case h_g6 => k_is)
    (case h_x0 => k_is)
    (case h_xk0 => k_is)
    (case h_xs0 => k_is)
    (case h_xt0 => k_is)
    (case h_xi0 => k_exc)
    (case h_x1 => k_is)
    (case h_xk1 => k_is)
    (case h_xs1 => k_is)
    (case h_xt1 => k_is)
    (case h_xi1 => k_exc)
    (case h_z0 => k_is)
    (case h_z1 => k_is)
    (case h_z2 => k_is)
    (case h_z3 => k_is)
    (case h_z4 => k_is)
    (case h_z5 => k_is)
    (case h_z6 => k_is)
    (case h_z7 => k_is)
    (case h_z8 => k_is)
    (case h_z9 => k_is)
    (case h_z10 => k_is)
    (case h_z11 => k_is)
    (case h_z12 => k_is)
    (case h_z13 => k_is)
    (case h_z14 => k_is)
    (case h_z15 => k_is)
    (case h_z16 => k_is)
    (case h_z17 => k_is)
    (case h_z18 => k_is)
end
