import PyProof.Rows.All
import HandS.ForMost
import HandS.Exc
import HandS.ExcOwn
import HandS.ExcField
import HandS.ExcInit
import HandS.TryOnly
import HandS.WordsExc
import HandS.CallSlots
import HandS.CallLocal
import HandS.Defaults
import HandS.Wide
import HandS.Flow
import HandS.Style
import HandS.Text
import HandS.IsInst
import HandS.List
import HandS.Star
import KE.SortData
import KE.DataCmp
import PyProof.ReprRoads
import HandS.RaiseMore
import HandS.Dict
import KE.KStateDown
import HandS.Ends
import HandS.More
import HandS.Words
import HandS.Head0
import HandS.Head1
import HandS.Head2
import HandS.HeadEnd
import HandS.HeadHook1
import HandS.HeadHook2
import PySem.Challenge.RW_hangsfast_k86_texts_of_groupings_and_off
import KE.IntTextLaws
import KE.IntTextText
import KE.KIntText
import PyProof.Rows.ReprShort
import PyProof.Rows.StrCase
import KE.KStrBytes
import Lean
set_option Elab.async false
set_option linter.all false
set_option maxRecDepth 100000
set_option maxHeartbeats 2000000
/-! Mp: a small deterministic machine for Python defs, over HandS. Its own heap is a list of objects; tuples are values. -/
namespace Mp
open PySem PySem.Spec PyProof.Rows L2

/-! ### values, objects, results -/
inductive D where
  | non | bl (b : Bool) | int (i : Int) | str (x : Str) | tup (l : List D) | ref (n : Nat) | obj (n : Nat) | ty (n : String)
inductive O where
  | lst (l : List D)
  /-- a list that is only read -/
  | rl (l : List D)
  | ins (c : Nat) (ds : List D)
  | dk (kvs : List (Key × D))
abbrev MH := List O
abbrev Env := List (Option D)
/-- an exception: its class, its own fields -/
structure Xn where
  c : Nat
  ds : List D
/-- global objects by numbers, the fields of classes -/
structure Gm where
  ad : Nat → Addr
  fn : Nat → List Str
  nd : ∀ c, (fn c).Nodup
  le : ∀ c, (fn c).length ≤ 900
instance : CoeFun Gm (fun _ => Nat → Addr) := ⟨Gm.ad⟩
inductive R (α : Type) where
  | ok (a : α) (h : MH) | exc (x : Xn) (h : MH) | bad
def R.bind {α β : Type} (r : R α) (k : α → MH → R β) : R β := match r with
  | .ok a h => k a h
  | .exc x h => .exc x h
  | .bad => .bad
@[simp] theorem R.bind_ok {α β : Type} (a : α) (h : MH) (k : α → MH → R β) : (R.ok a h).bind k = k a h := rfl
@[simp] theorem R.bind_exc {α β : Type} (x : Xn) (h : MH) (k : α → MH → R β) : (R.exc x h : R α).bind k = .exc x h := rfl
@[simp] theorem R.bind_bad {α β : Type} (k : α → MH → R β) : (R.bad : R α).bind k = .bad := rfl
/-- what flows out of a statement -/
inductive Fl where
  | nx | rt (d : D) | bk | ct
inductive SR where
  | ok (f : Fl) (ρ : Env) (h : MH) | exc (x : Xn) (ρ : Env) (h : MH) | bad
abbrev EF (α : Type) := Env → MH → R α
abbrev SF := Env → MH → SR
abbrev Fn := List D → MH → R D

/-! ### how they stand in the abstract heap -/
section
variable (ad : Gm) (K : PySem.W.Frag) (φ : List Addr) (H : Hp)
mutual
inductive RelD : D → V → Prop where
  | non : RelD .non .non
  | bl (b : Bool) : RelD (.bl b) (.bl b)
  | int (i : Int) : RelD (.int i) (.int i)
  | str (x : Str) : RelD (.str x) (.str x)
  | tup {ds : List D} {a : Addr} {xs : List V} : SqT K H a xs → RelDs ds xs → RelD (.tup ds) (.ref a)
  | ref {n : Nat} {a : Addr} : φ[n]? = some a → RelD (.ref n) (.ref a)
  | obj (n : Nat) : RelD (.obj n) (.ref (ad n))
  | ty (n : String) : RelD (.ty n) (.ty n)
inductive RelDs : List D → List V → Prop where
  | nil : RelDs [] []
  | cons {d : D} {v : V} {ds : List D} {vs : List V} : RelD d v → RelDs ds vs → RelDs (d :: ds) (v :: vs)
end
/-- fields, entries by keys -/
def RelF {κ : Type} (fs : List (κ × D)) (gs : List (κ × V)) : Prop := gs.map (·.1) = fs.map (·.1) ∧ RelDs ad K φ H (fs.map (·.2)) (gs.map (·.2))
def OR (a : Addr) : O → Prop
  | .lst l => ∃ xs, H a = some (.lst xs) ∧ RelDs ad K φ H l xs
  | .rl l => ∃ o xs, H a = some (.frz o (.lst xs)) ∧ RelDs ad K φ H l xs
  | .ins c ds => ∃ dx gs, H a = some (.ins (ad c) dx gs) ∧ H dx = some (.own a) ∧ (gs.map (·.1) = (ad.fn c).take ds.length ∧ ds.length ≤ (ad.fn c).length) ∧ RelDs ad K φ H ds (gs.map (·.2))
  | .dk kvs => ∃ ws, H a = some (.dK ws) ∧ RelF ad K φ H kvs ws
structure Rel (h : MH) : Prop where
  len : φ.length = h.length
  nd : φ.Nodup
  obj : ∀ (n : Nat) (o : O), h[n]? = some o → ∃ a, φ[n]? = some a ∧ OR ad K φ H a o
def RelX (x : Xn) (cls : Value) (dd : Option Addr) : Prop := cls = .ref (ad x.c) ∧ ∃ a gs vs, dd = some a ∧ H a = some (.xd gs) ∧ RelDs ad K φ H x.ds vs ∧ ∀ (i : Nat) (f : Str) (v : V), (ad.fn x.c)[i]? = some f → vs[i]? = some v → gs.lookup f = some v
def RelE (ρ : Env) (σ : L2.St) : Prop := ρ.length = σ.length ∧ ∀ (i : Nat) (d : D), ρ[i]? = some (some d) → ∃ v, σ[i]? = some (some v) ∧ RelD ad K φ H d v
end
/-- what came later: more objects; tuples and what is frozen stand -/
structure Ext (φ : List Addr) (H : Hp) (φ' : List Addr) (H' : Hp) : Prop where
  pre : φ <+: φ'
  tup : ∀ a xs, H a = some (.tup xs) → H' a = some (.tup xs)
  frz : ∀ a o u, H a = some (.frz o u) → H' a = some (.frz o u)
  out : ∀ b u, H b = some u → b ∉ φ → H' b = some u
  fr : ∀ b, b ∈ φ' → b ∉ φ → H b = none
section
variable {ad : Gm} {K : PySem.W.Frag} {φ φ' φ1 φ2 : List Addr} {H H' H1 H2 : Hp}
theorem Ext.refl : Ext φ H φ H := ⟨List.prefix_refl _, fun _ _ h => h, fun _ _ _ h => h, fun _ _ h _ => h, fun _ h n => absurd h n⟩
theorem Ext.nin (a : Ext φ H φ1 H1) {b : Addr} {u : HO} (h : H b = some u) (n : b ∉ φ) : b ∉ φ1 := fun m => by
  rw [a.fr b m n] at h; cases h
theorem Ext.trans (a : Ext φ H φ1 H1) (b : Ext φ1 H1 φ2 H2) : Ext φ H φ2 H2 := by
  refine ⟨a.pre.trans b.pre, fun c xs h => b.tup c xs (a.tup c xs h), fun c o u h => b.frz c o u (a.frz c o u h), fun c u h n => b.out c u (a.out c u h n) (a.nin h n), fun c m n => ?_⟩
  by_cases m1 : c ∈ φ1
  · exact a.fr c m1 n
  · have z := b.fr c m m1
    cases q : H c with
    | none => rfl
    | some u => rw [a.out c u q n] at z; cases z
theorem Ext.at (e : Ext φ H φ' H') {n : Nat} {a : Addr} (h : φ[n]? = some a) : φ'[n]? = some a := by
  obtain ⟨t, rfl⟩ := e.pre
  have hn : n < φ.length := (List.getElem?_eq_some_iff.mp h).1
  rw [List.getElem?_append_left hn]
  exact h
theorem Ext.rd (e : Ext φ H φ' H') {a : Addr} {xs : List V} (h : SqT K H a xs) : SqT K H' a xs := by
  rcases h with (h | ⟨o, h⟩) | h
  · exact .inl (.inl (e.tup _ _ h))
  · exact .inl (.inr ⟨o, e.frz _ _ _ h⟩)
  · exact .inr h
mutual
theorem RelD.ext (e : Ext φ H φ' H') : ∀ {d : D} {v : V}, RelD ad K φ H d v → RelD ad K φ' H' d v
  | _, _, .non => .non
  | _, _, .bl b => .bl b
  | _, _, .int i => .int i
  | _, _, .str x => .str x
  | _, _, .tup s r => .tup (e.rd s) (RelDs.ext e r)
  | _, _, .ref h => .ref (e.at h)
  | _, _, .obj n => .obj n
  | _, _, .ty n => .ty n
theorem RelDs.ext (e : Ext φ H φ' H') : ∀ {ds : List D} {vs : List V}, RelDs ad K φ H ds vs → RelDs ad K φ' H' ds vs
  | _, _, .nil => .nil
  | _, _, .cons r t => .cons (RelD.ext e r) (RelDs.ext e t)
end
theorem RelF.ext {κ : Type} {fs : List (κ × D)} {gs : List (κ × V)} (e : Ext φ H φ' H') (r : RelF ad K φ H fs gs) : RelF ad K φ' H' fs gs := ⟨r.1, r.2.ext e⟩
theorem RelE.ext {ρ : Env} {σ : L2.St} (e : Ext φ H φ' H') (r : RelE ad K φ H ρ σ) : RelE ad K φ' H' ρ σ := ⟨r.1, fun i d h => let ⟨v, h1, h2⟩ := r.2 i d h; ⟨v, h1, h2.ext e⟩⟩
theorem RelDs.length {ds : List D} {vs : List V} (r : RelDs ad K φ H ds vs) : ds.length = vs.length := by
  induction ds generalizing vs with
  | nil => cases r; rfl
  | cons d ds ih => cases r with
    | cons r t => simp [ih t]
theorem RelDs.get : ∀ {ds : List D} {vs : List V}, RelDs ad K φ H ds vs → ∀ {i : Nat} {d : D}, ds[i]? = some d → ∃ v, vs[i]? = some v ∧ RelD ad K φ H d v
  | _, _, .nil, _, _, h => by simp at h
  | _, _, .cons r t, 0, d, h => by simp at h; subst h; exact ⟨_, rfl, r⟩
  | _, _, .cons r t, i + 1, d, h => by
    obtain ⟨v, h1, h2⟩ := RelDs.get t (i := i) (d := d) (by simpa using h)
    exact ⟨v, by simpa using h1, h2⟩
theorem RelDs.getV : ∀ {ds : List D} {vs : List V}, RelDs ad K φ H ds vs → ∀ {i : Nat} {v : V}, vs[i]? = some v → ∃ d, ds[i]? = some d ∧ RelD ad K φ H d v
  | _, _, .nil, _, _, h => by simp at h
  | _, _, .cons r t, 0, d, h => by simp at h; subst h; exact ⟨_, rfl, r⟩
  | _, _, .cons r t, i + 1, d, h => by
    obtain ⟨v, h1, h2⟩ := RelDs.getV t (i := i) (v := d) (by simpa using h)
    exact ⟨v, by simpa using h1, h2⟩
theorem RelDs.append : ∀ {ds es : List D} {vs us : List V}, RelDs ad K φ H ds vs → RelDs ad K φ H es us → RelDs ad K φ H (ds ++ es) (vs ++ us)
  | _, _, _, _, .nil, s => s
  | _, _, _, _, .cons r t, s => .cons r (RelDs.append t s)
theorem RelDs.take : ∀ {ds : List D} {vs : List V} (n : Nat), RelDs ad K φ H ds vs → RelDs ad K φ H (ds.take n) (vs.take n)
  | _, _, 0, _ => .nil
  | _, _, _ + 1, .nil => .nil
  | _, _, n + 1, .cons r t => .cons r (RelDs.take n t)
theorem RelDs.drop : ∀ {ds : List D} {vs : List V} (n : Nat), RelDs ad K φ H ds vs → RelDs ad K φ H (ds.drop n) (vs.drop n)
  | _, _, 0, r => r
  | _, _, _ + 1, .nil => .nil
  | _, _, n + 1, .cons r t => RelDs.drop n t
theorem RelDs.set {d : D} {v : V} (q : RelD ad K φ H d v) : ∀ {ds : List D} {vs : List V} (n : Nat), RelDs ad K φ H ds vs → RelDs ad K φ H (ds.set n d) (vs.set n v)
  | _, _, _, .nil => .nil
  | _, _, 0, .cons r t => .cons q t
  | _, _, n + 1, .cons r t => .cons r (RelDs.set q n t)
theorem RelDs.reverse {ds : List D} {vs : List V} (r : RelDs ad K φ H ds vs) : RelDs ad K φ H ds.reverse vs.reverse := by
  induction ds generalizing vs with
  | nil => cases r; exact .nil
  | cons d ds ih => cases r with
    | cons r t => rw [List.reverse_cons, List.reverse_cons]; exact (ih t).append (.cons r .nil)
theorem RelDs.strs : ∀ {ys : List Str} {vs : List V}, RelDs ad K φ H (ys.map D.str) vs → vs = ys.map V.str
  | [], _, .nil => rfl
  | _ :: ys, _, .cons r t => by cases r; simp [RelDs.strs t]
theorem RelDs.ints : ∀ {ys : List Int} {vs : List V}, RelDs ad K φ H (ys.map D.int) vs → vs = ys.map V.int
  | [], _, .nil => rfl
  | _ :: ys, _, .cons r t => by cases r; simp [RelDs.ints t]
theorem RelDs.bls : ∀ {ys : List Bool} {vs : List V}, RelDs ad K φ H (ys.map D.bl) vs → vs = ys.map V.bl
  | [], _, .nil => rfl
  | _ :: ys, _, .cons r t => by cases r; simp [RelDs.bls t]
theorem RelDs.ofStrs : ∀ (ys : List Str), RelDs ad K φ H (ys.map D.str) (ys.map V.str)
  | [] => .nil
  | y :: ys => .cons (.str y) (RelDs.ofStrs ys)
theorem RelDs.ofInts : ∀ (ys : List Int), RelDs ad K φ H (ys.map D.int) (ys.map V.int)
  | [] => .nil
  | y :: ys => .cons (.int y) (RelDs.ofInts ys)

/-! ### more names for objects -/
mutual
theorem RelDpre (e : φ <+: φ') : ∀ {d : D} {v : V}, RelD ad K φ H d v → RelD ad K φ' H d v
  | _, _, .non => .non
  | _, _, .bl b => .bl b
  | _, _, .int i => .int i
  | _, _, .str x => .str x
  | _, _, .tup s r => .tup s (RelDspre e r)
  | _, _, .ref (n := n) (a := a) h => .ref (by
    obtain ⟨t, rfl⟩ := e
    have hn : n < φ.length := (List.getElem?_eq_some_iff.mp h).1
    rw [List.getElem?_append_left hn]
    exact h)
  | _, _, .obj n => .obj n
  | _, _, .ty n => .ty n
theorem RelDspre (e : φ <+: φ') : ∀ {ds : List D} {vs : List V}, RelDs ad K φ H ds vs → RelDs ad K φ' H ds vs
  | _, _, .nil => .nil
  | _, _, .cons r t => .cons (RelDpre e r) (RelDspre e t)
end
theorem ORpre {a : Addr} {o : O} (e : φ <+: φ') (r : OR ad K φ H a o) : OR ad K φ' H a o := by
  cases o with
  | lst l => obtain ⟨xs, h1, h2⟩ := r; exact ⟨xs, h1, RelDspre e h2⟩
  | rl l => obtain ⟨ob, xs, h1, h2⟩ := r; exact ⟨ob, xs, h1, RelDspre e h2⟩
  | ins c ds => obtain ⟨dx, gs, h1, h2, h3, h4⟩ := r; exact ⟨dx, gs, h1, h2, h3, RelDspre e h4⟩
  | dk kvs => obtain ⟨ws, h1, h2⟩ := r; exact ⟨ws, h1, h2.1, RelDspre e h2.2⟩

/-! ### the heap grows, changes -/
theorem OR.mono {a : Addr} {o : O} (e : Ext φ H φ' H') (k : ∀ b u, (b = a ∨ H b = some (.own a)) → H b = some u → H' b = some u) (r : OR ad K φ H a o) : OR ad K φ' H' a o := by
  cases o with
  | lst l => obtain ⟨xs, h1, h2⟩ := r; exact ⟨xs, k _ _ (.inl rfl) h1, h2.ext e⟩
  | rl l => obtain ⟨ob, xs, h1, h2⟩ := r; exact ⟨ob, xs, k _ _ (.inl rfl) h1, h2.ext e⟩
  | ins c ds => obtain ⟨dx, gs, h1, h2, h3, h4⟩ := r; exact ⟨dx, gs, k _ _ (.inl rfl) h1, k _ _ (.inr h2) h2, h3, h4.ext e⟩
  | dk kvs => obtain ⟨ws, h1, h2⟩ := r; exact ⟨ws, k _ _ (.inl rfl) h1, h2.ext e⟩
theorem OR.tracked {a : Addr} {o : O} (r : OR ad K φ H a o) : ∃ u, H a = some u := by
  cases o with
  | lst l => obtain ⟨xs, h1, h2⟩ := r; exact ⟨_, h1⟩
  | rl l => obtain ⟨ob, xs, h1, h2⟩ := r; exact ⟨_, h1⟩
  | ins c ds => obtain ⟨dx, gs, h1, h2, h3⟩ := r; exact ⟨_, h1⟩
  | dk kvs => obtain ⟨ws, h1, h2⟩ := r; exact ⟨_, h1⟩
theorem Rel.tracked {h : MH} (R : Rel ad K φ H h) {n : Nat} {a : Addr} (e : φ[n]? = some a) : ∃ u, H a = some u := by
  have hn : n < h.length := by rw [← R.len]; exact (List.getElem?_eq_some_iff.mp e).1
  obtain ⟨b, h1, h2⟩ := R.obj n _ (List.getElem?_eq_getElem hn)
  rw [e] at h1; cases h1
  exact h2.tracked
theorem Rel.fresh {h : MH} (R : Rel ad K φ H h) {p : Addr} (hp : H p = none) : p ∉ φ := fun hm => by
  obtain ⟨n, e⟩ := List.getElem?_of_mem hm
  obtain ⟨u, q⟩ := R.tracked e
  rw [hp] at q; cases q
theorem Rel.inj {h : MH} (R : Rel ad K φ H h) {n m : Nat} {a : Addr} (e1 : φ[n]? = some a) (e2 : φ[m]? = some a) : n = m := nd_ix R.nd e1 e2
/-- what is tracked besides goes along -/
theorem Ext.same (k : ∀ b u, H b = some u → H' b = some u) : Ext φ H φ H' := ⟨List.prefix_refl _, fun _ _ h => k _ _ h, fun _ _ _ h => k _ _ h, fun _ _ h _ => k _ _ h, fun _ h n => absurd h n⟩
theorem Rel.same {h : MH} (R : Rel ad K φ H h) (k : ∀ b u, H b = some u → H' b = some u) : Rel ad K φ H' h :=
  ⟨R.len, R.nd, fun n o e => let ⟨a, h1, h2⟩ := R.obj n o e; ⟨a, h1, h2.mono (Ext.same k) fun b u _ q => k b u q⟩⟩
theorem keep_upd {p : Addr} {o : HO} (hp : H p = none) : ∀ b u, H b = some u → upd H p o b = some u := fun b u q => by
  rw [upd_ne (ne_of_none q hp)]; exact q
/-- a new object -/
theorem Ext.new {p : Addr} {o : HO} (hp : H p = none) : Ext φ H (φ ++ [p]) (upd H p o) := ⟨List.prefix_append _ _, fun _ _ h => keep_upd hp _ _ h, fun _ _ _ h => keep_upd hp _ _ h, fun _ _ h _ => keep_upd hp _ _ h, fun b m n => by
  have e : b = p := by simpa [n] using m
  rw [e]; exact hp⟩
/-- an object that stands besides comes in -/
theorem Ext.join {p : Addr} {o : HO} (h0 : H p = none) (e : Ext φ (upd H p o) φ' H') : Ext φ H (φ' ++ [p]) H' := by
  refine ⟨e.pre.trans (List.prefix_append _ _), fun _ _ h => e.tup _ _ (keep_upd h0 _ _ h), fun _ _ _ h => e.frz _ _ _ (keep_upd h0 _ _ h), fun b u h n => e.out b u (keep_upd h0 _ _ h) n, fun b m n => ?_⟩
  rcases List.mem_append.mp m with m | m
  · have z := e.fr b m n
    cases q : H b with
    | none => rfl
    | some u => rw [keep_upd h0 _ _ q] at z; cases z
  · have e : b = p := by simpa using m
    rw [e]; exact h0
theorem Rel.join {h : MH} (R : Rel ad K φ H h) {p : Addr} {o : O} (n : p ∉ φ) (ho : OR ad K (φ ++ [p]) H p o) : Rel ad K (φ ++ [p]) H (h ++ [o]) := by
  refine ⟨by simp [R.len], ?_, fun k u ek => ?_⟩
  · rw [List.nodup_append]
    refine ⟨R.nd, by simp, fun a ha b hb => ?_⟩
    have e : b = p := by simpa using hb
    subst e
    intro z; subst z
    exact n ha
  · by_cases hn : k < h.length
    · rw [List.getElem?_append_left hn] at ek
      obtain ⟨a, h1, h2⟩ := R.obj k u ek
      refine ⟨a, ?_, ORpre (List.prefix_append _ _) h2⟩
      have hk : k < φ.length := (List.getElem?_eq_some_iff.mp h1).1
      rw [List.getElem?_append_left hk]; exact h1
    · have hn2 : k = h.length := by
        have z := (List.getElem?_eq_some_iff.mp ek).1
        simp at z; omega
      subst hn2
      simp at ek; subst ek
      refine ⟨p, ?_, ho⟩
      rw [← R.len]; simp
theorem Rel.new {h : MH} (R : Rel ad K φ H h) {p : Addr} {ob : HO} {o : O} (hp : H p = none) (ho : OR ad K (φ ++ [p]) (upd H p ob) p o) : Rel ad K (φ ++ [p]) (upd H p ob) (h ++ [o]) := by
  refine ⟨by simp [R.len], ?_, fun n u e => ?_⟩
  · rw [List.nodup_append]
    refine ⟨R.nd, by simp, fun a ha b hb => ?_⟩
    have e : b = p := by simpa using hb
    subst e
    intro z; subst z
    exact R.fresh hp ha
  · by_cases hn : n < h.length
    · rw [List.getElem?_append_left hn] at e
      obtain ⟨a, h1, h2⟩ := R.obj n u e
      exact ⟨a, (Ext.new (o := ob) hp).at h1, h2.mono (Ext.new hp) fun b u _ q => keep_upd hp b u q⟩
    · have hn2 : n = h.length := by
        have z := (List.getElem?_eq_some_iff.mp e).1
        simp at z; omega
      subst hn2
      simp at e; subst e
      refine ⟨p, ?_, ho⟩
      rw [← R.len]; simp
theorem new_at {h : MH} (R : Rel ad K φ H h) (p : Addr) : (φ ++ [p])[h.length]? = some p := by rw [← R.len]; simp
/-- a list, an instance, a dict changed -/
def Mt : HO → Prop
  | .lst _ => True
  | .ins _ _ _ => True
  | .dK _ => True
  | _ => False
theorem Ext.put {a : Addr} {u v : HO} (i : a ∈ φ) (h : H a = some u) (m : Mt u) : Ext φ H φ (upd H a v) := by
  refine ⟨List.prefix_refl _, fun b xs q => ?_, fun b o w q => ?_, fun b w q n => ?_, fun _ h n => absurd h n⟩
  · rw [upd_ne]; exact q
    intro z; subst z; rw [h] at q; cases q; exact m
  · rw [upd_ne]; exact q
    intro z; subst z; rw [h] at q; cases q; exact m
  · rw [upd_ne]; exact q
    intro z; subst z; exact n i
theorem Rel.put {h : MH} (R : Rel ad K φ H h) {n : Nat} {a : Addr} {u v : HO} {o : O} (e : φ[n]? = some a) (ha : H a = some u) (m : Mt u) (ho : OR ad K φ (upd H a v) a o) : Rel ad K φ (upd H a v) (h.set n o) := by
  refine ⟨by simp [R.len], R.nd, fun k w ek => ?_⟩
  by_cases hk : k = n
  · subst hk
    have z : w = o := by
      rw [List.getElem?_set] at ek
      simp at ek
      exact ek.2.symm
    subst z
    exact ⟨a, e, ho⟩
  · rw [List.getElem?_set_ne (Ne.symm hk)] at ek
    obtain ⟨b, h1, h2⟩ := R.obj k w ek
    have hb : b ≠ a := fun z => hk (R.inj h1 (by rw [z]; exact e))
    refine ⟨b, h1, h2.mono (Ext.put (List.mem_of_getElem? e) ha m) fun c x hc q => ?_⟩
    rw [upd_ne]; exact q
    rintro rfl
    rcases hc with z | z
    · exact hb z.symm
    · rw [ha] at z; cases z; exact m
end
end Mp
set_option Elab.async false
set_option linter.all false
set_option maxRecDepth 100000
set_option maxHeartbeats 2000000
namespace Mp
open PySem PySem.Spec PyProof.Rows L2

/-! ### what a run promises of the abstract heap -/
section
variable (ad : Gm) (K : PySem.W.Frag)
def Post {α β : Type} (rel : List Addr → Hp → α → β → Prop) (φ : List Addr) (H : Hp) (r : R α) (Q : β → Hp → Prop) (E : XK) : Prop := match r with
  | .ok a h' => ∀ φ' H' b, Ext φ H φ' H' → Rel ad K φ' H' h' → rel φ' H' a b → Q b H'
  | .exc x h' => ∀ φ' H' cls dd, Ext φ H φ' H' → Rel ad K φ' H' h' → RelX ad K φ' H' x cls dd → E cls dd H'
  | .bad => False
abbrev relB : List Addr → Hp → Bool → Bool → Prop := fun _ _ a b => a = b
def tE (W : WX) (f : EF D) : TE := fun σ H Q => ∃ φ h ρ, Rel ad K φ H h ∧ RelE ad K φ H ρ σ ∧ Post ad K (RelD ad K) φ H (f ρ h) Q (fun c d H' => W c d σ H')
def tA (W : WX) (f : EF (List D)) : TA := fun σ H Q => ∃ φ h ρ, Rel ad K φ H h ∧ RelE ad K φ H ρ σ ∧ Post ad K (RelDs ad K) φ H (f ρ h) Q (fun c d H' => W c d σ H')
def tT (W : WX) (f : EF Bool) : TT := fun σ H Q => ∃ φ h ρ, Rel ad K φ H h ∧ RelE ad K φ H ρ σ ∧ Post ad K relB φ H (f ρ h) Q (fun c d H' => W c d σ H')
/-- an operation on values, by what is read of it -/
def OpV (r : R2) (g : D → D → MH → R D) : Prop := ∀ φ H h d e v u Q E, Rel ad K φ H h → RelD ad K φ H d v → RelD ad K φ H e u → Post ad K (RelD ad K) φ H (g d e h) Q E → r v u H Q
def UnV (r : V → Hp → VK → Prop) (g : D → MH → R D) : Prop := ∀ φ H h d v Q E, Rel ad K φ H h → RelD ad K φ H d v → Post ad K (RelD ad K) φ H (g d h) Q E → r v H Q
def CallV (r : List V → Hp → VK → Prop) (g : List D → MH → R D) : Prop := ∀ φ H h ds vs Q E, Rel ad K φ H h → RelDs ad K φ H ds vs → Post ad K (RelD ad K) φ H (g ds h) Q E → r vs H Q
end
section
variable {ad : Gm} {K : PySem.W.Frag} {φ φ' φ1 φ2 : List Addr} {H H' H1 H2 : Hp}
theorem Post.ext {α β : Type} {rel : List Addr → Hp → α → β → Prop} {r : R α} {Q : β → Hp → Prop} {E : XK} (e : Ext φ H φ1 H1) (p : Post ad K rel φ H r Q E) : Post ad K rel φ1 H1 r Q E := by
  cases r with
  | ok a h' => exact fun φ' H' b x => p φ' H' b (e.trans x)
  | exc x h' => exact fun φ' H' c d x => p φ' H' c d (e.trans x)
  | bad => exact p
theorem Post.bind {α α' β β' : Type} {rel : List Addr → Hp → α → β → Prop} {rel' : List Addr → Hp → α' → β' → Prop} {r : R α} {k : α → MH → R α'} {Q' : β' → Hp → Prop} {E : XK} {Q : β → Hp → Prop}
    (p : Post ad K rel' φ H (r.bind k) Q' E) (hk : ∀ φ1 H1 h1 a b, Ext φ H φ1 H1 → Rel ad K φ1 H1 h1 → rel φ1 H1 a b → Post ad K rel' φ1 H1 (k a h1) Q' E → Q b H1) : Post ad K rel φ H r Q E := by
  cases r with
  | ok a h' => exact fun φ' H' b x R q => hk φ' H' h' a b x R q (Post.ext x p)
  | exc x h' => exact p
  | bad => exact p
theorem Post.mono {α β : Type} {rel : List Addr → Hp → α → β → Prop} {r : R α} {Q Q' : β → Hp → Prop} {E E' : XK} (p : Post ad K rel φ H r Q E) (hq : ∀ b H', Q b H' → Q' b H') (he : ∀ c d H', E c d H' → E' c d H') : Post ad K rel φ H r Q' E' := by
  cases r with
  | ok a h' => exact fun φ' H' b x R q => hq _ _ (p φ' H' b x R q)
  | exc x h' => exact fun φ' H' c d x R q => he _ _ _ (p φ' H' c d x R q)
  | bad => exact p
/-- the end: nothing new -/
theorem Post.now {α β : Type} {rel : List Addr → Hp → α → β → Prop} {a : α} {b : β} {h : MH} {Q : β → Hp → Prop} {E : XK} (p : Post ad K rel φ H (.ok a h) Q E) (R : Rel ad K φ H h) (r : rel φ H a b) : Q b H := p φ H b Ext.refl R r
/-- the end: a new list, tuple -/
theorem Post.newL {h : MH} {ds : List D} {xs : List V} {Q : VK} {E : XK} (p : Post ad K (RelD ad K) φ H (.ok (.ref h.length) (h ++ [.lst ds])) Q E) (R : Rel ad K φ H h) (r : RelDs ad K φ H ds xs) {a : Addr} (ha : H a = none) : Q (.ref a) (upd H a (.lst xs)) :=
  p (φ ++ [a]) _ _ (Ext.new ha) (R.new ha ⟨xs, upd_same, r.ext (Ext.new ha)⟩) (.ref (new_at R a))
theorem Post.newT {h : MH} {ds : List D} {xs : List V} {Q : VK} {E : XK} (p : Post ad K (RelD ad K) φ H (.ok (.tup ds) h) Q E) (R : Rel ad K φ H h) (r : RelDs ad K φ H ds xs) {a : Addr} (ha : H a = none) : Q (.ref a) (upd H a (.tup xs)) :=
  p φ _ _ (Ext.same (keep_upd ha)) (R.same (keep_upd ha)) (.tup (.inl (.inl upd_same)) (r.ext (Ext.same (keep_upd ha))))
/-- an object read -/
theorem Rel.lst {h : MH} (R : Rel ad K φ H h) {n : Nat} {v : V} {l : List D} (r : RelD ad K φ H (.ref n) v) (e : h[n]? = some (.lst l)) : ∃ a xs, v = .ref a ∧ φ[n]? = some a ∧ H a = some (.lst xs) ∧ RelDs ad K φ H l xs := by
  cases r with
  | ref q =>
    obtain ⟨b, h1, xs, h2, h3⟩ := R.obj n _ e
    rw [q] at h1; cases h1
    exact ⟨_, xs, rfl, q, h2, h3⟩
theorem Rel.rl {h : MH} (R : Rel ad K φ H h) {n : Nat} {v : V} {l : List D} (r : RelD ad K φ H (.ref n) v) (e : h[n]? = some (.rl l)) : ∃ a o xs, v = .ref a ∧ φ[n]? = some a ∧ H a = some (.frz o (.lst xs)) ∧ RelDs ad K φ H l xs := by
  cases r with
  | ref q =>
    obtain ⟨b, h1, o, xs, h2, h3⟩ := R.obj n _ e
    rw [q] at h1; cases h1
    exact ⟨_, o, xs, rfl, q, h2, h3⟩
theorem Rel.ins {h : MH} (R : Rel ad K φ H h) {n : Nat} {v : V} {c : Nat} {ds : List D} (r : RelD ad K φ H (.ref n) v) (e : h[n]? = some (.ins c ds)) :
    ∃ a dx gs, v = .ref a ∧ φ[n]? = some a ∧ H a = some (.ins (ad c) dx gs) ∧ H dx = some (.own a) ∧ (gs.map (·.1) = (ad.fn c).take ds.length ∧ ds.length ≤ (ad.fn c).length) ∧ RelDs ad K φ H ds (gs.map (·.2)) := by
  cases r with
  | ref q =>
    obtain ⟨b, h1, dx, gs, h2, h3, h4⟩ := R.obj n _ e
    rw [q] at h1; cases h1
    exact ⟨_, dx, gs, rfl, q, h2, h3, h4⟩
theorem Rel.dk {h : MH} (R : Rel ad K φ H h) {n : Nat} {v : V} {kvs : List (Key × D)} (r : RelD ad K φ H (.ref n) v) (e : h[n]? = some (.dk kvs)) :
    ∃ a ws, v = .ref a ∧ φ[n]? = some a ∧ H a = some (.dK ws) ∧ RelF ad K φ H kvs ws := by
  cases r with
  | ref q =>
    obtain ⟨b, h1, ws, h2, h3⟩ := R.obj n _ e
    rw [q] at h1; cases h1
    exact ⟨_, ws, rfl, q, h2, h3⟩
/-- the items of a list, to be read -/
def listOf (h : MH) (n : Nat) : Option (List D) := match h[n]? with
  | some (.lst l) => some l
  | some (.rl l) => some l
  | _ => none
theorem Rel.listOf {h : MH} (R : Rel ad K φ H h) {n : Nat} {v : V} {l : List D} (r : RelD ad K φ H (.ref n) v) (e : listOf h n = some l) : ∃ a xs, v = .ref a ∧ φ[n]? = some a ∧ SqL K H a xs ∧ RelDs ad K φ H l xs := by
  unfold Mp.listOf at e
  split at e
  · rename_i l' q
    cases e
    obtain ⟨a, xs, h1, h2, h3, h4⟩ := R.lst r q
    exact ⟨a, xs, h1, h2, .inl (.inl h3), h4⟩
  · rename_i l' q
    cases e
    obtain ⟨a, o, xs, h1, h2, h3, h4⟩ := R.rl r q
    exact ⟨a, xs, h1, h2, .inl (.inr ⟨o, h3⟩), h4⟩
  · cases e
end

/-! ### combinators -/
def fVar (i : Nat) : EF D := fun ρ h => match ρ[i]? with
  | some (some d) => .ok d h
  | _ => .bad
def fC (d : D) : EF D := fun _ h => .ok d h
def fOp (g : D → D → MH → R D) (fa fb : EF D) : EF D := fun ρ h => (fa ρ h).bind fun d h => (fb ρ h).bind fun e h => g d e h
def fUn (g : D → MH → R D) (fa : EF D) : EF D := fun ρ h => (fa ρ h).bind fun d h => g d h
def fNil : EF (List D) := fun _ h => .ok [] h
def fCons (fa : EF D) (fr : EF (List D)) : EF (List D) := fun ρ h => (fa ρ h).bind fun d h => (fr ρ h).bind fun ds h => .ok (d :: ds) h
def fCB (g : List D → MH → R D) (fa : EF (List D)) : EF D := fun ρ h => (fa ρ h).bind g
def fTup (fa : EF (List D)) : EF D := fun ρ h => (fa ρ h).bind fun ds h => if ds.length ≤ 16777216 then .ok (.tup ds) h else .bad
def fLst (fa : EF (List D)) : EF D := fun ρ h => (fa ρ h).bind fun ds h => if ds.length ≤ 16777216 then .ok (.ref h.length) (h ++ [.lst ds]) else .bad
def fIf (ft : EF Bool) (fa fb : EF D) : EF D := fun ρ h => (ft ρ h).bind fun c h => if c = true then fa ρ h else fb ρ h
def asB : D → MH → R Bool := fun d h => match d with
  | .bl b => .ok b h
  | _ => .bad
/-- a value that is a bool, as a test -/
def fB (fa : EF D) : EF Bool := fun ρ h => (fa ρ h).bind asB
def fNot (ft : EF Bool) : EF Bool := fun ρ h => (ft ρ h).bind fun c h => .ok (!c) h
def fAnd (ft fu : EF Bool) : EF Bool := fun ρ h => (ft ρ h).bind fun c h => if c = true then fu ρ h else .ok false h
def fOr (ft fu : EF Bool) : EF Bool := fun ρ h => (ft ρ h).bind fun c h => if c = true then .ok true h else fu ρ h
/-- and, or, not, whose values are bools -/
def fAndV (fa fb : EF D) : EF D := fun ρ h => (fa ρ h).bind fun d h => match d with
  | .bl true => fb ρ h
  | .bl false => .ok (.bl false) h
  | _ => .bad
def fOrV (fa fb : EF D) : EF D := fun ρ h => (fa ρ h).bind fun d h => match d with
  | .bl false => fb ρ h
  | .bl true => .ok (.bl true) h
  | _ => .bad
def fNotV (fa : EF D) : EF D := fun ρ h => (fa ρ h).bind fun d h => match d with
  | .bl b => .ok (.bl (!b)) h
  | _ => .bad
/-- truth -/
def truth : D → MH → R Bool := fun d h => match d with
  | .non => .ok false h
  | .bl b => .ok b h
  | .int i => .ok (i != 0) h
  | .str x => if x.length ≤ 16777216 then .ok ((x.length : Int) != 0) h else .bad
  | .tup l => .ok (!l.isEmpty) h
  | .ref n => match listOf h n with
    | some l => .ok (!l.isEmpty) h
    | none => .bad
  | _ => .bad
def fTru (fa : EF D) : EF Bool := fun ρ h => (fa ρ h).bind truth

section
variable {X : Cx} {ad : Gm} {W : WX} {e a b c : Expr} {es : List Expr} {pos : Pos} {fa fb fc : EF D} {ft fu : EF Bool} {fs : EF (List D)}
theorem _root_.L2.PE.weak {t t' : TE} (p : PE X e t) (h : ∀ σ H Q, t' σ H Q → t σ H Q) : PE X e t' := ⟨fun pins s σ H Q I q => p.run pins s σ H Q I (h σ H Q q)⟩
theorem _root_.L2.PT.weak {t t' : TT} (p : PT X e t) (h : ∀ σ H Q, t' σ H Q → t σ H Q) : PT X e t' := ⟨fun pins s σ H Q I q => p.run pins s σ H Q I (h σ H Q q)⟩
theorem _root_.L2.PW.weak {t t' : TT} (p : PW X e t) (h : ∀ σ H Q, t' σ H Q → t σ H Q) : PW X e t' := ⟨fun w pins s σ H Q I q => p.run w pins s σ H Q I (h σ H Q q)⟩
theorem _root_.L2.PA.weak {t t' : TA} (p : PA X es t) (h : ∀ σ H Q, t' σ H Q → t σ H Q) : PA X es t' := ⟨fun po pins s σ H Q I q => p.run po pins s σ H Q I (h σ H Q q)⟩

/-! ### names, constants -/
theorem re_var (i : Nat) {x : Str} (hN : X.N[i]? = some x := by rfl) (hv : Vis X.env.scope x := by first | exact Or.inl rfl | exact Or.inr (Or.inl rfl) | exact Or.inr (Or.inr rfl)) (hd : (x == ("__debug__" : Str)) = false := by decide)
    (hcd : (x == ("__classdict__" : Str)) = false := by decide) : PE X (.Name x pos) (tE ad X.K W (fVar i)) := by
  refine (pe_var hN hv hd hcd).weak fun σ H Q ⟨φ, h, ρ, R, E, p⟩ => ?_
  unfold fVar at p
  split at p
  · rename_i d q
    obtain ⟨v, h1, h2⟩ := E.2 i d q
    exact ⟨v, h1, p.now R h2⟩
  · exact p.elim
theorem re_c {d : D} {v : V} (hp : PE X e (tC v)) (r : ∀ φ H, RelD ad X.K φ H d v) : PE X e (tE ad X.K W (fC d)) := hp.weak fun σ H Q ⟨φ, h, ρ, R, E, p⟩ => p.now R (r φ H)
theorem re_int {i : Int} {j : Nat} : PE X (.Constant (.int i) j pos) (tE ad X.K W (fC (.int i))) := re_c pe_int fun _ _ => .int i
theorem re_bl {b : Bool} {j : Nat} : PE X (.Constant (.bool b) j pos) (tE ad X.K W (fC (.bl b))) := re_c pe_bl fun _ _ => .bl b
theorem re_non {j : Nat} : PE X (.Constant .none j pos) (tE ad X.K W (fC .non)) := re_c pe_non fun _ _ => .non
theorem re_str {x : Str} {j : Nat} : PE X (.Constant (.str x) j pos) (tE ad X.K W (fC (.str x))) := re_c pe_str fun _ _ => .str x
theorem re_obj {x : Str} (n : Nat) (hg : Gl X x) (hm : X.mg x = some (.ref (ad n))) (hd : (x == ("__debug__" : Str)) = false := by decide) : PE X (.Name x pos) (tE ad X.K W (fC (.obj n))) := re_c (pe_glob hg hm (v := .ref (ad n)) rfl hd) fun _ _ => .obj n
theorem re_gint {x : Str} {i : Int} (hg : Gl X x) (hm : ∃ t, X.mg x = some (.int i t)) (hd : (x == ("__debug__" : Str)) = false := by decide) : PE X (.Name x pos) (tE ad X.K W (fC (.int i))) :=
  let ⟨t, h⟩ := hm; re_c (pe_glob hg h (v := .int i) ⟨t, rfl⟩ hd) fun _ _ => .int i
theorem re_gstr {x y : Str} (hg : Gl X x) (hm : ∃ t, X.mg x = some (.str y t)) (hd : (x == ("__debug__" : Str)) = false := by decide) : PE X (.Name x pos) (tE ad X.K W (fC (.str y))) :=
  let ⟨t, h⟩ := hm; re_c (pe_glob hg h (v := .str y) ⟨t, rfl⟩ hd) fun _ _ => .str y

/-! ### operators -/
theorem op_step {r : R2} {g : D → D → MH → R D} (hv : OpV ad X.K r g) {σ : L2.St} {H : Hp} {Q : VK} (h : tE ad X.K W (fOp g fa fb) σ H Q) : tOp r (tE ad X.K W fa) (tE ad X.K W fb) σ H Q := by
  obtain ⟨φ, h, ρ, R, E, p⟩ := h
  refine ⟨φ, h, ρ, R, E, p.bind fun φ1 H1 h1 d v x1 R1 rd p1 => ?_⟩
  refine ⟨φ1, h1, ρ, R1, E.ext x1, p1.bind fun φ2 H2 h2 e u x2 R2 re p2 => ?_⟩
  exact hv φ2 H2 h2 d e v u Q _ R2 (rd.ext x2) re p2
theorem re_bin {op : Operator} {r : R2} {g : D → D → MH → R D} (ho : OpR X (binaryOp op) r) (hv : OpV ad X.K r g) (ha : PE X a (tE ad X.K W fa)) (hb : PE X b (tE ad X.K W fb)) : PE X (.BinOp a op b pos) (tE ad X.K W (fOp g fa fb)) :=
  (pe_op ho ha hb).weak fun _ _ _ h => op_step hv h
theorem re_un {op : UnaryOp} {r : V → Hp → VK → Prop} {g : D → MH → R D} (ho : UnR X (unaryOp op) r) (hv : UnV ad X.K r g) (ha : PE X a (tE ad X.K W fa)) : PE X (.UnaryOp op a pos) (tE ad X.K W (fUn g fa)) := by
  refine (pe_un ho ha).weak fun σ H Q ⟨φ, h, ρ, R, E, p⟩ => ⟨φ, h, ρ, R, E, p.bind fun φ1 H1 h1 d v x1 R1 rd p1 => ?_⟩
  exact hv φ1 H1 h1 d v Q _ R1 rd p1
theorem re_cmp {op : CmpOp} {r : R2} {g : D → D → MH → R D} (ho : OpR X (compareOp op) r) (hv : OpV ad X.K r g) (ha : PE X a (tE ad X.K W fa)) (hb : PE X b (tE ad X.K W fb)) (hm : behindInMarks op b = false := by first | exact nomark _ | rfl) :
    PE X (.Compare a [op] [b] pos) (tE ad X.K W (fOp g fa fb)) := (pe_cmpR ho ha hb hm).weak fun _ _ _ h => op_step hv h
theorem rt_cmp {op : CmpOp} {r : R2} {g : D → D → MH → R D} (ho : OpR X (compareOp op) r) (hv : OpV ad X.K r g) (ha : PE X a (tE ad X.K W fa)) (hb : PE X b (tE ad X.K W fb)) (hm : behindInMarks op b = false := by first | exact nomark _ | rfl) :
    PT X (.Compare a [op] [b] pos) (tT ad X.K W (fB (fOp g fa fb))) := by
  refine (pt_cmpR ho ha hb hm).weak fun σ H Q ⟨φ, h, ρ, R, E, p⟩ => op_step hv ⟨φ, h, ρ, R, E, p.bind fun φ1 H1 h1 d v x1 R1 rd p1 => ?_⟩
  unfold asB at p1
  split at p1
  · cases rd; exact ⟨_, rfl, p1.now R1 rfl⟩
  · exact p1.elim
/-- a op b op' c -/
def fChain (g g' : D → D → MH → R D) (fa fb fc : EF D) : EF D := fun ρ h => (fa ρ h).bind fun d h => (fb ρ h).bind fun e h => (g d e h).bind fun k h => match k with
  | .bl true => (fc ρ h).bind fun z h => g' e z h
  | .bl false => .ok (.bl false) h
  | _ => .bad
theorem chain_step {r r' : R2} {g g' : D → D → MH → R D} (hv : OpV ad X.K r g) (hv' : OpV ad X.K r' g') {σ : L2.St} {H : Hp} {Q : VK} (h : tE ad X.K W (fChain g g' fa fb fc) σ H Q) : tChain r r' (tE ad X.K W fa) (tE ad X.K W fb) (tE ad X.K W fc) σ H Q := by
  obtain ⟨φ, h, ρ, R, E, p⟩ := h
  refine ⟨φ, h, ρ, R, E, p.bind fun φ1 H1 h1 d v x1 R1 rd p1 => ?_⟩
  refine ⟨φ1, h1, ρ, R1, E.ext x1, p1.bind fun φ2 H2 h2 e u x2 R2 re p2 => ?_⟩
  refine hv φ2 H2 h2 d e v u _ _ R2 (rd.ext x2) re (p2.bind fun φ3 H3 h3 k z x3 R3 rk p3 => ?_)
  split at p3
  · cases rk
    exact ⟨true, rfl, ⟨φ3, h3, ρ, R3, (E.ext (x1.trans x2)).ext x3, p3.bind fun φ4 H4 h4 w u4 x4 R4 rw p4 => hv' φ4 H4 h4 e w u u4 Q _ R4 (re.ext (x3.trans x4)) rw p4⟩⟩
  · cases rk
    exact ⟨false, rfl, p3.now R3 (.bl false)⟩
  · exact p3.elim
theorem re_chain {op op' : CmpOp} {r r' : R2} {g g' : D → D → MH → R D} (ho : OpR X (compareOp op) r) (ho' : OpR X (compareOp op') r') (hv : OpV ad X.K r g) (hv' : OpV ad X.K r' g') (ha : PE X a (tE ad X.K W fa)) (hb : PE X b (tE ad X.K W fb)) (hc : PE X c (tE ad X.K W fc))
    (hm : lastMarks [op, op'] [b, c] = false := by with_unfolding_all rfl) :
    PE X (.Compare a [op, op'] [b, c] pos) (tE ad X.K W (fChain g g' fa fb fc)) := (pe_chain ho ho' ha hb hc hm).weak fun _ _ _ h => chain_step hv hv' h
theorem rt_chain {op op' : CmpOp} {r r' : R2} {g g' : D → D → MH → R D} (ho : OpR X (compareOp op) r) (ho' : OpR X (compareOp op') r') (hv : OpV ad X.K r g) (hv' : OpV ad X.K r' g') (ha : PE X a (tE ad X.K W fa)) (hb : PE X b (tE ad X.K W fb)) (hc : PE X c (tE ad X.K W fc))
    (hm : lastMarks [op, op'] [b, c] = false := by with_unfolding_all rfl) :
    PT X (.Compare a [op, op'] [b, c] pos) (tT ad X.K W (fB (fChain g g' fa fb fc))) := by
  refine (pt_chain ho ho' ha hb hc hm).weak fun σ H Q ⟨φ, h, ρ, R, E, p⟩ => chain_step hv hv' ⟨φ, h, ρ, R, E, p.bind fun φ1 H1 h1 d v x1 R1 rd p1 => ?_⟩
  unfold asB at p1
  split at p1
  · cases rd; exact ⟨_, rfl, p1.now R1 rfl⟩
  · exact p1.elim

/-! ### truth -/
theorem truV_of {φ : List Addr} {H : Hp} {h : MH} {d : D} {v : V} {Q : Bool → Hp → Prop} {E : XK} (R : Rel ad X.K φ H h) (r : RelD ad X.K φ H d v) (p : Post ad X.K relB φ H (truth d h) Q E) : ∃ k, TruV X.K v H k ∧ Q k H := by
  cases r with
  | non => exact ⟨_, rfl, p.now R rfl⟩
  | bl b => exact ⟨_, rfl, p.now R rfl⟩
  | int i => exact ⟨_, rfl, p.now R rfl⟩
  | str x =>
    unfold truth at p
    dsimp only at p
    split at p
    · rename_i z
      exact ⟨_, ⟨by rw [sizeLine_eq]; exact z, rfl⟩, p.now R rfl⟩
    · exact p.elim
  | tup s q =>
    refine ⟨_, .inr (.inl ⟨_, s, rfl⟩), ?_⟩
    have z := p.now R rfl
    cases q <;> exact z
  | ref q =>
    unfold truth at p
    dsimp only at p
    split at p
    · rename_i l e
      obtain ⟨a, xs, e1, h2, h3, h4⟩ := R.listOf (.ref q) e
      cases e1
      refine ⟨_, .inl ⟨_, h3, rfl⟩, ?_⟩
      have z := p.now R rfl
      cases h4 <;> exact z
    · exact p.elim
  | obj n => exact p.elim
  | ty n => exact p.elim
theorem rt_tru (ha : PE X a (tE ad X.K W fa)) (he : ∀ whole, isTrue a X.env whole = (do let v ← whole; standAt a.pos; holding [v] (truthy v)) := by intro _; rfl) : PT X a (tT ad X.K W (fTru fa)) := by
  refine (pt_truth ha he).weak fun σ H Q ⟨φ, h, ρ, R, E, p⟩ => ⟨φ, h, ρ, R, E, p.bind fun φ1 H1 h1 d v x1 R1 rd p1 => ?_⟩
  exact truV_of R1 rd p1

/-! ### and, or, not; if -/
theorem rt_not (ha : PT X a (tT ad X.K W ft)) : PT X (.UnaryOp .Not a pos) (tT ad X.K W (fNot ft)) := by
  refine (pt_not ha).weak fun σ H Q ⟨φ, h, ρ, R, E, p⟩ => ⟨φ, h, ρ, R, E, p.bind fun φ1 H1 h1 d v x1 R1 rd p1 => ?_⟩
  cases rd
  exact p1.now R1 rfl
variable {rest : List Expr}
theorem rw_and1 (ha : PT X a (tT ad X.K W ft)) : PW X (.BoolOp .And [a] pos) (tT ad X.K W ft) := pw_and1 ha
theorem rw_or1 (ha : PT X a (tT ad X.K W ft)) : PW X (.BoolOp .Or [a] pos) (tT ad X.K W ft) := pw_or1 ha
theorem rw_and (ha : PT X a (tT ad X.K W ft)) (hb : PW X (.BoolOp .And (b :: rest) pos) (tT ad X.K W fu)) : PW X (.BoolOp .And (a :: b :: rest) pos) (tT ad X.K W (fAnd ft fu)) := by
  refine (pw_and ha hb).weak fun σ H Q ⟨φ, h, ρ, R, E, p⟩ => ⟨φ, h, ρ, R, E, p.bind fun φ1 H1 h1 d v x1 R1 rd p1 => ?_⟩
  cases rd
  cases d with
  | true => exact ⟨φ1, h1, ρ, R1, E.ext x1, p1⟩
  | false => exact p1.now R1 rfl
theorem rw_or (ha : PT X a (tT ad X.K W ft)) (hb : PW X (.BoolOp .Or (b :: rest) pos) (tT ad X.K W fu)) : PW X (.BoolOp .Or (a :: b :: rest) pos) (tT ad X.K W (fOr ft fu)) := by
  refine (pw_or ha hb).weak fun σ H Q ⟨φ, h, ρ, R, E, p⟩ => ⟨φ, h, ρ, R, E, p.bind fun φ1 H1 h1 d v x1 R1 rd p1 => ?_⟩
  cases rd
  cases d with
  | true => exact p1.now R1 rfl
  | false => exact ⟨φ1, h1, ρ, R1, E.ext x1, p1⟩
theorem re_one {op : BoolOp} (ha : PE X a (tE ad X.K W fa)) : PE X (.BoolOp op [a] pos) (tE ad X.K W fa) := pe_one ha
theorem re_and (ha : PE X a (tE ad X.K W fa)) (hb : PE X (.BoolOp .And (b :: rest) pos) (tE ad X.K W fb)) : PE X (.BoolOp .And (a :: b :: rest) pos) (tE ad X.K W (fAndV fa fb)) := by
  refine (pe_and ha hb).weak fun σ H Q ⟨φ, h, ρ, R, E, p⟩ => ⟨φ, h, ρ, R, E, p.bind fun φ1 H1 h1 d v x1 R1 rd p1 => ?_⟩
  split at p1
  · cases rd; exact ⟨_, rfl, φ1, h1, ρ, R1, E.ext x1, p1⟩
  · cases rd; exact ⟨_, rfl, p1.now R1 (.bl _)⟩
  · exact p1.elim
theorem re_or (ha : PE X a (tE ad X.K W fa)) (hb : PE X (.BoolOp .Or (b :: rest) pos) (tE ad X.K W fb)) : PE X (.BoolOp .Or (a :: b :: rest) pos) (tE ad X.K W (fOrV fa fb)) := by
  refine (pe_or ha hb).weak fun σ H Q ⟨φ, h, ρ, R, E, p⟩ => ⟨φ, h, ρ, R, E, p.bind fun φ1 H1 h1 d v x1 R1 rd p1 => ?_⟩
  split at p1
  · cases rd; exact ⟨_, rfl, φ1, h1, ρ, R1, E.ext x1, p1⟩
  · cases rd; exact ⟨_, rfl, p1.now R1 (.bl _)⟩
  · exact p1.elim
theorem re_not (ha : PE X a (tE ad X.K W fa)) : PE X (.UnaryOp .Not a pos) (tE ad X.K W (fNotV fa)) := by
  refine (pe_not ha).weak fun σ H Q ⟨φ, h, ρ, R, E, p⟩ => ⟨φ, h, ρ, R, E, p.bind fun φ1 H1 h1 d v x1 R1 rd p1 => ?_⟩
  split at p1
  · cases rd; exact ⟨_, rfl, p1.now R1 (.bl _)⟩
  · exact p1.elim
theorem re_if (hc : PT X c (tT ad X.K W ft)) (ha : PE X a (tE ad X.K W fa)) (hb : PE X b (tE ad X.K W fb)) : PE X (.IfExp c a b pos) (tE ad X.K W (fIf ft fa fb)) := by
  refine (pe_ifExp hc ha hb).weak fun σ H Q ⟨φ, h, ρ, R, E, p⟩ => ⟨φ, h, ρ, R, E, p.bind fun φ1 H1 h1 d v x1 R1 rd p1 => ?_⟩
  cases rd
  cases d with
  | true => exact ⟨φ1, h1, ρ, R1, E.ext x1, p1⟩
  | false => exact ⟨φ1, h1, ρ, R1, E.ext x1, p1⟩

/-! ### argument lists, displays -/
theorem ra_nil : PA X [] (tA ad X.K W fNil) := pa_nil.weak fun σ H Q ⟨φ, h, ρ, R, E, p⟩ => p.now R .nil
theorem ra_cons (ha : PE X e (tE ad X.K W fa)) (hr : PA X es (tA ad X.K W fs)) (hs : starEach (e :: es) X.env = (false, eval e X.env) :: starEach es X.env := by rfl) : PA X (e :: es) (tA ad X.K W (fCons fa fs)) := by
  refine (pa_cons ha hr hs).weak fun σ H Q ⟨φ, h, ρ, R, E, p⟩ => ⟨φ, h, ρ, R, E, p.bind fun φ1 H1 h1 d v x1 R1 rd p1 => ?_⟩
  refine ⟨φ1, h1, ρ, R1, E.ext x1, p1.bind fun φ2 H2 h2 ds vs x2 R2 rds p2 => ?_⟩
  exact p2.now R2 (.cons (rd.ext x2) rds)
theorem re_tup {k : Nat} (ha : PA X es (tA ad X.K W fs)) : PE X (.Tuple es k pos) (tE ad X.K W (fTup fs)) := by
  refine (pe_tup ha).weak fun σ H Q ⟨φ, h, ρ, R, E, p⟩ => ⟨φ, h, ρ, R, E, p.bind fun φ1 H1 h1 ds vs x1 R1 rd p1 => ?_⟩
  split at p1
  · rename_i z
    exact ⟨by rw [sizeLine_eq, ← rd.length]; exact z, fun a ha => p1.newT R1 rd ha⟩
  · exact p1.elim
theorem re_lst (ha : PA X es (tA ad X.K W fs)) : PE X (.List es pos) (tE ad X.K W (fLst fs)) := by
  refine (pe_lst ha).weak fun σ H Q ⟨φ, h, ρ, R, E, p⟩ => ⟨φ, h, ρ, R, E, p.bind fun φ1 H1 h1 ds vs x1 R1 rd p1 => ?_⟩
  split at p1
  · rename_i z
    exact ⟨by rw [sizeLine_eq, ← rd.length]; exact z, fun a ha => p1.newL R1 rd ha⟩
  · exact p1.elim
/-! ### calls of built-ins -/
theorem re_callB {x : Str} {id : String} {p : Pos} {r : List V → Hp → VK → Prop} {g : List D → MH → R D} (hc : CallR X (.builtin id) r) (hv : CallV ad X.K r g) (hg : Gl X x) (hm : X.mg x = none) (hb : bootBuiltins x = some (.builtin id)) (ha : PA X (e :: es) (tA ad X.K W fs))
    (hn : x ≠ "__name__" := by decide) (hdb : (x == ("__debug__" : Str)) = false := by decide) (he : starEach (e :: es) X.env = (false, eval e X.env) :: starEach es X.env := by rfl) (hpl : (backTo pos (starEach es X.env)).any (·.1) = false := by rfl) :
    PE X (.Call (.Name x p) (e :: es) [] pos) (tE ad X.K W (fCB g fs)) := by
  refine (pe_callB hc hg hm hb ha hn hdb he hpl).weak fun σ H Q ⟨φ, h, ρ, R, E, p⟩ => ⟨φ, h, ρ, R, E, p.bind fun φ1 H1 h1 ds vs x1 R1 rd p1 => ?_⟩
  exact hv φ1 H1 h1 ds vs Q _ R1 rd p1
theorem re_callTy {x : Str} {T : String} {p : Pos} {r : List V → Hp → VK → Prop} {g : List D → MH → R D} (hc : CallR X (.type T) r) (hv : CallV ad X.K r g) (hg : Gl X x) (hm : X.mg x = none) (hb : bootBuiltins x = some (.type T)) (ha : PA X (e :: es) (tA ad X.K W fs))
    (hn : x ≠ "__name__" := by decide) (hdb : (x == ("__debug__" : Str)) = false := by decide) (he : starEach (e :: es) X.env = (false, eval e X.env) :: starEach es X.env := by rfl) (hpl : (backTo pos (starEach es X.env)).any (·.1) = false := by rfl) :
    PE X (.Call (.Name x p) (e :: es) [] pos) (tE ad X.K W (fCB g fs)) := by
  refine (pe_callTy hc hg hm hb ha hn hdb he hpl).weak fun σ H Q ⟨φ, h, ρ, R, E, p⟩ => ⟨φ, h, ρ, R, E, p.bind fun φ1 H1 h1 ds vs x1 R1 rd p1 => ?_⟩
  exact hv φ1 H1 h1 ds vs Q _ R1 rd p1
end
end Mp
set_option Elab.async false
set_option linter.all false
set_option maxRecDepth 100000
set_option maxHeartbeats 2000000
namespace Mp
open PySem PySem.Spec PyProof.Rows L2

/-! ### statements -/
section
variable (ad : Gm) (K : PySem.W.Frag)
def PostS (W : WX) (φ : List Addr) (H : Hp) (r : SR) (Dn : Ends) : Prop := match r with
  | .ok .nx ρ' h' => ∀ φ' H' σ', Ext φ H φ' H' → Rel ad K φ' H' h' → RelE ad K φ' H' ρ' σ' → Dn.nx σ' H'
  | .ok .bk ρ' h' => ∀ φ' H' σ', Ext φ H φ' H' → Rel ad K φ' H' h' → RelE ad K φ' H' ρ' σ' → Dn.bk σ' H'
  | .ok .ct ρ' h' => ∀ φ' H' σ', Ext φ H φ' H' → Rel ad K φ' H' h' → RelE ad K φ' H' ρ' σ' → Dn.ct σ' H'
  | .ok (.rt d) _ h' => ∀ φ' H' v, Ext φ H φ' H' → Rel ad K φ' H' h' → RelD ad K φ' H' d v → Dn.rt v H'
  | .exc x ρ' h' => ∀ φ' H' σ' cls dd, Ext φ H φ' H' → Rel ad K φ' H' h' → RelE ad K φ' H' ρ' σ' → RelX ad K φ' H' x cls dd → W cls dd σ' H'
  | .bad => False
def tS (W : WX) (f : SF) : TS := fun Dn σ H => ∃ φ h ρ, Rel ad K φ H h ∧ RelE ad K φ H ρ σ ∧ PostS ad K W φ H (f ρ h) Dn
/-- a target: the value comes in -/
def tG (W : WX) (g : D → SF) : TG := fun v σ H Q => ∃ φ h ρ d, Rel ad K φ H h ∧ RelE ad K φ H ρ σ ∧ RelD ad K φ H d v ∧ PostS ad K W φ H (g d ρ h) { nx := Q, rt := fun _ _ => False }
def tGs (W : WX) (g : List D → SF) : TGs := fun vs σ H Q => ∃ φ h ρ ds, Rel ad K φ H h ∧ RelE ad K φ H ρ σ ∧ RelDs ad K φ H ds vs ∧ PostS ad K W φ H (g ds ρ h) { nx := Q, rt := fun _ _ => False }
end
def ofR {α : Type} (r : R α) (ρ : Env) (k : α → MH → SR) : SR := match r with
  | .ok a h => k a h
  | .exc x h => .exc x ρ h
  | .bad => .bad
@[simp] theorem ofR_ok {α : Type} (a : α) (h : MH) (ρ : Env) (k : α → MH → SR) : ofR (R.ok a h) ρ k = k a h := rfl
@[simp] theorem ofR_exc {α : Type} (x : Xn) (h : MH) (ρ : Env) (k : α → MH → SR) : ofR (R.exc x h : R α) ρ k = .exc x ρ h := rfl
@[simp] theorem ofR_bad {α : Type} (ρ : Env) (k : α → MH → SR) : ofR (R.bad : R α) ρ k = .bad := rfl
/-- go on where it flows on -/
def SR.thn (r : SR) (k : SF) : SR := match r with
  | .ok .nx ρ h => k ρ h
  | r => r
@[simp] theorem thn_nx (ρ : Env) (h : MH) (k : SF) : (SR.ok .nx ρ h).thn k = k ρ h := rfl
@[simp] theorem thn_rt (d : D) (ρ : Env) (h : MH) (k : SF) : (SR.ok (.rt d) ρ h).thn k = .ok (.rt d) ρ h := rfl
@[simp] theorem thn_bk (ρ : Env) (h : MH) (k : SF) : (SR.ok .bk ρ h).thn k = .ok .bk ρ h := rfl
@[simp] theorem thn_ct (ρ : Env) (h : MH) (k : SF) : (SR.ok .ct ρ h).thn k = .ok .ct ρ h := rfl
@[simp] theorem thn_exc (x : Xn) (ρ : Env) (h : MH) (k : SF) : (SR.exc x ρ h).thn k = .exc x ρ h := rfl
@[simp] theorem thn_bad (k : SF) : SR.bad.thn k = .bad := rfl
/-- behind a target: on, or an exception -/
def SR.tk (r : SR) (k : SF) : SR := match r with
  | .ok .nx ρ h => k ρ h
  | .exc x ρ h => .exc x ρ h
  | _ => .bad
@[simp] theorem tk_nx (ρ : Env) (h : MH) (k : SF) : (SR.ok .nx ρ h).tk k = k ρ h := rfl
@[simp] theorem tk_exc (x : Xn) (ρ : Env) (h : MH) (k : SF) : (SR.exc x ρ h).tk k = .exc x ρ h := rfl
@[simp] theorem tk_bad (k : SF) : SR.bad.tk k = .bad := rfl
section
variable {ad : Gm} {K : PySem.W.Frag} {φ φ' φ1 φ2 : List Addr} {H H' H1 H2 : Hp} {W : WX}
theorem PostS.ext {r : SR} {Dn : Ends} (e : Ext φ H φ1 H1) (p : PostS ad K W φ H r Dn) : PostS ad K W φ1 H1 r Dn := by
  cases r with
  | ok f ρ' h' =>
    cases f with
    | nx => exact fun φ' H' σ' x => p φ' H' σ' (e.trans x)
    | bk => exact fun φ' H' σ' x => p φ' H' σ' (e.trans x)
    | ct => exact fun φ' H' σ' x => p φ' H' σ' (e.trans x)
    | rt d => exact fun φ' H' v x => p φ' H' v (e.trans x)
  | exc x ρ' h' => exact fun φ' H' σ' c d x => p φ' H' σ' c d (e.trans x)
  | bad => exact p
theorem PostS.mono {r : SR} {Dn Dn' : Ends} {W' : WX} (p : PostS ad K W φ H r Dn) (h1 : ∀ σ H, Dn.nx σ H → Dn'.nx σ H) (h2 : ∀ v H, Dn.rt v H → Dn'.rt v H) (h3 : ∀ σ H, Dn.bk σ H → Dn'.bk σ H) (h4 : ∀ σ H, Dn.ct σ H → Dn'.ct σ H) (h5 : ∀ c d σ H, W c d σ H → W' c d σ H) : PostS ad K W' φ H r Dn' := by
  cases r with
  | ok f ρ' h' =>
    cases f with
    | nx => exact fun φ' H' σ' x y z => h1 _ _ (p φ' H' σ' x y z)
    | bk => exact fun φ' H' σ' x y z => h3 _ _ (p φ' H' σ' x y z)
    | ct => exact fun φ' H' σ' x y z => h4 _ _ (p φ' H' σ' x y z)
    | rt d => exact fun φ' H' v x y z => h2 _ _ (p φ' H' v x y z)
  | exc x ρ' h' => exact fun φ' H' σ' c d x y z u => h5 _ _ _ _ (p φ' H' σ' c d x y z u)
  | bad => exact p
/-- an expression ahead of the rest of a statement -/
theorem PostS.ofR {α β : Type} {rel : List Addr → Hp → α → β → Prop} {r : R α} {ρ : Env} {σ : L2.St} {k : α → MH → SR} {Dn : Ends} {Q : β → Hp → Prop} (p : PostS ad K W φ H (ofR r ρ k) Dn) (E : RelE ad K φ H ρ σ)
    (hk : ∀ φ1 H1 h1 a b, Ext φ H φ1 H1 → Rel ad K φ1 H1 h1 → rel φ1 H1 a b → RelE ad K φ1 H1 ρ σ → PostS ad K W φ1 H1 (k a h1) Dn → Q b H1) : Post ad K rel φ H r Q (fun c d H' => W c d σ H') := by
  cases r with
  | ok a h' => exact fun φ' H' b x R q => hk φ' H' h' a b x R q (E.ext x) (PostS.ext x p)
  | exc x h' => exact fun φ' H' cls dd e R q => p φ' H' σ cls dd e R (E.ext e) q
  | bad => exact p
theorem PostS.now {ρ : Env} {h : MH} {σ : L2.St} {Dn : Ends} (p : PostS ad K W φ H (.ok .nx ρ h) Dn) (R : Rel ad K φ H h) (E : RelE ad K φ H ρ σ) : Dn.nx σ H := p φ H σ Ext.refl R E
theorem PostS.seq {r : SR} {k : SF} {Dn : Ends} {N : L2.St → Hp → Prop} (p : PostS ad K W φ H (r.thn k) Dn)
    (hk : ∀ φ1 H1 h1 ρ1 σ1, Ext φ H φ1 H1 → Rel ad K φ1 H1 h1 → RelE ad K φ1 H1 ρ1 σ1 → PostS ad K W φ1 H1 (k ρ1 h1) Dn → N σ1 H1) : PostS ad K W φ H r { Dn with nx := N } := by
  cases r with
  | ok f ρ' h' =>
    cases f with
    | nx => exact fun φ' H' σ' x R E => hk φ' H' h' ρ' σ' x R E (PostS.ext x p)
    | bk => exact p
    | ct => exact p
    | rt d => exact p
  | exc x ρ' h' => exact p
  | bad => exact p
theorem PostS.tk {r : SR} {k : SF} {Dn : Ends} {N : L2.St → Hp → Prop} (p : PostS ad K W φ H (r.tk k) Dn)
    (hk : ∀ φ1 H1 h1 ρ1 σ1, Ext φ H φ1 H1 → Rel ad K φ1 H1 h1 → RelE ad K φ1 H1 ρ1 σ1 → PostS ad K W φ1 H1 (k ρ1 h1) Dn → N σ1 H1) : PostS ad K W φ H r { nx := N, rt := fun _ _ => False } := by
  cases r with
  | ok f ρ' h' =>
    cases f with
    | nx => exact fun φ' H' σ' x R E => hk φ' H' h' ρ' σ' x R E (PostS.ext x p)
    | bk => exact p.elim
    | ct => exact p.elim
    | rt d => exact p.elim
  | exc x ρ' h' => exact p
  | bad => exact p
theorem RelE.set {ρ : Env} {σ : L2.St} {d : D} {v : V} (E : RelE ad K φ H ρ σ) (r : RelD ad K φ H d v) (i : Nat) : RelE ad K φ H (ρ.set i (some d)) (σ.set i (some v)) := by
  refine ⟨by simp [E.1], fun j e q => ?_⟩
  by_cases hj : j = i
  · subst hj
    rw [List.getElem?_set] at q
    simp at q
    obtain ⟨q1, q2⟩ := q
    subst q2
    refine ⟨v, ?_, r⟩
    rw [List.getElem?_set]
    have z : j < σ.length := by rw [← E.1]; exact q1
    simp [z]
  · rw [List.getElem?_set_ne (Ne.symm hj)] at q
    obtain ⟨w, h1, h2⟩ := E.2 j e q
    exact ⟨w, by rw [List.getElem?_set_ne (Ne.symm hj)]; exact h1, h2⟩
theorem RelE.less {ρ ρ' : Env} {σ : L2.St} (E : RelE ad K φ H ρ σ) (hl : ρ'.length = ρ.length) (h : ∀ (i : Nat) (d : D), ρ'[i]? = some (some d) → ρ[i]? = some (some d)) : RelE ad K φ H ρ' σ := ⟨hl.trans E.1, fun i d q => E.2 i d (h i d q)⟩
end

/-! ### combinators -/
def sNil : SF := fun ρ h => .ok .nx ρ h
def sSeq (s t : SF) : SF := fun ρ h => (s ρ h).thn t
def sExpr (fa : EF D) : SF := fun ρ h => ofR (fa ρ h) ρ fun _ h => .ok .nx ρ h
def sRet (fa : EF D) : SF := fun ρ h => ofR (fa ρ h) ρ fun d h => .ok (.rt d) ρ h
def sRetN : SF := fun ρ h => .ok (.rt .non) ρ h
def sBrk : SF := fun ρ h => .ok .bk ρ h
def sCnt : SF := fun ρ h => .ok .ct ρ h
def sIf (ft : EF Bool) (s t : SF) : SF := fun ρ h => ofR (ft ρ h) ρ fun c h => if c = true then s ρ h else t ρ h
def gN (i : Nat) : D → SF := fun d ρ h => .ok .nx (ρ.set i (some d)) h
def sAsg (fa : EF D) (g : D → SF) : SF := fun ρ h => ofR (fa ρ h) ρ fun d h => (g d ρ h).tk fun ρ h => .ok .nx ρ h
def gsNil : List D → SF := fun ds ρ h => match ds with
  | [] => .ok .nx ρ h
  | _ => .bad
def gsCons (g : D → SF) (gs : List D → SF) : List D → SF := fun ds ρ h => match ds with
  | d :: r => (g d ρ h).thn (gs r)
  | [] => .bad
/-- unpack a tuple -/
def gTp (n : Nat) (gs : List D → SF) : D → SF := fun d ρ h => match d with
  | .tup ds => if ds.length = n then gs ds ρ h else .bad
  | _ => .bad
/-- o[i] = d, o.f = d -/
def gSb (s : D → D → D → MH → R Unit) (fo fi : EF D) : D → SF := fun d ρ h => ofR (fo ρ h) ρ fun o h => ofR (fi ρ h) ρ fun i h => ofR (s o i d h) ρ fun _ h => .ok .nx ρ h
/-- x, y = a, b (names) -/
def sPar2 (i j : Nat) (fs : EF (List D)) : SF := fun ρ h => ofR (fs ρ h) ρ fun ds h => match ds with
  | [d, e] => .ok .nx ((ρ.set i (some d)).set j (some e)) h
  | _ => .bad
def sPar3 (i j k : Nat) (fs : EF (List D)) : SF := fun ρ h => ofR (fs ρ h) ρ fun ds h => match ds with
  | [d, e, f] => .ok .nx (((ρ.set i (some d)).set j (some e)).set k (some f)) h
  | _ => .bad
/-- while: at most so many turns -/
def sWhile (ft : EF Bool) (s : SF) : Nat → SF
  | 0, _, _ => .bad
  | n + 1, ρ, h => ofR (ft ρ h) ρ fun c h => if c = true then (match s ρ h with
    | .ok .nx ρ h => sWhile ft s n ρ h
    | .ok .ct ρ h => sWhile ft s n ρ h
    | .ok .bk ρ h => .ok .nx ρ h
    | r => r) else .ok .nx ρ h
/-- what is walked: at a turn, in a heap: an item, none at the end -/
abbrev Src := Nat → MH → Option (Option D)
/-- for: at most so many turns -/
def sForL (src : Src) (g : D → SF) (s : SF) : Nat → Nat → SF
  | 0, _, _, _ => .bad
  | n + 1, i, ρ, h => match src i h with
    | none => .bad
    | some none => .ok .nx ρ h
    | some (some d) => (g d ρ h).tk fun ρ h => match s ρ h with
      | .ok .nx ρ h => sForL src g s n (i + 1) ρ h
      | .ok .ct ρ h => sForL src g s n (i + 1) ρ h
      | .ok .bk ρ h => .ok .nx ρ h
      | r => r
def sFor (fi : EF Src) (g : D → SF) (s : SF) (n : Nat) : SF := fun ρ h => ofR (fi ρ h) ρ fun src h => sForL src g s n 0 ρ h

section
variable {X : Cx} {ad : Gm} {W : WX} {e a b c tg : Expr} {es : List Expr} {st : Stmt} {sts sts2 : List Stmt} {pos : Pos} {fa fb fc : EF D} {ft fu : EF Bool} {fs : EF (List D)} {s t : SF} {g : D → SF} {gs : List D → SF}
theorem _root_.L2.PS.weak {t t' : TS} (p : PS X st t) (h : ∀ D σ H, t' D σ H → t D σ H) : PS X st t' := ⟨fun pins s σ H D I q => p.run pins s σ H D I (h D σ H q)⟩
theorem _root_.L2.PSs.weak {t t' : TS} (p : PSs X sts t) (h : ∀ D σ H, t' D σ H → t D σ H) : PSs X sts t' := ⟨fun pins s σ H D I q => p.run pins s σ H D I (h D σ H q)⟩
theorem _root_.L2.PG.weak {t t' : TG} (p : PG X e t) (h : ∀ v σ H Q, t' v σ H Q → t v σ H Q) : PG X e t' := ⟨fun pins s σ H v u Q I r q => p.run pins s σ H v u Q I r (h v σ H Q q)⟩
theorem _root_.L2.PGs.weak {t t' : TGs} (p : PGs X es t) (h : ∀ v σ H Q, t' v σ H Q → t v σ H Q) : PGs X es t' := ⟨fun pins s σ H v u Q I r q => p.run pins s σ H v u Q I r (h v σ H Q q)⟩
theorem rs_nil : PSs X [] (tS ad X.K W sNil) := pss_nil.weak fun Dn σ H ⟨φ, h, ρ, R, E, p⟩ => p.now R E
theorem rs_cons (h1 : PS X st (tS ad X.K W s)) (h2 : PSs X sts (tS ad X.K W t)) : PSs X (st :: sts) (tS ad X.K W (sSeq s t)) :=
  (pss_cons h1 h2).weak fun Dn σ H ⟨φ, h, ρ, R, E, p⟩ => ⟨φ, h, ρ, R, E, p.seq fun φ1 H1 h1 ρ1 σ1 x1 R1 E1 p1 => ⟨φ1, h1, ρ1, R1, E1, p1⟩⟩
theorem rs_one (h1 : PS X st (tS ad X.K W s)) : PSs X [st] (tS ad X.K W s) := pss_one h1
theorem rs_pass : PS X (.Pass pos) (tS ad X.K W sNil) := ps_pass.weak fun Dn σ H ⟨φ, h, ρ, R, E, p⟩ => p.now R E
theorem rs_break : PS X (.Break pos) (tS ad X.K W sBrk) := ps_break.weak fun Dn σ H ⟨φ, h, ρ, R, E, p⟩ => p φ H σ Ext.refl R E
theorem rs_continue : PS X (.Continue pos) (tS ad X.K W sCnt) := ps_continue.weak fun Dn σ H ⟨φ, h, ρ, R, E, p⟩ => p φ H σ Ext.refl R E
theorem rs_expr (he : PE X e (tE ad X.K W fa)) (hs : swapsWith e none pos.line X.env = pure false := by rfl) : PS X (.Expr e pos) (tS ad X.K W (sExpr fa)) :=
  (ps_expr he hs).weak fun Dn σ H ⟨φ, h, ρ, R, E, p⟩ => ⟨φ, h, ρ, R, E, p.ofR E fun φ1 H1 h1 d v x1 R1 rd E1 p1 => p1.now R1 E1⟩
theorem rs_ret (he : PE X e (tE ad X.K W fa)) : PS X (.Return (some e) pos) (tS ad X.K W (sRet fa)) :=
  (ps_ret he).weak fun Dn σ H ⟨φ, h, ρ, R, E, p⟩ => ⟨φ, h, ρ, R, E, p.ofR E fun φ1 H1 h1 d v x1 R1 rd E1 p1 => p1 φ1 H1 v Ext.refl R1 rd⟩
theorem rs_retN : PS X (.Return none pos) (tS ad X.K W sRetN) := ps_retN.weak fun Dn σ H ⟨φ, h, ρ, R, E, p⟩ => p φ H _ Ext.refl R .non
theorem rs_if (hc : PT X c (tT ad X.K W ft)) (ha : PSs X sts (tS ad X.K W s)) (hb : PSs X sts2 (tS ad X.K W t)) : PS X (.If c sts sts2 pos) (tS ad X.K W (sIf ft s t)) := by
  refine (ps_if hc ha hb).weak fun Dn σ H ⟨φ, h, ρ, R, E, p⟩ => ⟨φ, h, ρ, R, E, p.ofR E fun φ1 H1 h1 d v x1 R1 rd E1 p1 => ?_⟩
  cases rd
  cases d with
  | true => exact ⟨φ1, h1, ρ, R1, E1, p1⟩
  | false => exact ⟨φ1, h1, ρ, R1, E1, p1⟩

/-! ### targets -/
theorem rg_name (i : Nat) {x : Str} (hN : X.N.Nodup) (hi : X.N[i]? = some x := by rfl) (hx : Loc X.env.scope x := by first | exact Or.inl rfl | exact Or.inr rfl) (hf : X.fn x = true ∨ X.env.scope.names.lookup x = some .local := by first | exact .inl rfl | exact .inr rfl | assumption) : PG X (.Name x pos) (tG ad X.K W (gN i)) :=
  (pg_name hN hi hx hf).weak fun v σ H Q ⟨φ, h, ρ, d, R, E, r, p⟩ => p.now R (E.set r i)
theorem rgs_nil : PGs X [] (tGs ad X.K W gsNil) := by
  refine pgs_nil.weak fun vs σ H Q ⟨φ, h, ρ, ds, R, E, r, p⟩ => ?_
  cases r with
  | nil => exact ⟨rfl, p.now R E⟩
  | cons _ _ => exact p.elim
theorem rgs_cons (h1 : PG X e (tG ad X.K W g)) (h2 : PGs X es (tGs ad X.K W gs)) (hs : (assignEach (e :: es) X.env).map (·.2) = assign e X.env :: (assignEach es X.env).map (·.2) := by rfl) : PGs X (e :: es) (tGs ad X.K W (gsCons g gs)) := by
  refine (pgs_cons h1 h2 hs).weak fun vs σ H Q ⟨φ, h, ρ, ds, R, E, r, p⟩ => ?_
  cases r with
  | nil => exact p.elim
  | @cons d v ds vs rd rds =>
    refine ⟨v, vs, rfl, φ, h, ρ, d, R, E, rd, ?_⟩
    have p' : PostS ad X.K W φ H ((g d ρ h).thn (gs ds)) { nx := Q, rt := fun _ _ => False } := p
    exact p'.seq fun φ1 H1 h1 ρ1 σ1 x1 R1 E1 p1 => ⟨φ1, h1, ρ1, ds, R1, E1, rds.ext x1, p1⟩
theorem rg_tup {k n : Nat} (hc : X.calm = true) (h : PGs X es (tGs ad X.K W gs)) (hn : (assignEach es X.env).length = n := by rfl) (hst : (assignEach es X.env).findIdx? (·.1) = none := by rfl) : PG X (.Tuple es k pos) (tG ad X.K W (gTp n gs)) := by
  refine (pg_tup hc h hn hst).weak fun v σ H Q ⟨φ, h, ρ, d, R, E, r, p⟩ => ?_
  unfold gTp at p
  split at p
  · split at p
    · rename_i z
      cases r with
      | tup sq rds => exact ⟨_, _, rfl, sq, by rw [← rds.length]; exact z, φ, h, ρ, _, R, E, rds, p⟩
    · exact p.elim
  · exact p.elim
/-- o[i] = v by values -/
def SetV (ad : Gm) (K : PySem.W.Frag) (t : TSet) (s : D → D → D → MH → R Unit) : Prop := ∀ φ H h o i d ov iv v Q E, Rel ad K φ H h → RelD ad K φ H o ov → RelD ad K φ H i iv → RelD ad K φ H d v → Post ad K (fun _ _ (_ : Unit) (_ : Unit) => True) φ H (s o i d h) (fun _ H' => Q H') E → t ov iv v H Q
theorem rg_sub {o i : Expr} {fo fi : EF D} {t : TSet} {sv : D → D → D → MH → R Unit} (ho : PE X o (tE ad X.K W fo)) (hi : PE X i (tE ad X.K W fi)) (hs : PSet X t) (hv : SetV ad X.K t sv)
    (ha : ∀ v, assign (.Subscript o i pos) X.env v = (do
      let ov ← holding [v] (eval o X.env)
      let iv ← holding [v, ov] (eval i X.env)
      standAt pos
      holding [v, ov, iv] (setItem ov iv v)
      release [v, ov, iv] []) := by intro _; rfl) : PG X (.Subscript o i pos) (tG ad X.K W (gSb sv fo fi)) := by
  refine (pg_sub ho hi hs ha).weak fun v σ H Q ⟨φ, h, ρ, d, R, E, r, p⟩ => ⟨φ, h, ρ, R, E, p.ofR E fun φ1 H1 h1 o' ov x1 R1 ro E1 p1 => ?_⟩
  refine ⟨φ1, h1, ρ, R1, E1, p1.ofR E1 fun φ2 H2 h2 i' iv x2 R2 ri E2 p2 => ?_⟩
  refine hv φ2 H2 h2 o' i' d ov iv v _ _ R2 (ro.ext x2) ri (r.ext (x1.trans x2)) (p2.ofR E2 fun φ3 H3 h3 _ _ x3 R3 _ E3 p3 => ?_)
  exact p3.now R3 E3
theorem rs_asg (he : PE X e (tE ad X.K W fa)) (hg : PG X tg (tG ad X.K W g)) (hs : swapsWithSole [tg] e pos.line X.env = pure false := by rfl) (hw : swappedStores [tg] e X.env = pure none := by rfl)
    (h1 : (assignEach [tg] X.env).map (·.2) = [assign tg X.env] := by rfl) : PS X (.Assign [tg] e pos) (tS ad X.K W (sAsg fa g)) := by
  refine (ps_asg he hg hs hw h1).weak fun Dn σ H ⟨φ, h, ρ, R, E, p⟩ => ⟨φ, h, ρ, R, E, p.ofR E fun φ1 H1 h1 d v x1 R1 rd E1 p1 => ⟨φ1, h1, ρ, d, R1, E1, rd, ?_⟩⟩
  exact p1.tk fun φ2 H2 h2 ρ2 σ2 x2 R2 E2 p2 => p2.now R2 E2
theorem rs_par2 {i j : Nat} {x y : Str} {px py pt : Pos} {kt k2 pt2} (hc : X.calm = true) (hN : X.N.Nodup) (hi : X.N[i]? = some x) (hj : X.N[j]? = some y) (hij : i ≠ j)
    (hx : X.env.scope.names.lookup x = some .local) (hy : X.env.scope.names.lookup y = some .local) (ha : PA X [a, b] (tA ad X.K W fs))
    (hw : swappedStores [.Tuple [.Name x px, .Name y py] kt pt] (.Tuple [a, b] k2 pt2) X.env = pure (some [x, y]))
    (hs : swapsWithSole [.Tuple [.Name x px, .Name y py] kt pt] (.Tuple [a, b] k2 pt2) pos.line X.env = pure false := by rfl) :
    PS X (.Assign [.Tuple [.Name x px, .Name y py] kt pt] (.Tuple [a, b] k2 pt2) pos) (tS ad X.K W (sPar2 i j fs)) := by
  refine (ps_par hc hN hi hj hij hx hy ha hw hs).weak fun Dn σ H ⟨φ, h, ρ, R, E, p⟩ => ⟨φ, h, ρ, R, E, p.ofR E fun φ1 H1 h1 ds vs x1 R1 rd E1 p1 => ?_⟩
  split at p1
  · cases rd with
    | cons r1 t => cases t with
      | cons r2 t => cases t; exact ⟨_, _, rfl, p1.now R1 ((E1.set r1 i).set r2 j)⟩
  · exact p1.elim

/-! ### while -/
theorem rs_while {c : Expr} (n : Nat) (hp : PassesOwn (model X.prog X.w) X.A X.env X.xe) (hc : PT X c (tT ad X.K W ft)) (hb : PSs X sts (tS ad X.K W s)) : PS X (.While c sts [] pos) (tS ad X.K W (sWhile ft s n)) := by
  refine (ps_while hp hc hb).weak fun Dn σ H q => ?_
  refine ⟨fun m σ H => tS ad X.K W (sWhile ft s m) Dn σ H, ⟨n, q⟩, ?_⟩
  rintro m σ H ⟨φ, h, ρ, R, E, p⟩
  cases m with
  | zero => exact p.elim
  | succ m =>
    refine ⟨φ, h, ρ, R, E, p.ofR E fun φ1 H1 h1 b b' x1 R1 rb E1 p1 => ?_⟩
    cases rb
    cases b with
    | false => exact p1.now R1 E1
    | true =>
      refine ⟨fun σ H => tS ad X.K W (sWhile ft s m) Dn σ H, fun σ' H' z => ⟨m, Nat.lt_succ_self _, z⟩, φ1, h1, ρ, R1, E1, ?_⟩
      rw [if_pos rfl] at p1
      cases q : s ρ h1 with
      | ok f ρ' h' =>
        rw [q] at p1
        cases f with
        | nx => exact fun φ' H' σ' x R E => ⟨φ', h', ρ', R, E, PostS.ext x p1⟩
        | ct => exact fun φ' H' σ' x R E => ⟨φ', h', ρ', R, E, PostS.ext x p1⟩
        | bk => exact p1
        | rt d => exact p1
      | exc x ρ' h' => rw [q] at p1; exact p1
      | bad => rw [q] at p1; exact p1

/-! ### what is walked -/
/-- an iterator of the layer walks a source -/
def Walks (ad : Gm) (K : PySem.W.Frag) (φ : List Addr) (H : Hp) (src : Src) (J : It) : Prop := ∀ φ' H' h' i, Ext φ H φ' H' → Rel ad K φ' H' h' →
  (src i h' = some none → J.stop i H') ∧ ∀ d, src i h' = some (some d) → J.go i H' ∧ ∀ x H2, J.yld i H' x H2 → (Same H' H2) ∧ RelD ad K φ' H2 d x
def tI (ad : Gm) (K : PySem.W.Frag) (W : WX) (f : EF Src) : TI := fun σ H R => ∃ φ h ρ, Rel ad K φ H h ∧ RelE ad K φ H ρ σ ∧ Post ad K (Walks ad K) φ H (f ρ h) R (fun c d H' => W c d σ H')
theorem Walks.ext {K : PySem.W.Frag} {φ φ1 : List Addr} {H H1 : Hp} {src : Src} {J : It} (e : Ext φ H φ1 H1) (w : Walks ad K φ H src J) : Walks ad K φ1 H1 src J := fun φ' H' h' i x R => w φ' H' h' i (e.trans x) R
theorem Rel.same' {φ : List Addr} {H H' : Hp} {h : MH} {K : PySem.W.Frag} (R : Rel ad K φ H h) (k : Same H H') : Rel ad K φ H' h := R.same k
theorem rs_for {iter : Expr} {fi : EF Src} (n : Nat) (hp : PassesOwn (model X.prog X.w) X.A X.env X.xe) (hc : X.calm = true) (hi : PI X tg iter (tI ad X.K W fi)) (hg : PG X tg (tG ad X.K W g)) (hb : PSs X sts (tS ad X.K W s))
    (hs : ∀ x, foldedSetIterable iter X.env x = pure x := by intro _; rfl) : PS X (.For tg iter sts [] pos) (tS ad X.K W (sFor fi g s n)) := by
  refine (ps_for hp hc hi hg hb hs).weak fun Dn σ H ⟨φ, h, ρ, R, E, p⟩ => ⟨φ, h, ρ, R, E, p.ofR E fun φ1 H1 h1 src J x1 R1 wk E1 p1 => ?_⟩
  refine ⟨fun i m σ H => ∃ φ h ρ, Rel ad X.K φ H h ∧ RelE ad X.K φ H ρ σ ∧ PostS ad X.K W φ H (sForL src g s m i ρ h) Dn ∧ Walks ad X.K φ H src J, ⟨n, φ1, h1, ρ, R1, E1, p1, wk⟩, ?_⟩
  rintro i m σ H ⟨φ, h, ρ, R, E, p, wk⟩
  cases m with
  | zero => exact p.elim
  | succ m =>
    unfold sForL at p
    obtain ⟨w1, w2⟩ := wk φ H h i Ext.refl R
    split at p
    · exact p.elim
    · rename_i q
      exact .inl ⟨w1 q, p.now R E⟩
    · rename_i d q
      obtain ⟨hgo, hy⟩ := w2 d q
      refine .inr ⟨hgo, fun σ' H' => ∃ φ h ρ, Rel ad X.K φ H' h ∧ RelE ad X.K φ H' ρ σ' ∧ PostS ad X.K W φ H' (sForL src g s m (i + 1) ρ h) Dn ∧ Walks ad X.K φ H' src J, fun σ' H' z => ⟨m, Nat.lt_succ_self _, z⟩, fun x H2 y => ?_⟩
      obtain ⟨k, rd⟩ := hy x H2 y
      have x0 : Ext φ H φ H2 := Ext.same k
      refine ⟨φ, h, ρ, d, R.same k, E.ext x0, rd, (PostS.ext x0 p).tk fun φ3 H3 h3 ρ3 σ3 x3 R3 E3 p3 => ⟨φ3, h3, ρ3, R3, E3, ?_⟩⟩
      cases q : s ρ3 h3 with
      | ok f ρ' h' =>
        rw [q] at p3
        cases f with
        | nx => exact fun φ' H' σ' x R E => ⟨φ', h', ρ', R, E, PostS.ext x p3, (wk.ext (x0.trans x3)).ext x⟩
        | ct => exact fun φ' H' σ' x R E => ⟨φ', h', ρ', R, E, PostS.ext x p3, (wk.ext (x0.trans x3)).ext x⟩
        | bk => exact p3
        | rt d => exact p3
      | exc x ρ' h' => rw [q] at p3; exact p3
      | bad => rw [q] at p3; exact p3

/-! ### sources: a list or a tuple, a range, an enumeration -/
def srcL (n : Nat) : Src := fun i h => match listOf h n with
  | some l => some l[i]?
  | none => none
def srcT (l : List D) : Src := fun i _ => some l[i]?
def srcR (lo : Int) (n : Nat) : Src := fun i _ => some (if i < n then some (.int (lo + (i : Nat))) else none)
def srcE (n : Nat) : Src := fun i h => match listOf h n with
  | some l => some ((l[i]?).map fun d => .tup [.int (i : Nat), d])
  | none => none
def fSeq (fa : EF D) : EF Src := fun ρ h => (fa ρ h).bind fun d h => match d with
  | .ref n => match listOf h n with
    | some _ => .ok (srcL n) h
    | none => .bad
  | _ => .bad
def fSeqT (fa : EF D) : EF Src := fun ρ h => (fa ρ h).bind fun d h => match d with
  | .tup l => .ok (srcT l) h
  | _ => .bad
def fRng1 (fs : EF (List D)) : EF Src := fun ρ h => (fs ρ h).bind fun ds h => match ds with
  | [.int j] => if -(2 ^ 62) ≤ j ∧ j < 2 ^ 62 then .ok (srcR 0 j.toNat) h else .bad
  | _ => .bad
def fRng2 (fs : EF (List D)) : EF Src := fun ρ h => (fs ρ h).bind fun ds h => match ds with
  | [.int i, .int j] => if (-(2 ^ 62) ≤ i ∧ i < 2 ^ 62) ∧ -(2 ^ 62) ≤ j ∧ j < 2 ^ 62 then .ok (srcR i (j - i).toNat) h else .bad
  | _ => .bad
def fEnum (fs : EF (List D)) : EF Src := fun ρ h => (fs ρ h).bind fun ds h => match ds with
  | [.ref n] => match listOf h n with
    | some _ => .ok (srcE n) h
    | none => .bad
  | _ => .bad
theorem _root_.L2.PI.weak {iter : Expr} {t t' : TI} (p : PI X tg iter t) (h : ∀ σ H Q, t' σ H Q → t σ H Q) : PI X tg iter t' := ⟨fun pins s σ H Q I q => p.run pins s σ H Q I (h σ H Q q)⟩
theorem sql_inj {K : PySem.W.Frag} {H : Hp} {a : Addr} {xs ys : List V} (h : Rd H a (.lst xs)) (h' : SqL K H a ys) (hk : K.lookup a = none) : xs = ys := by
  rcases h' with h' | ⟨o, its, n, q, _⟩
  · rcases h with h | ⟨o, h⟩ <;> rcases h' with h' | ⟨o', h'⟩ <;> (rw [h] at h'; cases h' <;> rfl)
  · rw [hk] at q; cases q
theorem rd_of {φ : List Addr} {H : Hp} {h : MH} {K : PySem.W.Frag} (R : Rel ad K φ H h) {n : Nat} {a : Addr} {l : List D} (e : φ[n]? = some a) (q : listOf h n = some l) : ∃ xs, Rd H a (.lst xs) ∧ RelDs ad K φ H l xs := by
  unfold listOf at q
  split at q
  · rename_i l' z
    cases q
    obtain ⟨b, h1, xs, h2, h3⟩ := R.obj n _ z
    rw [e] at h1; cases h1
    exact ⟨xs, .inl h2, h3⟩
  · rename_i l' z
    cases q
    obtain ⟨b, h1, o, xs, h2, h3⟩ := R.obj n _ z
    rw [e] at h1; cases h1
    exact ⟨xs, .inr ⟨o, h2⟩, h3⟩
  · cases q
end
end Mp
set_option Elab.async false
set_option linter.all false
set_option maxRecDepth 100000
set_option maxHeartbeats 2000000
namespace Mp
open PySem PySem.Spec PyProof.Rows L2

def srcS (x : Str) : Src := fun i _ => some ((x.cps[i]?).map fun c => .str ⟨#[c]⟩)
/-- what any value is walked by -/
def srcOf (d : D) (h : MH) : Option Src := match d with
  | .ref n => match listOf h n with
    | some _ => some (srcL n)
    | none => none
  | .tup l => some (srcT l)
  | .str x => some (srcS x)
  | _ => none
def fSrc (fa : EF D) : EF Src := fun ρ h => (fa ρ h).bind fun d h => match srcOf d h with
  | some s => .ok s h
  | none => .bad
section
variable {X : Cx} {ad : Gm} {W : WX} {e a b c tg : Expr} {es : List Expr} {st : Stmt} {sts sts2 : List Stmt} {pos p : Pos} {fa fb fc : EF D} {ft fu : EF Bool} {fs : EF (List D)} {s t : SF} {g : D → SF} {gs : List D → SF}
/-- a list, a tuple, a text -/
def iAny (K : PySem.W.Frag) (tl : TE) : TI := fun σ H R => tl σ H fun x H1 => (∃ a, x = .ref a ∧ (∃ xs, SqL K H1 a xs) ∧ R (Itl K a) H1) ∨ (∃ a, x = .ref a ∧ (∃ xs, SqT K H1 a xs) ∧ R (Itt K a) H1) ∨ ∃ y, x = .str y ∧ R (Its y) H1
theorem pi_any {l : Expr} {tl : TE} (hl : PE X l tl) : PI X tg l (iAny X.K tl) := by
  refine ⟨fun pins s σ H R I h => ?_⟩
  refine thn (hl.run pins s σ H _ I h) fun v s1 ⟨x, H1, I1, r1, q1⟩ => ?_
  rcases q1 with ⟨a, e, ⟨xs, hq⟩, q⟩ | ⟨a, e, ⟨xs, hq⟩, q⟩ | ⟨y, e, q⟩
  · subst e
    cases r1
    obtain ⟨its, rv, p, hz⟩ := I1.list hq
    refine wpAny_pyIter_list p.isList ?_
    refine ⟨s1.heap.objs.size, [s1.heap.objs.size], _, _, H1, rfl, I1.kept (t' := s1.toks) fun b o e => Heap.get?_push_of_some _ e, turn_list a _, ⟨_, Heap.get?_push_size _ rfl, rfl, rfl⟩, fun b hb => ?_, q⟩
    have e : b = s1.heap.objs.size := by simpa using hb
    subst e
    exact I1.fpOk (Nat.le_refl _) (I1.hok.fresh (Nat.le_refl _))
  · subst e
    cases r1
    obtain ⟨its, rv, p, hz⟩ := I1.tuple hq
    refine wpAny_pyIter_tuple (show s1.heap.IsTuple a its.toArray from p) ?_
    refine ⟨s1.heap.objs.size, [s1.heap.objs.size], _, _, H1, rfl, I1.kept (t' := s1.toks) fun b o e => Heap.get?_push_of_some _ e, turn_tuple a _, ⟨_, Heap.get?_push_size _ rfl, rfl, rfl⟩, fun b hb => ?_, q⟩
    have e : b = s1.heap.objs.size := by simpa using hb
    subst e
    exact I1.fpOk (Nat.le_refl _) (I1.hok.fresh (Nat.le_refl _))
  · subst e
    obtain ⟨t, rfl⟩ := r1
    cases ha : y.cps.all (· < 128)
    · exact wpAny_pyIter_wide ha (pi_one (tk := s1.toks) I1 _ (turn_str _ y t "str_iterator" (.inr rfl)) ⟨_, Heap.get?_push_size _ rfl, rfl, rfl⟩ q)
    · exact wpAny_pyIter_ascii ha (pi_one (tk := s1.toks) I1 _ (turn_str _ y t "str_ascii_iterator" (.inl rfl)) ⟨_, Heap.get?_push_size _ rfl, rfl, rfl⟩ q)
theorem Same.rfl' (H : Hp) : Same H H := fun _ _ h => h
theorem walks_list {φ : List Addr} {H : Hp} {h : MH} {K : PySem.W.Frag} {n : Nat} {v : V} (r : RelD ad K φ H (.ref n) v) : ∃ a, v = .ref a ∧ Walks ad K φ H (srcL n) (Itl K a) := by
  cases r with
  | @ref n a q =>
    refine ⟨a, rfl, fun φ' H' h' i x R => ⟨fun z => ?_, fun d z => ?_⟩⟩
    · unfold srcL at z
      split at z
      · rename_i l e
        obtain ⟨xs, h1, h2⟩ := rd_of R (x.at q) e
        refine ⟨xs, .inl h1, ?_⟩
        rw [← h2.length]
        exact List.getElem?_eq_none_iff.mp (Option.some.inj z)
      · cases z
    · unfold srcL at z
      split at z
      · rename_i l e
        obtain ⟨xs, h1, h2⟩ := rd_of R (x.at q) e
        obtain ⟨u, h3, h4⟩ := h2.get (Option.some.inj z)
        refine ⟨⟨xs, u, .inl h1, h3⟩, fun y H2 w => ?_⟩
        obtain ⟨w1, w2⟩ := w
        subst w1
        have e2 := w2 xs (.inl h1)
        rw [h3] at e2; cases e2
        exact ⟨Same.rfl' _, h4⟩
      · cases z
theorem walks_tup {φ : List Addr} {H : Hp} {K : PySem.W.Frag} {l : List D} {v : V} (r : RelD ad K φ H (.tup l) v) : ∃ a xs, v = .ref a ∧ SqT K H a xs ∧ Walks ad K φ H (srcT l) (Itt K a) := by
  cases r with
  | @tup ds a xs sq q =>
    refine ⟨a, xs, rfl, sq, fun φ' H' h' i x R => ⟨fun z => ?_, fun d z => ?_⟩⟩
    · refine ⟨xs, x.rd sq, ?_⟩
      rw [← q.length]
      exact List.getElem?_eq_none_iff.mp (Option.some.inj z)
    · obtain ⟨u, h3, h4⟩ := q.get (Option.some.inj z)
      refine ⟨⟨xs, u, x.rd sq, h3⟩, fun y H2 w => ?_⟩
      obtain ⟨w1, w2⟩ := w
      subst w1
      have e2 := w2 xs (x.rd sq)
      rw [h3] at e2; cases e2
      exact ⟨Same.rfl' _, h4.ext x⟩
theorem walks_str {φ : List Addr} {H : Hp} {K : PySem.W.Frag} {y : Str} : Walks ad K φ H (srcS y) (Its y) := by
  refine fun φ' H' h' i x R => ⟨fun z => ?_, fun d z => ?_⟩
  · have z := Option.some.inj z
    cases q : y.cps[i]? with
    | none => exact Array.getElem?_eq_none_iff.mp q
    | some c => rw [q] at z; cases z
  · have z := Option.some.inj z
    cases q : y.cps[i]? with
    | none => rw [q] at z; cases z
    | some c =>
      rw [q] at z; cases z
      refine ⟨(Array.getElem?_eq_some_iff.mp q).1, fun w H2 ⟨w1, c2, w2, w3⟩ => ?_⟩
      subst w1
      rw [q] at w2; cases w2
      subst w3
      exact ⟨Same.rfl' _, .str _⟩
theorem walks_range {φ : List Addr} {H : Hp} {K : PySem.W.Frag} {lo : Int} {n : Nat} : Walks ad K φ H (srcR lo n) (Itr lo n) := by
  refine fun φ' H' h' i x R => ⟨fun z => ?_, fun d z => ?_⟩
  · unfold srcR at z
    by_cases hi : i < n
    · rw [if_pos hi] at z; cases z
    · exact Nat.le_of_not_lt hi
  · unfold srcR at z
    by_cases hi : i < n
    · rw [if_pos hi] at z
      cases z
      refine ⟨hi, fun w H2 ⟨w1, w2⟩ => ?_⟩
      subst w1 w2
      exact ⟨Same.rfl' _, .int _⟩
    · rw [if_neg hi] at z; cases z
theorem walks_enum {φ : List Addr} {H : Hp} {K : PySem.W.Frag} {n : Nat} {v : V} (r : RelD ad K φ H (.ref n) v) : ∃ a, v = .ref a ∧ Walks ad K φ H (srcE n) (Ite K a) := by
  cases r with
  | @ref n a q =>
    refine ⟨a, rfl, fun φ' H' h' i x R => ⟨fun z => ?_, fun d z => ?_⟩⟩
    · unfold srcE at z
      split at z
      · rename_i l e
        obtain ⟨xs, h1, h2⟩ := rd_of R (x.at q) e
        refine ⟨xs, .inl h1, ?_⟩
        rw [← h2.length]
        have z := Option.some.inj z
        cases w : l[i]? with
        | none => exact List.getElem?_eq_none_iff.mp w
        | some d => rw [w] at z; cases z
      · cases z
    · unfold srcE at z
      split at z
      · rename_i l e
        obtain ⟨xs, h1, h2⟩ := rd_of R (x.at q) e
        have z := Option.some.inj z
        cases w : l[i]? with
        | none => rw [w] at z; cases z
        | some d1 =>
          rw [w] at z; cases z
          obtain ⟨u, h3, h4⟩ := h2.get w
          refine ⟨⟨xs, u, .inl h1, h3⟩, fun y H2 ⟨T, u2, w1, w2, w3, w4⟩ => ?_⟩
          subst w1 w3
          have e2 := w4 xs (.inl h1)
          rw [h3] at e2; cases e2
          have k := keep_upd (o := .tup [.int (i : Nat), u]) w2
          exact ⟨k, .tup (.inl (.inl upd_same)) (.cons (.int _) (.cons (h4.ext (Ext.same k)) .nil))⟩
      · cases z
theorem ri_any (ha : PE X a (tE ad X.K W fa)) : PI X tg a (tI ad X.K W (fSrc fa)) := by
  refine (pi_any ha).weak fun σ H Q ⟨φ, h, ρ, R, E, p⟩ => ⟨φ, h, ρ, R, E, p.bind fun φ1 H1 h1 d v x1 R1 rd p1 => ?_⟩
  unfold srcOf at p1
  cases rd with
  | ref q =>
    rename_i n a
    dsimp only at p1
    cases hl : listOf h1 n with
    | none => rw [hl] at p1; exact p1.elim
    | some l =>
      rw [hl] at p1
      obtain ⟨a', e1, wk⟩ := walks_list (h := h1) (RelD.ref (ad := ad) (K := X.K) (H := H1) q)
      cases e1
      obtain ⟨xs, h1', h2⟩ := rd_of R1 q hl
      exact .inl ⟨_, rfl, ⟨xs, .inl h1'⟩, p1.now R1 wk⟩
  | tup sq rds =>
    obtain ⟨a', xs', e1, sq', wk⟩ := walks_tup (RelD.tup (ad := ad) (φ := φ1) sq rds)
    cases e1
    exact .inr (.inl ⟨_, rfl, ⟨_, sq⟩, p1.now R1 wk⟩)
  | str y => exact .inr (.inr ⟨y, rfl, p1.now R1 walks_str⟩)
  | _ => exact p1.elim
theorem ri_range1 (hg : Gl X "range") (hm : X.mg "range" = none) (ha : PA X [a] (tA ad X.K W fs)) (hs : starEach [a] X.env = [(false, eval a X.env)] := by rfl) : PI X tg (.Call (.Name "range" p) [a] [] pos) (tI ad X.K W (fRng1 fs)) := by
  refine (pi_range1 hg hm ha hs).weak fun σ H Q ⟨φ, h, ρ, R, E, p⟩ => ⟨φ, h, ρ, R, E, p.bind fun φ1 H1 h1 ds vs x1 R1 rd p1 => ?_⟩
  split at p1
  · rename_i j
    split at p1
    · rename_i z
      cases rd with
      | cons r1 t => cases t; cases r1; exact ⟨j, rfl, z.1, z.2, p1.now R1 walks_range⟩
    · exact p1.elim
  · exact p1.elim
theorem ri_range2 (hg : Gl X "range") (hm : X.mg "range" = none) (ha : PA X [a, b] (tA ad X.K W fs)) (hs : starEach [a, b] X.env = [(false, eval a X.env), (false, eval b X.env)] := by rfl) (hs2 : starEach [b] X.env = [(false, eval b X.env)] := by rfl) :
    PI X tg (.Call (.Name "range" p) [a, b] [] pos) (tI ad X.K W (fRng2 fs)) := by
  refine (pi_range2 hg hm ha hs hs2).weak fun σ H Q ⟨φ, h, ρ, R, E, p⟩ => ⟨φ, h, ρ, R, E, p.bind fun φ1 H1 h1 ds vs x1 R1 rd p1 => ?_⟩
  split at p1
  · rename_i i j
    split at p1
    · rename_i z
      cases rd with
      | cons r1 t => cases t with
        | cons r2 t => cases t; cases r1; cases r2; exact ⟨i, j, rfl, ⟨z.1.1, z.1.2, z.2.1, z.2.2⟩, p1.now R1 walks_range⟩
    · exact p1.elim
  · exact p1.elim
theorem ri_enum {tpos : Pos} {elts : List Expr} {kk : Nat} (hg : Gl X "enumerate") (hm : X.mg "enumerate" = none) (ha : PA X [a] (tA ad X.K W fs)) (hs : starEach [a] X.env = [(false, eval a X.env)] := by rfl) :
    PI X (.Tuple elts kk tpos) (.Call (.Name "enumerate" p) [a] [] pos) (tI ad X.K W (fEnum fs)) := by
  refine (pi_enum hg hm ha hs).weak fun σ H Q ⟨φ, h, ρ, R, E, p⟩ => ⟨φ, h, ρ, R, E, p.bind fun φ1 H1 h1 ds vs x1 R1 rd p1 => ?_⟩
  split at p1
  · rename_i n
    split at p1
    · rename_i l hl
      cases rd with
      | cons r1 t =>
        cases t
        obtain ⟨a', e1, wk⟩ := walks_enum r1
        subst e1
        cases r1 with
        | ref q =>
          obtain ⟨xs, h1', h2⟩ := rd_of R1 q hl
          exact ⟨_, xs, rfl, .inl h1', p1.now R1 wk⟩
    · exact p1.elim
  · exact p1.elim

/-! ### targets that are names, nested -/
inductive Tg where
  | nm (i : Nat) | tp (l : List Tg)
mutual
def tgT (K : PySem.W.Frag) : Tg → TG
  | .nm i => gName i
  | .tp l => gTup K l.length (tgTs K l)
def tgTs (K : PySem.W.Frag) : List Tg → TGs
  | [] => gNil
  | t :: ts => gCons (tgT K t) (tgTs K ts)
end
mutual
/-- the value comes into the slots -/
def tgF : Tg → D → Env → Option Env
  | .nm i, d, ρ => some (ρ.set i (some d))
  | .tp l, .tup ds, ρ => if ds.length = l.length then tgFs l ds ρ else none
  | .tp _, _, _ => none
def tgFs : List Tg → List D → Env → Option Env
  | [], [], ρ => some ρ
  | t :: ts, d :: ds, ρ => match tgF t d ρ with
    | some ρ' => tgFs ts ds ρ'
    | none => none
  | _, _, _ => none
end
mutual
def tgV : Tg → List Nat
  | .nm i => [i]
  | .tp l => tgVs l
def tgVs : List Tg → List Nat
  | [] => []
  | t :: ts => tgV t ++ tgVs ts
end
def wipeE (ρ : Env) : List Nat → Env
  | [] => ρ
  | v :: vs => (wipeE ρ vs).set v none
theorem wipe_get {σ : L2.St} {i : Nat} : ∀ {vs : List Nat}, (wipe σ vs)[i]? = if i ∈ vs ∧ i < σ.length then some none else σ[i]?
  | [] => by simp [wipe]
  | v :: vs => by
    unfold wipe
    rw [List.getElem?_set]
    by_cases hv : v = i
    · subst hv
      rw [wipe_length]
      by_cases hl : v < σ.length
      · simp [hl]
      · simp [hl, List.getElem?_eq_none (Nat.le_of_not_lt hl)]
    · rw [if_neg hv, wipe_get]
      by_cases hl : i < σ.length
      · simp [hl, Ne.symm hv]
      · simp [hl]
theorem wipe_set {σ : L2.St} {i : Nat} {v : Option V} {vs : List Nat} (h : i ∈ vs) : wipe (σ.set i v) vs = wipe σ vs := by
  refine List.ext_getElem? fun j => ?_
  rw [wipe_get, wipe_get, List.length_set]
  by_cases hj : j ∈ vs ∧ j < σ.length
  · rw [if_pos hj, if_pos hj]
  · rw [if_neg hj, if_neg hj]
    by_cases e : j = i
    · subst e
      have hl : ¬ j < σ.length := fun z => hj ⟨h, z⟩
      rw [List.getElem?_eq_none (by simp; omega), List.getElem?_eq_none (by omega)]
    · rw [List.getElem?_set_ne (Ne.symm e)]
theorem wipeE_some {ρ : Env} {i : Nat} {x : D} : ∀ {vs : List Nat}, (wipeE ρ vs)[i]? = some (some x) → ρ[i]? = some (some x) ∧ i ∉ vs
  | [], h => ⟨h, by simp⟩
  | v :: vs, h => by
    unfold wipeE at h
    by_cases hi : v = i
    · subst hi
      by_cases hv : v < (wipeE ρ vs).length
      · rw [List.getElem?_set_self hv] at h; cases h
      · rw [List.getElem?_eq_none (by simpa using hv)] at h; cases h
    · rw [List.getElem?_set_ne hi] at h
      obtain ⟨h1, h2⟩ := wipeE_some h
      exact ⟨h1, by simp only [List.mem_cons, not_or]; exact ⟨fun e => hi e.symm, h2⟩⟩
theorem wipeE_length (ρ : Env) : ∀ vs : List Nat, (wipeE ρ vs).length = ρ.length
  | [] => rfl
  | v :: vs => by unfold wipeE; rw [List.length_set, wipeE_length ρ vs]
theorem RelE.wipe {K : PySem.W.Frag} {φ : List Addr} {H : Hp} {ρ : Env} {σ : L2.St} (E : RelE ad K φ H ρ σ) (vs : List Nat) : RelE ad K φ H (wipeE ρ vs) (wipe σ vs) := by
  refine ⟨by rw [wipeE_length, wipe_length, E.1], fun i d h => ?_⟩
  obtain ⟨h1, h2⟩ := wipeE_some h
  obtain ⟨v, h3, h4⟩ := E.2 i d h1
  exact ⟨v, by rw [wipe_get, if_neg (fun z => h2 z.1)]; exact h3, h4⟩
mutual
theorem tg_ok {K : PySem.W.Frag} {φ : List Addr} {H : Hp} {vs : List Nat} : ∀ (t : Tg) {d : D} {v : V} {ρ ρ' : Env} {σ : L2.St} {Q : L2.St → Hp → Prop}, RelE ad K φ H ρ σ → RelD ad K φ H d v → tgF t d ρ = some ρ' → (∀ i ∈ tgV t, i ∈ vs) →
    (∀ σ', RelE ad K φ H ρ' σ' → L2.wipe σ' vs = L2.wipe σ vs → Q σ' H) → tgT K t v σ H Q
  | .nm i, d, v, ρ, ρ', σ, Q, E, r, e, hv, q => by
    unfold tgF at e
    cases e
    unfold tgT
    exact q _ (E.set r i) (wipe_set (hv i (by simp [tgV])))
  | .tp l, d, v, ρ, ρ', σ, Q, E, r, e, hv, q => by
    cases r with
    | tup sq rds =>
      unfold tgF at e
      split at e
      · rename_i z
        unfold tgT
        exact ⟨_, _, rfl, sq, by rw [← rds.length]; exact z, tgs_ok l E rds e (fun i hi => hv i (by unfold tgV; exact hi)) q⟩
      · cases e
    | _ => unfold tgF at e; cases e
theorem tgs_ok {K : PySem.W.Frag} {φ : List Addr} {H : Hp} {vs : List Nat} : ∀ (ts : List Tg) {ds : List D} {us : List V} {ρ ρ' : Env} {σ : L2.St} {Q : L2.St → Hp → Prop}, RelE ad K φ H ρ σ → RelDs ad K φ H ds us → tgFs ts ds ρ = some ρ' → (∀ i ∈ tgVs ts, i ∈ vs) →
    (∀ σ', RelE ad K φ H ρ' σ' → L2.wipe σ' vs = L2.wipe σ vs → Q σ' H) → tgTs K ts us σ H Q
  | [], ds, us, ρ, ρ', σ, Q, E, r, e, hv, q => by
    cases r with
    | nil => unfold tgFs at e; cases e; unfold tgTs; exact ⟨rfl, q _ E rfl⟩
    | cons _ _ => unfold tgFs at e; cases e
  | t :: ts, ds, us, ρ, ρ', σ, Q, E, r, e, hv, q => by
    cases r with
    | nil => unfold tgFs at e; cases e
    | cons r rr =>
      unfold tgFs at e
      split at e
      · rename_i ρ1 z
        unfold tgTs
        refine ⟨_, _, rfl, tg_ok t E r z (fun i hi => hv i (by unfold tgVs; exact List.mem_append_left _ hi)) fun σ1 E1 w1 => ?_⟩
        exact tgs_ok ts E1 rr e (fun i hi => hv i (by unfold tgVs; exact List.mem_append_right _ hi)) fun σ2 E2 w2 => q σ2 E2 (w2.trans w1)
      · cases e
end

/-! ### comprehensions -/
/-- the turns: what is made so far; at the end the new list comes in -/
def compL (src : Src) (t : Tg) (ft : EF Bool) (fe : EF D) (ρ : Env) : Nat → Nat → List D → MH → R D
  | 0, _, _, _ => .bad
  | n + 1, i, acc, h => match src i h with
    | none => .bad
    | some none => .ok (.ref h.length) (h ++ [.lst acc])
    | some (some d) => match tgF t d ρ with
      | none => .bad
      | some ρ1 => match ft ρ1 h with
        | .ok false h => compL src t ft fe ρ n (i + 1) acc h
        | .ok true h => match fe ρ1 h with
          | .ok y h => if acc.length < 16777216 then compL src t ft fe ρ n (i + 1) (acc ++ [y]) h else .bad
          | _ => .bad
        | _ => .bad
def fComp (fi : EF Src) (t : Tg) (ft : EF Bool) (fe : EF D) (n : Nat) : EF D := fun ρ h => (fi ρ h).bind fun src h => compL src t ft fe (wipeE ρ (tgV t)) n 0 [] h
def fYes : EF Bool := fun _ h => .ok true h
def NoW : WX := fun _ _ _ _ => False
theorem Ext.side {φ φ' : List Addr} {H H' : Hp} {Dn : Addr} {o o' : HO} (x : Ext φ H φ' H') (h0 : H Dn = none) (h1 : H' Dn = some o) (m : Mt o) : Ext φ H φ' (upd H' Dn o') := by
  have ne : ∀ b u, H b = some u → b ≠ Dn := fun b u q z => by rw [z, h0] at q; cases q
  exact ⟨x.pre, fun b xs q => by rw [upd_ne (ne b _ q)]; exact x.tup b xs q, fun b ob u q => by rw [upd_ne (ne b _ q)]; exact x.frz b ob u q, fun b u q n => by rw [upd_ne (ne b _ q)]; exact x.out b u q n, x.fr⟩
theorem RelD.side {K : PySem.W.Frag} {φ : List Addr} {H : Hp} {Dn : Addr} {o o' : HO} (h1 : H Dn = some o) (m : Mt o) {d : D} {v : V} (r : RelD ad K φ H d v) : RelD ad K φ (upd H Dn o') d v := by
  have e : ∀ b u, H b = some u → ¬ Mt u → upd H Dn o' b = some u := fun b u q nm => by
    rw [upd_ne]; exact q
    intro z; rw [z, h1] at q; cases q; exact nm m
  exact side_aux e r
where
  side_aux {K : PySem.W.Frag} {φ : List Addr} {H H' : Hp} (e : ∀ b u, H b = some u → ¬ Mt u → H' b = some u) {d : D} {v : V} (r : RelD ad K φ H d v) : RelD ad K φ H' d v := by
    refine RelD.rec (motive_1 := fun d v _ => RelD ad K φ H' d v) (motive_2 := fun ds vs _ => RelDs ad K φ H' ds vs) .non .bl .int .str (fun sq _ ih => .tup ?_ ih) (fun q => .ref q) .obj .ty .nil (fun _ _ a b => .cons a b) r
    rcases sq with (h | ⟨o, h⟩) | h
    · exact .inl (.inl (e _ _ h fun z => z))
    · exact .inl (.inr ⟨o, e _ _ h fun z => z⟩)
    · exact .inr h
theorem RelDs.side {K : PySem.W.Frag} {φ : List Addr} {H : Hp} {Dn : Addr} {o o' : HO} (h1 : H Dn = some o) (m : Mt o) : ∀ {ds : List D} {vs : List V}, RelDs ad K φ H ds vs → RelDs ad K φ (upd H Dn o') ds vs
  | _, _, .nil => .nil
  | _, _, .cons r t => .cons (r.side h1 m) (RelDs.side h1 m t)
theorem Rel.side {K : PySem.W.Frag} {φ : List Addr} {H : Hp} {h : MH} {Dn : Addr} {o o' : HO} (R : Rel ad K φ H h) (n : Dn ∉ φ) (h1 : H Dn = some o) (m : Mt o) : Rel ad K φ (upd H Dn o') h := by
  refine ⟨R.len, R.nd, fun k u ek => ?_⟩
  obtain ⟨a, e1, e2⟩ := R.obj k u ek
  have ha : a ≠ Dn := fun z => n (by rw [← z]; exact List.mem_of_getElem? e1)
  have keep : ∀ b w, H b = some w → b ≠ Dn → upd H Dn o' b = some w := fun b w q z => by rw [upd_ne z]; exact q
  refine ⟨a, e1, ?_⟩
  cases u with
  | lst l => obtain ⟨xs, z1, z2⟩ := e2; exact ⟨xs, keep _ _ z1 ha, z2.side h1 m⟩
  | rl l => obtain ⟨ob, xs, z1, z2⟩ := e2; exact ⟨ob, xs, keep _ _ z1 ha, z2.side h1 m⟩
  | ins c ds =>
    obtain ⟨dx, gs, z1, z2, z3, z4⟩ := e2
    refine ⟨dx, gs, keep _ _ z1 ha, keep _ _ z2 ?_, z3, z4.side h1 m⟩
    intro z; rw [z, h1] at z2; cases z2; exact m
  | dk kvs => obtain ⟨ws, z1, z2⟩ := e2; exact ⟨ws, keep _ _ z1 ha, z2.1, z2.2.side h1 m⟩
theorem RelE.side {K : PySem.W.Frag} {φ : List Addr} {H : Hp} {Dn : Addr} {o o' : HO} (h1 : H Dn = some o) (m : Mt o) {ρ : Env} {σ : L2.St} (E : RelE ad K φ H ρ σ) : RelE ad K φ (upd H Dn o') ρ σ := ⟨E.1, fun i d q => let ⟨v, z1, z2⟩ := E.2 i d q; ⟨v, z1, z2.side h1 m⟩⟩
theorem lc_step {fi : EF Src} {t : Tg} {fe : EF D} {n : Nat} {σ : L2.St} {H : Hp} {Q : VK} (q : tE ad X.K W (fComp fi t ft fe n) σ H Q) : tLc (tI ad X.K W fi) (tgT X.K t) (tT ad X.K NoW ft) (tE ad X.K NoW fe) (tgV t) σ H Q := by
  obtain ⟨φ, h, ρ, R, E, p⟩ := q
  refine ⟨φ, h, ρ, R, E, p.bind fun φ1 H1 h1 src J x1 R1 wk p1 Dn hD => ?_⟩
  have E1 := (E.ext x1).wipe (tgV t)
  have k0 := keep_upd (o := .lst []) hD
  refine ⟨fun i m Hc => ∃ φc hc acc xs, Ext φ1 H1 φc Hc ∧ Rel ad X.K φc Hc hc ∧ Dn ∉ φc ∧ Hc Dn = some (.lst xs) ∧ RelDs ad X.K φc Hc acc xs ∧ Post ad X.K (RelD ad X.K) φ1 H1 (compL src t ft fe (wipeE ρ (tgV t)) m i acc hc) Q (fun c d H' => W c d σ H'),
    ⟨n, φ1, h1, [], [], Ext.same k0, R1.same k0, R1.fresh hD, upd_same, .nil, p1⟩, ?_⟩
  rintro i m Hc ⟨φc, hc, acc, xs, xc, Rc, nD, hDc, racc, pc⟩
  cases m with
  | zero => exact pc.elim
  | succ m =>
    unfold compL at pc
    obtain ⟨w1, w2⟩ := wk φc Hc hc i xc Rc
    split at pc
    · exact pc.elim
    · rename_i q
      refine .inl ⟨w1 q, ?_⟩
      have Rj := Rc.join nD (o := .lst acc) ⟨xs, hDc, RelDspre (List.prefix_append _ _) racc⟩
      refine pc (φc ++ [Dn]) Hc (.ref Dn) ?_ Rj (.ref (new_at Rc Dn))
      refine ⟨xc.pre.trans (List.prefix_append _ _), xc.tup, xc.frz, xc.out, fun b mb nb => ?_⟩
      rcases List.mem_append.mp mb with mb | mb
      · exact xc.fr b mb nb
      · have e : b = Dn := by simpa using mb
        rw [e]; exact hD
    · rename_i d q
      obtain ⟨hgo, hy⟩ := w2 d q
      split at pc
      · exact pc.elim
      · rename_i ρ1 hρ
        refine .inr ⟨hgo, fun Hn => ∃ φc hc acc xs, Ext φ1 H1 φc Hn ∧ Rel ad X.K φc Hn hc ∧ Dn ∉ φc ∧ Hn Dn = some (.lst xs) ∧ RelDs ad X.K φc Hn acc xs ∧ Post ad X.K (RelD ad X.K) φ1 H1 (compL src t ft fe (wipeE ρ (tgV t)) m (i + 1) acc hc) Q (fun c d H' => W c d σ H'), fun Hn z => ⟨m, Nat.lt_succ_self _, z⟩, fun x H2 y => ?_⟩
        obtain ⟨ks, rd⟩ := hy x H2 y
        have x0 : Ext φc Hc φc H2 := Ext.same ks
        have E2 : RelE ad X.K φc H2 (wipeE ρ (tgV t)) (wipe σ (tgV t)) := (E1.ext xc).ext x0
        refine tg_ok t E2 rd hρ (fun i hi => hi) fun σ2 E3 hw => ⟨by rw [hw]; exact wipe_idem, φc, hc, ρ1, Rc.same ks, E3, ?_⟩
        have hD2 : H2 Dn = some (.lst xs) := ks _ _ hDc
        have aft : ∀ φ3 H3, Ext φc H2 φ3 H3 → Ext φ1 H1 φ3 H3 ∧ Dn ∉ φ3 ∧ H3 Dn = some (.lst xs) ∧ RelDs ad X.K φ3 H3 acc xs := fun φ3 H3 x3 => ⟨(xc.trans x0).trans x3, x3.nin hD2 nD, x3.out _ _ hD2 nD, (racc.ext x0).ext x3⟩
        cases hft : ft ρ1 hc with
        | bad => rw [hft] at pc; exact pc.elim
        | exc x h' => rw [hft] at pc; exact pc.elim
        | ok b h3 =>
          rw [hft] at pc
          intro φ3 H3 b' x3 R3 eb
          cases eb
          obtain ⟨a1, a2, a3, a4⟩ := aft φ3 H3 x3
          cases b with
          | false => exact ⟨φ3, h3, acc, xs, a1, R3, a2, a3, a4, pc⟩
          | true =>
            refine ⟨φ3, h3, ρ1, R3, E3.ext x3, ?_⟩
            dsimp only at pc
            cases hfe : fe ρ1 h3 with
            | bad => rw [hfe] at pc; exact pc.elim
            | exc x h' => rw [hfe] at pc; exact pc.elim
            | ok y h4 =>
              rw [hfe] at pc
              dsimp only at pc
              intro φ4 H4 yv x4 R4 ry
              obtain ⟨b1, b2, b3, b4⟩ := aft φ4 H4 (x3.trans x4)
              split at pc
              · rename_i hlt
                refine ⟨xs, b3, by rw [sizeLine_eq, ← b4.length]; exact hlt, φ4, h4, acc ++ [y], xs ++ [yv], b1.side hD b3 trivial, R4.side b2 b3 trivial, b2, upd_same, ?_, pc⟩
                exact (b4.append (.cons ry .nil)).side b3 trivial
              · exact pc.elim
where
  wipe_idem {σ : L2.St} {vs : List Nat} : wipe (wipe σ vs) vs = wipe σ vs := by
    refine List.ext_getElem? fun j => ?_
    rw [wipe_get, wipe_get, wipe_length]
    split <;> rfl
end
end Mp
set_option Elab.async false
set_option linter.all false
set_option maxRecDepth 100000
set_option maxHeartbeats 2000000
namespace Mp
open PySem PySem.Spec PyProof.Rows L2

/-! ### defs -/
/-- a def of np parameters, nn names -/
def mkFn (np nn : Nat) (s : SF) : Fn := fun ds h => if ds.length = np then (match s (ds.map some ++ List.replicate (nn - ds.length) none) h with
  | .ok (.rt d) _ h => .ok d h
  | .ok .nx _ h => .ok .non h
  | .exc x _ h => .exc x h
  | _ => .bad) else .bad
def spF (ad : Gm) (K : PySem.W.Frag) (f : Fn) : Sp := fun vs H Q E => ∃ φ h ds, Rel ad K φ H h ∧ RelDs ad K φ H ds vs ∧ Post ad K (RelD ad K) φ H (f ds h) Q E
theorem RelE.start {ad : Gm} {K : PySem.W.Frag} {φ : List Addr} {H : Hp} {ds : List D} {vs : List V} (r : RelDs ad K φ H ds vs) (N : List Str) : RelE ad K φ H (ds.map some ++ List.replicate (N.length - ds.length) none) (L2.start N vs) := by
  refine ⟨by unfold L2.start; simp [r.length], fun i d h => ?_⟩
  by_cases hi : i < ds.length
  · rw [List.getElem?_append_left (by simpa using hi), List.getElem?_map] at h
    cases q : ds[i]? with
    | none => rw [q] at h; cases h
    | some d' =>
      rw [q] at h; cases h
      obtain ⟨v, h1, h2⟩ := r.get q
      refine ⟨v, ?_, h2⟩
      unfold L2.start
      rw [List.getElem?_append_left (by rw [List.length_map, ← r.length]; exact hi), List.getElem?_map, h1]
      rfl
  · rw [List.getElem?_append_right (by simpa using hi), List.getElem?_replicate] at h
    split at h <;> cases h
section
variable {P : Program} {w : World} {K : PySem.W.Frag} {mg : Str → Option Value} {base : Heap} {x qual : Str} {params : Arguments} {body : List Stmt} {scope : Scope} {dvs : List V} {kws : List (Str × V)} {f : Addr} {fd : FuncData} {ad : Gm}
/-- a def keeps what its body computes -/
theorem fn_ok {N ps : List Str} {k : Nat} {s : SF} (F : FunD K x qual params body scope dvs kws f fd) (S : FnScope N ps scope)
    (hb : ∀ (cdv : Value) (A : Around) (outer : List PySem.Env) (s0 : Shared) (H : Hp) (E : XK), Room k (A.deeper (envOfC qual scope s0.heap.objs.size f cdv)) →
      PSs (cxOf (L2.CX P w) P w K mg base N qual scope f cdv A outer s0 H E) body (tS ad K (fun c d _ H => E c d H) s)) :
    FnOk P w K mg base (L2.CX P w) (k + 1) f fd ps (spF ad K (mkFn ps.length N.length s)) := by
  refine F.ok S (fun vs H Q E ⟨φ, h, ds, R, r, p⟩ => ?_) fun cdv A outer s0 H vs Q E hr ⟨φ, h, ds, R, r, p⟩ => ⟨_, hb cdv A outer s0 H E hr, φ, h, _, R, RelE.start r N, ?_⟩
  · unfold mkFn at p
    split at p
    · rename_i l; rw [← r.length, l]
    · exact p.elim
  · unfold mkFn at p
    split at p
    · split at p
      · rename_i d ρ' h' q
        rw [q]
        exact fun φ' H' v x R' rd => p φ' H' v x R' rd
      · rename_i ρ' h' q
        rw [q]
        exact fun φ' H' σ' x R' E' => p φ' H' _ x R' .non
      · rename_i y ρ' h' q
        rw [q]
        exact fun φ' H' σ' cls dd x R' E' rx => p φ' H' cls dd x R' rx
      · exact p.elim
    · exact p.elim
end

/-! ### calls -/
section
variable {X : Cx} {ad : Gm} {W : WX} {e a b c o : Expr} {es : List Expr} {pos p apos : Pos} {fa fb fo : EF D} {fs : EF (List D)} {k n : Nat} {f : Addr} {fd : FuncData} {ps : List Str} {dvs : List V} {ds : List Value} {dds : List D} {F : Fn} {sp : Sp} {E : L2.St → XK} {C : Addr} {m : Str}
/-- f(e, ..), the defaults behind it -/
def fCall (F : Fn) (dds : List D) (fs : EF (List D)) : EF D := fun ρ h => (fs ρ h).bind fun ds h => F (ds ++ dds) h
theorem call_step {φ : List Addr} {H : Hp} {h : MH} {vs : List V} {dz : List D} {Q : VK} {E : XK} (R : Rel ad X.K φ H h) (r : RelDs ad X.K φ H dz vs) (rd : RelDs ad X.K φ H dds dvs) (p : Post ad X.K (RelD ad X.K) φ H (F (dz ++ dds) h) Q E) : spF ad X.K F (vs ++ dvs) H Q E :=
  ⟨φ, h, _, R, r.append rd, p⟩
theorem re_call {x : Str} (tk : Takes X W) (Fo : FnOk X.prog X.w X.K X.mg X.base (L2.CX X.prog X.w) k f fd ps (spF ad X.K F)) (hr : Room k X.A) (hg : Gl X x) (hm : X.mg x = some (.ref f)) (hk : PySem.W.keepIn X.K (.ref f) = true) (hb : Binds X.K fd ps ds) (hd : Vals dvs ds) (hdd : ∀ φ H, RelDs ad X.K φ H dds dvs)
    (ha : PA X (e :: es) (tA ad X.K W fs)) (hdb : (x == ("__debug__" : Str)) = false := by decide) (he : starEach (e :: es) X.env = (false, eval e X.env) :: starEach es X.env := by rfl) (hpl : (backTo pos (starEach es X.env)).any (·.1) = false := by rfl) :
    PE X (.Call (.Name x p) (e :: es) [] pos) (tE ad X.K W (fCall F dds fs)) := by
  refine (pe_callSD (E := WE W) Fo hr hg hm hk hb hd (fun σ => passAt tk σ) ha hdb he hpl).weak fun σ H Q ⟨φ, h, ρ, R, E, p⟩ => ⟨φ, h, ρ, R, E, p.bind fun φ1 H1 h1 dz vs x1 R1 rd p1 => ?_⟩
  exact call_step R1 rd (hdd _ _) p1
/-- f() -/
theorem pe_callSD0 {CX : CXT} (Fo : FnOk X.prog X.w X.K X.mg X.base CX k f fd ps sp) {x : Str} (hr : Room k X.A) (hg : Gl X x) (hm : X.mg x = some (.ref f)) (hk : PySem.W.keepIn X.K (.ref f) = true) (hb : Binds X.K fd ps ds) (hd : Vals dvs ds) (hx : ∀ σ, PassesAt CX X σ (E σ))
    (hdb : (x == ("__debug__" : Str)) = false := by decide) : PE X (.Call (.Name x p) [] [] pos) (tCallSD sp dvs E tNil) := by
  refine ⟨fun pins s σ H Q I h => ?_⟩
  refine wpAny_Call_Name_kw (ld_glob I hg hm ?_ hdb)
  exact PySem.W.callWith_K0 I.kIn hk (run_fnSD (us := []) Fo hr hb hd (hx σ) I .nil h)
theorem re_call0 {x : Str} (tk : Takes X W) (Fo : FnOk X.prog X.w X.K X.mg X.base (L2.CX X.prog X.w) k f fd ps (spF ad X.K F)) (hr : Room k X.A) (hg : Gl X x) (hm : X.mg x = some (.ref f)) (hk : PySem.W.keepIn X.K (.ref f) = true) (hb : Binds X.K fd ps ds) (hd : Vals dvs ds) (hdd : ∀ φ H, RelDs ad X.K φ H dds dvs)
    (hdb : (x == ("__debug__" : Str)) = false := by decide) : PE X (.Call (.Name x p) [] [] pos) (tE ad X.K W (fCall F dds fNil)) := by
  refine (pe_callSD0 (E := WE W) Fo hr hg hm hk hb hd (fun σ => passAt tk σ) hdb).weak fun σ H Q ⟨φ, h, ρ, R, E, p⟩ => ?_
  have p' : Post ad X.K (RelD ad X.K) φ H (F ([] ++ dds) h) Q (fun c d H' => W c d σ H') := p
  exact call_step R .nil (hdd _ _) p'

/-! ### methods -/
def insOf (h : MH) (n c : Nat) : Option (List D) := match h[n]? with
  | some (.ins c' ds) => if c' = c then some ds else none
  | _ => none
theorem insOf_at {h : MH} {n c : Nat} {ds : List D} (e : insOf h n c = some ds) : h[n]? = some (.ins c ds) := by
  unfold insOf at e
  split at e
  · rename_i c' ds' q
    split at e
    · rename_i z; subst z; cases e; exact q
    · cases e
  · cases e
def fMeth (c : Nat) (F : Fn) (dds : List D) (fo : EF D) (fs : EF (List D)) : EF D := fun ρ h => (fo ρ h).bind fun d h => match d with
  | .ref n => match insOf h n c with
    | some _ => (fs ρ h).bind fun ds h => F (.ref n :: (ds ++ dds)) h
    | none => .bad
  | _ => .bad
def tMethSD (C : Addr) (m : Str) (sp : Sp) (dvs : List V) (E : L2.St → XK) (ta : TE) (t : TA) : TE := fun σ H Q => ta σ H fun x H1 => ∃ a dx fs, x = .ref a ∧ H1 a = some (.ins C dx fs) ∧ fs.lookup m = none ∧
  t σ H1 fun vs H2 => sp (x :: (vs ++ dvs)) H2 Q (E σ)
theorem pe_methSD {pl : Sem Bool} {ta : TE} {t : TA} {CX : CXT} (he : PE X o ta) (c : Cls X.K C) (hm : Meth X.K C m f) (Fo : FnOk X.prog X.w X.K X.mg X.base CX k f fd ps sp) (hr : Room k X.A) (hb : Binds X.K fd ps ds) (hd : Vals dvs ds) (hx : ∀ σ, PassesAt CX X σ (E σ)) (ha : PA X (e :: es) t)
    (hst : starEach (e :: es) X.env = (false, eval e X.env) :: starEach es X.env := by rfl) (hpl : (backTo pos (starEach es X.env)).any (·.1) = false := by rfl)
    (ht : eval (.Call (.Attribute o m apos) (e :: es) [] pos) X.env = (do
      let v0 ← eval o X.env
      standAt apos.atName
      let (g, first) ← holding [v0] (getMethod v0 m pl)
      callWith pos g first (backTo pos (starEach (e :: es) X.env)) (backToKw pos (keywordEach [] X.env))) := by rfl) :
    PE X (.Call (.Attribute o m apos) (e :: es) [] pos) (tMethSD C m sp dvs E ta t) := by
  refine ⟨fun pins s σ H Q I h => ?_⟩
  refine PySem.W.methodCall_KW (pl := pl) (thn (he.run pins s σ H _ I h) fun u s1 ⟨x, H1, I1, rx, a, dx, fs, ex, ea, l, q⟩ => ?_) ht
  subst ex
  obtain rfl : u = Value.ref a := rx
  refine getmeth_ok I1 ea c hm l ?_
  refine PySem.W.callWith_K (first := [.ref a]) (h₀ := X.base) I.ok.mod.kin hm.kp (thn (ha.run pos pins s1 σ H1 _ I1 q) fun us s2 ⟨vs, H2, I2, r, q2⟩ => ⟨I2.kIn, ?_⟩) hst hpl
  exact run_fnSD (us := .ref a :: us) (vs := .ref a :: vs) Fo hr hb hd (hx σ) I2 (.cons rfl r) q2
theorem pe_methSD0 {pl : Sem Bool} {ta : TE} {CX : CXT} (he : PE X o ta) (c : Cls X.K C) (hm : Meth X.K C m f) (Fo : FnOk X.prog X.w X.K X.mg X.base CX k f fd ps sp) (hr : Room k X.A) (hb : Binds X.K fd ps ds) (hd : Vals dvs ds) (hx : ∀ σ, PassesAt CX X σ (E σ))
    (ht : eval (.Call (.Attribute o m apos) [] [] pos) X.env = (do
      let v0 ← eval o X.env
      standAt apos.atName
      let (g, first) ← holding [v0] (getMethod v0 m pl)
      callWith pos g first (backTo pos (starEach [] X.env)) (backToKw pos (keywordEach [] X.env))) := by rfl) :
    PE X (.Call (.Attribute o m apos) [] [] pos) (tMethSD C m sp dvs E ta tNil) := by
  refine ⟨fun pins s σ H Q I h => ?_⟩
  refine PySem.W.methodCall_KW (pl := pl) (thn (he.run pins s σ H _ I h) fun u s1 ⟨x, H1, I1, rx, a, dx, fs, ex, ea, l, q⟩ => ?_) ht
  subst ex
  obtain rfl : u = Value.ref a := rx
  refine getmeth_ok I1 ea c hm l ?_
  exact PySem.W.callWith_K0 (first := [.ref a]) I1.kIn hm.kp (run_fnSD (us := [.ref a]) (vs := [.ref a]) Fo hr hb hd (hx σ) I1 (.cons rfl .nil) q)
theorem lookup_none_of {gs : List (Str × V)} {m : Str} {l : List Str} {n : Nat} (e : gs.map (·.1) = l.take n) (hm : m ∉ l) : gs.lookup m = none := by
  have z : m ∉ gs.map (·.1) := by rw [e]; exact fun q => hm (List.mem_of_mem_take q)
  clear e
  induction gs with
  | nil => rfl
  | cons g gs ih =>
    obtain ⟨k, v⟩ := g
    rw [List.map_cons, List.mem_cons, not_or] at z
    have hb : (m == k) = false := beq_eq_false_iff_ne.mpr z.1
    simp only [List.lookup, hb]
    exact ih z.2
theorem meth_step {ta : TE} {t : TA} {cN : Nat} (hmn : m ∉ ad.fn cN) (hdd : ∀ φ H, RelDs ad X.K φ H dds dvs)
    {σ : L2.St} {H : Hp} {Q : VK} (q : tE ad X.K W (fMeth cN F dds fo fs) σ H Q) : tMethSD (ad cN) m (spF ad X.K F) dvs (WE W) (tE ad X.K W fo) (tA ad X.K W fs) σ H Q := by
  obtain ⟨φ, h, ρ, R, E, p⟩ := q
  refine ⟨φ, h, ρ, R, E, p.bind fun φ1 H1 h1 d v x1 R1 rd p1 => ?_⟩
  split at p1
  · rename_i n
    split at p1
    · rename_i ds0 q
      obtain ⟨a, dx, gs, e1, e2, e3, e4, e5, e6⟩ := R1.ins rd (insOf_at q)
      subst e1
      refine ⟨a, dx, gs, rfl, e3, lookup_none_of e5.1 hmn, φ1, h1, ρ, R1, E.ext x1, p1.bind fun φ2 H2 h2 ds vs x2 R2 rds p2 => ?_⟩
      exact ⟨φ2, h2, _, R2, .cons (rd.ext x2) (rds.append (hdd _ _)), p2⟩
    · exact p1.elim
  · exact p1.elim
theorem re_meth {pl : Sem Bool} {cN : Nat} (tk : Takes X W) (he : PE X o (tE ad X.K W fo)) (c : Cls X.K (ad cN)) (hm : Meth X.K (ad cN) m f) (Fo : FnOk X.prog X.w X.K X.mg X.base (L2.CX X.prog X.w) k f fd ps (spF ad X.K F)) (hr : Room k X.A) (hb : Binds X.K fd ps ds) (hd : Vals dvs ds) (hdd : ∀ φ H, RelDs ad X.K φ H dds dvs)
    (hmn : m ∉ ad.fn cN) (ha : PA X (e :: es) (tA ad X.K W fs))
    (hst : starEach (e :: es) X.env = (false, eval e X.env) :: starEach es X.env := by rfl) (hpl : (backTo pos (starEach es X.env)).any (·.1) = false := by rfl)
    (ht : eval (.Call (.Attribute o m apos) (e :: es) [] pos) X.env = (do
      let v0 ← eval o X.env
      standAt apos.atName
      let (g, first) ← holding [v0] (getMethod v0 m pl)
      callWith pos g first (backTo pos (starEach (e :: es) X.env)) (backToKw pos (keywordEach [] X.env))) := by rfl) :
    PE X (.Call (.Attribute o m apos) (e :: es) [] pos) (tE ad X.K W (fMeth cN F dds fo fs)) :=
  (pe_methSD (E := WE W) he c hm Fo hr hb hd (fun σ => passAt tk σ) ha hst hpl ht).weak fun σ H Q q => meth_step (ta := fun _ _ _ => False) (t := fun _ _ _ => False) hmn hdd q
theorem re_meth0 {pl : Sem Bool} {cN : Nat} (tk : Takes X W) (he : PE X o (tE ad X.K W fo)) (c : Cls X.K (ad cN)) (hm : Meth X.K (ad cN) m f) (Fo : FnOk X.prog X.w X.K X.mg X.base (L2.CX X.prog X.w) k f fd ps (spF ad X.K F)) (hr : Room k X.A) (hb : Binds X.K fd ps ds) (hd : Vals dvs ds) (hdd : ∀ φ H, RelDs ad X.K φ H dds dvs)
    (hmn : m ∉ ad.fn cN)
    (ht : eval (.Call (.Attribute o m apos) [] [] pos) X.env = (do
      let v0 ← eval o X.env
      standAt apos.atName
      let (g, first) ← holding [v0] (getMethod v0 m pl)
      callWith pos g first (backTo pos (starEach [] X.env)) (backToKw pos (keywordEach [] X.env))) := by rfl) :
    PE X (.Call (.Attribute o m apos) [] [] pos) (tE ad X.K W (fMeth cN F dds fo fNil)) :=
  (pe_methSD0 (E := WE W) he c hm Fo hr hb hd (fun σ => passAt tk σ) ht).weak fun σ H Q q => by
    obtain ⟨φ, h, ρ, R, E, p⟩ := q
    refine ⟨φ, h, ρ, R, E, p.bind fun φ1 H1 h1 d v x1 R1 rd p1 => ?_⟩
    split at p1
    · rename_i n
      split at p1
      · rename_i ds0 q
        obtain ⟨a, dx, gs, e1, e2, e3, e4, e5, e6⟩ := R1.ins rd (insOf_at q)
        subst e1
        have p2 : Post ad X.K (RelD ad X.K) φ1 H1 (F (.ref n :: ([] ++ dds)) h1) Q (fun c d H' => W c d σ H') := p1
        exact ⟨a, dx, gs, rfl, e3, lookup_none_of e5.1 hmn, φ1, h1, _, R1, .cons rd (hdd _ _), p2⟩
      · exact p1.elim
    · exact p1.elim

/-! ### instances made -/
def fMake (c : Nat) (F : Fn) (dds : List D) (fs : EF (List D)) : EF D := fun ρ h => (fs ρ h).bind fun ds h => (F (.ref h.length :: (ds ++ dds)) (h ++ [.ins c []])).bind fun d h' => match d with
  | .non => .ok (.ref h.length) h'
  | _ => .bad
theorem run_makeSD {pins : List (Addr × Obj)} {σ : L2.St} {H : Hp} {s : Shared} {Q : VK} {us : List Value} {vs : List V} {EE : XK} {CX : CXT} (M : Mk X.K C f) (Fo : FnOk X.prog X.w X.K X.mg X.base CX k f fd ps sp) (hr : Room (k + 1) X.A) (hb : Binds X.K fd ps ds) (hd : Vals dvs ds)
    (hx : PassesAt CX X σ EE) (I : Inv X pins σ H s) (r : Vals vs us)
    (h : ∀ x dx, H x = none → H dx = none → dx ≠ x → sp (.ref x :: (vs ++ dvs)) (upd (upd H dx (.own x)) x (.ins C dx [])) (fun v H2 => v = .non ∧ Q (.ref x) H2) EE) :
    wpAny (model X.prog X.w) X.A (call (.ref C) us) (EP X pins σ Q) X.xe s := by
  have hq := h (s.heap.objs.size + 1) s.heap.objs.size (I.hok.fresh (Nat.le_succ _)) (I.hok.fresh (Nat.le_refl _)) (Nat.ne_of_lt (Nat.lt_succ_self _))
  have I2 := Inv.made (C := C) I
  have r2 : Vals (V.ref (s.heap.objs.size + 1) :: (vs ++ dvs)) (Value.ref (s.heap.objs.size + 1) :: (us ++ ds)) := .cons rfl (r.append hd)
  have hl : (Value.ref (s.heap.objs.size + 1) :: us ++ ds).length = ps.length := by
    have e := r2.length
    rw [Fo.len _ _ _ _ hq] at e
    exact e.symm
  refine wpAny_call (make_map (f := f) I.kIn M.makes M.init (beq_iff_eq.mp M.fn) (codeAny_mono (Fo.run _ X.stack _ _ ⟨Value.ref (s.heap.objs.size + 1) :: us, []⟩ (Value.ref (s.heap.objs.size + 1) :: (us ++ ds)) _ _ EE (hr.make C us [])
    (I2.env0.make C us []) (hb _ (Value.ref (s.heap.objs.size + 1) :: us) I2.kIn hl) r2 hq) fun r s' hq' => ?_))
  cases r with
  | error e => exact hx pins _ _ e s' I2 hq'
  | ok fl =>
    cases fl with
    | ret u =>
      obtain ⟨v, H', I3, rv, ev, q3⟩ := I2.after hq'
      subst ev
      exact ⟨rv, ⟨V.ref (s.heap.objs.size + 1), H', I3, rfl, q3⟩⟩
    | next => exact False.elim hq'
    | brk => exact False.elim hq'
    | cont => exact False.elim hq'
def tMakeSD (C : Addr) (sp : Sp) (dvs : List V) (E : L2.St → XK) (t : TA) : TE := fun σ H Q => t σ H fun vs H1 => ∀ x dx, H1 x = none → H1 dx = none → dx ≠ x →
  sp (.ref x :: (vs ++ dvs)) (upd (upd H1 dx (.own x)) x (.ins C dx [])) (fun v H2 => v = .non ∧ Q (.ref x) H2) (E σ)
theorem pe_makeSD {x : Str} {t : TA} {CX : CXT} (M : Mk X.K C f) (Fo : FnOk X.prog X.w X.K X.mg X.base CX k f fd ps sp) (hr : Room (k + 1) X.A) (hg : Gl X x) (hm : X.mg x = some (.ref C)) (hb : Binds X.K fd ps ds) (hd : Vals dvs ds) (hx : ∀ σ, PassesAt CX X σ (E σ))
    (ha : PA X (e :: es) t) (hdb : (x == ("__debug__" : Str)) = false := by decide) (he : starEach (e :: es) X.env = (false, eval e X.env) :: starEach es X.env := by rfl) (hpl : (backTo pos (starEach es X.env)).any (·.1) = false := by rfl) :
    PE X (.Call (.Name x p) (e :: es) [] pos) (tMakeSD C sp dvs E t) := by
  refine ⟨fun pins s σ H Q I h => ?_⟩
  refine wpAny_Call_Name_kw (ld_glob I hg hm ?_ hdb)
  refine PySem.W.callWith_K (h₀ := X.base) I.ok.mod.kin M.kp (thn (ha.run pos pins s σ H _ I h) fun us s1 ⟨vs, H1, I1, r, q⟩ => ⟨I1.kIn, ?_⟩) he hpl
  exact run_makeSD M Fo hr hb hd (hx σ) I1 r q
theorem re_make {x : Str} {cN : Nat} (tk : Takes X W) (M : Mk X.K (ad cN) f) (Fo : FnOk X.prog X.w X.K X.mg X.base (L2.CX X.prog X.w) k f fd ps (spF ad X.K F)) (hr : Room (k + 1) X.A) (hg : Gl X x) (hm : X.mg x = some (.ref (ad cN))) (hb : Binds X.K fd ps ds) (hd : Vals dvs ds) (hdd : ∀ φ H, RelDs ad X.K φ H dds dvs)
    (ha : PA X (e :: es) (tA ad X.K W fs)) (hdb : (x == ("__debug__" : Str)) = false := by decide) (he : starEach (e :: es) X.env = (false, eval e X.env) :: starEach es X.env := by rfl) (hpl : (backTo pos (starEach es X.env)).any (·.1) = false := by rfl) :
    PE X (.Call (.Name x p) (e :: es) [] pos) (tE ad X.K W (fMake cN F dds fs)) := by
  refine (pe_makeSD (E := WE W) M Fo hr hg hm hb hd (fun σ => passAt tk σ) ha hdb he hpl).weak fun σ H Q ⟨φ, h, ρ, R, E, p⟩ => ⟨φ, h, ρ, R, E, p.bind fun φ1 H1 h1 dz vs x1 R1 rd p1 => ?_⟩
  intro x dx hx hdx hne
  have k1 := keep_upd (o := .own x) hdx
  have hx2 : (upd H1 dx (.own x)) x = none := by rw [upd_ne (Ne.symm hne)]; exact hx
  have Ra := R1.same k1
  have x2 : Ext φ1 H1 (φ1 ++ [x]) (upd (upd H1 dx (.own x)) x (.ins (ad cN) dx [])) := (Ext.same k1).trans (Ext.new hx2)
  have Rb : Rel ad X.K (φ1 ++ [x]) (upd (upd H1 dx (.own x)) x (.ins (ad cN) dx [])) (h1 ++ [.ins cN []]) := Ra.new hx2 ⟨dx, [], upd_same, by rw [upd_ne hne, upd_same], ⟨by simp, Nat.zero_le _⟩, .nil⟩
  refine ⟨φ1 ++ [x], h1 ++ [.ins cN []], _, Rb, .cons (.ref (new_at R1 x)) ((rd.ext x2).append (hdd _ _)), ((Post.ext x2 p1).bind fun φ3 H3 h3 d v x3 R3 rv p3 => ?_)⟩
  split at p3
  · cases rv
    exact ⟨rfl, p3.now R3 (.ref (x3.at (new_at R1 x)))⟩
  · exact p3.elim

/-! ### fields -/
def fFld (c i : Nat) (fo : EF D) : EF D := fun ρ h => (fo ρ h).bind fun d h => match d with
  | .ref n => match insOf h n c with
    | some ds => match ds[i]? with
      | some y => .ok y h
      | none => .bad
    | none => .bad
  | _ => .bad
theorem lookup_at : ∀ {gs : List (Str × V)} {l : List Str} {n i : Nat} {f : Str} {v : V}, gs.map (·.1) = l.take n → l.Nodup → l[i]? = some f → (gs.map (·.2))[i]? = some v → gs.lookup f = some v
  | [], _, _, _, _, _, _, _, _, h => by simp at h
  | (k, u) :: gs, [], n, i, f, v, e, nd, h1, h2 => by simp at h1
  | (k, u) :: gs, y :: l, 0, i, f, v, e, nd, h1, h2 => by simp at e
  | (k, u) :: gs, y :: l, n + 1, i, f, v, e, nd, h1, h2 => by
    rw [List.map_cons, List.take_succ_cons] at e
    obtain ⟨e1, e2⟩ := List.cons.inj e
    have e1 : k = y := e1
    subst e1
    cases i with
    | zero =>
      simp at h1 h2
      subst h1 h2
      have hb : (k == k) = true := beq_self_eq_true _
      simp only [List.lookup, hb]
    | succ i =>
      have hf : f ∈ l := List.mem_of_getElem? (by simpa using h1)
      have ne : f ≠ k := fun z => (List.nodup_cons.mp nd).1 (z ▸ hf)
      have hb : (f == k) = false := beq_eq_false_iff_ne.mpr ne
      simp only [List.lookup, hb]
      exact lookup_at e2 (List.nodup_cons.mp nd).2 (by simpa using h1) (by simpa using h2)
theorem re_fld {cN i : Nat} {x : Str} (he : PE X o (tE ad X.K W fo)) (c : Cls X.K (ad cN)) (na : NoAttr X.K (ad cN) x) (hf : (ad.fn cN)[i]? = some x) (hb : attributeBase o x X.env (eval o X.env) = eval o X.env := by rfl) : PE X (.Attribute o x pos) (tE ad X.K W (fFld cN i fo)) := by
  refine (pe_fld he hb).weak fun σ H Q ⟨φ, h, ρ, R, E, p⟩ => ⟨φ, h, ρ, R, E, p.bind fun φ1 H1 h1 d v x1 R1 rd p1 => ?_⟩
  split at p1
  · rename_i n
    split at p1
    · rename_i ds q
      split at p1
      · rename_i y hy
        obtain ⟨a, dx, gs, e1, e2, e3, e4, e5, e6⟩ := R1.ins rd (insOf_at q)
        obtain ⟨u, hu, ru⟩ := e6.get hy
        exact ⟨a, _, dx, gs, u, e1, e3, c, na, lookup_at e5.1 (ad.nd cN) hf hu, p1.now R1 ru⟩
      · exact p1.elim
    · exact p1.elim
  · exact p1.elim
def putD (i : Nat) (y : D) (ds : List D) : List D := if i < ds.length then ds.set i y else ds ++ [y]
/-- o.x = e -/
def sFldS (c i : Nat) (fo fv : EF D) : SF := fun ρ h => ofR (fv ρ h) ρ fun y h => ofR (fo ρ h) ρ fun d h => match d with
  | .ref n => match insOf h n c with
    | some ds => if i ≤ ds.length then .ok .nx ρ (h.set n (.ins c (putD i y ds))) else .bad
    | none => .bad
  | _ => .bad
theorem putF_map : ∀ {gs : List (Str × V)} {l : List Str} {n i : Nat} {f : Str} {v : V}, gs.map (·.1) = l.take n → gs.length = n → l.Nodup → l[i]? = some f → i ≤ n →
    (i < n → (putF f v gs).map (·.1) = gs.map (·.1) ∧ (putF f v gs).map (·.2) = (gs.map (·.2)).set i v) ∧ (i = n → (putF f v gs).map (·.1) = gs.map (·.1) ++ [f] ∧ (putF f v gs).map (·.2) = gs.map (·.2) ++ [v])
  | [], l, n, i, f, v, e, hl, nd, h1, hi => by
    simp at hl
    subst hl
    exact ⟨fun z => absurd z (Nat.not_lt_zero _), fun _ => ⟨rfl, rfl⟩⟩
  | (k, u) :: gs, [], n, i, f, v, e, hl, nd, h1, hi => by simp at h1
  | (k, u) :: gs, y :: l, 0, i, f, v, e, hl, nd, h1, hi => by simp at hl
  | (k, u) :: gs, y :: l, n + 1, i, f, v, e, hl, nd, h1, hi => by
    rw [List.map_cons, List.take_succ_cons] at e
    obtain ⟨e1, e2⟩ := List.cons.inj e
    have e1 : k = y := e1
    subst e1
    have hl' : gs.length = n := by simpa using hl
    cases i with
    | zero =>
      simp at h1
      subst h1
      refine ⟨fun _ => ?_, fun z => by omega⟩
      rw [show putF k v ((k, u) :: gs) = (if k = k then (k, v) :: gs else (k, u) :: putF k v gs) from rfl, if_pos rfl]
      exact ⟨rfl, rfl⟩
    | succ i =>
      have hf : f ∈ l := List.mem_of_getElem? (by simpa using h1)
      have ne : k ≠ f := fun z => (List.nodup_cons.mp nd).1 (z ▸ hf)
      obtain ⟨ih1, ih2⟩ := putF_map (v := v) e2 hl' (List.nodup_cons.mp nd).2 (show l[i]? = some f by simpa using h1) (by omega)
      rw [show putF f v ((k, u) :: gs) = (if k = f then (k, v) :: gs else (k, u) :: putF f v gs) from rfl, if_neg ne]
      refine ⟨fun z => ?_, fun z => ?_⟩
      · obtain ⟨j1, j2⟩ := ih1 (by omega)
        exact ⟨by rw [List.map_cons, List.map_cons, j1], by rw [List.map_cons, j2, List.map_cons, List.set_cons_succ]⟩
      · obtain ⟨j1, j2⟩ := ih2 (by omega)
        exact ⟨by rw [List.map_cons, j1]; rfl, by rw [List.map_cons, j2]; rfl⟩
theorem rs_fld {cN i : Nat} {x : Str} {pos' : Pos} {fv : EF D} {value : Expr} (he : PE X o (tE ad X.K W fo)) (hv : PE X value (tE ad X.K W fv)) (c : Cls X.K (ad cN)) (na : NoAttr X.K (ad cN) x) (hf : (ad.fn cN)[i]? = some x) (hs : swapsWith value (some (.Attribute o x pos')) pos.line X.env = pure false := by rfl) :
    PS X (.Assign [.Attribute o x pos'] value pos) (tS ad X.K W (sFldS cN i fo fv)) := by
  refine (ps_fld he hv hs).weak fun Dn σ H ⟨φ, h, ρ, R, E, p⟩ => ⟨φ, h, ρ, R, E, p.ofR E fun φ1 H1 h1 y yv x1 R1 ry E1 p1 => ⟨φ1, h1, ρ, R1, E1, p1.ofR E1 fun φ2 H2 h2 d v x2 R2 rd E2 p2 => ?_⟩⟩
  split at p2
  · rename_i n
    split at p2
    · rename_i ds q
      split at p2
      · rename_i hi
        obtain ⟨a, dx, gs, e1, e2, e3, e4, e5, e6⟩ := R2.ins rd (insOf_at q)
        have hgl : gs.length = ds.length := by rw [e6.length]; simp
        have h9 := ad.le cN
        have hin : a ∈ φ2 := List.mem_of_getElem? e2
        refine ⟨a, _, dx, gs, e1, e3, c, na, by omega, ?_⟩
        have hne : dx ≠ a := fun z => by rw [z, e3] at e4; cases e4
        have x3 : Ext φ2 H2 φ2 (upd H2 a (.ins (ad cN) dx (putF x yv gs))) := Ext.put hin e3 trivial
        obtain ⟨m1, m2⟩ := putF_map (v := yv) e5.1 hgl (ad.nd cN) hf hi
        have ry2 := (ry.ext x2).ext x3
        have e6' := e6.ext x3
        have hfl := (List.getElem?_eq_some_iff.mp hf).1
        refine p2 φ2 _ σ x3 (R2.put (v := .ins (ad cN) dx (putF x yv gs)) e2 e3 trivial ⟨dx, putF x yv gs, upd_same, by rw [upd_ne hne]; exact e4, ?_⟩) (E2.ext x3)
        unfold putD
        by_cases hlt : i < ds.length
        · rw [if_pos hlt]
          obtain ⟨j1, j2⟩ := m1 hlt
          exact ⟨⟨by rw [j1, List.length_set]; exact e5.1, by rw [List.length_set]; exact e5.2⟩, by rw [j2]; exact e6'.set ry2 i⟩
        · rw [if_neg hlt]
          have hii : i = ds.length := by omega
          obtain ⟨j1, j2⟩ := m2 hii
          refine ⟨⟨?_, by simp; omega⟩, by rw [j2]; exact e6'.append (.cons ry2 .nil)⟩
          rw [j1, e5.1, List.length_append, List.length_singleton, List.take_add_one, ← hii, hf]
          rfl
      · exact p2.elim
    · exact p2.elim
  · exact p2.elim
end
end Mp
set_option Elab.async false
set_option linter.all false
set_option maxRecDepth 100000
set_option maxHeartbeats 2000000
namespace Mp
open PySem PySem.Spec PyProof.Rows L2

section
variable {X : Cx} {ad : Gm} {W : WX} {e a b c o tg iter elt : Expr} {es ifs : List Expr} {kws : List Keyword} {st : Stmt} {sts : List Stmt} {pos p apos : Pos} {fa fb fo fe : EF D} {ft : EF Bool} {fs : EF (List D)} {fi : EF Src} {k n i : Nat} {f : Addr} {fd : FuncData} {ps : List Str} {dvs : List V} {ds : List Value} {dds : List D} {F : Fn} {E : L2.St → XK} {scope : Scope} {own : List (Str × Nat)} {t : Tg} {x : Str}

/-! ### comprehensions -/
theorem pts_yes : PTs X [] (tT ad X.K W fYes) := ⟨fun pins s σ H Q I ⟨φ, h, ρ, R, E, p⟩ => pts_nil.run pins s σ H Q I (p.now R rfl)⟩
theorem pts_if (h : PT X c (tT ad X.K W ft)) : PTs X [c] (tT ad X.K W ft) := pts_one h
theorem re_comp (n : Nat) (hc : X.calm = true) (hN : X.N.Nodup) (hi : PI X tg iter (tI ad X.K W fi)) (ok : BlkOk X.N X.env.scope scope own) (hv : own.map (·.2) = tgV t)
    (hg : ∀ (s : Shared) (H : Hp) (C : Addr) (cl : List (Str × Addr)) (fp : List Addr), PG (X.blk s H scope (compEnvC scope cl C X.env) fp) tg (tgT X.K t))
    (ht : ∀ (s : Shared) (H : Hp) (C : Addr) (cl : List (Str × Addr)) (fp : List Addr), PTs (X.blk s H scope (compEnvC scope cl C X.env) fp) ifs (tT ad X.K NoW ft))
    (he : ∀ (s : Shared) (H : Hp) (C : Addr) (cl : List (Str × Addr)) (fp : List Addr), PE (X.blk s H scope (compEnvC scope cl C X.env) fp) elt (tE ad X.K NoW fe)) (hs : ∀ x, foldedSetIterable iter X.env x = pure x := by intro _; rfl) :
    PE X (.ListComp elt [⟨tg, iter, ifs, 0⟩] scope pos) (tE ad X.K W (fComp fi t ft fe n)) := by
  refine (pe_lc hc hN hi ok hg ht he hs).weak fun σ H Q q => ?_
  rw [hv]
  exact lc_step q
theorem rs_setComp (n : Nat) {y : Str} {py spos : Pos} (hc : X.calm = true) (hN : X.N.Nodup) (hy : X.N[i]? = some y) (hyl : X.env.scope.names.lookup y = some .local)
    (hsw : swapsWith (.ListComp elt [⟨tg, iter, ifs, 0⟩] scope pos) (some (.Name y py)) spos.line X.env = pure true) (hi : PI X tg iter (tI ad X.K W fi)) (ok : BlkOk X.N X.env.scope scope own) (hv : own.map (·.2) = tgV t)
    (hg : ∀ (s : Shared) (H : Hp) (C : Addr) (cl : List (Str × Addr)) (fp : List Addr), PG (X.blk s H scope (compEnvC scope cl C X.env) fp) tg (tgT X.K t))
    (ht : ∀ (s : Shared) (H : Hp) (C : Addr) (cl : List (Str × Addr)) (fp : List Addr), PTs (X.blk s H scope (compEnvC scope cl C X.env) fp) ifs (tT ad X.K NoW ft))
    (he : ∀ (s : Shared) (H : Hp) (C : Addr) (cl : List (Str × Addr)) (fp : List Addr), PE (X.blk s H scope (compEnvC scope cl C X.env) fp) elt (tE ad X.K NoW fe)) (hs : ∀ x, foldedSetIterable iter X.env x = pure x := by intro _; rfl) :
    PS X (.Assign [.Name y py] (.ListComp elt [⟨tg, iter, ifs, 0⟩] scope pos) spos) (tS ad X.K W (sAsg (fComp fi t ft fe n) (gN i))) := by
  refine (ps_setLc hc hN hy hyl hsw hi ok hg ht he hs).weak fun Dn σ H ⟨φ, h, ρ, R, E, p⟩ => ?_
  rw [hv]
  refine lc_step (W := W) (n := n) ⟨φ, h, ρ, R, E, p.ofR E fun φ1 H1 h1 d v x1 R1 rd E1 p1 => ?_⟩
  have p2 : PostS ad X.K W φ1 H1 (.ok .nx (ρ.set i (some d)) h1) Dn := p1
  exact p2.now R1 (E1.set rd i)

/-! ### several names at once -/
theorem rs_par3 {j l : Nat} {y z : Str} {px py pz pt : Pos} {kt k2 pt2} (hc : X.calm = true) (hN : X.N.Nodup) (hi : X.N[i]? = some x) (hj : X.N[j]? = some y) (hl : X.N[l]? = some z) (hij : i ≠ j) (hil : i ≠ l) (hjl : j ≠ l)
    (hx : X.env.scope.names.lookup x = some .local) (hy : X.env.scope.names.lookup y = some .local) (hz : X.env.scope.names.lookup z = some .local) (ha : PA X [a, b, c] (tA ad X.K W fs))
    (hw : swappedStores [.Tuple [.Name x px, .Name y py, .Name z pz] kt pt] (.Tuple [a, b, c] k2 pt2) X.env = pure (some [x, y, z]))
    (hs : swapsWithSole [.Tuple [.Name x px, .Name y py, .Name z pz] kt pt] (.Tuple [a, b, c] k2 pt2) pos.line X.env = pure false := by rfl) :
    PS X (.Assign [.Tuple [.Name x px, .Name y py, .Name z pz] kt pt] (.Tuple [a, b, c] k2 pt2) pos) (tS ad X.K W (sPar3 i j l fs)) := by
  refine (ps_par3 hc hN hi hj hl hij hil hjl hx hy hz ha hw hs).weak fun Dn σ H ⟨φ, h, ρ, R, E, p⟩ => ⟨φ, h, ρ, R, E, p.ofR E fun φ1 H1 h1 ds vs x1 R1 rd E1 p1 => ?_⟩
  split at p1
  · cases rd with
    | cons r1 t => cases t with
      | cons r2 t => cases t with
        | cons r3 t => cases t; exact ⟨_, _, _, rfl, p1.now R1 (((E1.set r1 i).set r2 j).set r3 l)⟩
  · exact p1.elim

/-! ### calls by keywords alone, of what a local name holds -/
theorem ra_kwNil : PK X [] (tA ad X.K W fNil) := ⟨fun pos pins s σ H Q I ⟨φ, h, ρ, R, E, p⟩ => pk_nil.run pos pins s σ H Q I (p.now R .nil)⟩
theorem ra_kw {nm : Option Str} {kpos : Pos} (ha : PE X e (tE ad X.K W fa)) (hr : PK X kws (tA ad X.K W fs)) : PK X (⟨nm, e, kpos⟩ :: kws) (tA ad X.K W (fCons fa fs)) := by
  refine ⟨fun pos pins s σ H Q I ⟨φ, h, ρ, R, E, p⟩ => (pk_cons ha hr).run pos pins s σ H Q I ⟨φ, h, ρ, R, E, p.bind fun φ1 H1 h1 d v x1 R1 rd p1 => ?_⟩⟩
  refine ⟨φ1, h1, ρ, R1, E.ext x1, p1.bind fun φ2 H2 h2 ds vs x2 R2 rds p2 => ?_⟩
  exact p2.now R2 (.cons (rd.ext x2) rds)
theorem re_callK {ks : List Str} (tk : Takes X W) (Fo : FnOk X.prog X.w X.K X.mg X.base (L2.CX X.prog X.w) k f fd ps (spF ad X.K F)) (hr : Room k X.A) (hg : Gl X x) (hm : X.mg x = some (.ref f)) (hk : PySem.W.keepIn X.K (.ref f) = true)
    (hb : ∀ (s : Shared) (ws : List Value), X.K.In s.heap → ws.length = ps.length → BindsTo s fd ⟨[], ks.zip ws⟩ (ps.zip ws)) (hkw : PK X kws (tA ad X.K W fs))
    (hall : (backToKw pos (keywordEach kws X.env)).all (·.1.isSome) = true := by rfl) (hks : (backToKw pos (keywordEach kws X.env)).filterMap (·.1) = ks := by rfl) (hdb : (x == ("__debug__" : Str)) = false := by decide)
    (hpl : ((backTo pos (starEach [] X.env)).any (·.1) || (backToKw pos (keywordEach kws X.env)).any (·.1.isNone)) = false := by rfl) :
    PE X (.Call (.Name x p) [] kws pos) (tE ad X.K W (fCall F [] fs)) := by
  refine ⟨fun pins s σ H Q I ⟨φ, h, ρ, R, E, p⟩ => ?_⟩
  refine wpAny_Call_Name_kw (ld_glob I hg hm ?_ hdb)
  refine PySem.W.callWith_KW0 (h₀ := X.base) I.ok.mod.kin hk hall ?_ hpl
  refine thn (hkw.run pos pins s σ H (fun zs H2 => spF ad X.K F zs H2 Q (fun c d H' => W c d σ H')) I ⟨φ, h, ρ, R, E, p.bind fun φ1 H1 h1 ds vs x1 R1 rd p1 => ?_⟩) fun ws s2 ⟨zs, H2, I2, rz, q2⟩ => ⟨I2.kIn, ?_⟩
  · rw [List.append_nil] at p1
    exact ⟨φ1, h1, ds, R1, rd, p1⟩
  · rw [hks]
    have hl : ws.length = ps.length := by rw [← rz.length]; exact Fo.len _ _ _ _ q2
    refine wpAny_call (codeAny_mono (Fo.run X.A X.stack s2 H2 ⟨[], ks.zip ws⟩ ws zs Q _ hr I2.env0 (hb s2 ws I2.kIn hl) rz q2) fun r s' hq => ?_)
    cases r with
    | error e => exact passAt tk σ pins H2 s2 e s' I2 hq
    | ok fl =>
      cases fl with
      | ret u => exact I2.after hq
      | next => exact False.elim hq
      | brk => exact False.elim hq
      | cont => exact False.elim hq
/-- a def that a local name holds -/
def fCallV (i : Nat) (T : Nat → Option Fn) (fs : EF (List D)) : EF D := fun ρ h => match ρ[i]? with
  | some (some (.obj n)) => match T n with
    | some F => (fs ρ h).bind F
    | none => .bad
  | _ => .bad
theorem re_callV {T : Nat → Option Fn} (tk : Takes X W)
    (A : ∀ n F, T n = some F → ∃ (fd : FuncData) (ps : List Str), FnOk X.prog X.w X.K X.mg X.base (L2.CX X.prog X.w) k (ad n) fd ps (spF ad X.K F) ∧ PySem.W.keepIn X.K (.ref (ad n)) = true ∧ Binds X.K fd ps [])
    (hr : Room k X.A) (hN : X.N[i]? = some x) (hv : Vis X.env.scope x) (ha : PA X (e :: es) (tA ad X.K W fs))
    (hdb : (x == ("__debug__" : Str)) = false := by decide) (hcd : (x == ("__classdict__" : Str)) = false := by decide)
    (he : starEach (e :: es) X.env = (false, eval e X.env) :: starEach es X.env := by rfl) (hpl : (backTo pos (starEach es X.env)).any (·.1) = false := by rfl) : PE X (.Call (.Name x p) (e :: es) [] pos) (tE ad X.K W (fCallV i T fs)) := by
  refine ⟨fun pins s σ H Q I ⟨φ, h, ρ, R, E, pp⟩ => ?_⟩
  unfold fCallV at pp
  split at pp
  · rename_i n q
    split at pp
    · rename_i F hF
      obtain ⟨v, h1, h2⟩ := E.2 i _ q
      cases h2
      obtain ⟨fd, ps, Fo, hk, hb⟩ := A n F hF
      refine wpAny_Call_Name_kw (thn ((pe_var (pos := p) hN hv hdb hcd).run pins s σ H (fun v H1 => v = .ref (ad n) ∧ H1 = H) I ⟨.ref (ad n), h1, rfl, rfl⟩) fun u s1 ⟨v, H1, I1, r1, q1⟩ => ?_)
      obtain ⟨ev, eH⟩ := q1
      subst ev
      subst eH
      cases r1
      refine PySem.W.callWith_K (h₀ := X.base) I.ok.mod.kin hk (thn (ha.run pos pins s1 σ _ (fun vs H2 => spF ad X.K F (vs ++ []) H2 Q (WE W σ)) I1 ⟨φ, h, ρ, R, E, pp.bind fun φ1 H1 h1 ds vs x1 R1 rd p1 => ?_⟩) fun us s2 ⟨vs, H2, I2, r, q⟩ => ⟨I2.kIn, ?_⟩) he hpl
      · rw [List.append_nil]
        exact ⟨φ1, h1, ds, R1, rd, p1⟩
      · exact run_fnSD (dvs := []) (ds := []) (E := WE W) Fo hr hb .nil (passAt tk σ) I2 r q
    · exact pp.elim
  · exact pp.elim

/-! ### exceptions made and raised -/
/-- what an own __init__ of a class of exceptions does: every field is set from its parameter -/
def spInit (ad : Gm) (c : Nat) : Sp := fun vs H Q _ => ∃ a ys, vs = .ref a :: ys ∧ ys.length = (ad.fn c).length ∧ H a = some (exo a (ad c) none) ∧
  ∀ d H2 fs, H d = none → d ≠ a → H2 = upd (upd H d (exd d fs)) a (exo a (ad c) (some d)) → (∀ (i : Nat) (f : Str) (v : V), (ad.fn c)[i]? = some f → ys[i]? = some v → fs.lookup f = some v) → Q .non H2
def sRaise (c n : Nat) (fs : EF (List D)) : SF := fun ρ h => ofR (fs ρ h) ρ fun ds h => if ds.length = n then .exc ⟨c, ds⟩ ρ h else .bad
theorem rs_raise {cN : Nat} {fI : Addr} {rpos : Pos} (hc : X.calm = true) (tk : Takes X W) (T : OexC X.K (ad cN)) (iC : PySem.W.findIn X.K (.ref (ad cN)) "__init__" = some (some (.ref fI))) (tI : PySem.W.typeIn X.K (.ref fI) = some (.type "function"))
    (Fo : FnOk X.prog X.w X.K X.mg X.base (L2.CX X.prog X.w) k fI fd ps (spInit ad cN)) (hr : Room (k + 1) X.A) (hb : Binds X.K fd ps []) (hn : (ad.fn cN).length = n) (hg : Gl X x) (hm : X.mg x = some (.ref (ad cN))) (ha : PA X (e :: es) (tA ad X.K W fs))
    (hdb : (x == ("__debug__" : Str)) = false := by decide) (he : starEach (e :: es) X.env = (false, eval e X.env) :: starEach es X.env := by rfl) (hpl : (backTo pos (starEach es X.env)).any (·.1) = false := by rfl) :
    PS X (.Raise (some (.Call (.Name x p) (e :: es) [] pos)) none rpos) (tS ad X.K W (sRaise cN n fs)) := by
  refine (ps_raise hc tk (pmk_oex T iC tI Fo hr hb .nil passL hg hm ha hdb he hpl)).weak fun Dn σ H ⟨φ, h, ρ, R, E, p⟩ => ⟨φ, h, ρ, R, E, p.ofR E fun φ1 H1 h1 ds vs x1 R1 rd E1 p1 => ?_⟩
  split at p1
  · rename_i hl
    have hlv : vs.length = (ad.fn cN).length := by rw [← rd.length, hl, hn]
    refine ⟨by have := ad.le cN; omega, fun a ha => ⟨a, vs, by rw [List.append_nil], hlv, upd_same, fun d H2 gs hd hne e2 hfs => ⟨rfl, d, gs, by rw [e2, upd_same], by rw [e2, upd_ne hne, upd_same], ?_, ?_⟩⟩⟩
    · rw [upd_ne hne] at hd; exact hd
    · have hd1 : H1 d = none := by rw [upd_ne hne] at hd; exact hd
      have eH : upd (del H2 a) d (.xd gs) = upd H1 d (.xd gs) := by
        funext b
        by_cases hb : b = d
        · rw [hb, upd_same, upd_same]
        · rw [upd_ne hb, upd_ne hb]
          by_cases hba : b = a
          · rw [hba, del_same, ha]
          · rw [del_ne hba, e2, upd_ne hba, upd_ne hb, upd_ne hba]
      rw [eH]
      have kk := keep_upd (o := .xd gs) hd1
      refine p1 φ1 _ σ _ _ (Ext.same kk) (R1.same kk) (E1.ext (Ext.same kk)) ⟨rfl, d, gs, vs, rfl, upd_same, rd.ext (Ext.same kk), hfs⟩
  · exact p1.elim

/-! ### try: .. except C as e: return .. -/
/-- in the suite: the slot of the name holds the exception -/
def tX (ad : Gm) (K : PySem.W.Frag) (i : Nat) (a : Addr) (cls : Value) (d : Option Addr) (x : Xn) (f : EF D) : TE := fun σ H Q => ∃ φ h ρ, Rel ad K φ H h ∧ RelE ad K φ H ρ σ ∧ σ[i]? = some (some (.ref a)) ∧ RelX ad K φ H x cls d ∧ Post ad K (RelD ad K) φ H (f ρ h) Q (fun _ _ _ => False)
def tXA (ad : Gm) (K : PySem.W.Frag) (i : Nat) (a : Addr) (cls : Value) (d : Option Addr) (x : Xn) (f : EF (List D)) : TA := fun σ H Q => ∃ φ h ρ, Rel ad K φ H h ∧ RelE ad K φ H ρ σ ∧ σ[i]? = some (some (.ref a)) ∧ RelX ad K φ H x cls d ∧ Post ad K (RelDs ad K) φ H (f ρ h) Q (fun _ _ _ => False)
theorem RelX.ext {K : PySem.W.Frag} {φ φ' : List Addr} {H H' : Hp} {x : Xn} {cls : Value} {d : Option Addr} (e : Ext φ H φ' H') (q : RelX ad K φ H x cls d) (k : ∀ dd gs, H dd = some (.xd gs) → H' dd = some (.xd gs)) : RelX ad K φ' H' x cls d := by
  obtain ⟨h1, a, gs, vs, h2, h3, h4, h5⟩ := q
  exact ⟨h1, a, gs, vs, h2, k _ _ h3, h4.ext e, h5⟩
theorem OR.notXd {K : PySem.W.Frag} {φ : List Addr} {H : Hp} {a : Addr} {o : O} {gs : List (Str × V)} (r : OR ad K φ H a o) : H a ≠ some (.xd gs) := fun z => by
  cases o with
  | lst l => obtain ⟨xs, h1, h2⟩ := r; rw [z] at h1; cases h1
  | rl l => obtain ⟨ob, xs, h1, h2⟩ := r; rw [z] at h1; cases h1
  | ins c ds => obtain ⟨dx, gs, h1, h2, h3⟩ := r; rw [z] at h1; cases h1
  | dk kvs => obtain ⟨ws, h1, h2⟩ := r; rw [z] at h1; cases h1
theorem RelX.on {K : PySem.W.Frag} {φ φ' : List Addr} {H H' : Hp} {h : MH} {x : Xn} {cls : Value} {d : Option Addr} (R : Rel ad K φ H h) (e : Ext φ H φ' H') (q : RelX ad K φ H x cls d) : RelX ad K φ' H' x cls d := by
  refine q.ext e fun dd gs z => e.out _ _ z fun m => ?_
  obtain ⟨n, en⟩ := List.getElem?_of_mem m
  have hn : n < h.length := by rw [← R.len]; exact (List.getElem?_eq_some_iff.mp en).1
  obtain ⟨b, h1, h2⟩ := R.obj n _ (List.getElem?_eq_getElem hn)
  rw [en] at h1; cases h1
  exact h2.notXd z
section
variable {i : Nat} {a : Addr} {cls : Value} {d : Option Addr} {xx : Xn}
theorem xe_of (h : PE X e (tE ad X.K NoW fa)) : PE X e (tX ad X.K i a cls d xx fa) := h.weak fun σ H Q ⟨φ, h, ρ, R, E, _, _, p⟩ => ⟨φ, h, ρ, R, E, p⟩
theorem xa_nil : PA X [] (tXA ad X.K i a cls d xx fNil) := pa_nil.weak fun σ H Q ⟨φ, h, ρ, R, E, _, _, p⟩ => p.now R .nil
theorem xa_cons (ha : PE X e (tX ad X.K i a cls d xx fa)) (hr : PA X es (tXA ad X.K i a cls d xx fs)) (hs : starEach (e :: es) X.env = (false, eval e X.env) :: starEach es X.env := by rfl) : PA X (e :: es) (tXA ad X.K i a cls d xx (fCons fa fs)) := by
  refine (pa_cons ha hr hs).weak fun σ H Q ⟨φ, h, ρ, R, E, s, rx, p⟩ => ⟨φ, h, ρ, R, E, s, rx, p.bind fun φ1 H1 h1 d v x1 R1 rd p1 => ?_⟩
  refine ⟨φ1, h1, ρ, R1, E.ext x1, s, rx.on R x1, p1.bind fun φ2 H2 h2 ds vs x2 R2 rds p2 => ?_⟩
  exact p2.now R2 (.cons (rd.ext x2) rds)
theorem xe_tup {k : Nat} (ha : PA X es (tXA ad X.K i a cls d xx fs)) : PE X (.Tuple es k pos) (tX ad X.K i a cls d xx (fTup fs)) := by
  refine (pe_tup ha).weak fun σ H Q ⟨φ, h, ρ, R, E, s, rx, p⟩ => ⟨φ, h, ρ, R, E, s, rx, p.bind fun φ1 H1 h1 ds vs x1 R1 rd p1 => ?_⟩
  split at p1
  · rename_i z
    exact ⟨by rw [sizeLine_eq, ← rd.length]; exact z, fun a ha => p1.newT R1 rd ha⟩
  · exact p1.elim
/-- e.f -/
def fXf (x : Xn) (j : Nat) : EF D := fun _ h => match x.ds[j]? with
  | some d => .ok d h
  | none => .bad
theorem xe_fld {oe : Obj} {pn : List (Addr × Obj)} {y : Str} {p2 : Pos} {j : Nat} (T : XfC X.K (ad xx.c)) (hno : PySem.W.findIn X.K (.ref (ad xx.c)) y = some none) (hj : (ad.fn xx.c)[j]? = some y)
    (hz : Zc cls d oe) (hf : ∃ vs, oe.data = .fields vs) (hN : X.N[i]? = some x) (hv : Vis X.env.scope x) (hdb : (x == ("__debug__" : Str)) = false := by decide) (hcd : (x == ("__classdict__" : Str)) = false := by decide)
    (hb : attributeBase (.Name x p2) y X.env (eval (.Name x p2) X.env) = eval (.Name x p2) X.env := by rfl) : PE (X.suite a ((a, oe) :: pn)) (.Attribute (.Name x p2) y pos) (tX ad X.K i a cls d xx (fXf xx j)) := by
  refine (pe_xf T hno hz hf (pe_var (X := X.suite a ((a, oe) :: pn)) hN hv hdb hcd) hb).weak fun σ H Q ⟨φ, h, ρ, R, E, s, rx, pp⟩ => ?_
  refine ⟨.ref a, s, rfl, rx.1, ?_⟩
  obtain ⟨h1, dd, gs, vs, h2, h3, h4, h5⟩ := rx
  unfold fXf at pp
  split at pp
  · rename_i y' hy
    obtain ⟨v, h6, h7⟩ := h4.get hy
    exact ⟨dd, gs, v, h2, h3, h5 _ _ _ hj h6, pp.now R h7⟩
  · exact pp.elim
end
/-- the suite is one return -/
def sTry (i : Nat) (cs : List Nat) (s : SF) (fx : Xn → EF D) : SF := fun ρ h => match s ρ h with
  | .exc x ρ' h' => if x.c ∈ cs ∧ i < ρ'.length then (match fx x (ρ'.set i none) h' with
    | .ok d h'' => .ok (.rt d) ρ' h''
    | _ => .bad) else .bad
  | r => r
theorem rs_try {cv : Value} {y : Str} {np pos' rpos : Pos} {body : List Stmt} {s : SF} {fx : Xn → EF D} {cs : List Nat} (hst : X.stack = X.env :: X.outer) (hfr : X.env.frame = some X.env.locals) (hN : X.N.Nodup) (hi : X.N[i]? = some y) (hln : X.env.kindOf y = some .local) (hc : Names X x cv) (tk : Takes X W)
    (hcs : ∀ c ∈ cs, PySem.W.exmOne X.K (.ref (ad c)) cv = some true)
    (hb : ∀ (W' : WX) (pn : List (Addr × Obj)) (xe : Value → Shared → Prop), Takes (X.tr pn xe) W' → PassesOwn (model X.prog X.w) X.A X.env xe → PSs (X.tr pn xe) body (tS ad X.K W' s))
    (hsu : ∀ (a : Addr) (oe : Obj) (cls : Value) (d : Option Addr) (pn : List (Addr × Obj)) (xx : Xn), xx.c ∈ cs → Zc cls d oe → (∃ vs, oe.data = .fields vs) → PE (X.suite a ((a, oe) :: pn)) e (tX ad X.K i a cls d xx (fx xx))) :
    PS X (.Try body [.ExceptHandler (some (.Name x np)) (some y) [.Return (some e) rpos] pos'] [] [] pos) (tS ad X.K W (sTry i cs s fx)) := by
  have ts : ∀ (a : Addr) (oe : Obj) (cls : Value) (d : Option Addr) (pn : List (Addr × Obj)), Zc cls d oe → (∃ vs, oe.data = .fields vs) → PSs (X.suite a ((a, oe) :: pn)) [.Return (some e) rpos] (fun Dn σ H => ∃ xx : Xn, xx.c ∈ cs ∧ tX ad X.K i a cls d xx (fx xx) σ H Dn.rt) := by
    intro a oe cls d pn hz hf
    refine pss_one ⟨fun pins s0 σ H Dn I ⟨xx, hxx, q⟩ => (ps_ret (hsu a oe cls d pn xx hxx hz hf)).run pins s0 σ H Dn I q⟩
  refine (ps_try_as (ts := fun a cls d Dn σ H => ∃ xx : Xn, xx.c ∈ cs ∧ tX ad X.K i a cls d xx (fx xx) σ H Dn.rt) hst hfr hN hi hln hc tk hb ts).weak fun Dn σ H ⟨φ, h, ρ, R, E, p⟩ => ⟨φ, h, ρ, R, E, ?_⟩
  unfold sTry at p
  have hil : i < X.N.length := (List.getElem?_eq_some_iff.mp hi).1
  split at p
  · rename_i xx ρ' h' q
    split at p
    · rename_i hx
      split at p
      · rename_i d0 h'' q2
        rw [q]
        intro φ' H' σ' cls dd x' R' E' rx
        refine ⟨true, by rw [rx.1]; exact hcs _ hx.1, fun _ a ha => ⟨xx, hx.1, ?_⟩, fun z => by cases z⟩
        have hlt : i < σ'.length := by rw [← E'.1]; exact hx.2
        refine ⟨φ', h', ρ'.set i none, R', ⟨by simp [E'.1], fun j d1 hj => ?_⟩, List.getElem?_set_self hlt, rx, ?_⟩
        · by_cases hji : j = i
          · subst hji
            rw [List.getElem?_set_self hx.2] at hj; cases hj
          · rw [List.getElem?_set_ne (Ne.symm hji)] at hj
            obtain ⟨v, h1, h2⟩ := E'.2 j d1 hj
            exact ⟨v, by rw [List.getElem?_set_ne (Ne.symm hji)]; exact h1, h2⟩
        · rw [q2]
          exact fun φ2 H2 v x2 R2 rd => p φ2 H2 v (x'.trans x2) R2 rd
      · exact p.elim
    · exact p.elim
  · rename_i q
    have e0 : PostS ad X.K (wAs X.K cv i (fun a cls d Dn σ H => ∃ xx : Xn, xx.c ∈ cs ∧ tX ad X.K i a cls d xx (fx xx) σ H Dn.rt) W Dn) φ H (s ρ h) Dn := by
      cases hr : s ρ h with
      | ok f ρ' h' => rw [hr] at p; cases f <;> exact p
      | exc x ρ' h' => exact absurd hr (by intro z; exact q _ _ _ z)
      | bad => rw [hr] at p; exact p
    exact e0
end
end Mp
set_option Elab.async false
set_option linter.all false
set_option maxRecDepth 100000
set_option maxHeartbeats 2000000
namespace Mp
open PySem PySem.Spec PyProof.Rows L2

theorem OpR.or {X : Cx} {f : Value → Value → Sem Value} {r r' : R2} (h : OpR X f r) (h' : OpR X f r') : OpR X f (fun x y H Q => r x y H Q ∨ r' x y H Q) := fun pins s σ H x y v u Q I rx ry q => q.elim (h pins s σ H x y v u Q I rx ry) (h' pins s σ H x y v u Q I rx ry)

/-! ### + - * // % ** -/
def mutOf (h : MH) (n : Nat) : Option (List D) := match h[n]? with
  | some (.lst l) => some l
  | _ => none
theorem mutOf_at {h : MH} {n : Nat} {l : List D} (e : mutOf h n = some l) : h[n]? = some (.lst l) := by
  unfold mutOf at e
  split at e
  · rename_i l' q; cases e; exact q
  · cases e
def gAdd : D → D → MH → R D := fun d e h => match d, e with
  | .int i, .int j => .ok (.int (i + j)) h
  | .str x, .str y => if x.length + y.length ≤ 16777216 then .ok (.str (x ++ y)) h else .bad
  | .ref n, .ref m => match mutOf h n, mutOf h m with
    | some l, some k => if l.length + k.length ≤ 16777216 then .ok (.ref h.length) (h ++ [.lst (l ++ k)]) else .bad
    | _, _ => .bad
  | _, _ => .bad
def gSub : D → D → MH → R D := fun d e h => match d, e with
  | .int i, .int j => .ok (.int (i - j)) h
  | _, _ => .bad
def gMul : D → D → MH → R D := fun d e h => match d, e with
  | .int i, .int j => if (-(2 ^ 64) < i ∧ i < 2 ^ 64) ∨ (-(2 ^ 64) < j ∧ j < 2 ^ 64) then .ok (.int (i * j)) h else .bad
  | _, _ => .bad
def gFdiv : D → D → MH → R D := fun d e h => match d, e with
  | .int i, .int j => if 0 < j ∧ j < 1073741824 then .ok (.int (i / j)) h else .bad
  | _, _ => .bad
def gMod : D → D → MH → R D := fun d e h => match d, e with
  | .int i, .int j => if 0 < j then .ok (.int (i % j)) h else .bad
  | _, _ => .bad
def gPow : D → D → MH → R D := fun d e h => match d, e with
  | .int i, .int j => if 0 ≤ j ∧ j ≤ 1000000 ∧ i.natAbs < 2 ^ 64 then .ok (.int (i ^ j.toNat)) h else .bad
  | _, _ => .bad
section
variable {X : Cx} {ad : Gm} {W : WX}
theorem or_add : OpR X (binaryOp .Add) (fun x y H Q => rI0 (fun i j => .int (i + j)) x y H Q ∨ (∃ i j, x = .str i ∧ y = .str j ∧ i.length + j.length ≤ sizeLine ∧ Q (.str (i ++ j)) H) ∨ rCat x y H Q) := OpR.or op_add (OpR.or op_add_str op_cat)
theorem ov_add : OpV ad X.K (fun x y H Q => rI0 (fun i j => .int (i + j)) x y H Q ∨ (∃ i j, x = .str i ∧ y = .str j ∧ i.length + j.length ≤ sizeLine ∧ Q (.str (i ++ j)) H) ∨ rCat x y H Q) gAdd := by
  intro φ H h d e v u Q E R rd re p
  unfold gAdd at p
  split at p
  · cases rd; cases re; exact .inl ⟨_, _, rfl, rfl, p.now R (.int _)⟩
  · split at p
    · rename_i z
      cases rd; cases re
      exact .inr (.inl ⟨_, _, rfl, rfl, by rw [sizeLine_eq]; exact z, p.now R (.str _)⟩)
    · exact p.elim
  · split at p
    · rename_i l k e1 e2
      split at p
      · rename_i z
        obtain ⟨a, xs, h1, h2, h3, h4⟩ := R.lst rd (mutOf_at e1)
        obtain ⟨b, ys, j1, j2, j3, j4⟩ := R.lst re (mutOf_at e2)
        exact .inr (.inr ⟨a, b, xs, ys, h1, j1, h3, j3, by rw [sizeLine_eq, ← h4.length, ← j4.length]; exact z, fun q hq => p.newL R (h4.append j4) hq⟩)
      · exact p.elim
    · exact p.elim
  · exact p.elim
theorem ov_sub : OpV ad X.K (rI0 fun i j => .int (i - j)) gSub := by
  intro φ H h d e v u Q E R rd re p
  unfold gSub at p
  split at p
  · cases rd; cases re; exact ⟨_, _, rfl, rfl, p.now R (.int _)⟩
  · exact p.elim
theorem ov_mul : OpV ad X.K (rI CMul fun i j => .int (i * j)) gMul := by
  intro φ H h d e v u Q E R rd re p
  unfold gMul at p
  split at p
  · split at p
    · rename_i z
      cases rd; cases re; exact ⟨_, _, rfl, rfl, z, p.now R (.int _)⟩
    · exact p.elim
  · exact p.elim
theorem ov_fdiv : OpV ad X.K (rI CDiv fun i j => .int (i / j)) gFdiv := by
  intro φ H h d e v u Q E R rd re p
  unfold gFdiv at p
  split at p
  · split at p
    · rename_i z
      cases rd; cases re; exact ⟨_, _, rfl, rfl, z, p.now R (.int _)⟩
    · exact p.elim
  · exact p.elim
theorem ov_mod : OpV ad X.K (rI (fun _ j => 0 < j) fun i j => .int (i % j)) gMod := by
  intro φ H h d e v u Q E R rd re p
  unfold gMod at p
  split at p
  · split at p
    · rename_i z
      cases rd; cases re; exact ⟨_, _, rfl, rfl, z, p.now R (.int _)⟩
    · exact p.elim
  · exact p.elim
theorem ov_pow : OpV ad X.K (rI CPow fun i j => .int (i ^ j.toNat)) gPow := by
  intro φ H h d e v u Q E R rd re p
  unfold gPow at p
  split at p
  · split at p
    · rename_i z
      cases rd; cases re; exact ⟨_, _, rfl, rfl, z, p.now R (.int _)⟩
    · exact p.elim
  · exact p.elim
def gNeg : D → MH → R D := fun d h => match d with
  | .int i => .ok (.int (-i)) h
  | _ => .bad
theorem uv_neg : UnV ad X.K (rU fun i => .int (-i)) gNeg := by
  intro φ H h d v Q E R rd p
  unfold gNeg at p
  split at p
  · cases rd; exact ⟨_, rfl, p.now R (.int _)⟩
  · exact p.elim

/-! ### < <= > >= of ints, of texts -/
def strLt (x y : Str) : Bool := decide (x.cps.toList < y.cps.toList)
def gLt : D → D → MH → R D := fun d e h => match d, e with
  | .int i, .int j => .ok (.bl (decide (i < j))) h
  | .str x, .str y => .ok (.bl (strLt x y)) h
  | _, _ => .bad
def gLe : D → D → MH → R D := fun d e h => match d, e with
  | .int i, .int j => .ok (.bl (decide (i ≤ j))) h
  | .str x, .str y => .ok (.bl (!strLt y x)) h
  | _, _ => .bad
def gGt : D → D → MH → R D := fun d e h => match d, e with
  | .int i, .int j => .ok (.bl (decide (j < i))) h
  | .str x, .str y => .ok (.bl (strLt y x)) h
  | _, _ => .bad
def gGe : D → D → MH → R D := fun d e h => match d, e with
  | .int i, .int j => .ok (.bl (decide (j ≤ i))) h
  | .str x, .str y => .ok (.bl (!strLt x y)) h
  | _, _ => .bad
abbrev rIS (g : Int → Int → V) (f : Str → Str → V) : R2 := fun x y H Q => rI0 g x y H Q ∨ (∃ i j, x = .str i ∧ y = .str j ∧ Q (f i j) H)
theorem or_lt : OpR X (compareOp .Lt) (rIS (fun i j => .bl (decide (i < j))) fun i j => .bl (decide (i.cps.toList < j.cps.toList))) := OpR.or op_lt op_lt_str
theorem or_le : OpR X (compareOp .LtE) (rIS (fun i j => .bl (decide (i ≤ j))) fun i j => .bl (!decide (j.cps.toList < i.cps.toList))) := OpR.or op_le op_le_str
theorem or_gt : OpR X (compareOp .Gt) (rIS (fun i j => .bl (decide (j < i))) fun i j => .bl (decide (j.cps.toList < i.cps.toList))) := OpR.or op_gt op_gt_str
theorem or_ge : OpR X (compareOp .GtE) (rIS (fun i j => .bl (decide (j ≤ i))) fun i j => .bl (!decide (i.cps.toList < j.cps.toList))) := OpR.or op_ge op_ge_str
theorem ov_lt : OpV ad X.K (rIS (fun i j => .bl (decide (i < j))) fun i j => .bl (decide (i.cps.toList < j.cps.toList))) gLt := by
  intro φ H h d e v u Q E R rd re p
  unfold gLt at p
  split at p
  · cases rd; cases re; exact .inl ⟨_, _, rfl, rfl, p.now R (.bl _)⟩
  · cases rd; cases re; exact .inr ⟨_, _, rfl, rfl, p.now R (.bl _)⟩
  · exact p.elim
theorem ov_le : OpV ad X.K (rIS (fun i j => .bl (decide (i ≤ j))) fun i j => .bl (!decide (j.cps.toList < i.cps.toList))) gLe := by
  intro φ H h d e v u Q E R rd re p
  unfold gLe at p
  split at p
  · cases rd; cases re; exact .inl ⟨_, _, rfl, rfl, p.now R (.bl _)⟩
  · cases rd; cases re; exact .inr ⟨_, _, rfl, rfl, p.now R (.bl _)⟩
  · exact p.elim
theorem ov_gt : OpV ad X.K (rIS (fun i j => .bl (decide (j < i))) fun i j => .bl (decide (j.cps.toList < i.cps.toList))) gGt := by
  intro φ H h d e v u Q E R rd re p
  unfold gGt at p
  split at p
  · cases rd; cases re; exact .inl ⟨_, _, rfl, rfl, p.now R (.bl _)⟩
  · cases rd; cases re; exact .inr ⟨_, _, rfl, rfl, p.now R (.bl _)⟩
  · exact p.elim
theorem ov_ge : OpV ad X.K (rIS (fun i j => .bl (decide (j ≤ i))) fun i j => .bl (!decide (i.cps.toList < j.cps.toList))) gGe := by
  intro φ H h d e v u Q E R rd re p
  unfold gGe at p
  split at p
  · cases rd; cases re; exact .inl ⟨_, _, rfl, rfl, p.now R (.bl _)⟩
  · cases rd; cases re; exact .inr ⟨_, _, rfl, rfl, p.now R (.bl _)⟩
  · exact p.elim

/-! ### is None; in -/
def gIsN : D → D → MH → R D := fun d e h => match e with
  | .non => .ok (.bl (match d with | .non => true | _ => false)) h
  | _ => .bad
def gNotN : D → D → MH → R D := fun d e h => match e with
  | .non => .ok (.bl (match d with | .non => false | _ => true)) h
  | _ => .bad
theorem ov_isN : OpV ad X.K (fun x y H Q => y = .non ∧ Q (.bl (decide (x = .non))) H) gIsN := by
  intro φ H h d e v u Q E R rd re p
  unfold gIsN at p
  split at p
  · cases re
    refine ⟨rfl, ?_⟩
    cases rd <;> exact p.now R (.bl _)
  · exact p.elim
theorem ov_notN : OpV ad X.K (fun x y H Q => y = .non ∧ Q (.bl (!decide (x = .non))) H) gNotN := by
  intro φ H h d e v u Q E R rd re p
  unfold gNotN at p
  split at p
  · cases re
    refine ⟨rfl, ?_⟩
    cases rd <;> exact p.now R (.bl _)
  · exact p.elim
/-- flat values, == of them -/
def flatD : D → Bool
  | .non => true
  | .bl _ => true
  | .int _ => true
  | .str _ => true
  | _ => false
def vOf : D → V
  | .non => .non
  | .bl b => .bl b
  | .int i => .int i
  | .str x => .str x
  | _ => .non
theorem RelD.flat {φ : List Addr} {H : Hp} {K : PySem.W.Frag} {d : D} {v : V} (f : flatD d = true) (r : RelD ad K φ H d v) : v = vOf d ∧ flatV v = true := by
  cases r <;> first | exact ⟨rfl, rfl⟩ | cases f
theorem RelDs.flat {φ : List Addr} {H : Hp} {K : PySem.W.Frag} : ∀ {ds : List D} {vs : List V}, ds.all flatD = true → RelDs ad K φ H ds vs → vs = ds.map vOf ∧ vs.all flatV = true
  | _, _, _, .nil => ⟨rfl, rfl⟩
  | d :: ds, v :: vs, f, .cons r t => by
    rw [List.all_cons, Bool.and_eq_true] at f
    obtain ⟨h1, h2⟩ := r.flat f.1
    obtain ⟨h3, h4⟩ := RelDs.flat f.2 t
    rw [List.map_cons, List.all_cons, h2, h4, h1, h3]
    exact ⟨rfl, rfl⟩
def itemsOf (h : MH) : D → Option (List D)
  | .ref n => listOf h n
  | .tup l => some l
  | _ => none
def inD (d : D) (l : List D) : Bool := l.any fun y => eqV (vOf y) (vOf d)
/-- a sign in a text; a flat value in a list, a tuple of these -/
def gIn (neg : Bool) : D → D → MH → R D := fun d e h => match d, e with
  | .str x, .str y => if x.cps.size = 1 then .ok (.bl (xor neg (decide ((x.cps.getD 0 0) ∈ y.cps.toList)))) h else .bad
  | d, e => match itemsOf h e with
    | some l => if flatD d = true ∧ l.all flatD = true then .ok (.bl (xor neg (inD d l))) h else .bad
    | none => .bad
theorem one_of {x : Str} (h : x.cps.size = 1) : x = ⟨#[x.cps.getD 0 0]⟩ := by
  obtain ⟨⟨l⟩⟩ := x
  match l, h with
  | [c], _ => rfl
abbrev rInA (K : PySem.W.Frag) (neg : Bool) : R2 := fun x y H Q => (∃ (c : Nat) (z : Str), x = .str ⟨#[c]⟩ ∧ y = .str z ∧ Q (.bl (xor neg (decide (c ∈ z.cps.toList)))) H) ∨ rIn K neg x y H Q
theorem or_in : OpR X (compareOp .In) (rInA X.K false) := by
  refine OpR.or (fun pins s σ H x y v u Q I rx ry ⟨c, z, h1, h2, q⟩ => op_in_sign pins s σ H x y v u Q I rx ry ⟨c, z, h1, h2, ?_⟩) op_in_seq
  simpa using q
theorem or_notIn : OpR X (compareOp .NotIn) (rInA X.K true) := by
  refine OpR.or (fun pins s σ H x y v u Q I rx ry ⟨c, z, h1, h2, q⟩ => op_notIn_sign pins s σ H x y v u Q I rx ry ⟨c, z, h1, h2, ?_⟩) op_notIn_seq
  simpa using q
theorem Rel.items {φ : List Addr} {H : Hp} {h : MH} (R : Rel ad X.K φ H h) {e : D} {u : V} {l : List D} (r : RelD ad X.K φ H e u) (q : itemsOf h e = some l) : ∃ p xs, u = .ref p ∧ (SqL X.K H p xs ∨ SqT X.K H p xs) ∧ RelDs ad X.K φ H l xs := by
  unfold itemsOf at q
  split at q
  · obtain ⟨a, xs, h1, _, h2, h3⟩ := R.listOf r q
    exact ⟨a, xs, h1, .inl h2, h3⟩
  · cases q
    cases r with
    | tup sq rds => exact ⟨_, _, rfl, .inr sq, rds⟩
  · cases q
theorem ov_in (neg : Bool) : OpV ad X.K (rInA X.K neg) (gIn neg) := by
  intro φ H h d e v u Q E R rd re p
  unfold gIn at p
  split at p
  · split at p
    · rename_i x y z
      cases rd; cases re
      exact .inl ⟨_, _, by rw [← one_of z], rfl, p.now R (.bl _)⟩
    · exact p.elim
  · split at p
    · rename_i l hl
      split at p
      · rename_i z
        obtain ⟨a, xs, h1, h2, h3⟩ := R.items re hl
        obtain ⟨f1, f2⟩ := rd.flat z.1
        obtain ⟨f3, f4⟩ := RelDs.flat z.2 h3
        have pp := p.now R (.bl _)
        have ei : inV v xs = inD d l := by rw [f1, f3]; unfold inV inD; rw [List.any_map]; rfl
        refine .inr ⟨a, xs, h1, h2, f2, f4, ?_⟩
        rw [ei]
        cases neg
        · simpa using pp
        · simpa using pp
      · exact p.elim
    · exact p.elim
end
end Mp
set_option Elab.async false
set_option linter.all false
set_option maxRecDepth 100000
set_option maxHeartbeats 2000000
namespace Mp
open PySem PySem.Spec PyProof.Rows L2 PySem.W

/-! ### a value as data -/
mutual
def pd (h : MH) : Nat → D → Option PyData
  | _, .non => some .none
  | _, .bl b => some (.bool b)
  | _, .int i => some (.int i)
  | _, .str x => some (.str x)
  | 0, _ => none
  | n + 1, .tup l => (pdL h n l).map .tuple
  | n + 1, .ref m => match listOf h m with
    | some l => (pdL h n l).map .list
    | none => none
  | _, _ => none
def pdL (h : MH) : Nat → List D → Option (List PyData)
  | _, [] => some []
  | n, d :: ds => match pd h n d, pdL h n ds with
    | some p, some ps => some (p :: ps)
    | _, _ => none
end
section
variable {X : Cx} {ad : Gm} {W : WX}
mutual
theorem pd_dp {φ : List Addr} {H : Hp} {h : MH} (R : Rel ad X.K φ H h) : ∀ (n : Nat) (d : D) (v : V) (p : PyData), RelD ad X.K φ H d v → pd h n d = some p → Dp X.K H v p
  | _, .non, _, _, r, e => by cases r; unfold pd at e; cases e; exact .non
  | _, .bl b, _, _, r, e => by cases r; unfold pd at e; cases e; exact .bl b
  | _, .int i, _, _, r, e => by cases r; unfold pd at e; cases e; exact .int i
  | _, .str x, _, _, r, e => by cases r; unfold pd at e; cases e; exact .str x
  | 0, .tup l, _, _, r, e => by unfold pd at e; cases e
  | n + 1, .tup l, _, _, r, e => by
    unfold pd at e
    cases q : pdL h n l with
    | none => rw [q] at e; cases e
    | some ps =>
      rw [q] at e; cases e
      cases r with
      | tup sq rds => exact .tup sq (pdL_dp R n l _ ps rds q)
  | 0, .ref m, _, _, r, e => by unfold pd at e; cases e
  | n + 1, .ref m, v, _, r, e => by
    unfold pd at e
    cases q : listOf h m with
    | none => rw [q] at e; cases e
    | some l =>
      rw [q] at e
      dsimp only at e
      cases q2 : pdL h n l with
      | none => rw [q2] at e; cases e
      | some ps =>
        rw [q2] at e; cases e
        obtain ⟨a, xs, h1, _, h2, h3⟩ := R.listOf r q
        subst h1
        exact .lst h2 (pdL_dp R n l _ ps h3 q2)
  | 0, .obj m, _, _, r, e => by unfold pd at e; cases e
  | n + 1, .obj m, _, _, r, e => by unfold pd at e; cases e
  | 0, .ty m, _, _, r, e => by unfold pd at e; cases e
  | n + 1, .ty m, _, _, r, e => by unfold pd at e; cases e
theorem pdL_dp {φ : List Addr} {H : Hp} {h : MH} (R : Rel ad X.K φ H h) : ∀ (n : Nat) (ds : List D) (vs : List V) (ps : List PyData), RelDs ad X.K φ H ds vs → pdL h n ds = some ps → DpAll X.K H vs ps
  | _, [], _, _, r, e => by cases r; unfold pdL at e; cases e; exact .nil
  | n, d :: ds, _, _, r, e => by
    unfold pdL at e
    split at e
    · rename_i p ps q1 q2
      cases e
      cases r with
      | cons r t => exact .cons (pd_dp R n d _ p r q1) (pdL_dp R n ds _ ps t q2)
    · cases e
end
/-- how deep what is compared may be -/
def dpt : Nat := 8
def pdS (h : MH) (d : D) : Option PyData := match pd h dpt d with
  | some p => if SeqAt.shaped p = true then some p else none
  | none => none
theorem pdS_ok {φ : List Addr} {H : Hp} {h : MH} (R : Rel ad X.K φ H h) {d : D} {v : V} {p : PyData} (r : RelD ad X.K φ H d v) (e : pdS h d = some p) : Dp X.K H v p ∧ SeqAt.shaped p = true := by
  unfold pdS at e
  split at e
  · rename_i p' q
    split at e
    · rename_i s; cases e; exact ⟨pd_dp R _ _ _ _ r q, s⟩
    · cases e
  · cases e
/-- == -/
def sameS : D → D → Option Bool
  | .int i, .int j => some (decide (i = j))
  | .str x, .str y => some (decide (x = y))
  | .bl a, .bl b => some (decide (a = b))
  | _, _ => none
def eqRes (d e : D) (h : MH) : Option Bool := match sameS d e with
  | some b => some b
  | none => match pdS h d, pdS h e with
    | some p, some q => some (PyData.eqv p q)
    | _, _ => none
def gEq : D → D → MH → R D := fun d e h => match eqRes d e h with
  | some b => .ok (.bl b) h
  | none => .bad
def gNe : D → D → MH → R D := fun d e h => match eqRes d e h with
  | some b => .ok (.bl (!b)) h
  | none => .bad
abbrev rEqA (K : PySem.W.Frag) : R2 := fun x y H Q => rEq x y H Q ∨ rEqD K x y H Q
abbrev rNeA (K : PySem.W.Frag) : R2 := fun x y H Q => rNe x y H Q ∨ rNeD K x y H Q
theorem or_eq (hu : X.A.units + 64 < cLine) : OpR X (compareOp .Eq) (rEqA X.K) := OpR.or op_eq (op_eqD hu)
theorem or_ne (hu : X.A.units + 64 < cLine) : OpR X (compareOp .NotEq) (rNeA X.K) := OpR.or op_ne (op_neD hu)
theorem sameS_ok {φ : List Addr} {H : Hp} {d e : D} {v u : V} {b : Bool} (rd : RelD ad X.K φ H d v) (re : RelD ad X.K φ H e u) (q : sameS d e = some b) : scal v u = true ∧ decide (v = u) = b := by
  unfold sameS at q
  split at q
  · cases rd; cases re; cases q; exact ⟨rfl, by simp⟩
  · cases rd; cases re; cases q; exact ⟨rfl, by simp⟩
  · cases rd; cases re; cases q; exact ⟨rfl, by simp⟩
  · cases q
theorem ov_eq : OpV ad X.K (rEqA X.K) gEq := by
  intro φ H h d e v u Q E R rd re p
  unfold gEq at p
  split at p
  · rename_i b q
    unfold eqRes at q
    split at q
    · rename_i b' q2
      cases q
      obtain ⟨h1, h2⟩ := sameS_ok rd re q2
      exact .inl ⟨h1, by rw [h2]; exact p.now R (.bl _)⟩
    · split at q
      · rename_i p1 p2 q1 q2
        cases q
        obtain ⟨a1, a2⟩ := pdS_ok R rd q1
        obtain ⟨b1, b2⟩ := pdS_ok R re q2
        exact .inr ⟨_, _, a1, b1, a2, b2, p.now R (.bl _)⟩
      · cases q
  · exact p.elim
theorem ov_ne : OpV ad X.K (rNeA X.K) gNe := by
  intro φ H h d e v u Q E R rd re p
  unfold gNe at p
  split at p
  · rename_i b q
    unfold eqRes at q
    split at q
    · rename_i b' q2
      cases q
      obtain ⟨h1, h2⟩ := sameS_ok rd re q2
      exact .inl ⟨h1, by rw [h2]; exact p.now R (.bl _)⟩
    · split at q
      · rename_i p1 p2 q1 q2
        cases q
        obtain ⟨a1, a2⟩ := pdS_ok R rd q1
        obtain ⟨b1, b2⟩ := pdS_ok R re q2
        exact .inr ⟨_, _, a1, b1, a2, b2, p.now R (.bl _)⟩
      · cases q
  · exact p.elim
/-- < > of data that are alike -/
def cmpD (d e : D) (h : MH) : Option (PyData × PyData) := match pdS h d, pdS h e with
  | some p, some q => if alike p q = true ∧ alike q p = true ∧ keyToks p ≠ [] ∧ p.depth ≤ 64 then some (p, q) else none
  | _, _ => none
def gGtD : D → D → MH → R D := fun d e h => match cmpD d e h with
  | some (p, q) => .ok (.bl (dataLt q p)) h
  | none => gGt d e h
def gLtD : D → D → MH → R D := fun d e h => match cmpD d e h with
  | some (p, q) => .ok (.bl (dataLt p q)) h
  | none => gLt d e h
def rCmpD (K : PySem.W.Frag) (f : PyData → PyData → Bool) : R2 := fun x y H Q => ∃ p q, Dp K H x p ∧ Dp K H y q ∧ alike p q = true ∧ p ≠ .none ∧ p.depth ≤ 64 ∧ Q (.bl (f p q)) H
theorem op_gtD (hu : X.A.units + 64 < cLine) : OpR X (compareOp .Gt) (rCmpD X.K fun p q => dataLt q p) := by
  rintro pins s σ H x y v u Q I rx ry ⟨p, q, d1, d2, al, ne, dp, qq⟩
  obtain ⟨as, r1⟩ := Dp.reads I p x v d1 rx
  obtain ⟨bs, r2⟩ := Dp.reads I q y u d2 ry
  exact gt_data r1 r2 al ne (by omega) ⟨.bl _, H, I, rfl, qq⟩
theorem op_ltD (hu : X.A.units + 64 < cLine) : OpR X (compareOp .Lt) (rCmpD X.K fun p q => dataLt p q) := by
  rintro pins s σ H x y v u Q I rx ry ⟨p, q, d1, d2, al, ne, dp, qq⟩
  obtain ⟨as, r1⟩ := Dp.reads I p x v d1 rx
  obtain ⟨bs, r2⟩ := Dp.reads I q y u d2 ry
  exact lt_data r1 r2 al ne (by omega) ⟨.bl _, H, I, rfl, qq⟩
theorem cmpD_ok {φ : List Addr} {H : Hp} {h : MH} (R : Rel ad X.K φ H h) {d e : D} {v u : V} {p q : PyData} (rd : RelD ad X.K φ H d v) (re : RelD ad X.K φ H e u) (c : cmpD d e h = some (p, q)) : Dp X.K H v p ∧ Dp X.K H u q ∧ alike p q = true ∧ p ≠ .none ∧ p.depth ≤ 64 := by
  unfold cmpD at c
  split at c
  · rename_i p1 p2 q1 q2
    split at c
    · rename_i z
      cases c
      refine ⟨(pdS_ok R rd q1).1, (pdS_ok R re q2).1, z.1, fun y => z.2.2.1 ?_, z.2.2.2⟩
      rw [y]; rfl
    · cases c
  · cases c
abbrev rGtA (K : PySem.W.Frag) : R2 := fun x y H Q => rCmpD K (fun p q => dataLt q p) x y H Q ∨ rIS (fun i j => .bl (decide (j < i))) (fun i j => .bl (decide (j.cps.toList < i.cps.toList))) x y H Q
abbrev rLtA (K : PySem.W.Frag) : R2 := fun x y H Q => rCmpD K (fun p q => dataLt p q) x y H Q ∨ rIS (fun i j => .bl (decide (i < j))) (fun i j => .bl (decide (i.cps.toList < j.cps.toList))) x y H Q
theorem or_gtD (hu : X.A.units + 64 < cLine) : OpR X (compareOp .Gt) (rGtA X.K) := OpR.or (op_gtD hu) or_gt
theorem or_ltD (hu : X.A.units + 64 < cLine) : OpR X (compareOp .Lt) (rLtA X.K) := OpR.or (op_ltD hu) or_lt
theorem ov_gtD : OpV ad X.K (rGtA X.K) gGtD := by
  intro φ H h d e v u Q E R rd re p
  unfold gGtD at p
  split at p
  · rename_i p1 p2 c
    obtain ⟨h1, h2, h3, h4, h5⟩ := cmpD_ok R rd re c
    exact .inl ⟨_, _, h1, h2, h3, h4, h5, p.now R (.bl _)⟩
  · exact .inr (ov_gt φ H h d e v u Q E R rd re p)
theorem ov_ltD : OpV ad X.K (rLtA X.K) gLtD := by
  intro φ H h d e v u Q E R rd re p
  unfold gLtD at p
  split at p
  · rename_i p1 p2 c
    obtain ⟨h1, h2, h3, h4, h5⟩ := cmpD_ok R rd re c
    exact .inl ⟨_, _, h1, h2, h3, h4, h5, p.now R (.bl _)⟩
  · exact .inr (ov_lt φ H h d e v u Q E R rd re p)

/-! ### subscripts -/
def gIx : D → D → MH → R D := fun d e h => match d, e with
  | .str x, .int i => if x.length ≤ 16777216 then (match atI x.cps.toList i with
    | some c => .ok (.str ⟨#[c]⟩) h
    | none => .bad) else .bad
  | d, .int i => match itemsOf h d with
    | some l => match atI l i with
      | some y => .ok y h
      | none => .bad
    | none => .bad
  | _, _ => .bad
theorem atI_rel {φ : List Addr} {H : Hp} {K : PySem.W.Frag} {l : List D} {xs : List V} {i : Int} {y : D} (r : RelDs ad K φ H l xs) (e : atI l i = some y) : ∃ v, atI xs i = some v ∧ RelD ad K φ H y v := by
  unfold atI at e ⊢
  rw [← r.length]
  cases q : ixN l.length i with
  | none => rw [q] at e; cases e
  | some j =>
    rw [q] at e
    exact r.get e
theorem ov_ix : OpV ad X.K (rIx X.K) gIx := by
  intro φ H h d e v u Q E R rd re p
  unfold gIx at p
  split at p
  · rename_i x i
    split at p
    · rename_i z
      split at p
      · rename_i c q
        cases rd; cases re
        exact .inr (.inr ⟨x, i, c, rfl, rfl, by rw [sizeLine_eq]; exact z, q, p.now R (.str _)⟩)
      · exact p.elim
    · exact p.elim
  · rename_i i hne
    split at p
    · rename_i l hl
      split at p
      · rename_i y q
        cases re
        obtain ⟨a, xs, h1, h2, h3⟩ := R.items rd hl
        obtain ⟨w, h4, h5⟩ := atI_rel h3 q
        rcases h2 with h2 | h2
        · exact .inl ⟨a, xs, i, w, h1, rfl, h2, h4, p.now R h5⟩
        · exact .inr (.inl ⟨a, xs, i, w, h1, rfl, h2, h4, p.now R h5⟩)
      · exact p.elim
    · exact p.elim
  · exact p.elim
theorem re_ix {a b : Expr} {pos : Pos} {fa fb : EF D} (ha : PE X a (tE ad X.K W fa)) (hb : PE X b (tE ad X.K W fb)) (hs : PlainIx b := by first | exact fun _ _ => rfl | (intro _ _; rfl)) : PE X (.Subscript a b pos) (tE ad X.K W (fOp gIx fa fb)) :=
  (pe_ix ix_seq ha hb hs).weak fun _ _ _ h => op_step ov_ix h
/-- o[i] = v, a list -/
def gSet : D → D → D → MH → R Unit := fun o i d h => match o, i with
  | .ref n, .int k => match mutOf h n with
    | some l => match ixN l.length k with
      | some j => .ok () (h.set n (.lst (l.set j d)))
      | none => .bad
    | none => .bad
  | _, _ => .bad
theorem sv_set : SetV ad X.K rSetL gSet := by
  intro φ H h o i d ov iv v Q E R ro ri rd p
  unfold gSet at p
  split at p
  · rename_i n k
    split at p
    · rename_i l hl
      split at p
      · rename_i j hj
        obtain ⟨a, xs, h1, h2, h3, h4⟩ := R.lst ro (mutOf_at hl)
        cases ri
        have x1 : Ext φ H φ (upd H a (.lst (xs.set j v))) := Ext.put (List.mem_of_getElem? h2) h3 trivial
        exact ⟨a, xs, k, j, h1, rfl, h3, by rw [← h4.length]; exact hj, p φ _ () x1 (R.put h2 h3 trivial ⟨_, upd_same, (h4.set rd j).ext x1⟩) trivial⟩
      · exact p.elim
    · exact p.elim
  · exact p.elim

/-! ### slices -/
def cutD (l : List D) (lo hi : Option Int) : List D := (l.drop (HT.sIx l.length 0 lo)).take (HT.sIx l.length l.length hi - HT.sIx l.length 0 lo)
def gSl : D → Option Int → Option Int → MH → R D := fun d lo hi h => match d with
  | .str x => if x.length ≤ 16777216 then .ok (.str (cutS x lo hi)) h else .bad
  | .ref n => match listOf h n with
    | some l => .ok (.ref h.length) (h ++ [.lst (cutD l lo hi)])
    | none => .bad
  | _ => .bad
abbrev EFo := Env → MH → R (Option Int)
def fNoP : EFo := fun _ h => .ok none h
def fPart (fa : EF D) : EFo := fun ρ h => (fa ρ h).bind fun d h => match d with
  | .int i => .ok (some i) h
  | _ => .bad
def fSl (fa : EF D) (fl fh : EFo) : EF D := fun ρ h => (fa ρ h).bind fun d h => (fl ρ h).bind fun l h => (fh ρ h).bind fun u h => gSl d l u h
def tO (ad : Gm) (K : PySem.W.Frag) (W : WX) (f : EFo) : TO := fun σ H Q => ∃ φ h ρ, Rel ad K φ H h ∧ RelE ad K φ H ρ σ ∧ Post ad K (fun _ _ a b => a = b) φ H (f ρ h) Q (fun c d H' => W c d σ H')
theorem _root_.L2.PO.weak {e : Option Expr} {t t' : TO} (p : PO X e t) (h : ∀ σ H Q, t' σ H Q → t σ H Q) : PO X e t' := ⟨fun pins s σ H Q I q => p.run pins s σ H Q I (h σ H Q q)⟩
theorem ro_none : PO X none (tO ad X.K W fNoP) := po_none.weak fun σ H Q ⟨φ, h, ρ, R, E, p⟩ => p.now R rfl
theorem ro_some {e : Expr} {fa : EF D} (he : PE X e (tE ad X.K W fa)) : PO X (some e) (tO ad X.K W (fPart fa)) := by
  refine (po_some he).weak fun σ H Q ⟨φ, h, ρ, R, E, p⟩ => ⟨φ, h, ρ, R, E, p.bind fun φ1 H1 h1 d v x1 R1 rd p1 => ?_⟩
  split at p1
  · cases rd; exact ⟨_, rfl, p1.now R1 rfl⟩
  · exact p1.elim
theorem SlR.or {r r' : V → Option Int → Option Int → Hp → VK → Prop} (h : SlR X r) (h' : SlR X r') : SlR X (fun x lo hi H Q => r x lo hi H Q ∨ r' x lo hi H Q) := fun pins s σ H x v vl vu lo hi sl Q I rx hs pl pu q => q.elim (h pins s σ H x v vl vu lo hi sl Q I rx hs pl pu) (h' pins s σ H x v vl vu lo hi sl Q I rx hs pl pu)
theorem RelDs.cut {φ : List Addr} {H : Hp} {K : PySem.W.Frag} {l : List D} {xs : List V} (r : RelDs ad K φ H l xs) (lo hi : Option Int) : RelDs ad K φ H (cutD l lo hi) (cutV xs lo hi) := by
  unfold cutD cutV
  rw [← r.length]
  exact (r.drop _).take _
theorem re_sl {a : Expr} {lo hi : Option Expr} {pos p2 : Pos} {fa : EF D} {fl fh : EFo} (ha : PE X a (tE ad X.K W fa)) (hl : PO X lo (tO ad X.K W fl)) (hh : PO X hi (tO ad X.K W fh)) : PE X (.Subscript a (.Slice lo hi none p2) pos) (tE ad X.K W (fSl fa fl fh)) := by
  refine (pe_slice (SlR.or sl_str sl_list) ha hl hh).weak fun σ H Q ⟨φ, h, ρ, R, E, p⟩ => ⟨φ, h, ρ, R, E, p.bind fun φ1 H1 h1 d v x1 R1 rd p1 => ?_⟩
  refine ⟨φ1, h1, ρ, R1, E.ext x1, p1.bind fun φ2 H2 h2 l l' x2 R2 el p2 => ?_⟩
  cases el
  refine ⟨φ2, h2, ρ, R2, (E.ext x1).ext x2, p2.bind fun φ3 H3 h3 u u' x3 R3 eu p3 => ?_⟩
  cases eu
  have rd3 := (rd.ext x2).ext x3
  unfold gSl at p3
  split at p3
  · split at p3
    · rename_i z
      cases rd3
      exact .inl ⟨_, rfl, by rw [sizeLine_eq]; exact z, p3.now R3 (.str _)⟩
    · exact p3.elim
  · split at p3
    · rename_i l0 hl0
      obtain ⟨a0, xs, j1, _, j2, j3⟩ := R3.listOf rd3 hl0
      exact .inr ⟨a0, xs, j1, j2, fun q hq => p3.newL R3 (j3.cut l u) hq⟩
    · exact p3.elim
  · exact p3.elim
/-- a[::-1], a list -/
def fRev (fa : EF D) : EF D := fun ρ h => (fa ρ h).bind fun d h => match d with
  | .ref n => match listOf h n with
    | some l => .ok (.ref h.length) (h ++ [.lst l.reverse])
    | none => .bad
  | _ => .bad
theorem re_rev {a : Expr} {k : Nat} {p1 p2 p3 pos : Pos} {fa : EF D} (ha : PE X a (tE ad X.K W fa)) : PE X (.Subscript a (.Slice none none (some (.UnaryOp .USub (.Constant (.int 1) k p1) p2)) p3) pos) (tE ad X.K W (fRev fa)) := by
  refine (pe_revL ha).weak fun σ H Q ⟨φ, h, ρ, R, E, p⟩ => ⟨φ, h, ρ, R, E, p.bind fun φ1 H1 h1 d v x1 R1 rd p1 => ?_⟩
  split at p1
  · split at p1
    · rename_i l0 hl0
      obtain ⟨a0, xs, j1, _, j2, j3⟩ := R1.listOf rd hl0
      exact ⟨a0, xs, j1, j2, fun q hq => p1.newL R1 j3.reverse hq⟩
    · exact p1.elim
  · exact p1.elim
end
end Mp
set_option Elab.async false
set_option linter.all false
set_option maxRecDepth 100000
set_option maxHeartbeats 2000000
namespace Mp
open PySem PySem.Spec PyProof.Rows L2 PySem.W

section
variable {X : Cx} {ad : Gm} {W : WX} {e o a : Expr} {es : List Expr} {pos apos p : Pos} {fa fo : EF D} {fs : EF (List D)}
theorem CallR.or {f : Value} {r r' : List V → Hp → VK → Prop} (h : CallR X f r) (h' : CallR X f r') : CallR X f (fun xs H Q => r xs H Q ∨ r' xs H Q) := fun pins s σ H xs us Q I rv q => q.elim (h pins s σ H xs us Q I rv) (h' pins s σ H xs us Q I rv)

/-! ### len, int, str, abs, min -/
def gLen : List D → MH → R D := fun ds h => match ds with
  | [.str x] => if x.length ≤ 16777216 then .ok (.int x.length) h else .bad
  | [d] => match itemsOf h d with
    | some l => .ok (.int l.length) h
    | none => .bad
  | _ => .bad
theorem cv_len : CallV ad X.K (fun xs H Q => ∃ x n, xs = [x] ∧ LenV X.K x H n ∧ Q (.int n) H) gLen := by
  intro φ H h ds vs Q E R rd p
  unfold gLen at p
  split at p
  · split at p
    · rename_i z
      cases rd with
      | cons r t => cases t; cases r; exact ⟨_, _, rfl, ⟨by rw [sizeLine_eq]; exact z, rfl⟩, p.now R (.int _)⟩
    · exact p.elim
  · split at p
    · rename_i l hl
      cases rd with
      | cons r t =>
        cases t
        obtain ⟨a, xs, h1, h2, h3⟩ := R.items r hl
        subst h1
        refine ⟨_, _, rfl, ?_, p.now R (.int _)⟩
        rcases h2 with h2 | h2
        · exact .inl ⟨xs, h2, h3.length⟩
        · exact .inr ⟨xs, h2, h3.length⟩
    · exact p.elim
  · exact p.elim
abbrev rIntA : List V → Hp → VK → Prop := fun xs H Q => ((∃ i, xs = [.int i] ∧ Q (.int i) H) ∨ ∃ k, xs = [.bl k] ∧ Q (.int (if k then 1 else 0)) H) ∨ ∃ a n, xs = [.str a] ∧ PySem.intText? a = some n ∧ a.length ≤ 640 ∧ Q (.int n) H
theorem cr_int : CallR X (.type "int") rIntA := CallR.or call_int1 call_int_str
def gInt : List D → MH → R D := fun ds h => match ds with
  | [.int i] => .ok (.int i) h
  | [.bl k] => .ok (.int (if k then 1 else 0)) h
  | [.str x] => if x.length ≤ 640 then (match PySem.intText? x with
    | some n => .ok (.int n) h
    | none => .bad) else .bad
  | _ => .bad
theorem cv_int : CallV ad X.K rIntA gInt := by
  intro φ H h ds vs Q E R rd p
  unfold gInt at p
  split at p
  · cases rd with
    | cons r t => cases t; cases r; exact .inl (.inl ⟨_, rfl, p.now R (.int _)⟩)
  · cases rd with
    | cons r t => cases t; cases r; exact .inl (.inr ⟨_, rfl, p.now R (.int _)⟩)
  · split at p
    · rename_i z
      split at p
      · rename_i n q
        cases rd with
        | cons r t => cases t; cases r; exact .inr ⟨_, n, rfl, q, z, p.now R (.int _)⟩
      · exact p.elim
    · exact p.elim
  · exact p.elim
abbrev rStrA : List V → Hp → VK → Prop := fun xs H Q => (∃ i, xs = [.int i] ∧ i.natAbs.log2 < 1920 ∧ Q (.str (toString i)) H) ∨ ∃ a, xs = [.str a] ∧ Q (.str a) H
theorem cr_str : CallR X (.type "str") rStrA := CallR.or call_str_int SkE.call_str_str
def gStr : List D → MH → R D := fun ds h => match ds with
  | [.int i] => if i.natAbs.log2 < 1920 then .ok (.str (toString i)) h else .bad
  | [.str x] => .ok (.str x) h
  | _ => .bad
theorem cv_str : CallV ad X.K rStrA gStr := by
  intro φ H h ds vs Q E R rd p
  unfold gStr at p
  split at p
  · split at p
    · rename_i z
      cases rd with
      | cons r t => cases t; cases r; exact .inl ⟨_, rfl, z, p.now R (.str _)⟩
    · exact p.elim
  · cases rd with
    | cons r t => cases t; cases r; exact .inr ⟨_, rfl, p.now R (.str _)⟩
  · exact p.elim
def gAbs : List D → MH → R D := fun ds h => match ds with
  | [.int i] => .ok (.int (if i < 0 then -i else i)) h
  | _ => .bad
theorem cv_abs : CallV ad X.K (fun xs H Q => ∃ i, xs = [.int i] ∧ Q (.int (if i < 0 then -i else i)) H) gAbs := by
  intro φ H h ds vs Q E R rd p
  unfold gAbs at p
  split at p
  · cases rd with
    | cons r t => cases t; cases r; exact ⟨_, rfl, p.now R (.int _)⟩
  · exact p.elim
def gMin2 : List D → MH → R D := fun ds h => match ds with
  | [.int i, .int j] => .ok (.int (if j < i then j else i)) h
  | _ => .bad
theorem cv_min2 : CallV ad X.K (fun xs H Q => ∃ i j, xs = [.int i, .int j] ∧ Q (.int (if j < i then j else i)) H) gMin2 := by
  intro φ H h ds vs Q E R rd p
  unfold gMin2 at p
  split at p
  · cases rd with
    | cons r t => cases t with
      | cons r2 t => cases t; cases r; cases r2; exact ⟨_, _, rfl, p.now R (.int _)⟩
  · exact p.elim

/-! ### isinstance of a built-in type -/
def tyOf (h : MH) : D → Option String
  | .non => some "NoneType"
  | .bl _ => some "bool"
  | .int _ => some "int"
  | .str _ => some "str"
  | .tup _ => some "tuple"
  | .ref n => match h[n]? with
    | some (.lst _) => some "list"
    | some (.rl _) => some "list"
    | some (.dk _) => some "dict"
    | _ => none
  | _ => none
def gIsi : List D → MH → R D := fun ds h => match ds with
  | [d, .ty n] => match tyOf h d with
    | some t => if n = "str" ∨ n = "list" then .ok (.bl (t == n)) h else .bad
    | none => .bad
  | _ => .bad
theorem kit_str {K : PySem.W.Frag} {t : String} (ht : t ∈ ["NoneType", "bool", "int", "str", "tuple", "list", "dict"]) : PySem.W.kitOne K (.type t) (.type "str") = some (t == "str") := by
  simp only [List.mem_cons, List.not_mem_nil, or_false] at ht
  rcases ht with h | h | h | h | h | h | h <;> subst h <;> first | rfl | decide +kernel
theorem kit_list {K : PySem.W.Frag} {t : String} (ht : t ∈ ["NoneType", "bool", "int", "str", "tuple", "list", "dict"]) : PySem.W.kitOne K (.type t) (.type "list") = some (t == "list") := by
  simp only [List.mem_cons, List.not_mem_nil, or_false] at ht
  rcases ht with h | h | h | h | h | h | h <;> subst h <;> first | rfl | decide +kernel
theorem tyOf_ok {φ : List Addr} {H : Hp} {h : MH} (R : Rel ad X.K φ H h) {d : D} {v : V} {t : String} (r : RelD ad X.K φ H d v) (e : tyOf h d = some t) : TyX X.K H v (.type t) ∧ t ∈ ["NoneType", "bool", "int", "str", "tuple", "list", "dict"] := by
  cases r with
  | non => cases e; exact ⟨.base .non, by simp⟩
  | bl b => cases e; exact ⟨.base (.bl b), by simp⟩
  | int i => cases e; exact ⟨.base (.int i), by simp⟩
  | str x => cases e; exact ⟨.base (.str x), by simp⟩
  | tup sq rds =>
    cases e
    refine ⟨?_, by simp⟩
    rcases sq with (h1 | ⟨ob, h1⟩) | ⟨ob, its, n, h1, h2, _⟩
    · exact .base (.tup h1)
    · exact .fTuple h1
    · exact .kTuple h1 h2
  | @ref n a q =>
    unfold tyOf at e
    dsimp only at e
    split at e
    · rename_i l hl
      cases e
      obtain ⟨a', xs, h1, h2, h3, h4⟩ := R.lst (RelD.ref q) hl
      cases h1
      exact ⟨.base (.lst h3), by simp⟩
    · rename_i l hl
      cases e
      obtain ⟨a', ob, xs, h1, h2, h3, h4⟩ := R.rl (RelD.ref q) hl
      cases h1
      exact ⟨.base (.frz h3), by simp⟩
    · rename_i l hl
      cases e
      obtain ⟨a', ws, h1, h2, h3, h4⟩ := R.dk (RelD.ref q) hl
      cases h1
      exact ⟨.base (.dK h3), by simp⟩
    · cases e
  | obj n => cases e
  | ty n => cases e
theorem cv_isi : CallV ad X.K (rIsi X.K) gIsi := by
  intro φ H h ds vs Q E R rd p
  unfold gIsi at p
  split at p
  · rename_i d n
    split at p
    · rename_i t ht
      split at p
      · rename_i z
        cases rd with
        | cons r tl => cases tl with
          | cons r2 tl =>
            cases tl; cases r2
            obtain ⟨h1, h2⟩ := tyOf_ok R r ht
            refine ⟨_, _, _, _, _, rfl, .ty n, h1, ?_, p.now R (.bl _)⟩
            rcases z with z | z
            · subst z; exact kit_str h2
            · subst z; exact kit_list h2
      · exact p.elim
    · exact p.elim
  · exact p.elim
theorem re_ty {x : Str} {n : String} (hg : Gl X x) (hm : X.mg x = none) (hv : bootBuiltins x = some (.type n)) (hn : x ≠ "__name__" := by decide) (hd : (x == ("__debug__" : Str)) = false := by decide) : PE X (.Name x pos) (tE ad X.K W (fC (.ty n))) :=
  re_c (pe_bltn (v := .ty n) hg hm hv rfl hn hd) fun _ _ => .ty n

/-! ### any, all of a list of bools; tuple(..), list(..) -/
def blsOf : List D → Option (List Bool)
  | [] => some []
  | .bl b :: l => (blsOf l).map (b :: ·)
  | _ => none
theorem blsOf_ok : ∀ {l : List D} {bs : List Bool}, blsOf l = some bs → l = bs.map D.bl
  | [], bs, h => by cases h; rfl
  | .bl b :: l, bs, h => by
    unfold blsOf at h
    cases q : blsOf l with
    | none => rw [q] at h; cases h
    | some cs => rw [q] at h; cases h; rw [blsOf_ok q]; rfl
  | .non :: l, bs, h => by cases h
  | .int _ :: l, bs, h => by cases h
  | .str _ :: l, bs, h => by cases h
  | .tup _ :: l, bs, h => by cases h
  | .ref _ :: l, bs, h => by cases h
  | .obj _ :: l, bs, h => by cases h
  | .ty _ :: l, bs, h => by cases h
def gQ (f : List Bool → Bool) : List D → MH → R D := fun ds h => match ds with
  | [.ref n] => match listOf h n with
    | some l => match blsOf l with
      | some bs => .ok (.bl (f bs)) h
      | none => .bad
    | none => .bad
  | _ => .bad
def gAny := gQ fun bs => bs.any id
def gAll := gQ fun bs => bs.all id
theorem gQ_ok {φ : List Addr} {H : Hp} {h : MH} {ds : List D} {vs : List V} {f : List Bool → Bool} {Q : VK} {E : XK} (R : Rel ad X.K φ H h) (rd : RelDs ad X.K φ H ds vs) (p : Post ad X.K (RelD ad X.K) φ H (gQ f ds h) Q E) : ∃ (a : Addr) (bs : List Bool), vs = [V.ref a] ∧ SqL X.K H a (bs.map V.bl) ∧ Q (.bl (f bs)) H := by
  unfold gQ at p
  split at p
  · rename_i n
    split at p
    · rename_i l hl
      split at p
      · rename_i bs hb
        cases rd with
        | cons r t =>
          cases t
          obtain ⟨a, xs, h1, _, h2, h3⟩ := R.listOf r hl
          rw [blsOf_ok hb] at h3
          rw [h3.bls] at h2
          subst h1
          exact ⟨a, bs, rfl, h2, p.now R (.bl _)⟩
      · exact p.elim
    · exact p.elim
  · exact p.elim
theorem cv_any : CallV ad X.K (rAny X.K) gAny := fun φ H h ds vs Q E R rd p => gQ_ok R rd p
theorem cv_all : CallV ad X.K (rAll X.K) gAll := fun φ H h ds vs Q E R rd p => gQ_ok R rd p
abbrev rTupA (K : PySem.W.Frag) : List V → Hp → VK → Prop := fun xs H Q => ∃ p ys, xs = [.ref p] ∧ ((SqL K H p ys ∧ ∀ l, H l = none → Q (.ref l) (upd H l (.tup ys))) ∨ (SqT K H p ys ∧ Q (.ref p) H))
def gTuple : List D → MH → R D := fun ds h => match ds with
  | [d] => match itemsOf h d with
    | some l => .ok (.tup l) h
    | none => .bad
  | _ => .bad
theorem cv_tuple : CallV ad X.K (rTupA X.K) gTuple := by
  intro φ H h ds vs Q E R rd p
  unfold gTuple at p
  split at p
  · split at p
    · rename_i l hl
      cases rd with
      | cons r t =>
        cases t
        obtain ⟨a, xs, h1, h2, h3⟩ := R.items r hl
        subst h1
        refine ⟨a, xs, rfl, ?_⟩
        rcases h2 with h2 | h2
        · exact .inl ⟨h2, fun q hq => p.newT R h3 hq⟩
        · exact .inr ⟨h2, p.now R (.tup h2 h3)⟩
    · exact p.elim
  · exact p.elim
abbrev rListA (K : PySem.W.Frag) : List V → Hp → VK → Prop := fun xs H Q => ∃ p ys, xs = [.ref p] ∧ (SqL K H p ys ∨ SqT K H p ys) ∧ ∀ l, H l = none → Q (.ref l) (upd H l (.lst ys))
def gList : List D → MH → R D := fun ds h => match ds with
  | [d] => match itemsOf h d with
    | some l => .ok (.ref h.length) (h ++ [.lst l])
    | none => .bad
  | _ => .bad
theorem cv_list : CallV ad X.K (rListA X.K) gList := by
  intro φ H h ds vs Q E R rd p
  unfold gList at p
  split at p
  · split at p
    · rename_i l hl
      cases rd with
      | cons r t =>
        cases t
        obtain ⟨a, xs, h1, h2, h3⟩ := R.items r hl
        subst h1
        exact ⟨a, xs, rfl, h2, fun q hq => p.newL R h3 hq⟩
    · exact p.elim
  · exact p.elim

/-! ### methods of lists and texts -/
def fBM (g : D → List D → MH → R D) (fo : EF D) (fs : EF (List D)) : EF D := fun ρ h => (fo ρ h).bind fun d h => (fs ρ h).bind fun ds h => g d ds h
def gAppend : D → List D → MH → R D := fun d ds h => match d, ds with
  | .ref n, [y] => match mutOf h n with
    | some l => if l.length < 16777216 then .ok .non (h.set n (.lst (l ++ [y]))) else .bad
    | none => .bad
  | _, _ => .bad
/-- o.append(e): o is a list already as the argument is made -/
def fAppend (fo : EF D) (fs : EF (List D)) : EF D := fun ρ h => (fo ρ h).bind fun d h => match d with
  | .ref n => match mutOf h n with
    | some _ => (fs ρ h).bind fun ds h => gAppend (.ref n) ds h
    | none => .bad
  | _ => .bad
theorem re_append (ho : PE X o (tE ad X.K W fo)) (ha : PA X (e :: es) (tA ad X.K W fs))
    (hbase : attributeBase o "append" X.env (eval o X.env) = eval o X.env := by rfl)
    (hfew : ((backTo pos (starEach (e :: es) X.env)).all (fun x => !x.1) && (backToKw pos (keywordEach [] X.env)).all (fun x => x.1.isSome)
      && decide ((e :: es).length + ([] : List Keyword).length + (if ([] : List Keyword).isEmpty then 0 else 1) < 30)) = true := by rfl)
    (hline : (apos.endLine == pos.line) = true := by rfl) (hs : starEach (e :: es) X.env = (false, eval e X.env) :: starEach es X.env := by rfl) (hplain : (backTo pos (starEach es X.env)).any (·.1) = false := by rfl) :
    PE X (.Call (.Attribute o "append" apos) (e :: es) [] pos) (tE ad X.K W (fAppend fo fs)) := by
  refine (pe_bm PySem.F.plainAttrs_list PySem.F.slot_list_append PySem.F.type_list_append mt_append ho ha hbase hfew hline hs hplain).weak fun σ H Q ⟨φ, h, ρ, R, E, p⟩ => ⟨φ, h, ρ, R, E, p.bind fun φ1 H1 h1 d v x1 R1 rd p1 => ?_⟩
  split at p1
  · rename_i n
    split at p1
    · rename_i l0 hl0
      obtain ⟨a0, xs0, h1', h2', h3', h4'⟩ := R1.lst rd (mutOf_at hl0)
      subst h1'
      refine ⟨.inl ⟨rfl, xs0, .inl (.inl h3')⟩, φ1, h1, ρ, R1, E.ext x1, p1.bind fun φ2 H2 h2 ds vs x2 R2 rds p2 => ?_⟩
      have rd2 := rd.ext x2
      unfold gAppend at p2
      split at p2
      · rename_i n' y en
        cases en
        split at p2
        · rename_i l hl
          split at p2
          · rename_i z
            obtain ⟨a, xs, h1, h2, h3, h4⟩ := R2.lst rd2 (mutOf_at hl)
            cases rds with
            | cons ry t =>
              cases t
              rename_i yv
              have x3 : Ext φ2 H2 φ2 (upd H2 a (.lst (xs ++ [yv]))) := Ext.put (List.mem_of_getElem? h2) h3 trivial
              exact ⟨a, xs, _, h1, rfl, h3, by rw [sizeLine_eq, ← h4.length]; exact z, p2 φ2 _ .non x3 (R2.put h2 h3 trivial ⟨_, upd_same, (h4.append (.cons ry .nil)).ext x3⟩) .non⟩
          · exact p2.elim
        · exact p2.elim
      · exact p2.elim
    · exact p1.elim
  · exact p1.elim
def fM1 (g : Str → D → MH → R D) (fo fa : EF D) : EF D := fun ρ h => (fo ρ h).bind fun d h => match d with
  | .str x => (fa ρ h).bind fun e h => g x e h
  | _ => .bad
def gSplit : Str → D → MH → R D := fun x e h => match e with
  | .str y => if (y.length == 0) = false ∧ x.length + 2 ≤ 16777216 then .ok (.ref h.length) (h ++ [.lst ((Txt.split x y).map D.str)]) else .bad
  | _ => .bad
theorem re_split (ho : PE X o (tE ad X.K W fo)) (he : PE X e (tE ad X.K W fa)) (hs : starEach [e] X.env = [(false, eval e X.env)] := by rfl) (hbase : attributeBase o "split" X.env (eval o X.env) = eval o X.env := by rfl) (hline : (apos.endLine == pos.line) = true := by rfl) :
    PE X (.Call (.Attribute o "split" apos) [e] [] pos) (tE ad X.K W (fM1 gSplit fo fa)) := by
  refine (pe_split ho he hs hbase hline).weak fun σ H Q ⟨φ, h, ρ, R, E, p⟩ => ⟨φ, h, ρ, R, E, p.bind fun φ1 H1 h1 d v x1 R1 rd p1 => ?_⟩
  split at p1
  · rename_i x
    cases rd
    refine ⟨⟨x, rfl⟩, φ1, h1, ρ, R1, E.ext x1, p1.bind fun φ2 H2 h2 d2 v2 x2 R2 rd2 p2 => ?_⟩
    unfold gSplit at p2
    split at p2
    · split at p2
      · rename_i z
        cases rd2
        exact ⟨_, _, rfl, rfl, z.1, by rw [sizeLine_eq]; exact z.2, fun q hq => p2.newL R2 (.ofStrs _) hq⟩
      · exact p2.elim
    · exact p2.elim
  · exact p1.elim
def strsOf : List D → Option (List Str)
  | [] => some []
  | .str b :: l => (strsOf l).map (b :: ·)
  | _ => none
theorem strsOf_ok : ∀ {l : List D} {bs : List Str}, strsOf l = some bs → l = bs.map D.str
  | [], bs, h => by cases h; rfl
  | .str b :: l, bs, h => by
    unfold strsOf at h
    cases q : strsOf l with
    | none => rw [q] at h; cases h
    | some cs => rw [q] at h; cases h; rw [strsOf_ok q]; rfl
  | .non :: l, bs, h => by cases h
  | .int _ :: l, bs, h => by cases h
  | .bl _ :: l, bs, h => by cases h
  | .tup _ :: l, bs, h => by cases h
  | .ref _ :: l, bs, h => by cases h
  | .obj _ :: l, bs, h => by cases h
  | .ty _ :: l, bs, h => by cases h
@[simp] theorem strsOf_map : ∀ bs : List Str, strsOf (bs.map D.str) = some bs
  | [] => rfl
  | b :: bs => by rw [List.map_cons]; unfold strsOf; rw [strsOf_map bs]; rfl
def gJoin : Str → D → MH → R D := fun x e h => match itemsOf h e with
  | some l => match strsOf l with
    | some ys => if (ys.map (·.length)).sum + ys.length * x.length ≤ 16777216 then .ok (.str (Txt.join x ys)) h else .bad
    | none => .bad
  | none => .bad
theorem re_join (ho : PE X o (tE ad X.K W fo)) (he : PE X e (tE ad X.K W fa)) (hs : starEach [e] X.env = [(false, eval e X.env)] := by rfl) (hbase : attributeBase o "join" X.env (eval o X.env) = eval o X.env := by rfl) (hline : (apos.endLine == pos.line) = true := by rfl) :
    PE X (.Call (.Attribute o "join" apos) [e] [] pos) (tE ad X.K W (fM1 gJoin fo fa)) := by
  refine (pe_join ho he hs hbase hline).weak fun σ H Q ⟨φ, h, ρ, R, E, p⟩ => ⟨φ, h, ρ, R, E, p.bind fun φ1 H1 h1 d v x1 R1 rd p1 => ?_⟩
  split at p1
  · rename_i x
    cases rd
    refine ⟨⟨x, rfl⟩, φ1, h1, ρ, R1, E.ext x1, p1.bind fun φ2 H2 h2 d2 v2 x2 R2 rd2 p2 => ?_⟩
    unfold gJoin at p2
    split at p2
    · rename_i l hl
      split at p2
      · rename_i ys hy
        split at p2
        · rename_i z
          obtain ⟨a, xs, j1, j2, j3⟩ := R2.items rd2 hl
          rw [strsOf_ok hy] at j3
          rw [j3.strs] at j2
          subst j1
          exact ⟨x, a, ys, rfl, rfl, j2, z, p2.now R2 (.str _)⟩
        · exact p2.elim
      · exact p2.elim
    · exact p2.elim
  · exact p1.elim
def fM0 (g : Str → MH → R D) (fo : EF D) : EF D := fun ρ h => (fo ρ h).bind fun d h => match d with
  | .str x => g x h
  | _ => .bad
def gUpper : Str → MH → R D := fun x h => if x.length ≤ 5592405 then .ok (.str (Txt.upper x)) h else .bad
theorem re_upper (ho : PE X o (tE ad X.K W fo)) (hbase : attributeBase o "upper" X.env (eval o X.env) = eval o X.env := by rfl) (hline : (apos.endLine == pos.line) = true := by rfl) :
    PE X (.Call (.Attribute o "upper" apos) [] [] pos) (tE ad X.K W (fM0 gUpper fo)) := by
  refine (pe_upper ho hbase hline).weak fun σ H Q ⟨φ, h, ρ, R, E, p⟩ => ⟨φ, h, ρ, R, E, p.bind fun φ1 H1 h1 d v x1 R1 rd p1 => ?_⟩
  split at p1
  · rename_i x
    cases rd
    unfold gUpper at p1
    split at p1
    · rename_i z
      exact ⟨⟨x, rfl⟩, x, rfl, rfl, z, p1.now R1 (.str _)⟩
    · exact p1.elim
  · exact p1.elim

/-! ### *e in a display; {} -/
def fStar (fa : EF D) (fr : EF (List D)) : EF (List D) := fun ρ h => (fa ρ h).bind fun d h => match itemsOf h d with
  | some l => (fr ρ h).bind fun ds h => .ok (l ++ ds) h
  | none => .bad
theorem ra_star (ha : PE X e (tE ad X.K W fa)) (hr : PA X es (tA ad X.K W fs)) (hs : starEach (.Starred e p :: es) X.env = (true, eval e X.env) :: starEach es X.env := by rfl) : PA X (.Starred e p :: es) (tA ad X.K W (fStar fa fs)) := by
  refine (StX.pa_star ha hr hs).weak fun σ H Q ⟨φ, h, ρ, R, E, p⟩ => ⟨φ, h, ρ, R, E, p.bind fun φ1 H1 h1 d v x1 R1 rd p1 => ?_⟩
  split at p1
  · rename_i l hl
    obtain ⟨a, xs, j1, j2, j3⟩ := R1.items rd hl
    refine ⟨a, xs, j1, j2.symm, φ1, h1, ρ, R1, E.ext x1, p1.bind fun φ2 H2 h2 ds vs x2 R2 rds p2 => ?_⟩
    exact p2.now R2 ((j3.ext x2).append rds)
  · exact p1.elim
def fDk : EF D := fun _ h => .ok (.ref h.length) (h ++ [.dk []])
theorem re_dk : PE X (.Dict [] [] pos) (tE ad X.K W fDk) := by
  refine (pe_dnewK (X := X) (pos := pos)).weak fun σ H Q ⟨φ, h, ρ, R, E, p⟩ => ?_
  intro a ha
  have p' : Post ad X.K (RelD ad X.K) φ H (.ok (.ref h.length) (h ++ [.dk []])) Q (fun c d H' => W c d σ H') := p
  exact p' (φ ++ [a]) _ _ (Ext.new ha) (R.new ha ⟨[], upd_same, rfl, .nil⟩) (.ref (new_at R a))

/-! ### sorted -/
def allAl (ps : List PyData) : Bool := ps.all fun p => ps.all fun q => alike p q
def sortB (ps : List PyData) : Bool := (ps.all fun p => match p with | .tuple (_ :: _) => true | _ => false) || ps.all fun p => match p with | .none => false | .tuple _ => false | _ => true
def sortD (l : List D) (ps : List PyData) : List D := ((l.zip ps).mergeSort (dataLe false fun b : D × PyData => b.2)).map (·.1)
def gSorted : List D → MH → R D := fun ds h => match ds with
  | [.ref n] => match listOf h n with
    | some l => match pdL h dpt l with
      | some ps => if allAl ps = true ∧ sortB ps = true ∧ (ps.all fun p => decide (p.depth ≤ 64)) = true then .ok (.ref h.length) (h ++ [.lst (sortD l ps)]) else .bad
      | none => .bad
    | none => .bad
  | _ => .bad
def rSortA (ad : Gm) (K : PySem.W.Frag) : List V → Hp → VK → Prop := fun vs H Q => ∃ (a : Addr) (xs : List V) (bs : List (V × PyData)), vs = [.ref a] ∧ SqL K H a xs ∧ bs.map (·.1) = xs ∧ (∀ b ∈ bs, Dp K H b.1 b.2) ∧ AllAlike (bs.map (·.2)) ∧ Sortable (bs.map (·.2)) ∧ (∀ b ∈ bs, b.2.depth ≤ 64) ∧
  ∀ q, H q = none → Q (.ref q) (upd H q (.lst ((bs.mergeSort (dataLe false fun b : V × PyData => b.2)).map (·.1))))
theorem each_of {H : Hp} {s : Shared} {pins : List (Addr × Obj)} {σ : L2.St} (I : Inv X pins σ H s) : ∀ {bs : List (V × PyData)} {us : List Value}, Vals (bs.map (·.1)) us → (∀ b ∈ bs, Dp X.K H b.1 b.2) →
    EachIs (fun (u : Value) (b : V × PyData) => RelV b.1 u) us bs ∧ EachIs (fun (u : Value) (b : V × PyData) => ∃ as, Reads s.heap u b.2 as) us bs
  | [], _, .nil, _ => ⟨.nil, .nil⟩
  | b :: bs, u :: us, r, h => by
    rw [List.map_cons] at r
    cases r with
    | cons r1 r2 =>
      obtain ⟨h1, h2⟩ := each_of I r2 fun b hb => h b (List.mem_cons_of_mem _ hb)
      exact ⟨.cons r1 h1, .cons (Dp.reads I _ _ _ (h b List.mem_cons_self) r1) h2⟩
theorem vals_each : ∀ {out : List Value} {bs : List (V × PyData)}, EachIs (fun (u : Value) (b : V × PyData) => RelV b.1 u) out bs → Vals (bs.map (·.1)) out
  | _, _, .nil => .nil
  | _, _, .cons r t => .cons r (vals_each t)
theorem cr_sorted (hu : X.A.units + 80 < cLine) : CallR X (.builtin "sorted") (rSortA ad X.K) := by
  rintro pins s σ H vs us Q I r ⟨a, xs, bs, rfl, hs, hx, hd, hal, hso, hdp, q⟩
  obtain ⟨its, rv, hl, hz⟩ := I.list hs
  rw [Vals.ref1 r]
  rw [← hx] at rv
  obtain ⟨e1, e2⟩ := each_of I rv hd
  have hbl : bs.length = xs.length := by rw [← hx, List.length_map]
  refine sorted_data (R := fun (u : Value) (b : V × PyData) => RelV b.1 u) (enc := fun b : V × PyData => b.2) hl.isList e1 e2 hal hso (by rw [hbl]; exact hz) (fun b hb => by have := hdp b hb; omega) fun out ho eo => ?_
  obtain ⟨n, hn⟩ := PyProof.Rows.sortedAll_at s.heap its (List.toArray out)
  have hlen : ((bs.mergeSort (dataLe false fun b : V × PyData => b.2)).map (·.1)).length ≤ sizeLine := by rw [List.length_map, List.length_mergeSort, hbl]; exact hz
  refine ⟨.ref _, _, I.laid (t' := s.toks) (a := s.heap.objs.size + 1) (o := .lst ((bs.mergeSort (dataLe false fun b : V × PyData => b.2)).map (·.1))) (fun _ _ => PyProof.Rows.sortedAll_old) (Nat.le_succ _) ⟨hlen, out, n, vals_each eo, hn⟩, rfl, q _ (I.hok.fresh (Nat.le_succ _))⟩
theorem rel_zip {φ : List Addr} {H : Hp} : ∀ {l : List D} {xs : List V}, RelDs ad X.K φ H l xs → ∀ {ps : List PyData}, ps.length = l.length → EachIs (fun (x : D × PyData) (y : V × PyData) => RelD ad X.K φ H x.1 y.1 ∧ x.2 = y.2) (l.zip ps) (xs.zip ps)
  | _, _, .nil, ps, _ => .nil
  | d :: l, v :: xs, .cons r t, [], h => by simp at h
  | d :: l, v :: xs, .cons r t, p :: ps, h => .cons ⟨r, rfl⟩ (rel_zip t (by simpa using h))
theorem pdL_length {h : MH} {n : Nat} : ∀ {l : List D} {ps : List PyData}, pdL h n l = some ps → ps.length = l.length
  | [], ps, e => by unfold pdL at e; cases e; rfl
  | d :: l, ps, e => by
    unfold pdL at e
    split at e
    · rename_i p ps' q1 q2
      cases e
      simp [pdL_length q2]
    · cases e
theorem rel_unzip {φ : List Addr} {H : Hp} : ∀ {zs : List (D × PyData)} {ys : List (V × PyData)}, EachIs (fun (x : D × PyData) (y : V × PyData) => RelD ad X.K φ H x.1 y.1 ∧ x.2 = y.2) zs ys → RelDs ad X.K φ H (zs.map (·.1)) (ys.map (·.1))
  | _, _, .nil => .nil
  | _, _, .cons r t => .cons r.1 (rel_unzip t)
theorem each_snd {φ : List Addr} {H : Hp} : ∀ {zs : List (D × PyData)} {ys : List (V × PyData)}, EachIs (fun (x : D × PyData) (y : V × PyData) => RelD ad X.K φ H x.1 y.1 ∧ x.2 = y.2) zs ys → ∀ p ∈ zs.zip ys, p.1.2 = p.2.2
  | _, _, .nil, p, h => by simp at h
  | _, _, .cons r t, p, h => by
    rw [List.zip_cons_cons, List.mem_cons] at h
    rcases h with h | h
    · rw [h]; exact r.2
    · exact each_snd t p h
theorem zip_dp {H : Hp} : ∀ {xs : List V} {ps : List PyData}, DpAll X.K H xs ps → (∀ b ∈ xs.zip ps, Dp X.K H b.1 b.2) ∧ (xs.zip ps).map (·.1) = xs ∧ (xs.zip ps).map (·.2) = ps
  | _, _, .nil => ⟨by simp, rfl, rfl⟩
  | _, _, .cons d t => by
    obtain ⟨h1, h2, h3⟩ := zip_dp t
    refine ⟨fun b hb => ?_, by rw [List.zip_cons_cons, List.map_cons, h2], by rw [List.zip_cons_cons, List.map_cons, h3]⟩
    rw [List.zip_cons_cons, List.mem_cons] at hb
    rcases hb with hb | hb
    · rw [hb]; exact d
    · exact h1 b hb
theorem cv_sorted : CallV ad X.K (rSortA ad X.K) gSorted := by
  intro φ H h ds vs Q E R rd p
  unfold gSorted at p
  split at p
  · rename_i n
    split at p
    · rename_i l hl
      split at p
      · rename_i ps hps
        split at p
        · rename_i z
          cases rd with
          | cons r t =>
            cases t
            obtain ⟨a, xs, h1, _, h2, h3⟩ := R.listOf r hl
            subst h1
            have dp := pdL_dp R dpt l xs ps h3 hps
            obtain ⟨z1, z2, z3⟩ := zip_dp dp
            refine ⟨a, xs, xs.zip ps, rfl, h2, z2, z1, ?_, ?_, fun b hb => ?_, fun q hq => ?_⟩
            · rw [z3]
              intro d hd d' hd'
              have := z.1
              unfold allAl at this
              exact List.all_eq_true.mp (List.all_eq_true.mp this d hd) d' hd'
            · rw [z3]
              have zz := z.2.1
              unfold sortB at zz
              rw [Bool.or_eq_true] at zz
              rcases zz with zz | zz
              · refine .inl fun d hd => ?_
                have y := List.all_eq_true.mp zz d hd
                split at y
                · exact ⟨_, _, rfl⟩
                · cases y
              · refine .inr fun d hd => ?_
                have y := List.all_eq_true.mp zz d hd
                split at y
                · cases y
                · cases y
                · rename_i h5 h6
                  exact ⟨h5, fun xs => h6 xs⟩
            · have hb2 : b.2 ∈ ps := by rw [← z3]; exact List.mem_map.mpr ⟨b, hb, rfl⟩
              exact of_decide_eq_true (List.all_eq_true.mp z.2.2 _ hb2)
            · refine p.newL R ?_ hq
              have ez := rel_zip h3 (pdL_length hps)
              unfold sortD
              have srt := sort_each (r := dataLe false fun b : D × PyData => b.2) (s := dataLe false fun b : V × PyData => b.2) ez fun p1 hp1 p2 hp2 => by
                show (!dataLt p2.1.2 p1.1.2) = (!dataLt p2.2.2 p1.2.2)
                rw [each_snd ez p1 hp1, each_snd ez p2 hp2]
              exact rel_unzip srt
        · exact p.elim
      · exact p.elim
    · exact p.elim
  · exact p.elim

/-! ### repr -/
def gRepr : List D → MH → R D := fun ds h => match ds with
  | [d] => match pd h dpt d with
    | some q => if q.showable = true ∧ q.hasDict = false ∧ q.depth ≤ 64 ∧ q.shown.length ≤ 16777216 then .ok (.str q.shown) h else .bad
    | none => .bad
  | _ => .bad
def rReprA (K : PySem.W.Frag) : List V → Hp → VK → Prop := fun vs H Q => ∃ v q, vs = [v] ∧ Dp K H v q ∧ q.showable = true ∧ q.hasDict = false ∧ q.depth ≤ 64 ∧ q.shown.length ≤ sizeLine ∧ Q (.str q.shown) H
theorem cr_repr (hg : X.A.guards = some []) (hu : X.A.units + 80 < cLine) : CallR X (.builtin "repr") (rReprA X.K) := by
  rintro pins s σ H vs us Q I r ⟨v, d, rfl, hd, h1, h2, h3, h4, q⟩
  obtain ⟨u, rfl, r1⟩ := vals1 r
  obtain ⟨as, rr⟩ := Dp.reads I d v u hd r1
  cases r1' : u with
  | ref a =>
    subst r1'
    exact repr_of_reads' rr h1 (fun z => by rw [h2] at z; cases z) hg (by omega) (fun _ _ z => z) (fun h' u tk k => ⟨.str _, H, I.kept (t' := tk) k, ⟨_, rfl⟩, q⟩) h4
  | none => subst r1'; cases rr; exact PySem.P.repr_of_none ⟨.str _, H, I.tok _, ⟨_, rfl⟩, by simpa [PyData.shown] using q⟩
  | bool b => subst r1'; cases rr; exact PySem.P.repr_of_bool ⟨.str _, H, I.tok _, ⟨_, rfl⟩, by simpa [PyData.shown] using q⟩
  | int i t => subst r1'; cases rr; exact PySem.P.repr_of_int (by simpa [PyData.showable] using h1) ⟨.str _, H, I.tok _, ⟨_, rfl⟩, by simpa [PyData.shown] using q⟩
  | str x t => subst r1'; cases rr; exact PySem.P.repr_of_str ⟨.str _, H, I.tok _, ⟨_, rfl⟩, by simpa [PyData.shown] using q⟩ (by simpa [PyData.shown] using h4)
  | _ => subst r1'; cases rr
theorem cv_repr : CallV ad X.K (rReprA X.K) gRepr := by
  intro φ H h ds vs Q E R rd p
  unfold gRepr at p
  split at p
  · split at p
    · rename_i d0 q0 hq
      split at p
      · rename_i z
        cases rd with
        | cons r t => cases t; exact ⟨_, q0, rfl, pd_dp R _ _ _ _ r hq, z.1, z.2.1, z.2.2.1, by rw [sizeLine_eq]; exact z.2.2.2, p.now R (.str _)⟩
      · exact p.elim
    · exact p.elim
  · exact p.elim
end
end Mp
set_option Elab.async false
set_option linter.all false
set_option maxRecDepth 100000
set_option maxHeartbeats 2000000
namespace Mp
open PySem PySem.Spec PyProof.Rows L2

/-! ### defs that are run with no repr under way -/
structure FnG (P : Program) (w : World) (K : PySem.W.Frag) (mg : Str → Option Value) (base : Heap) (CX : CXT) (k : Nat) (f : Addr) (fd : FuncData) (ps : List Str) (sp : Sp) : Prop where
  len : ∀ vs H Q E, sp vs H Q E → vs.length = ps.length
  run : ∀ (A : Around) (outer : List PySem.Env) (s : Shared) (H : Hp) (args : Args) (us : List Value) (vs : List V) (Q : VK) (E : XK), A.guards = some [] → Room k A → Env0 P w K mg base A outer s H → BindsTo s fd args (ps.zip us) → Vals vs us → sp vs H Q E →
    codeAny (model P w) A (.call (.ref f) args) (CR CX outer P w H s Q E) s
theorem FnG.of {P : Program} {w : World} {K : PySem.W.Frag} {mg : Str → Option Value} {base : Heap} {CX : CXT} {k : Nat} {f : Addr} {fd : FuncData} {ps : List Str} {sp : Sp} (F : FnOk P w K mg base CX k f fd ps sp) : FnG P w K mg base CX k f fd ps sp :=
  ⟨F.len, fun A outer s H args us vs Q E _ => F.run A outer s H args us vs Q E⟩
section
variable {P : Program} {w : World} {K : PySem.W.Frag} {mg : Str → Option Value} {base : Heap} {x qual : Str} {params : Arguments} {body : List Stmt} {scope : Scope} {dvs : List V} {kws : List (Str × V)} {f : Addr} {fd : FuncData} {ad : Gm}
/-- as fn_ok: for each caller by itself, so what stands of the caller may be used -/
theorem fn_okG {N ps : List Str} {k : Nat} {s : SF} (F : FunD K x qual params body scope dvs kws f fd) (S : FnScope N ps scope)
    (hb : ∀ (cdv : Value) (A : Around) (outer : List PySem.Env) (s0 : Shared) (H : Hp) (E : XK), A.guards = some [] → Room k (A.deeper (envOfC qual scope s0.heap.objs.size f cdv)) →
      PSs (cxOf (L2.CX P w) P w K mg base N qual scope f cdv A outer s0 H E) body (tS ad K (fun c d _ H => E c d H) s)) :
    FnG P w K mg base (L2.CX P w) (k + 1) f fd ps (spF ad K (mkFn ps.length N.length s)) := by
  obtain ⟨oc, od, dV, kV, doc, pm, an, cdv, ct, osl, rfl, lk, hcd, _, _⟩ := F.ex
  have hlen : ∀ vs H Q E, spF ad K (mkFn ps.length N.length s) vs H Q E → vs.length = ps.length := fun vs H Q E ⟨φ, h, ds, R, r, p⟩ => by
    unfold mkFn at p
    split at p
    · rename_i l; rw [← r.length, l]
    · exact p.elim
  refine ⟨hlen, fun A outer s1 H args us vs Q E hgd hr e0 hbd r hsp => ?_⟩
  have hl := hlen _ _ _ _ hsp
  have KX : K.In s1.heap := e0.mod.kin.keeps fun b o e => (e0.bs b o e).1
  have lim : s1.heap.NoLimit := e0.mod.nolimit.keeps fun b o e => (e0.bs b o e).1
  have hkind : ∀ y ∈ ps.zip us, scope.names.lookup y.1 = some .local ∨ (scope.names.lookup y.1 = some .cell ∧ ((cellsFrom (s1.heap.objs.size + 1) scope.names []).lookup y.1).isSome = true) := fun ⟨n, v⟩ hy =>
    (S.par n (List.of_mem_zip hy).1).imp id fun q => ⟨q, PySem.W.cellsFrom_some _ _ _ (.inl q)⟩
  refine codeAny_call_function hr.depth (KX _ _ lk) rfl S.co S.gen rfl (PySem.W.codeRec_of KX hcd) (hbd _ _ _ _ ?_)
  refine wpAny_newFunctionEnv_cells S.kind hkind fun env he s2 xx => ?_
  subst he
  refine ⟨lim.keeps xx.toInCall.keep, codeAny_func ?_⟩
  have ht := hb cdv A outer s1 H E hgd (hr.deeper _)
  have I := inv_start (CX := L2.CX P w) (w := w) (f := f) (cd := cdv) (qual := qual) (E := E) S hr.hd e0 hl r xx
  have hq : tS ad K (fun c d _ H => E c d H) s { nx := fun _ H' => Q .non H', rt := Q } (L2.start N vs) H := by
    obtain ⟨φ, h, ds, R, rr, p⟩ := hsp
    refine ⟨φ, h, _, R, RelE.start rr N, ?_⟩
    unfold mkFn at p
    split at p
    · split at p
      · rename_i d ρ' h' q
        rw [q]
        exact fun φ' H' v x R' rd => p φ' H' v x R' rd
      · rename_i ρ' h' q
        rw [q]
        exact fun φ' H' σ' x R' E' => p φ' H' _ x R' .non
      · rename_i y ρ' h' q
        rw [q]
        exact fun φ' H' σ' cls dd x R' E' rx => p φ' H' cls dd x R' rx
      · exact p.elim
    · exact p.elim
  refine wpAny_mono (ht.run [] s2 (L2.start N vs) H _ I hq) (fun fl s' hs => ?_) fun e s' hs => hs
  cases fl with
  | ret u =>
    obtain ⟨v, σ', H', J, rv, q⟩ := hs
    exact ⟨v, H', J.os, J.bare, J.base, J.hok, rv, q⟩
  | next =>
    obtain ⟨σ', H', J, q⟩ := hs
    exact ⟨V.non, H', J.os, J.bare, J.base, J.hok, rfl, q⟩
  | brk => exact hs.elim fun _ z => z.elim fun _ z => z.2.elim
  | cont => exact hs.elim fun _ z => z.elim fun _ z => z.2.elim
end
section
variable {X : Cx} {ad : Gm} {W : WX} {e : Expr} {es : List Expr} {pos p : Pos} {fs : EF (List D)} {k : Nat} {f : Addr} {fd : FuncData} {ps : List Str} {F : Fn}
theorem re_callG {x : Str} (tk : Takes X W) (gd : X.A.guards = some []) (Fo : FnG X.prog X.w X.K X.mg X.base (L2.CX X.prog X.w) k f fd ps (spF ad X.K F)) (hr : Room k X.A) (hg : Gl X x) (hm : X.mg x = some (.ref f)) (hk : PySem.W.keepIn X.K (.ref f) = true) (hb : Binds X.K fd ps [])
    (ha : PA X (e :: es) (tA ad X.K W fs)) (hdb : (x == ("__debug__" : Str)) = false := by decide) (he : starEach (e :: es) X.env = (false, eval e X.env) :: starEach es X.env := by rfl) (hpl : (backTo pos (starEach es X.env)).any (·.1) = false := by rfl) :
    PE X (.Call (.Name x p) (e :: es) [] pos) (tE ad X.K W (fCall F [] fs)) := by
  refine ⟨fun pins s σ H Q I ⟨φ, h, ρ, R, E, pp⟩ => ?_⟩
  refine wpAny_Call_Name_kw (ld_glob I hg hm ?_ hdb)
  refine PySem.W.callWith_K (h₀ := X.base) I.ok.mod.kin hk (thn (ha.run pos pins s σ H (fun vs H2 => spF ad X.K F vs H2 Q (WE W σ)) I ⟨φ, h, ρ, R, E, pp.bind fun φ1 H1 h1 ds vs x1 R1 rd p1 => ?_⟩) fun us s1 ⟨vs, H1, I1, r, q⟩ => ⟨I1.kIn, ?_⟩) he hpl
  · rw [List.append_nil] at p1
    exact ⟨φ1, h1, ds, R1, rd, p1⟩
  · have hl : us.length = ps.length := by rw [← r.length]; exact Fo.len _ _ _ _ q
    have b := hb s1 us I1.kIn (by rw [List.append_nil]; exact hl)
    rw [List.append_nil] at b
    refine wpAny_call (codeAny_mono (Fo.run X.A X.stack s1 H1 ⟨us, []⟩ us vs Q (WE W σ) gd hr I1.env0 b r q) fun r s' hq => ?_)
    cases r with
    | error e => exact passAt tk σ pins H1 s1 e s' I1 hq
    | ok fl =>
      cases fl with
      | ret u => exact I1.after hq
      | next => exact False.elim hq
      | brk => exact False.elim hq
      | cont => exact False.elim hq
end

/-! ### the hook: facts and defs -/
structure DefM where
  d : He.DefD
abbrev FaM := PySem.W.Frag → Bool
def asM (g : Addr → Option Obj) (n : Nat) : List Addr := He.asD g n ++ [cStatics]
def obsM (fa : List FaM) (fn : List He.DefD) (K : PySem.W.Frag) : He.AlD := ((fa.all fun f => f K) && fn.all fun d => d.ok K, fn.map fun d => He.fnW K d.at_)
def valM (fn : List He.DefD) : He.AlD := (true, fn.map He.DefD.val)
def SaysM (fa : List FaM) (fn : List He.DefD) (K : PySem.W.Frag) : Prop := obsM fa fn K = valM fn
def obsMG (n : Nat) (fa : List FaM) (fn : List He.DefD) (g : Addr → Option Obj) : He.AlD := obsM fa fn (He.frG g (asM g n))
def hookM (n : Nat) (fa : List FaM) (fn : List He.DefD) : PySem.W.Hook where
  α := He.AlD
  obs := fun s => obsMG n fa fn s.heap.get?
  val := fun _ => valM fn
  says := fun _ h => ∃ K : PySem.W.Frag, K.In h ∧ SaysM fa fn K
  of := fun _ _ e => ⟨_, He.frG_in, e⟩
  keeps := fun _ _ _ ⟨K, hK, c⟩ k => ⟨K, PySem.W.Frag.In.keeps hK k, c⟩
theorem obsMG_eq {n : Nat} {fa : List FaM} {fn : List He.DefD} {g : Addr → Option Obj} {s : Shared} (h : ∀ a, g a = s.heap.get? a) : obsMG n fa fn g = (hookM n fa fn).obs s := by
  have e : g = s.heap.get? := funext h
  rw [e] <;> rfl
section
variable {fa : List FaM} {fn : List He.DefD} {K : PySem.W.Frag}
theorem SaysM.fact (c : SaysM fa fn K) (i : Nat) {f : FaM} (h : fa[i]? = some f := by rfl) : f K = true := by
  have c1 : ((fa.all fun f => f K) && fn.all fun d => d.ok K) = true := congrArg (fun z : He.AlD => z.1) c
  rw [Bool.and_eq_true] at c1
  exact List.all_eq_true.mp c1.1 f (List.mem_of_getElem? h)
theorem SaysM.def_ (c : SaysM fa fn K) (i : Nat) {d : He.DefD} (h : fn[i]? = some d := by rfl) : ∃ fd, FunD K d.name d.qual d.params d.body d.scope (d.dvs K) (d.kws K) (He.fAd K d.at_) fd := by
  have c1 : ((fa.all fun f => f K) && fn.all fun d => d.ok K) = true := congrArg (fun z : He.AlD => z.1) c
  rw [Bool.and_eq_true] at c1
  have e : fn.map (fun d => He.fnW K d.at_) = fn.map He.DefD.val := congrArg (fun z : He.AlD => z.2) c
  have e2 : (fn.map fun d => He.fnW K d.at_)[i]? = (fn.map He.DefD.val)[i]? := by rw [e]
  rw [List.getElem?_map, List.getElem?_map, h] at e2
  exact He.DefD.funD (Option.some.inj e2) (List.all_eq_true.mp c1.2 d (List.mem_of_getElem? h))
end
/-- no list stands in the written part -/
def noLists (K : PySem.W.Frag) : Bool := K.all fun q => q.2.cls != .type "list"
theorem lk_mem {a : Addr} {o : Obj} : ∀ {l : List (Addr × Obj)}, l.lookup a = some o → (a, o) ∈ l
  | [], h => by cases h
  | (b, u) :: r, h => by
    by_cases e : a = b
    · have hb : (a == b) = true := beq_iff_eq.mpr e
      simp only [List.lookup, hb] at h
      cases h
      rw [e]
      exact List.mem_cons_self
    · have hb : (a == b) = false := beq_eq_false_iff_ne.mpr e
      simp only [List.lookup, hb] at h
      exact List.mem_cons_of_mem _ (lk_mem h)
theorem noLists_at {K : PySem.W.Frag} (h : noLists K = true) {a : Addr} {o : Obj} (e : K.lookup a = some o) : o.cls ≠ .type "list" := by
  have z := List.all_eq_true.mp h (a, o) (lk_mem e)
  simpa using z

/-! ### the end: a law -/
/-- a law whose def is a run of the machine that says True -/
theorem walk_mp {l : PySem.W.OpenLaw} {n k : Nat} {q : Program} {loose : List Str} {XP : (Str → Option Value) → Heap → Prop} {YP : World → Heap → Prop} {d : DefRec} {x : Str}
    (hn : l.most = some n) (hn2 : n ≤ sizeLine) (hdf : d.params.defaults = []) (hr : Room k callerA)
    (F : ∀ (w : World) (mg : Str → Option Value) (fa : Addr) (h : Heap), YP w h → h.Ns mainGlobals mg → mg d.name = some (.ref fa) →
      ∃ (K : PySem.W.Frag) (fd : FuncData) (ad : Gm) (f : Fn), K.In h ∧ noLists K = true ∧ (∀ (s : Shared) (u : Value), BindsTo s fd ⟨[u], []⟩ [(x, u)]) ∧
        (∀ ns : List Int, ns.length ≤ n → ∃ h', f [.ref 0] [.rl (ns.map D.int)] = .ok (.bl true) h') ∧
        ∀ base : Heap, K.In base → base.Ns mainGlobals mg → FnG l.prog w K mg base (L2.CX l.prog w) k fa fd [x] (spF ad K f)) :
    PySem.W.WalkO q loose XP YP l.row.toRowW d [] (fun f vs => PySem.call f vs) := by
  refine Att.attach_call hn hdf fun w s₀ s₁ mg mb fa o pm cd doc a vs ns G Y ho hd hcd hmg hobj hints hlen hg => ?_
  obtain ⟨K, fd, ad, f, KX, hnl, hb, hsp, hF⟩ := F w mg fa _ Y G.T.g hmg
  have rv := vals_ints hints
  have lenV := hints.length
  have hk : K.lookup a = none := by
    cases q : K.lookup a with
    | none => rfl
    | some o' =>
      have e := KX a o' q
      rw [hobj] at e
      cases e
      exact absurd rfl (noLists_at hnl q)
  obtain ⟨H, hH⟩ : ∃ H : Hp, H = fun b => if b = a then some (.frz { cls := .type "list", data := .seq vs.toArray } (.lst (ns.map V.int))) else none := ⟨_, rfl⟩
  have Ha : H a = some (.frz { cls := .type "list", data := .seq vs.toArray } (.lst (ns.map V.int))) := by rw [hH]; exact if_pos rfl
  have Hn : ∀ b, b ≠ a → H b = none := fun b hb => by rw [hH]; exact if_neg hb
  have hok : HOk l.prog w H s₁.heap := fun b u z => by
    by_cases hb : b = a
    · subst hb
      rw [Ha] at z
      cases z
      exact ⟨hobj, by rw [List.length_map]; exact Nat.le_trans hlen hn2, vs, _, rv, hobj⟩
    · rw [Hn b hb] at z; cases z
  have base_of : ∀ {b : Addr} {o : Obj}, s₁.heap.get? b = some o → H b = none → (hidT s₁.heap H).get? b = some o := fun e n => hidT_get e n
  have nsK : ∀ {b : Addr} {m : Str → Option Value}, s₁.heap.Ns b m → (hidT s₁.heap H).Ns b m := fun {b m} ⟨o, es, ep, e, d, r⟩ => by
    refine ⟨o, es, ep, base_of e (Hn b fun z => ?_), d, r⟩
    subst z
    rw [hobj] at e; cases e
    cases d
  have hKb : K.In (hidT s₁.heap H) := fun b o e => base_of (KX b o e) (Hn b fun z => by subst z; rw [hk] at e; cases e)
  have hM : Mod K mg (hidT s₁.heap H) := ⟨hKb, nsK G.T.g, ⟨mb, nsK G.T.b, G.T.builtins⟩, let ⟨mc, h1, h2⟩ := G.T.nolimit; ⟨mc, nsK h1, h2⟩⟩
  have e0 : Env0 l.prog w K mg (hidT s₁.heap H) callerA [] s₁ H := ⟨rfl, hM, fun b o e => of_hidT e, Nat.le_of_eq (hidT_size _ _), trivial, fun b hb => absurd hb (List.not_mem_nil), hok, .of_eq hg⟩
  obtain ⟨h', hr'⟩ := hsp ns hlen
  have spx : spF ad K f [.ref a] H (fun v _ => v = .bl true) (fun _ _ _ => False) := by
    refine ⟨[a], [.rl (ns.map D.int)], [.ref 0], ⟨rfl, by simp, fun m o e => ?_⟩, .cons (.ref rfl) .nil, ?_⟩
    · cases m with
      | zero =>
        have e : O.rl (ns.map D.int) = o := Option.some.inj e
        subst e
        refine ⟨a, rfl, _, _, Ha, .ofInts ns⟩
      | succ m => simp at e
    · rw [hr']
      intro φ' H' v x R rd
      cases rd
      rfl
  refine codeAny_mono ((hF _ hKb (nsK G.T.g)).run callerA [] s₁ H ⟨[.ref a], []⟩ [.ref a] [.ref a] _ _ rfl hr e0 (hb s₁ (.ref a)) (.cons rfl .nil) spx) fun r s' hq => ?_
  cases r with
  | error e => exact hq.elim fun _ z => z.elim fun _ z => z.elim fun _ z => z.elim fun _ z => z.elim fun _ z => z.2.2.2.2.2.2.2.elim
  | ok fl =>
    cases fl with
    | next => exact False.elim hq
    | brk => exact False.elim hq
    | cont => exact False.elim hq
    | ret u =>
      obtain ⟨v, H', os, bare, un, hok', r', q⟩ := hq
      have q' : v = .bl true := q
      subst q'
      obtain rfl : u = Value.bool true := r'
      refine ⟨rfl, OldK.of_keep fun b o e => ?_, os, bare⟩
      by_cases hba : b = a
      · subst hba
        obtain ⟨e2, _⟩ := hok' b _ (un.frzs b _ _ Ha)
        rw [hobj] at e; cases e
        exact e2
      · exact un.keep b o e (Hn b hba) (by simp [frs]) (by simp)
end Mp
set_option Elab.async false
set_option linter.all false
set_option maxRecDepth 100000
set_option maxHeartbeats 2000000
namespace Mp
open PySem PySem.Spec PyProof.Rows L2

/-! ### own classes of exceptions with an own __init__ -/
def oexB (K : PySem.W.Frag) (C : Addr) : Bool := (match K.lookup C with
  | some ⟨.type "type", _, .cls cd, sl⟩ => (match cd.mro, sl.toList with
    | .ref D :: bm, [_, _, _, _, some (.builtin n), _] => (D == C && n == "ValueError.__new__") && (!cd.hasDel && (cd.hasDict && PySem.HandSPX.refsVE bm))
    | _, _ => false)
  | _ => false) && (decide (PySem.W.findIn K (.ref C) "__setattr__" = some (some (.builtin "object.__setattr__"))) && (decide (PySem.W.subIn K (.ref C) (.type "BaseException") = some true) && (decide (PySem.W.typeIn K (.ref C) = some (.type "type")) && PySem.W.keepIn K (.ref C))))
theorem oexB_ok {K : PySem.W.Frag} {C : Addr} (h : oexB K C = true) : OexC K C := by
  unfold oexB at h
  simp only [Bool.and_eq_true, decide_eq_true_eq] at h
  obtain ⟨h0, h1, h2, h3, h4⟩ := h
  refine ⟨?_, h1, h2, h3, h4⟩
  split at h0
  · rename_i dd cd sl ho
    split at h0
    · rename_i D bm k0 k1 k2 k3 n k5 hm hs
      simp only [Bool.and_eq_true, beq_iff_eq, Bool.not_eq_true'] at h0
      obtain ⟨⟨rfl, rfl⟩, hdel, hd, hr⟩ := h0
      obtain ⟨nm, bs, mro, ns, qn, hdc, sn, sub, ab, col, del⟩ := cd
      dsimp only at hm hdel hd
      subst hm hdel hd
      have hsl : sl = #[k0, k1, k2, k3, some (.builtin "ValueError.__new__"), k5] := by
        obtain ⟨l⟩ := sl
        exact congrArg Array.mk hs
      subst hsl
      exact ⟨_, _, _, _, _, _, _, _, _, _, _, _, _, _, _, ho, hr⟩
    · cases h0
  · cases h0
/-- what of a module's class C(ValueError) is asked for C.__init__(self, ..) -/
def hinB (K : PySem.W.Frag) (C : Addr) : Bool := PySem.W.readsIn K C (.type "type") && (decide (PySem.W.specialIn K (.ref C) "__getattribute__" = some (some (.builtin "type.__getattribute__"))) && (match PySem.W.findCls K (.ref C) (.type "type") "__init__" with
  | some (.val (.builtin n)) => n == "ValueError.__init__"
  | _ => false))
section
variable {X : Cx} {x : Str} {e : Expr} {es : List Expr} {ta : TA} {p1 p2 pos : Pos} {CH : Addr}
theorem pe_hinit {pl : Sem Bool} (hg : Gl X x) (hm : X.mg x = some (.ref CH)) (hb : hinB X.K CH = true) (ha : PA X (e :: es) ta)
    (hc : eval (.Call (.Attribute (.Name x p1) "__init__" p2) (e :: es) [] pos) X.env = (do
      let v0 ← eval (.Name x p1) X.env
      standAt p2.atName
      let (g, first) ← holding [v0] (getMethod v0 "__init__" pl)
      callWith pos g first (backTo pos (starEach (e :: es) X.env)) (backToKw pos (keywordEach [] X.env))) := by rfl)
    (hdb : (x == ("__debug__" : Str)) = false := by decide) (he : starEach (e :: es) X.env = (false, eval e X.env) :: starEach es X.env := by rfl) (hpl : (backTo pos (starEach es X.env)).any (·.1) = false := by rfl) :
    PE X (.Call (.Attribute (.Name x p1) "__init__" p2) (e :: es) [] pos) (tVeI X.K ta) := by
  unfold hinB at hb
  simp only [Bool.and_eq_true, decide_eq_true_eq] at hb
  obtain ⟨b1, b2, b3⟩ := hb
  have vV : PySem.W.findCls X.K (.ref CH) (.type "type") "__init__" = some (.val (.builtin "ValueError.__init__")) := by
    split at b3
    · rename_i n q
      rw [q, beq_iff_eq.mp b3]
    · cases b3
  refine ⟨fun pins s σ H Q I h => ?_⟩
  refine PySem.W.methodCall_KW (ld_glob I hg hm ?_ hdb) hc
  refine PySem.W.method_cls I.kIn b2 (PySem.W.cls_value I.kIn b1 vV (by decide +kernel) ?_)
  show wpAny _ _ (callWith pos (Value.builtin "ValueError.__init__") [] (backTo pos (starEach (e :: es) X.env)) []) _ _ _
  refine PyProof.Rows.callWith_method1 (thn (ha.run pos pins _ σ H _ (I.tok _) h) fun us s1 ⟨vs, H1, I1, r1, a, C, ws, ev, hl, T, ea, q⟩ => ?_) he hpl
  subst ev
  cases r1 with
  | @cons _ u0 _ ur ra rw' =>
    obtain rfl : u0 = Value.ref a := ra
    have hlen : ur.length ≤ sizeLine := by
      rw [← Paired.length rw', sizeLine_eq]
      omega
    exact oinit_ok T I1 ea hlen fun s' J => ⟨.non, H1, J, rfl, q⟩
end

section
variable {K : PySem.W.Frag} {ad : Gm} {cN : Nat} {y1 y2 m : Str}
/-- def __init__(self, p1, p2): H.__init__(self, 'm'); self.y1 = p1; self.y2 = p2 -/
def tInit2 (K : PySem.W.Frag) (m y1 y2 : Str) : TS := tSeq (tDrop (tVeI K (tCons (tVar 0) (tCons (tC (.str m)) tNil)))) (tSeq (tOst K y1 (tVar 0) (tVar 1)) (tOst K y2 (tVar 0) (tVar 2)))
theorem init_pure2 {n0 n1 n2 : Str} (T : OexC K (ad cN)) (hfn : ad.fn cN = [y1, y2]) (hy : y1 ≠ y2) (no1 : PySem.W.findIn K (.ref (ad cN)) y1 = some none) (no2 : PySem.W.findIn K (.ref (ad cN)) y2 = some none)
    {vs : List V} {H : Hp} {Q : VK} {E : XK} (h : spInit ad cN vs H Q E) : tInit2 K m y1 y2 { nx := fun _ H' => Q .non H', rt := Q } (L2.start [n0, n1, n2] vs) H := by
  obtain ⟨a, ys, e1, e2, e3, e4⟩ := h
  rw [hfn] at e2
  match ys, e2 with
  | [u1, u2], _ =>
    subst e1
    refine ⟨_, rfl, a, ad cN, [V.str m], rfl, by simp, T, e3, ?_⟩
    refine ⟨_, rfl, _, rfl, a, ad cN, rfl, T, no1, .inl ⟨e3, fun dx hd hne => ?_⟩⟩
    refine ⟨_, rfl, _, rfl, a, ad cN, rfl, T, no2, .inr ⟨dx, [(y1, u1)], upd_same, by rw [upd_ne hne, upd_same], by simp, ?_⟩⟩
    refine e4 dx _ [(y2, u2), (y1, u1)] hd hne ?_ fun i f v h1 h2 => ?_
    · funext b
      by_cases hb : b = dx
      · subst hb
        rw [upd_same, upd_ne hne, upd_same]
      · rw [upd_ne hb]
        by_cases ha : b = a
        · rw [ha, upd_same, upd_same]
        · rw [upd_ne ha, upd_ne hb, upd_ne ha, upd_ne hb]
    · rw [hfn] at h1
      match i, h1, h2 with
      | 0, h1, h2 =>
        cases h1; cases h2
        have hb : (y1 == y2) = false := beq_eq_false_iff_ne.mpr hy
        simp only [List.lookup, hb, beq_self_eq_true]
      | 1, h1, h2 =>
        cases h1; cases h2
        simp only [List.lookup, beq_self_eq_true]
      | n + 2, h1, h2 => cases h1
end
end Mp
set_option Elab.async false
set_option linter.all false
set_option maxRecDepth 100000
set_option maxHeartbeats 2000000
namespace Mp
open PySem PySem.Spec PyProof.Rows L2

/-! ### what the printed texts lean on -/
def blkB (N : List Str) (sc scope : Scope) (own : List (Str × Nat)) : Bool :=
  decide (scope.kind = .function) && ((scope.names.all fun y => decide (scope.names.lookup y.1 = some y.2)) && ((own.all fun p => decide (N[p.2]? = some p.1)) &&
    ((scope.names.all fun y => !(decide (y.2 = .free)) || (decide (sc.names.lookup y.1 = some .cell) || decide (sc.names.lookup y.1 = some .free))) &&
      (scope.names.all fun y => !(decide (y.2 = .local) || decide (y.2 = .cell)) || (decide (y.1 ∈ own.map (·.1)) || decide (y.1 ∉ N))))))
theorem blkB_ok {N : List Str} {sc scope : Scope} {own : List (Str × Nat)} (h : blkB N sc scope own = true) : BlkOk N sc scope own := by
  unfold blkB at h
  simp only [Bool.and_eq_true, decide_eq_true_eq, List.all_eq_true, Bool.or_eq_true, Bool.not_eq_true', decide_eq_false_iff_not] at h
  obtain ⟨h1, h2, h3, h4, h5⟩ := h
  exact ⟨h1, h2, h3, fun y hy e => (h4 y hy).elim (fun z => absurd e z) id, fun y hy e => (h5 y hy).elim (fun z => absurd e (not_or.mpr (by simpa using z))) id⟩
theorem u80 {k : Nat} {A : Around} (r : Room k A) : A.units + 80 < cLine := by have := r.un; omega
/-- a def whose run is F -/
structure OkF (P : Program) (w : World) (K : PySem.W.Frag) (mg : Str → Option Value) (base : Heap) (ad : Gm) (k : Nat) (f : Addr) (ps : List Str) (F : Fn) : Prop where
  ex : ∃ fd, FnOk P w K mg base (L2.CX P w) k f fd ps (spF ad K F) ∧ PySem.W.keepIn K (.ref f) = true ∧ Binds K fd ps []
/-- .. with a default that may fill up -/
structure OkD (P : Program) (w : World) (K : PySem.W.Frag) (mg : Str → Option Value) (base : Heap) (ad : Gm) (k : Nat) (f : Addr) (ps : List Str) (dvs : List V) (F : Fn) : Prop where
  ex : ∃ fd ds, FnOk P w K mg base (L2.CX P w) k f fd ps (spF ad K F) ∧ PySem.W.keepIn K (.ref f) = true ∧ Binds K fd ps [] ∧ Vals dvs ds ∧ Binds K fd ps ds
structure OkG (P : Program) (w : World) (K : PySem.W.Frag) (mg : Str → Option Value) (base : Heap) (ad : Gm) (k : Nat) (f : Addr) (ps : List Str) (F : Fn) : Prop where
  ex : ∃ fd, FnG P w K mg base (L2.CX P w) k f fd ps (spF ad K F) ∧ PySem.W.keepIn K (.ref f) = true ∧ Binds K fd ps [] ∧ ∀ (s : Shared) (us : List Value), us.length = ps.length → BindsTo s fd ⟨us, []⟩ (ps.zip us)
structure OkK (P : Program) (w : World) (K : PySem.W.Frag) (mg : Str → Option Value) (base : Heap) (ad : Gm) (k : Nat) (f : Addr) (ps : List Str) (F : Fn) : Prop where
  ex : ∃ fd, FnOk P w K mg base (L2.CX P w) k f fd ps (spF ad K F) ∧ PySem.W.keepIn K (.ref f) = true ∧ Binds K fd ps [] ∧ ∀ (s : Shared) (ws : List Value), ws.length = ps.length → BindsTo s fd ⟨[], ps.zip ws⟩ (ps.zip ws)
theorem bindsKw {K : PySem.W.Frag} {x qual : Str} {params : Arguments} {body : List Stmt} {scope : Scope} {kws : List (Str × V)} {f : Addr} {fd : FuncData} {ps : List Str} (F : FunD K x qual params body scope [] kws f fd)
    (h : ∀ (kV doc pm : Value) (an : Option Addr) (cdv ct : Value) (ws : List Value), ws.length = ps.length → bindArgs (PySem.W.fnOf x qual params body scope .none kV doc pm an cdv ct) ⟨[], ps.zip ws⟩ = pure (ps.zip ws)) (s : Shared) (ws : List Value) (hl : ws.length = ps.length) : BindsTo s fd ⟨[], ps.zip ws⟩ (ps.zip ws) := by
  obtain ⟨oc, od, dV, kV, doc, pm, an, cdv, ct, osl, rfl, lk, hcd, hD, hK⟩ := F.ex
  rcases hD with ⟨_, rfl⟩ | ⟨e, _⟩
  · exact .of_eq (h kV doc pm an cdv ct ws hl)
  · exact absurd rfl e
theorem bt_int : bootBuiltins "int" = some (.type "int") := by decide +kernel
theorem bt_str : bootBuiltins "str" = some (.type "str") := by decide +kernel
theorem bt_list : bootBuiltins "list" = some (.type "list") := by decide +kernel
theorem bt_tuple : bootBuiltins "tuple" = some (.type "tuple") := by decide +kernel
theorem bt_len : bootBuiltins "len" = some (.builtin "len") := by decide +kernel
theorem bt_abs : bootBuiltins "abs" = some (.builtin "abs") := by decide +kernel
theorem bt_min : bootBuiltins "min" = some (.builtin "min") := by decide +kernel
theorem bt_isinstance : bootBuiltins "isinstance" = some (.builtin "isinstance") := by decide +kernel
theorem bt_any : bootBuiltins "any" = some (.builtin "any") := by decide +kernel
theorem bt_all : bootBuiltins "all" = some (.builtin "all") := by decide +kernel
theorem bt_sorted : bootBuiltins "sorted" = some (.builtin "sorted") := by decide +kernel
theorem bt_repr : bootBuiltins "repr" = some (.builtin "repr") := by decide +kernel
/-- turns at most -/
def FU : Nat := 2 ^ 40
end Mp
set_option Elab.async false
set_option linter.all false
set_option maxRecDepth 100000
set_option maxHeartbeats 4000000
namespace W86
open PySem PySem.Spec PyProof.Rows L2 Mp
def top (i : Nat) : Stmt := PySem.Challenge.pw_hangsfast_k86_texts_of_groupings_and_off.main.body.getD i (.Pass ⟨0, 0, 0, 0⟩)
def inCls (s : Stmt) (j : Nat) : Stmt := match s with
  | .ClassDef _ _ _ b _ _ _ _ _ _ _ => b.getD j (.Pass ⟨0, 0, 0, 0⟩)
  | _ => .Pass ⟨0, 0, 0, 0⟩
def gnames : List Str := ["_wall", "HangError", "BadText", "is_name", "Scan", "is_written", "lines_of", "grouping_text", "offers_text", "read_grouping", "need_over", "read_offers", "_law_pen", "_law_draw", "_law_pick", "_law_is_name", "_law_is_number", "_law_bent_text", "_law_answered", "_law_names_bad", "_law_grouping_due", "_law_offers_due", "_law_grouping", "_law_right", "law"]
def fnames : Nat → List Str
  | 2 => ["line", "word"]
  | 4 => ["lines", "line", "word"]
  | _ => []
def gm (K : PySem.W.Frag) : Gm where
  ad := fun n => He.ga K (gnames.getD n "")
  fn := fnames
  nd := fun c => by unfold fnames; split <;> decide
  le := fun c => by unfold fnames; split <;> decide
structure Fc (K : PySem.W.Frag) (mg : Str → Option Value) : Prop where
  i_MOST_OFFERS : ∃ t, mg "MOST_OFFERS" = some (.int 10 t)
  i_MOST_PRICE : ∃ t, mg "MOST_PRICE" = some (.int 1000000 t)
  i_MOST_SIGNS : ∃ t, mg "MOST_SIGNS" = some (.int 12 t)
  s_SIGNS : ∃ t, mg "SIGNS" = some (.str "abcdefghijklmnopqrstuvwxyz0123456789" t)
  x_BadText : oexB K ((gm K) 2) = true
  xi_BadText : PySem.W.findIn K (.ref ((gm K) 2)) "__init__" = some (some (.ref (He.ma K ((gm K) 2) "__init__")))
  xt_BadText : PySem.W.typeIn K (.ref (He.ma K ((gm K) 2) "__init__")) = some (.type "function")
  xq_BadText_line : PySem.W.findIn K (.ref ((gm K) 2)) "line" = some none
  xq_BadText_word : PySem.W.findIn K (.ref ((gm K) 2)) "word" = some none
  h_HangError : hinB K ((gm K) 1) = true
  gh_HangError : mg "HangError" = some (.ref ((gm K) 1))
  na_Scan_line : NoAttr K ((gm K) 4) "line"
  na_Scan_lines : NoAttr K ((gm K) 4) "lines"
  na_Scan_word : NoAttr K ((gm K) 4) "word"
  n_abs : mg "abs" = none
  n_all : mg "all" = none
  n_any : mg "any" = none
  n_enumerate : mg "enumerate" = none
  n_int : mg "int" = none
  n_isinstance : mg "isinstance" = none
  n_len : mg "len" = none
  n_list : mg "list" = none
  n_min : mg "min" = none
  n_range : mg "range" = none
  n_repr : mg "repr" = none
  n_sorted : mg "sorted" = none
  n_str : mg "str" = none
  n_tuple : mg "tuple" = none
  g_BadText : mg "BadText" = some (.ref ((gm K) 2))
  g_Scan : mg "Scan" = some (.ref ((gm K) 4))
  g__law_answered : mg "_law_answered" = some (.ref ((gm K) 18))
  g__law_bent_text : mg "_law_bent_text" = some (.ref ((gm K) 17))
  g__law_draw : mg "_law_draw" = some (.ref ((gm K) 13))
  g__law_grouping : mg "_law_grouping" = some (.ref ((gm K) 22))
  g__law_grouping_due : mg "_law_grouping_due" = some (.ref ((gm K) 20))
  g__law_is_name : mg "_law_is_name" = some (.ref ((gm K) 15))
  g__law_is_number : mg "_law_is_number" = some (.ref ((gm K) 16))
  g__law_names_bad : mg "_law_names_bad" = some (.ref ((gm K) 19))
  g__law_offers_due : mg "_law_offers_due" = some (.ref ((gm K) 21))
  g__law_pen : mg "_law_pen" = some (.ref ((gm K) 12))
  g__law_pick : mg "_law_pick" = some (.ref ((gm K) 14))
  g__law_right : mg "_law_right" = some (.ref ((gm K) 23))
  g_grouping_text : mg "grouping_text" = some (.ref ((gm K) 7))
  g_is_name : mg "is_name" = some (.ref ((gm K) 3))
  g_is_written : mg "is_written" = some (.ref ((gm K) 5))
  g_lines_of : mg "lines_of" = some (.ref ((gm K) 6))
  g_need_over : mg "need_over" = some (.ref ((gm K) 10))
  g_offers_text : mg "offers_text" = some (.ref ((gm K) 8))
  g_read_grouping : mg "read_grouping" = some (.ref ((gm K) 9))
  g_read_offers : mg "read_offers" = some (.ref ((gm K) 11))
  m_Scan_ahead : Meth K ((gm K) 4) "ahead" (He.ma K ((gm K) 4) "ahead")
  m_Scan_back : Meth K ((gm K) 4) "back" (He.ma K ((gm K) 4) "back")
  m_Scan_end_line : Meth K ((gm K) 4) "end_line" (He.ma K ((gm K) 4) "end_line")
  m_Scan_is_over : Meth K ((gm K) 4) "is_over" (He.ma K ((gm K) 4) "is_over")
  m_Scan_refuse : Meth K ((gm K) 4) "refuse" (He.ma K ((gm K) 4) "refuse")
  m_Scan_take : Meth K ((gm K) 4) "take" (He.ma K ((gm K) 4) "take")
  m_Scan_take_integer : Meth K ((gm K) 4) "take_integer" (He.ma K ((gm K) 4) "take_integer")
  m_Scan_take_name : Meth K ((gm K) 4) "take_name" (He.ma K ((gm K) 4) "take_name")
  m_Scan_take_word : Meth K ((gm K) 4) "take_word" (He.ma K ((gm K) 4) "take_word")
  mk_Scan : Mk K ((gm K) 4) (He.ma K ((gm K) 4) "__init__")
  c_Scan : Cls K ((gm K) 4)
  xf_BadText : xfB K ((gm K) 2) = true
  xm_BadText : PySem.W.exmOne K (.ref ((gm K) 2)) (.ref ((gm K) 2)) = some true
  xno_BadText_line : PySem.W.findIn K (.ref ((gm K) 2)) "line" = some none
  xno_BadText_word : PySem.W.findIn K (.ref ((gm K) 2)) "word" = some none
  d__law_pen : ∃ fd, FunD K "_law_pen" "_law_pen" (defArgs (top 21)) (defBody (top 21)) (defScope (top 21)) [] [] ((gm K) 12) fd
  d__law_draw : ∃ fd, FunD K "_law_draw" "_law_draw" (defArgs (top 22)) (defBody (top 22)) (defScope (top 22)) [] [] ((gm K) 13) fd
  d__law_grouping : ∃ fd, FunD K "_law_grouping" "_law_grouping" (defArgs (top 31)) (defBody (top 31)) (defScope (top 31)) [] [] ((gm K) 22) fd
  d__law_pick : ∃ fd, FunD K "_law_pick" "_law_pick" (defArgs (top 23)) (defBody (top 23)) (defScope (top 23)) [] [] ((gm K) 14) fd
  d_grouping_text : ∃ fd, FunD K "grouping_text" "grouping_text" (defArgs (top 15)) (defBody (top 15)) (defScope (top 15)) [] [] ((gm K) 7) fd
  d_lines_of : ∃ fd, FunD K "lines_of" "lines_of" (defArgs (top 14)) (defBody (top 14)) (defScope (top 14)) [] [] ((gm K) 6) fd
  d_offers_text : ∃ fd, FunD K "offers_text" "offers_text" (defArgs (top 16)) (defBody (top 16)) (defScope (top 16)) [] [] ((gm K) 8) fd
  d__law_bent_text : ∃ fd, FunD K "_law_bent_text" "_law_bent_text" (defArgs (top 26)) (defBody (top 26)) (defScope (top 26)) [] [] ((gm K) 17) fd
  d_BadText___init__ : ∃ fd, FunD K "__init__" "BadText.__init__" (defArgs (inCls (top 3) 0)) (defBody (inCls (top 3) 0)) (defScope (inCls (top 3) 0)) [] [] (He.ma K ((gm K) 2) "__init__") fd
  d_Scan___init__ : ∃ fd, FunD K "__init__" "Scan.__init__" (defArgs (inCls (top 9) 0)) (defBody (inCls (top 9) 0)) (defScope (inCls (top 9) 0)) [] [] (He.ma K ((gm K) 4) "__init__") fd
  d_Scan_is_over : ∃ fd, FunD K "is_over" "Scan.is_over" (defArgs (inCls (top 9) 2)) (defBody (inCls (top 9) 2)) (defScope (inCls (top 9) 2)) [] [] (He.ma K ((gm K) 4) "is_over") fd
  d_Scan_ahead : ∃ fd, FunD K "ahead" "Scan.ahead" (defArgs (inCls (top 9) 3)) (defBody (inCls (top 9) 3)) (defScope (inCls (top 9) 3)) [] [] (He.ma K ((gm K) 4) "ahead") fd
  d_Scan_refuse : ∃ fd, FunD K "refuse" "Scan.refuse" (defArgs (inCls (top 9) 1)) (defBody (inCls (top 9) 1)) (defScope (inCls (top 9) 1)) [] [] (He.ma K ((gm K) 4) "refuse") fd
  d_Scan_take : ∃ fd, FunD K "take" "Scan.take" (defArgs (inCls (top 9) 4)) (defBody (inCls (top 9) 4)) (defScope (inCls (top 9) 4)) [] [] (He.ma K ((gm K) 4) "take") fd
  d_is_name : ∃ fd, FunD K "is_name" "is_name" (defArgs (top 7)) (defBody (top 7)) (defScope (top 7)) [] [] ((gm K) 3) fd
  d_Scan_back : ∃ fd, FunD K "back" "Scan.back" (defArgs (inCls (top 9) 5)) (defBody (inCls (top 9) 5)) (defScope (inCls (top 9) 5)) [] [] (He.ma K ((gm K) 4) "back") fd
  d_Scan_take_name : ∃ fd, FunD K "take_name" "Scan.take_name" (defArgs (inCls (top 9) 8)) (defBody (inCls (top 9) 8)) (defScope (inCls (top 9) 8)) [.non] [] (He.ma K ((gm K) 4) "take_name") fd
  d_Scan_end_line : ∃ fd, FunD K "end_line" "Scan.end_line" (defArgs (inCls (top 9) 10)) (defBody (inCls (top 9) 10)) (defScope (inCls (top 9) 10)) [] [] (He.ma K ((gm K) 4) "end_line") fd
  d_need_over : ∃ fd, FunD K "need_over" "need_over" (defArgs (top 18)) (defBody (top 18)) (defScope (top 18)) [] [] ((gm K) 10) fd
  d_read_grouping : ∃ fd, FunD K "read_grouping" "read_grouping" (defArgs (top 17)) (defBody (top 17)) (defScope (top 17)) [] [] ((gm K) 9) fd
  d_Scan_take_word : ∃ fd, FunD K "take_word" "Scan.take_word" (defArgs (inCls (top 9) 6)) (defBody (inCls (top 9) 6)) (defScope (inCls (top 9) 6)) [] [] (He.ma K ((gm K) 4) "take_word") fd
  d_is_written : ∃ fd, FunD K "is_written" "is_written" (defArgs (top 10)) (defBody (top 10)) (defScope (top 10)) [] [] ((gm K) 5) fd
  d_Scan_take_integer : ∃ fd, FunD K "take_integer" "Scan.take_integer" (defArgs (inCls (top 9) 9)) (defBody (inCls (top 9) 9)) (defScope (inCls (top 9) 9)) [] [] (He.ma K ((gm K) 4) "take_integer") fd
  d_read_offers : ∃ fd, FunD K "read_offers" "read_offers" (defArgs (top 19)) (defBody (top 19)) (defScope (top 19)) [] [] ((gm K) 11) fd
  d__law_answered : ∃ fd, FunD K "_law_answered" "_law_answered" (defArgs (top 27)) (defBody (top 27)) (defScope (top 27)) [] [] ((gm K) 18) fd
  d__law_is_name : ∃ fd, FunD K "_law_is_name" "_law_is_name" (defArgs (top 24)) (defBody (top 24)) (defScope (top 24)) [] [] ((gm K) 15) fd
  d__law_grouping_due : ∃ fd, FunD K "_law_grouping_due" "_law_grouping_due" (defArgs (top 29)) (defBody (top 29)) (defScope (top 29)) [] [] ((gm K) 20) fd
  d__law_names_bad : ∃ fd, FunD K "_law_names_bad" "_law_names_bad" (defArgs (top 28)) (defBody (top 28)) (defScope (top 28)) [] [] ((gm K) 19) fd
  d__law_is_number : ∃ fd, FunD K "_law_is_number" "_law_is_number" (defArgs (top 25)) (defBody (top 25)) (defScope (top 25)) [] [] ((gm K) 16) fd
  d__law_offers_due : ∃ fd, FunD K "_law_offers_due" "_law_offers_due" (defArgs (top 30)) (defBody (top 30)) (defScope (top 30)) [] [] ((gm K) 21) fd
  d__law_right : ∃ fd, FunD K "_law_right" "_law_right" (defArgs (top 32)) (defBody (top 32)) (defScope (top 32)) [] [] ((gm K) 23) fd
  d_law : ∃ fd, FunD K "law" "law" (defArgs (top 33)) (defBody (top 33)) (defScope (top 33)) [] [] ((gm K) 24) fd
def d0 : He.DefD := ⟨("_law_pen", none), "_law_pen", "_law_pen", defArgs (top 21), defBody (top 21), defScope (top 21), [], []⟩
def d1 : He.DefD := ⟨("_law_draw", none), "_law_draw", "_law_draw", defArgs (top 22), defBody (top 22), defScope (top 22), [], []⟩
def d2 : He.DefD := ⟨("_law_grouping", none), "_law_grouping", "_law_grouping", defArgs (top 31), defBody (top 31), defScope (top 31), [], []⟩
def d3 : He.DefD := ⟨("_law_pick", none), "_law_pick", "_law_pick", defArgs (top 23), defBody (top 23), defScope (top 23), [], []⟩
def d4 : He.DefD := ⟨("grouping_text", none), "grouping_text", "grouping_text", defArgs (top 15), defBody (top 15), defScope (top 15), [], []⟩
def d5 : He.DefD := ⟨("lines_of", none), "lines_of", "lines_of", defArgs (top 14), defBody (top 14), defScope (top 14), [], []⟩
def d6 : He.DefD := ⟨("offers_text", none), "offers_text", "offers_text", defArgs (top 16), defBody (top 16), defScope (top 16), [], []⟩
def d7 : He.DefD := ⟨("_law_bent_text", none), "_law_bent_text", "_law_bent_text", defArgs (top 26), defBody (top 26), defScope (top 26), [], []⟩
def d8 : He.DefD := ⟨("BadText", some "__init__"), "__init__", "BadText.__init__", defArgs (inCls (top 3) 0), defBody (inCls (top 3) 0), defScope (inCls (top 3) 0), [], []⟩
def d9 : He.DefD := ⟨("Scan", some "__init__"), "__init__", "Scan.__init__", defArgs (inCls (top 9) 0), defBody (inCls (top 9) 0), defScope (inCls (top 9) 0), [], []⟩
def d10 : He.DefD := ⟨("Scan", some "is_over"), "is_over", "Scan.is_over", defArgs (inCls (top 9) 2), defBody (inCls (top 9) 2), defScope (inCls (top 9) 2), [], []⟩
def d11 : He.DefD := ⟨("Scan", some "ahead"), "ahead", "Scan.ahead", defArgs (inCls (top 9) 3), defBody (inCls (top 9) 3), defScope (inCls (top 9) 3), [], []⟩
def d12 : He.DefD := ⟨("Scan", some "refuse"), "refuse", "Scan.refuse", defArgs (inCls (top 9) 1), defBody (inCls (top 9) 1), defScope (inCls (top 9) 1), [], []⟩
def d13 : He.DefD := ⟨("Scan", some "take"), "take", "Scan.take", defArgs (inCls (top 9) 4), defBody (inCls (top 9) 4), defScope (inCls (top 9) 4), [], []⟩
def d14 : He.DefD := ⟨("is_name", none), "is_name", "is_name", defArgs (top 7), defBody (top 7), defScope (top 7), [], []⟩
def d15 : He.DefD := ⟨("Scan", some "back"), "back", "Scan.back", defArgs (inCls (top 9) 5), defBody (inCls (top 9) 5), defScope (inCls (top 9) 5), [], []⟩
def d16 : He.DefD := ⟨("Scan", some "take_name"), "take_name", "Scan.take_name", defArgs (inCls (top 9) 8), defBody (inCls (top 9) 8), defScope (inCls (top 9) 8), [.non], []⟩
def d17 : He.DefD := ⟨("Scan", some "end_line"), "end_line", "Scan.end_line", defArgs (inCls (top 9) 10), defBody (inCls (top 9) 10), defScope (inCls (top 9) 10), [], []⟩
def d18 : He.DefD := ⟨("need_over", none), "need_over", "need_over", defArgs (top 18), defBody (top 18), defScope (top 18), [], []⟩
def d19 : He.DefD := ⟨("read_grouping", none), "read_grouping", "read_grouping", defArgs (top 17), defBody (top 17), defScope (top 17), [], []⟩
def d20 : He.DefD := ⟨("Scan", some "take_word"), "take_word", "Scan.take_word", defArgs (inCls (top 9) 6), defBody (inCls (top 9) 6), defScope (inCls (top 9) 6), [], []⟩
def d21 : He.DefD := ⟨("is_written", none), "is_written", "is_written", defArgs (top 10), defBody (top 10), defScope (top 10), [], []⟩
def d22 : He.DefD := ⟨("Scan", some "take_integer"), "take_integer", "Scan.take_integer", defArgs (inCls (top 9) 9), defBody (inCls (top 9) 9), defScope (inCls (top 9) 9), [], []⟩
def d23 : He.DefD := ⟨("read_offers", none), "read_offers", "read_offers", defArgs (top 19), defBody (top 19), defScope (top 19), [], []⟩
def d24 : He.DefD := ⟨("_law_answered", none), "_law_answered", "_law_answered", defArgs (top 27), defBody (top 27), defScope (top 27), [], []⟩
def d25 : He.DefD := ⟨("_law_is_name", none), "_law_is_name", "_law_is_name", defArgs (top 24), defBody (top 24), defScope (top 24), [], []⟩
def d26 : He.DefD := ⟨("_law_grouping_due", none), "_law_grouping_due", "_law_grouping_due", defArgs (top 29), defBody (top 29), defScope (top 29), [], []⟩
def d27 : He.DefD := ⟨("_law_names_bad", none), "_law_names_bad", "_law_names_bad", defArgs (top 28), defBody (top 28), defScope (top 28), [], []⟩
def d28 : He.DefD := ⟨("_law_is_number", none), "_law_is_number", "_law_is_number", defArgs (top 25), defBody (top 25), defScope (top 25), [], []⟩
def d29 : He.DefD := ⟨("_law_offers_due", none), "_law_offers_due", "_law_offers_due", defArgs (top 30), defBody (top 30), defScope (top 30), [], []⟩
def d30 : He.DefD := ⟨("_law_right", none), "_law_right", "_law_right", defArgs (top 32), defBody (top 32), defScope (top 32), [], []⟩
def d31 : He.DefD := ⟨("law", none), "law", "law", defArgs (top 33), defBody (top 33), defScope (top 33), [], []⟩
def fa : List FaM := [(fun K => (He.Fa.int "MOST_OFFERS" 10).ok K), (fun K => (He.Fa.int "MOST_PRICE" 1000000).ok K), (fun K => (He.Fa.int "MOST_SIGNS" 12).ok K), (fun K => (He.Fa.str "SIGNS" "abcdefghijklmnopqrstuvwxyz0123456789").ok K), (fun K => oexB K (He.ga K "BadText")), (fun K => decide (PySem.W.findIn K (.ref (He.ga K "BadText")) "__init__" = some (some (.ref (He.ma K (He.ga K "BadText") "__init__"))))), (fun K => decide (PySem.W.typeIn K (.ref (He.ma K (He.ga K "BadText") "__init__")) = some (.type "function"))), (fun K => decide (PySem.W.findIn K (.ref (He.ga K "BadText")) "line" = some none)), (fun K => decide (PySem.W.findIn K (.ref (He.ga K "BadText")) "word" = some none)), (fun K => hinB K (He.ga K "HangError")), (fun K => (He.Fa.glo "HangError").ok K), (fun K => (He.Fa.noat "Scan" "line").ok K), (fun K => (He.Fa.noat "Scan" "lines").ok K), (fun K => (He.Fa.noat "Scan" "word").ok K), (fun K => (He.Fa.free "abs").ok K), (fun K => (He.Fa.free "all").ok K), (fun K => (He.Fa.free "any").ok K), (fun K => (He.Fa.free "enumerate").ok K), (fun K => (He.Fa.free "int").ok K), (fun K => (He.Fa.free "isinstance").ok K), (fun K => (He.Fa.free "len").ok K), (fun K => (He.Fa.free "list").ok K), (fun K => (He.Fa.free "min").ok K), (fun K => (He.Fa.free "range").ok K), (fun K => (He.Fa.free "repr").ok K), (fun K => (He.Fa.free "sorted").ok K), (fun K => (He.Fa.free "str").ok K), (fun K => (He.Fa.free "tuple").ok K), (fun K => (He.Fa.glo "BadText").ok K), (fun K => (He.Fa.glo "Scan").ok K), (fun K => (He.Fa.glo "_law_answered").ok K), (fun K => (He.Fa.glo "_law_bent_text").ok K), (fun K => (He.Fa.glo "_law_draw").ok K), (fun K => (He.Fa.glo "_law_grouping").ok K), (fun K => (He.Fa.glo "_law_grouping_due").ok K), (fun K => (He.Fa.glo "_law_is_name").ok K), (fun K => (He.Fa.glo "_law_is_number").ok K), (fun K => (He.Fa.glo "_law_names_bad").ok K), (fun K => (He.Fa.glo "_law_offers_due").ok K), (fun K => (He.Fa.glo "_law_pen").ok K), (fun K => (He.Fa.glo "_law_pick").ok K), (fun K => (He.Fa.glo "_law_right").ok K), (fun K => (He.Fa.glo "grouping_text").ok K), (fun K => (He.Fa.glo "is_name").ok K), (fun K => (He.Fa.glo "is_written").ok K), (fun K => (He.Fa.glo "lines_of").ok K), (fun K => (He.Fa.glo "need_over").ok K), (fun K => (He.Fa.glo "offers_text").ok K), (fun K => (He.Fa.glo "read_grouping").ok K), (fun K => (He.Fa.glo "read_offers").ok K), (fun K => (He.Fa.meth "Scan" "ahead").ok K), (fun K => (He.Fa.meth "Scan" "back").ok K), (fun K => (He.Fa.meth "Scan" "end_line").ok K), (fun K => (He.Fa.meth "Scan" "is_over").ok K), (fun K => (He.Fa.meth "Scan" "refuse").ok K), (fun K => (He.Fa.meth "Scan" "take").ok K), (fun K => (He.Fa.meth "Scan" "take_integer").ok K), (fun K => (He.Fa.meth "Scan" "take_name").ok K), (fun K => (He.Fa.meth "Scan" "take_word").ok K), (fun K => (He.Fa.mkr "Scan").ok K), (fun K => (He.Fa.cls "Scan").ok K), (fun K => xfB K (He.ga K "BadText")), (fun K => decide (PySem.W.exmOne K (.ref (He.ga K "BadText")) (.ref (He.ga K "BadText")) = some true)), (fun K => decide (PySem.W.findIn K (.ref (He.ga K "BadText")) "line" = some none)), (fun K => decide (PySem.W.findIn K (.ref (He.ga K "BadText")) "word" = some none)), noLists, (fun K => (He.Fa.glo "law").ok K)]
def fn : List He.DefD := [d0, d1, d2, d3, d4, d5, d6, d7, d8, d9, d10, d11, d12, d13, d14, d15, d16, d17, d18, d19, d20, d21, d22, d23, d24, d25, d26, d27, d28, d29, d30, d31]
theorem fc_of {K : PySem.W.Frag} {h : Heap} {mg : Str → Option Value} (X : K.In h) (G : h.Ns mainGlobals mg) (c : SaysM fa fn K) : Fc K mg :=
  ⟨He.int_ok X G (c.fact 0 rfl),
   He.int_ok X G (c.fact 1 rfl),
   He.int_ok X G (c.fact 2 rfl),
   He.str_ok X G (c.fact 3 rfl),
   (c.fact 4 rfl),
   of_decide_eq_true (c.fact 5 rfl),
   of_decide_eq_true (c.fact 6 rfl),
   of_decide_eq_true (c.fact 7 rfl),
   of_decide_eq_true (c.fact 8 rfl),
   (c.fact 9 rfl),
   He.glo_ok X G (c.fact 10 rfl),
   He.noat_ok (c.fact 11 rfl),
   He.noat_ok (c.fact 12 rfl),
   He.noat_ok (c.fact 13 rfl),
   He.free_ok X G (c.fact 14 rfl),
   He.free_ok X G (c.fact 15 rfl),
   He.free_ok X G (c.fact 16 rfl),
   He.free_ok X G (c.fact 17 rfl),
   He.free_ok X G (c.fact 18 rfl),
   He.free_ok X G (c.fact 19 rfl),
   He.free_ok X G (c.fact 20 rfl),
   He.free_ok X G (c.fact 21 rfl),
   He.free_ok X G (c.fact 22 rfl),
   He.free_ok X G (c.fact 23 rfl),
   He.free_ok X G (c.fact 24 rfl),
   He.free_ok X G (c.fact 25 rfl),
   He.free_ok X G (c.fact 26 rfl),
   He.free_ok X G (c.fact 27 rfl),
   He.glo_ok X G (c.fact 28 rfl),
   He.glo_ok X G (c.fact 29 rfl),
   He.glo_ok X G (c.fact 30 rfl),
   He.glo_ok X G (c.fact 31 rfl),
   He.glo_ok X G (c.fact 32 rfl),
   He.glo_ok X G (c.fact 33 rfl),
   He.glo_ok X G (c.fact 34 rfl),
   He.glo_ok X G (c.fact 35 rfl),
   He.glo_ok X G (c.fact 36 rfl),
   He.glo_ok X G (c.fact 37 rfl),
   He.glo_ok X G (c.fact 38 rfl),
   He.glo_ok X G (c.fact 39 rfl),
   He.glo_ok X G (c.fact 40 rfl),
   He.glo_ok X G (c.fact 41 rfl),
   He.glo_ok X G (c.fact 42 rfl),
   He.glo_ok X G (c.fact 43 rfl),
   He.glo_ok X G (c.fact 44 rfl),
   He.glo_ok X G (c.fact 45 rfl),
   He.glo_ok X G (c.fact 46 rfl),
   He.glo_ok X G (c.fact 47 rfl),
   He.glo_ok X G (c.fact 48 rfl),
   He.glo_ok X G (c.fact 49 rfl),
   He.meth_ok (c.fact 50 rfl),
   He.meth_ok (c.fact 51 rfl),
   He.meth_ok (c.fact 52 rfl),
   He.meth_ok (c.fact 53 rfl),
   He.meth_ok (c.fact 54 rfl),
   He.meth_ok (c.fact 55 rfl),
   He.meth_ok (c.fact 56 rfl),
   He.meth_ok (c.fact 57 rfl),
   He.meth_ok (c.fact 58 rfl),
   He.mkr_ok (c.fact 59 rfl),
   He.cls_ok (c.fact 60 rfl),
   (c.fact 61 rfl),
   of_decide_eq_true (c.fact 62 rfl),
   of_decide_eq_true (c.fact 63 rfl),
   of_decide_eq_true (c.fact 64 rfl),
   c.def_ 0 (d := d0) rfl,
   c.def_ 1 (d := d1) rfl,
   c.def_ 2 (d := d2) rfl,
   c.def_ 3 (d := d3) rfl,
   c.def_ 4 (d := d4) rfl,
   c.def_ 5 (d := d5) rfl,
   c.def_ 6 (d := d6) rfl,
   c.def_ 7 (d := d7) rfl,
   c.def_ 8 (d := d8) rfl,
   c.def_ 9 (d := d9) rfl,
   c.def_ 10 (d := d10) rfl,
   c.def_ 11 (d := d11) rfl,
   c.def_ 12 (d := d12) rfl,
   c.def_ 13 (d := d13) rfl,
   c.def_ 14 (d := d14) rfl,
   c.def_ 15 (d := d15) rfl,
   c.def_ 16 (d := d16) rfl,
   c.def_ 17 (d := d17) rfl,
   c.def_ 18 (d := d18) rfl,
   c.def_ 19 (d := d19) rfl,
   c.def_ 20 (d := d20) rfl,
   c.def_ 21 (d := d21) rfl,
   c.def_ 22 (d := d22) rfl,
   c.def_ 23 (d := d23) rfl,
   c.def_ 24 (d := d24) rfl,
   c.def_ 25 (d := d25) rfl,
   c.def_ 26 (d := d26) rfl,
   c.def_ 27 (d := d27) rfl,
   c.def_ 28 (d := d28) rfl,
   c.def_ 29 (d := d29) rfl,
   c.def_ 30 (d := d30) rfl,
   c.def_ 31 (d := d31) rfl⟩
theorem nl_of {K : PySem.W.Frag} (c : SaysM fa fn K) : noLists K = true := c.fact 65 rfl
theorem nm_Scan_ahead : ("ahead" : Str) ∉ fnames 4 := by decide
theorem nm_Scan_back : ("back" : Str) ∉ fnames 4 := by decide
theorem nm_Scan_end_line : ("end_line" : Str) ∉ fnames 4 := by decide
theorem nm_Scan_is_over : ("is_over" : Str) ∉ fnames 4 := by decide
theorem nm_Scan_refuse : ("refuse" : Str) ∉ fnames 4 := by decide
theorem nm_Scan_take : ("take" : Str) ∉ fnames 4 := by decide
theorem nm_Scan_take_integer : ("take_integer" : Str) ∉ fnames 4 := by decide
theorem nm_Scan_take_name : ("take_name" : Str) ∉ fnames 4 := by decide
theorem nm_Scan_take_word : ("take_word" : Str) ∉ fnames 4 := by decide
section
variable {P : Program} {w : World} {K : PySem.W.Frag} {mg : Str → Option Value} {base : Heap}
/-! _law_pen -/
theorem sc__law_pen : FnScope ["script", "cell"] ["script"] (defScope (top 21)) := ⟨rfl, rfl, rfl, by decide +kernel, rfl, by decide +kernel, by decide +kernel⟩
def s__law_pen : SF := (sRet (fLst (fCons (fComp (fSrc (fSl (fVar 0) fNoP (fPart (fC (.int 63))))) (.nm 1) fYes (fCB gInt (fCons (fVar 1) fNil)) FU) (fCons (fC (.int 0)) (fCons (fC (.int 0)) fNil)))))
def F__law_pen : Fn := mkFn 1 2 s__law_pen
theorem ok__law_pen (fc : Fc K mg) : OkF P w K mg base (gm K) 1 ((gm K) 12) ["script"] F__law_pen := by
  obtain ⟨fd, F⟩ := fc.d__law_pen
  have sc := sc__law_pen
  refine ⟨fd, fn_ok F sc fun cdv A outer s0 H E hr => ?_, F.kp, F.bindsN fun _ _ _ _ _ _ us hl => match us, hl with | [_], _ => rfl⟩
  exact (rs_one (rs_ret (re_lst (ra_cons (re_comp FU rfl sc.nd (ri_any (re_sl (re_var 0) ro_none (ro_some re_int))) (blkB_ok (own := [("cell", 1)]) rfl) rfl (fun _ _ _ _ _ => (pg_name sc.nd (i := 1) rfl (by first | exact Or.inl rfl | exact Or.inr rfl) (by first | exact .inl rfl | exact .inr rfl))) (fun _ _ _ _ _ => pts_yes) (fun _ _ _ _ _ => (re_callTy cr_int cv_int (by rfl) fc.n_int bt_int (ra_cons (re_var 1) ra_nil)))) (ra_cons re_int (ra_cons re_int ra_nil))))))
/-! _law_draw -/
theorem sc__law_draw : FnScope ["pen", "upto", "digit", "at", "cell", "great", "first", "second"] ["pen", "upto"] (defScope (top 22)) := ⟨rfl, rfl, rfl, by decide +kernel, rfl, by decide +kernel, by decide +kernel⟩
def s__law_draw : SF := (sSeq (sIf (fB (fOp gGt (fOp gIx (fVar 0) (fC (.int 2))) (fC (.int 0))))
  (sSeq (sAsg (fOp gMod (fCB gInt (fCons (fOp gIx (fVar 0) (fC (.int 2))) fNil)) (fVar 1)) (gN 2))
  (sSeq (sAsg (fOp gFdiv (fCB gInt (fCons (fOp gIx (fVar 0) (fC (.int 2))) fNil)) (fVar 1)) (gSb gSet (fVar 0) (fC (.int 2))))
  (sRet (fVar 2))))
  sNil)
  (sSeq (sAsg (fOp gIx (fVar 0) (fC (.int 1))) (gN 3))
  (sSeq (sAsg (fOp gAdd (fVar 3) (fC (.int 1))) (gSb gSet (fVar 0) (fC (.int 1))))
  (sSeq (sAsg (fOp gAdd (fOp gMul (fC (.int 8467)) (fVar 3)) (fC (.int 331))) (gN 4))
  (sSeq (sIf (fB (fOp gNe (fOp gIx (fVar 0) (fC (.int 0))) (fLst fNil)))
  (sAsg (fOp gIx (fOp gIx (fVar 0) (fC (.int 0))) (fOp gMod (fCB gInt (fCons (fVar 3) fNil)) (fCB gLen (fCons (fOp gIx (fVar 0) (fC (.int 0))) fNil)))) (gN 4))
  sNil)
  (sSeq (sIf (fAnd (fB (fOp gLt (fVar 3) (fCB gLen (fCons (fOp gIx (fVar 0) (fC (.int 0))) fNil)))) (fB (fOp gGe (fCB gAbs (fCons (fVar 4) fNil)) (fOp gPow (fC (.int 10)) (fC (.int 18))))))
  (sSeq (sAsg (fOp gAdd (fOp gMul (fC (.int 2)) (fOp gSub (fCB gAbs (fCons (fVar 4) fNil)) (fOp gPow (fC (.int 10)) (fC (.int 18))))) (fCB gInt (fCons (fOp gLt (fVar 4) (fC (.int 0))) fNil))) (gN 5))
  (sSeq (sAsg (fOp gFdiv (fCB gInt (fCons (fVar 5) fNil)) (fVar 1)) (gSb gSet (fVar 0) (fC (.int 2))))
  (sRet (fOp gMod (fCB gInt (fCons (fVar 5) fNil)) (fVar 1)))))
  sNil)
  (sSeq (sAsg (fOp gMod (fCB gInt (fCons (fOp gPow (fOp gAdd (fOp gAdd (fOp gAdd (fOp gMod (fCB gInt (fCons (fVar 4) fNil)) (fC (.int 2147483563))) (fOp gMul (fOp gMul (fC (.int 51437)) (fVar 3)) (fVar 3))) (fOp gMul (fC (.int 30431)) (fVar 3))) (fC (.int 57))) (fC (.int 3))) fNil)) (fC (.int 2147483647))) (gN 6))
  (sSeq (sAsg (fOp gMod (fCB gInt (fCons (fOp gPow (fOp gAdd (fOp gMul (fVar 6) (fOp gAdd (fOp gMul (fC (.int 2)) (fVar 3)) (fC (.int 31)))) (fC (.int 51437))) (fC (.int 5))) fNil)) (fC (.int 2147483549))) (gN 7))
  (sRet (fOp gMod (fCB gInt (fCons (fOp gFdiv (fVar 7) (fC (.int 64))) fNil)) (fVar 1)))))))))))
def F__law_draw : Fn := mkFn 2 8 s__law_draw
theorem ok__law_draw (fc : Fc K mg) : OkF P w K mg base (gm K) 1 ((gm K) 13) ["pen", "upto"] F__law_draw := by
  obtain ⟨fd, F⟩ := fc.d__law_draw
  have sc := sc__law_draw
  refine ⟨fd, fn_ok F sc fun cdv A outer s0 H E hr => ?_, F.kp, F.bindsN fun _ _ _ _ _ _ us hl => match us, hl with | [_, _], _ => rfl⟩
  exact (rs_cons (rs_if (rt_cmp or_gt ov_gt (re_ix (re_var 0) re_int) re_int)
  (rs_cons (rs_asg (re_bin op_mod ov_mod (re_callTy cr_int cv_int (by rfl) fc.n_int bt_int (ra_cons (re_ix (re_var 0) re_int) ra_nil)) (re_var 1)) (rg_name 2 sc.nd))
  (rs_cons (rs_asg (re_bin op_fdiv ov_fdiv (re_callTy cr_int cv_int (by rfl) fc.n_int bt_int (ra_cons (re_ix (re_var 0) re_int) ra_nil)) (re_var 1)) (rg_sub (re_var 0) re_int set_list sv_set))
  (rs_one (rs_ret (re_var 2)))))
  rs_nil)
  (rs_cons (rs_asg (re_ix (re_var 0) re_int) (rg_name 3 sc.nd))
  (rs_cons (rs_asg (re_bin or_add ov_add (re_var 3) re_int) (rg_sub (re_var 0) re_int set_list sv_set))
  (rs_cons (rs_asg (re_bin or_add ov_add (re_bin op_mul ov_mul re_int (re_var 3)) re_int) (rg_name 4 sc.nd))
  (rs_cons (rs_if (rt_cmp (or_ne hr.units) ov_ne (re_ix (re_var 0) re_int) (re_lst ra_nil))
  (rs_one (rs_asg (re_ix (re_ix (re_var 0) re_int) (re_bin op_mod ov_mod (re_callTy cr_int cv_int (by rfl) fc.n_int bt_int (ra_cons (re_var 3) ra_nil)) (re_callB call_len cv_len (by rfl) fc.n_len bt_len (ra_cons (re_ix (re_var 0) re_int) ra_nil)))) (rg_name 4 sc.nd)))
  rs_nil)
  (rs_cons (rs_if (rw_and (rt_cmp or_lt ov_lt (re_var 3) (re_callB call_len cv_len (by rfl) fc.n_len bt_len (ra_cons (re_ix (re_var 0) re_int) ra_nil))) (rw_and1 (rt_cmp or_ge ov_ge (re_callB call_abs cv_abs (by rfl) fc.n_abs bt_abs (ra_cons (re_var 4) ra_nil)) (re_bin op_pow ov_pow re_int re_int)))).pt
  (rs_cons (rs_asg (re_bin or_add ov_add (re_bin op_mul ov_mul re_int (re_bin op_sub ov_sub (re_callB call_abs cv_abs (by rfl) fc.n_abs bt_abs (ra_cons (re_var 4) ra_nil)) (re_bin op_pow ov_pow re_int re_int))) (re_callTy cr_int cv_int (by rfl) fc.n_int bt_int (ra_cons (re_cmp or_lt ov_lt (re_var 4) re_int) ra_nil))) (rg_name 5 sc.nd))
  (rs_cons (rs_asg (re_bin op_fdiv ov_fdiv (re_callTy cr_int cv_int (by rfl) fc.n_int bt_int (ra_cons (re_var 5) ra_nil)) (re_var 1)) (rg_sub (re_var 0) re_int set_list sv_set))
  (rs_one (rs_ret (re_bin op_mod ov_mod (re_callTy cr_int cv_int (by rfl) fc.n_int bt_int (ra_cons (re_var 5) ra_nil)) (re_var 1))))))
  rs_nil)
  (rs_cons (rs_asg (re_bin op_mod ov_mod (re_callTy cr_int cv_int (by rfl) fc.n_int bt_int (ra_cons (re_bin op_pow ov_pow (re_bin or_add ov_add (re_bin or_add ov_add (re_bin or_add ov_add (re_bin op_mod ov_mod (re_callTy cr_int cv_int (by rfl) fc.n_int bt_int (ra_cons (re_var 4) ra_nil)) re_int) (re_bin op_mul ov_mul (re_bin op_mul ov_mul re_int (re_var 3)) (re_var 3))) (re_bin op_mul ov_mul re_int (re_var 3))) re_int) re_int) ra_nil)) re_int) (rg_name 6 sc.nd))
  (rs_cons (rs_asg (re_bin op_mod ov_mod (re_callTy cr_int cv_int (by rfl) fc.n_int bt_int (ra_cons (re_bin op_pow ov_pow (re_bin or_add ov_add (re_bin op_mul ov_mul (re_var 6) (re_bin or_add ov_add (re_bin op_mul ov_mul re_int (re_var 3)) re_int)) re_int) re_int) ra_nil)) re_int) (rg_name 7 sc.nd))
  (rs_one (rs_ret (re_bin op_mod ov_mod (re_callTy cr_int cv_int (by rfl) fc.n_int bt_int (ra_cons (re_bin op_fdiv ov_fdiv (re_var 7) re_int) ra_nil)) (re_var 1))))))))))))
/-! _law_grouping -/
theorem sc__law_grouping : FnScope ["pen", "groups", "piece", "at", "group"] ["pen"] (defScope (top 31)) := ⟨rfl, rfl, rfl, by decide +kernel, rfl, by decide +kernel, by decide +kernel⟩
def s__law_grouping : SF := (sSeq (sAsg (fLst (fCons (fLst fNil) fNil)) (gN 1))
  (sSeq (sFor (fSrc (fSl (fLst (fCons (fC (.str "a")) (fCons (fC (.str "b1")) (fCons (fC (.str "c")) (fCons (fC (.str "dock")) (fCons (fC (.str "e")) (fCons (fC (.str "f7")) (fCons (fC (.str "gate")) (fCons (fC (.str "hull")) fNil))))))))) fNoP (fPart (fOp gAdd (fC (.int 1)) (fCall F__law_draw [] (fCons (fVar 0) (fCons (fC (.int 8)) fNil))))))) (gN 2) (sSeq (sAsg (fCall F__law_draw [] (fCons (fVar 0) (fCons (fOp gAdd (fCB gLen (fCons (fVar 1) fNil)) (fC (.int 1))) fNil))) (gN 3))
  (sIf (fOr (fB (fOp gEq (fOp gIx (fVar 1) (fC (.int 0))) (fLst fNil))) (fB (fOp gLt (fVar 3) (fCB gLen (fCons (fVar 1) fNil)))))
  (sExpr (fAppend (fOp gIx (fVar 1) (fCB gMin2 (fCons (fVar 3) (fCons (fOp gSub (fCB gLen (fCons (fVar 1) fNil)) (fC (.int 1))) fNil)))) (fCons (fVar 2) fNil)))
  (sExpr (fAppend (fVar 1) (fCons (fLst (fCons (fVar 2) fNil)) fNil))))) FU)
  (sRet (fCB gTuple (fCons (fCB gSorted (fCons (fComp (fSrc (fVar 1)) (.nm 4) fYes (fCB gTuple (fCons (fVar 4) fNil)) FU) fNil)) fNil)))))
def F__law_grouping : Fn := mkFn 1 5 s__law_grouping
theorem ok__law_grouping (fc : Fc K mg) : OkF P w K mg base (gm K) 2 ((gm K) 22) ["pen"] F__law_grouping := by
  obtain ⟨fd, F⟩ := fc.d__law_grouping
  have sc := sc__law_grouping
  obtain ⟨fd__law_draw, o__law_draw⟩ := (ok__law_draw (P := P) (w := w) (base := base) fc).ex
  refine ⟨fd, fn_ok F sc fun cdv A outer s0 H E hr => ?_, F.kp, F.bindsN fun _ _ _ _ _ _ us hl => match us, hl with | [_], _ => rfl⟩
  exact (rs_cons (rs_asg (re_lst (ra_cons (re_lst ra_nil) ra_nil)) (rg_name 1 sc.nd))
  (rs_cons (rs_for FU (passes_of rfl) rfl (ri_any (re_sl (re_lst (ra_cons re_str (ra_cons re_str (ra_cons re_str (ra_cons re_str (ra_cons re_str (ra_cons re_str (ra_cons re_str (ra_cons re_str ra_nil))))))))) ro_none (ro_some (re_bin or_add ov_add re_int (re_call (takes_of rfl rfl rfl rfl) (o__law_draw.1.mono (by omega)) hr (by rfl) fc.g__law_draw o__law_draw.2.1 o__law_draw.2.2 .nil (fun _ _ => .nil) (ra_cons (re_var 0) (ra_cons re_int ra_nil))))))) (rg_name 2 sc.nd) (rs_cons (rs_asg (re_call (takes_of rfl rfl rfl rfl) (o__law_draw.1.mono (by omega)) hr (by rfl) fc.g__law_draw o__law_draw.2.1 o__law_draw.2.2 .nil (fun _ _ => .nil) (ra_cons (re_var 0) (ra_cons (re_bin or_add ov_add (re_callB call_len cv_len (by rfl) fc.n_len bt_len (ra_cons (re_var 1) ra_nil)) re_int) ra_nil))) (rg_name 3 sc.nd))
  (rs_one (rs_if (rw_or (rt_cmp (or_eq hr.units) ov_eq (re_ix (re_var 1) re_int) (re_lst ra_nil)) (rw_or1 (rt_cmp or_lt ov_lt (re_var 3) (re_callB call_len cv_len (by rfl) fc.n_len bt_len (ra_cons (re_var 1) ra_nil))))).pt
  (rs_one (rs_expr (re_append (re_ix (re_var 1) (re_callB (call_min2 rfl) cv_min2 (by rfl) fc.n_min bt_min (ra_cons (re_var 3) (ra_cons (re_bin op_sub ov_sub (re_callB call_len cv_len (by rfl) fc.n_len bt_len (ra_cons (re_var 1) ra_nil)) re_int) ra_nil)))) (ra_cons (re_var 2) ra_nil))))
  (rs_one (rs_expr (re_append (re_var 1) (ra_cons (re_lst (ra_cons (re_var 2) ra_nil)) ra_nil))))))))
  (rs_one (rs_ret (re_callTy call_tuple_of cv_tuple (by rfl) fc.n_tuple bt_tuple (ra_cons (re_callB (cr_sorted (u80 hr)) cv_sorted (by rfl) fc.n_sorted bt_sorted (ra_cons (re_comp FU rfl sc.nd (ri_any (re_var 1)) (blkB_ok (own := [("group", 4)]) rfl) rfl (fun _ _ _ _ _ => (pg_name sc.nd (i := 4) rfl (by first | exact Or.inl rfl | exact Or.inr rfl) (by first | exact .inl rfl | exact .inr rfl))) (fun _ _ _ _ _ => pts_yes) (fun _ _ _ _ _ => (re_callTy call_tuple_of cv_tuple (by rfl) fc.n_tuple bt_tuple (ra_cons (re_var 4) ra_nil)))) ra_nil)) ra_nil))))))
/-! _law_pick -/
theorem sc__law_pick : FnScope ["pen", "some"] ["pen", "some"] (defScope (top 23)) := ⟨rfl, rfl, rfl, by decide +kernel, rfl, by decide +kernel, by decide +kernel⟩
def s__law_pick : SF := (sRet (fOp gIx (fVar 1) (fCall F__law_draw [] (fCons (fVar 0) (fCons (fCB gLen (fCons (fVar 1) fNil)) fNil)))))
def F__law_pick : Fn := mkFn 2 2 s__law_pick
theorem ok__law_pick (fc : Fc K mg) : OkF P w K mg base (gm K) 2 ((gm K) 14) ["pen", "some"] F__law_pick := by
  obtain ⟨fd, F⟩ := fc.d__law_pick
  have sc := sc__law_pick
  obtain ⟨fd__law_draw, o__law_draw⟩ := (ok__law_draw (P := P) (w := w) (base := base) fc).ex
  refine ⟨fd, fn_ok F sc fun cdv A outer s0 H E hr => ?_, F.kp, F.bindsN fun _ _ _ _ _ _ us hl => match us, hl with | [_, _], _ => rfl⟩
  exact (rs_one (rs_ret (re_ix (re_var 1) (re_call (takes_of rfl rfl rfl rfl) (o__law_draw.1.mono (by omega)) hr (by rfl) fc.g__law_draw o__law_draw.2.1 o__law_draw.2.2 .nil (fun _ _ => .nil) (ra_cons (re_var 0) (ra_cons (re_callB call_len cv_len (by rfl) fc.n_len bt_len (ra_cons (re_var 1) ra_nil)) ra_nil))))))
/-! grouping_text -/
theorem sc_grouping_text : FnScope ["grouping", "group"] ["grouping"] (defScope (top 15)) := ⟨rfl, rfl, rfl, by decide +kernel, rfl, by decide +kernel, by decide +kernel⟩
def s_grouping_text : SF := (sRet (fM1 gJoin (fC (.str " / ")) (fComp (fSrc (fVar 0)) (.nm 1) fYes (fM1 gJoin (fC (.str " ")) (fVar 1)) FU)))
def F_grouping_text : Fn := mkFn 1 2 s_grouping_text
theorem ok_grouping_text (fc : Fc K mg) : OkK P w K mg base (gm K) 1 ((gm K) 7) ["grouping"] F_grouping_text := by
  obtain ⟨fd, F⟩ := fc.d_grouping_text
  have sc := sc_grouping_text
  refine ⟨fd, fn_ok F sc fun cdv A outer s0 H E hr => ?_, F.kp, F.bindsN fun _ _ _ _ _ _ us hl => match us, hl with | [_], _ => rfl, bindsKw F fun _ _ _ _ _ _ us hl => match us, hl with | [_], _ => rfl⟩
  exact (rs_one (rs_ret (re_join re_str (re_comp FU rfl sc.nd (ri_any (re_var 0)) (blkB_ok (own := [("group", 1)]) rfl) rfl (fun _ _ _ _ _ => (pg_name sc.nd (i := 1) rfl (by first | exact Or.inl rfl | exact Or.inr rfl) (by first | exact .inl rfl | exact .inr rfl))) (fun _ _ _ _ _ => pts_yes) (fun _ _ _ _ _ => (re_join re_str (re_var 1)))))))
/-! lines_of -/
theorem sc_lines_of : FnScope ["rows", "word", "row"] ["rows"] (defScope (top 14)) := ⟨rfl, rfl, rfl, by decide +kernel, rfl, by decide +kernel, by decide +kernel⟩
def s_lines_of : SF := (sRet (fM1 gJoin (fC (.str "\n")) (fComp (fSrc (fVar 0)) (.nm 2) fYes (fM1 gJoin (fC (.str " ")) (fComp (fSrc (fVar 2)) (.nm 1) fYes (fCB gStr (fCons (fVar 1) fNil)) FU)) FU)))
def F_lines_of : Fn := mkFn 1 3 s_lines_of
theorem ok_lines_of (fc : Fc K mg) : OkF P w K mg base (gm K) 1 ((gm K) 6) ["rows"] F_lines_of := by
  obtain ⟨fd, F⟩ := fc.d_lines_of
  have sc := sc_lines_of
  refine ⟨fd, fn_ok F sc fun cdv A outer s0 H E hr => ?_, F.kp, F.bindsN fun _ _ _ _ _ _ us hl => match us, hl with | [_], _ => rfl⟩
  exact (rs_one (rs_ret (re_join re_str (re_comp FU rfl sc.nd (ri_any (re_var 0)) (blkB_ok (own := [("row", 2)]) rfl) rfl (fun _ _ _ _ _ => (pg_name sc.nd (i := 2) rfl (by first | exact Or.inl rfl | exact Or.inr rfl) (by first | exact .inl rfl | exact .inr rfl))) (fun _ _ _ _ _ => pts_yes) (fun _ _ _ _ _ => (re_join re_str (re_comp FU rfl sc.nd (ri_any (re_var 2)) (blkB_ok (own := [("word", 1)]) rfl) rfl (fun _ _ _ _ _ => (pg_name sc.nd (i := 1) rfl (by first | exact Or.inl rfl | exact Or.inr rfl) (by first | exact .inl rfl | exact .inr rfl))) (fun _ _ _ _ _ => pts_yes) (fun _ _ _ _ _ => (re_callTy cr_str cv_str (by rfl) fc.n_str bt_str (ra_cons (re_var 1) ra_nil))))))))))
/-! offers_text -/
theorem sc_offers_text : FnScope ["offers", "row"] ["offers"] (defScope (top 16)) := ⟨rfl, rfl, rfl, by decide +kernel, rfl, by decide +kernel, by decide +kernel⟩
def s_offers_text : SF := (sRet (fCall F_lines_of [] (fCons (fComp (fSrc (fCB gSorted (fCons (fComp (fSrc (fVar 0)) (.nm 1) fYes (fCB gTuple (fCons (fVar 1) fNil)) FU) fNil))) (.nm 1) fYes (fTup (fCons (fC (.str "offer")) (fStar (fVar 1) fNil))) FU) fNil)))
def F_offers_text : Fn := mkFn 1 2 s_offers_text
theorem ok_offers_text (fc : Fc K mg) : OkK P w K mg base (gm K) 2 ((gm K) 8) ["offers"] F_offers_text := by
  obtain ⟨fd, F⟩ := fc.d_offers_text
  have sc := sc_offers_text
  obtain ⟨fd_lines_of, o_lines_of⟩ := (ok_lines_of (P := P) (w := w) (base := base) fc).ex
  refine ⟨fd, fn_ok F sc fun cdv A outer s0 H E hr => ?_, F.kp, F.bindsN fun _ _ _ _ _ _ us hl => match us, hl with | [_], _ => rfl, bindsKw F fun _ _ _ _ _ _ us hl => match us, hl with | [_], _ => rfl⟩
  exact (rs_one (rs_ret (re_call (takes_of rfl rfl rfl rfl) (o_lines_of.1.mono (by omega)) hr (by rfl) fc.g_lines_of o_lines_of.2.1 o_lines_of.2.2 .nil (fun _ _ => .nil) (ra_cons (re_comp FU rfl sc.nd (ri_any (re_callB (cr_sorted (u80 hr)) cv_sorted (by rfl) fc.n_sorted bt_sorted (ra_cons (re_comp FU rfl sc.nd (ri_any (re_var 0)) (blkB_ok (own := [("row", 1)]) rfl) rfl (fun _ _ _ _ _ => (pg_name sc.nd (i := 1) rfl (by first | exact Or.inl rfl | exact Or.inr rfl) (by first | exact .inl rfl | exact .inr rfl))) (fun _ _ _ _ _ => pts_yes) (fun _ _ _ _ _ => (re_callTy call_tuple_of cv_tuple (by rfl) fc.n_tuple bt_tuple (ra_cons (re_var 1) ra_nil)))) ra_nil))) (blkB_ok (own := [("row", 1)]) rfl) rfl (fun _ _ _ _ _ => (pg_name sc.nd (i := 1) rfl (by first | exact Or.inl rfl | exact Or.inr rfl) (by first | exact .inl rfl | exact .inr rfl))) (fun _ _ _ _ _ => pts_yes) (fun _ _ _ _ _ => (re_tup (ra_cons re_str (ra_star (re_var 1) ra_nil))))) ra_nil))))
/-! _law_bent_text -/
theorem sc__law_bent_text : FnScope ["pen", "text", "words", "lines", "line", "way", "at", "spot", "word", "other", "row"] ["pen", "text", "words"] (defScope (top 26)) := ⟨rfl, rfl, rfl, by decide +kernel, rfl, by decide +kernel, by decide +kernel⟩
def s__law_bent_text : SF := (sSeq (sAsg (fComp (fSrc (fM1 gSplit (fVar 1) (fC (.str "\n")))) (.nm 4) fYes (fM1 gSplit (fVar 4) (fC (.str " "))) FU) (gN 3))
  (sSeq (sPar2 5 6 (fCons (fCall F__law_draw [] (fCons (fVar 0) (fCons (fC (.int 13)) fNil))) (fCons (fCall F__law_draw [] (fCons (fVar 0) (fCons (fCB gLen (fCons (fVar 3) fNil)) fNil))) fNil)))
  (sSeq (sAsg (fOp gIx (fVar 3) (fVar 6)) (gN 4))
  (sSeq (sAsg (fCall F__law_draw [] (fCons (fVar 0) (fCons (fCB gLen (fCons (fVar 4) fNil)) fNil))) (gN 7))
  (sSeq (sAsg (fCall F__law_pick [] (fCons (fVar 0) (fCons (fOp gAdd (fVar 2) (fLst (fCons (fOp gIx (fVar 4) (fVar 7)) (fCons (fCall F__law_pick [] (fCons (fVar 0) (fCons (fCall F__law_pick [] (fCons (fVar 0) (fCons (fVar 3) fNil))) fNil))) fNil)))) fNil))) (gN 8))
  (sSeq (sIf (fB (fOp gLt (fVar 5) (fC (.int 3))))
  (sAsg (fOp gAdd (fOp gAdd (fSl (fVar 4) fNoP (fPart (fVar 7))) (fLst (fCons (fVar 8) fNil))) (fSl (fVar 4) (fPart (fOp gAdd (fVar 7) (fC (.int 1)))) fNoP)) (gSb gSet (fVar 3) (fVar 6)))
  (sIf (fB (fOp gEq (fVar 5) (fC (.int 3))))
  (sAsg (fIf (fB (fOp gGt (fCB gLen (fCons (fVar 4) fNil)) (fC (.int 1)))) (fOp gAdd (fSl (fVar 4) fNoP (fPart (fVar 7))) (fSl (fVar 4) (fPart (fOp gAdd (fVar 7) (fC (.int 1)))) fNoP)) (fLst (fCons (fC (.str "")) fNil))) (gSb gSet (fVar 3) (fVar 6)))
  (sIf (fB (fOp gEq (fVar 5) (fC (.int 4))))
  (sAsg (fOp gAdd (fOp gAdd (fSl (fVar 4) fNoP (fPart (fVar 7))) (fLst (fCons (fVar 8) fNil))) (fSl (fVar 4) (fPart (fVar 7)) fNoP)) (gSb gSet (fVar 3) (fVar 6)))
  (sIf (fB (fOp gEq (fVar 5) (fC (.int 5))))
  (sAsg (fOp gAdd (fVar 4) (fLst (fCons (fVar 8) fNil))) (gSb gSet (fVar 3) (fVar 6)))
  (sIf (fB (fOp gEq (fVar 5) (fC (.int 6))))
  (sAsg (fIf (fB (fOp gGt (fCB gLen (fCons (fVar 3) fNil)) (fC (.int 1)))) (fOp gAdd (fSl (fVar 3) fNoP (fPart (fVar 6))) (fSl (fVar 3) (fPart (fOp gAdd (fVar 6) (fC (.int 1)))) fNoP)) (fLst (fCons (fLst (fCons (fC (.str "")) fNil)) fNil))) (gN 3))
  (sIf (fB (fOp gEq (fVar 5) (fC (.int 7))))
  (sAsg (fOp gAdd (fOp gAdd (fSl (fVar 3) fNoP (fPart (fVar 6))) (fLst (fCons (fVar 4) fNil))) (fSl (fVar 3) (fPart (fVar 6)) fNoP)) (gN 3))
  (sIf (fB (fOp gEq (fVar 5) (fC (.int 8))))
  (sSeq (sAsg (fCall F__law_draw [] (fCons (fVar 0) (fCons (fCB gLen (fCons (fVar 3) fNil)) fNil))) (gN 9))
  (sAsg (fTup (fCons (fOp gIx (fVar 3) (fVar 9)) (fCons (fOp gIx (fVar 3) (fVar 6)) fNil))) (gTp 2 (gsCons (gSb gSet (fVar 3) (fVar 6)) (gsCons (gSb gSet (fVar 3) (fVar 9)) gsNil)))))
  (sIf (fB (fOp gEq (fVar 5) (fC (.int 9))))
  (sAsg (fOp gAdd (fVar 3) (fLst (fCons (fCall F__law_pick [] (fCons (fVar 0) (fCons (fLst (fCons (fLst (fCons (fC (.str "")) fNil)) (fCons (fLst (fCons (fVar 8) fNil)) (fCons (fVar 4) fNil)))) fNil))) fNil))) (gN 3))
  (sIf (fB (fOp gEq (fVar 5) (fC (.int 10))))
  (sSeq (sAsg (fCall F__law_draw [] (fCons (fVar 0) (fCons (fCB gLen (fCons (fVar 4) fNil)) fNil))) (gN 9))
  (sAsg (fTup (fCons (fOp gIx (fVar 4) (fVar 9)) (fCons (fOp gIx (fVar 4) (fVar 7)) fNil))) (gTp 2 (gsCons (gSb gSet (fVar 4) (fVar 7)) (gsCons (gSb gSet (fVar 4) (fVar 9)) gsNil)))))
  (sIf (fB (fOp gEq (fVar 5) (fC (.int 11))))
  (sAsg (fCall F__law_pick [] (fCons (fVar 0) (fCons (fLst (fCons (fOp gAdd (fC (.str "0")) (fOp gIx (fVar 4) (fVar 7))) (fCons (fOp gAdd (fC (.str "-")) (fOp gIx (fVar 4) (fVar 7))) (fCons (fOp gAdd (fC (.str "+")) (fOp gIx (fVar 4) (fVar 7))) (fCons (fOp gAdd (fOp gIx (fVar 4) (fVar 7)) (fC (.str "0"))) (fCons (fM0 gUpper (fOp gIx (fVar 4) (fVar 7))) (fCons (fOp gAdd (fOp gIx (fVar 4) (fVar 7)) (fC (.str "."))) fNil))))))) fNil))) (gSb gSet (fVar 4) (fVar 7)))
  sNil))))))))))
  (sRet (fM1 gJoin (fC (.str "\n")) (fComp (fSrc (fVar 3)) (.nm 10) fYes (fM1 gJoin (fC (.str " ")) (fVar 10)) FU)))))))))
def F__law_bent_text : Fn := mkFn 3 11 s__law_bent_text
theorem ok__law_bent_text (fc : Fc K mg) : OkF P w K mg base (gm K) 3 ((gm K) 17) ["pen", "text", "words"] F__law_bent_text := by
  obtain ⟨fd, F⟩ := fc.d__law_bent_text
  have sc := sc__law_bent_text
  obtain ⟨fd__law_draw, o__law_draw⟩ := (ok__law_draw (P := P) (w := w) (base := base) fc).ex
  obtain ⟨fd__law_pick, o__law_pick⟩ := (ok__law_pick (P := P) (w := w) (base := base) fc).ex
  refine ⟨fd, fn_ok F sc fun cdv A outer s0 H E hr => ?_, F.kp, F.bindsN fun _ _ _ _ _ _ us hl => match us, hl with | [_, _, _], _ => rfl⟩
  exact (rs_cons (rs_setComp FU rfl sc.nd (i := 3) rfl rfl rfl (ri_any (re_split (re_var 1) re_str)) (blkB_ok (own := [("line", 4)]) rfl) rfl (fun _ _ _ _ _ => (pg_name sc.nd (i := 4) rfl (by first | exact Or.inl rfl | exact Or.inr rfl) (by first | exact .inl rfl | exact .inr rfl))) (fun _ _ _ _ _ => pts_yes) (fun _ _ _ _ _ => (re_split (re_var 4) re_str)))
  (rs_cons (rs_par2 rfl sc.nd (i := 5) (j := 6) rfl rfl (by decide) rfl rfl (ra_cons (re_call (takes_of rfl rfl rfl rfl) (o__law_draw.1.mono (by omega)) hr (by rfl) fc.g__law_draw o__law_draw.2.1 o__law_draw.2.2 .nil (fun _ _ => .nil) (ra_cons (re_var 0) (ra_cons re_int ra_nil))) (ra_cons (re_call (takes_of rfl rfl rfl rfl) (o__law_draw.1.mono (by omega)) hr (by rfl) fc.g__law_draw o__law_draw.2.1 o__law_draw.2.2 .nil (fun _ _ => .nil) (ra_cons (re_var 0) (ra_cons (re_callB call_len cv_len (by rfl) fc.n_len bt_len (ra_cons (re_var 3) ra_nil)) ra_nil))) ra_nil)) rfl)
  (rs_cons (rs_asg (re_ix (re_var 3) (re_var 6)) (rg_name 4 sc.nd))
  (rs_cons (rs_asg (re_call (takes_of rfl rfl rfl rfl) (o__law_draw.1.mono (by omega)) hr (by rfl) fc.g__law_draw o__law_draw.2.1 o__law_draw.2.2 .nil (fun _ _ => .nil) (ra_cons (re_var 0) (ra_cons (re_callB call_len cv_len (by rfl) fc.n_len bt_len (ra_cons (re_var 4) ra_nil)) ra_nil))) (rg_name 7 sc.nd))
  (rs_cons (rs_asg (re_call (takes_of rfl rfl rfl rfl) (o__law_pick.1.mono (by omega)) hr (by rfl) fc.g__law_pick o__law_pick.2.1 o__law_pick.2.2 .nil (fun _ _ => .nil) (ra_cons (re_var 0) (ra_cons (re_bin or_add ov_add (re_var 2) (re_lst (ra_cons (re_ix (re_var 4) (re_var 7)) (ra_cons (re_call (takes_of rfl rfl rfl rfl) (o__law_pick.1.mono (by omega)) hr (by rfl) fc.g__law_pick o__law_pick.2.1 o__law_pick.2.2 .nil (fun _ _ => .nil) (ra_cons (re_var 0) (ra_cons (re_call (takes_of rfl rfl rfl rfl) (o__law_pick.1.mono (by omega)) hr (by rfl) fc.g__law_pick o__law_pick.2.1 o__law_pick.2.2 .nil (fun _ _ => .nil) (ra_cons (re_var 0) (ra_cons (re_var 3) ra_nil))) ra_nil))) ra_nil)))) ra_nil))) (rg_name 8 sc.nd))
  (rs_cons (rs_if (rt_cmp or_lt ov_lt (re_var 5) re_int)
  (rs_one (rs_asg (re_bin or_add ov_add (re_bin or_add ov_add (re_sl (re_var 4) ro_none (ro_some (re_var 7))) (re_lst (ra_cons (re_var 8) ra_nil))) (re_sl (re_var 4) (ro_some (re_bin or_add ov_add (re_var 7) re_int)) ro_none)) (rg_sub (re_var 3) (re_var 6) set_list sv_set)))
  (rs_one (rs_if (rt_cmp (or_eq hr.units) ov_eq (re_var 5) re_int)
  (rs_one (rs_asg (re_if (rt_cmp or_gt ov_gt (re_callB call_len cv_len (by rfl) fc.n_len bt_len (ra_cons (re_var 4) ra_nil)) re_int) (re_bin or_add ov_add (re_sl (re_var 4) ro_none (ro_some (re_var 7))) (re_sl (re_var 4) (ro_some (re_bin or_add ov_add (re_var 7) re_int)) ro_none)) (re_lst (ra_cons re_str ra_nil))) (rg_sub (re_var 3) (re_var 6) set_list sv_set)))
  (rs_one (rs_if (rt_cmp (or_eq hr.units) ov_eq (re_var 5) re_int)
  (rs_one (rs_asg (re_bin or_add ov_add (re_bin or_add ov_add (re_sl (re_var 4) ro_none (ro_some (re_var 7))) (re_lst (ra_cons (re_var 8) ra_nil))) (re_sl (re_var 4) (ro_some (re_var 7)) ro_none)) (rg_sub (re_var 3) (re_var 6) set_list sv_set)))
  (rs_one (rs_if (rt_cmp (or_eq hr.units) ov_eq (re_var 5) re_int)
  (rs_one (rs_asg (re_bin or_add ov_add (re_var 4) (re_lst (ra_cons (re_var 8) ra_nil))) (rg_sub (re_var 3) (re_var 6) set_list sv_set)))
  (rs_one (rs_if (rt_cmp (or_eq hr.units) ov_eq (re_var 5) re_int)
  (rs_one (rs_asg (re_if (rt_cmp or_gt ov_gt (re_callB call_len cv_len (by rfl) fc.n_len bt_len (ra_cons (re_var 3) ra_nil)) re_int) (re_bin or_add ov_add (re_sl (re_var 3) ro_none (ro_some (re_var 6))) (re_sl (re_var 3) (ro_some (re_bin or_add ov_add (re_var 6) re_int)) ro_none)) (re_lst (ra_cons (re_lst (ra_cons re_str ra_nil)) ra_nil))) (rg_name 3 sc.nd)))
  (rs_one (rs_if (rt_cmp (or_eq hr.units) ov_eq (re_var 5) re_int)
  (rs_one (rs_asg (re_bin or_add ov_add (re_bin or_add ov_add (re_sl (re_var 3) ro_none (ro_some (re_var 6))) (re_lst (ra_cons (re_var 4) ra_nil))) (re_sl (re_var 3) (ro_some (re_var 6)) ro_none)) (rg_name 3 sc.nd)))
  (rs_one (rs_if (rt_cmp (or_eq hr.units) ov_eq (re_var 5) re_int)
  (rs_cons (rs_asg (re_call (takes_of rfl rfl rfl rfl) (o__law_draw.1.mono (by omega)) hr (by rfl) fc.g__law_draw o__law_draw.2.1 o__law_draw.2.2 .nil (fun _ _ => .nil) (ra_cons (re_var 0) (ra_cons (re_callB call_len cv_len (by rfl) fc.n_len bt_len (ra_cons (re_var 3) ra_nil)) ra_nil))) (rg_name 9 sc.nd))
  (rs_one (rs_asg (re_tup (ra_cons (re_ix (re_var 3) (re_var 9)) (ra_cons (re_ix (re_var 3) (re_var 6)) ra_nil))) (rg_tup rfl (rgs_cons (rg_sub (re_var 3) (re_var 6) set_list sv_set) (rgs_cons (rg_sub (re_var 3) (re_var 9) set_list sv_set) rgs_nil))))))
  (rs_one (rs_if (rt_cmp (or_eq hr.units) ov_eq (re_var 5) re_int)
  (rs_one (rs_asg (re_bin or_add ov_add (re_var 3) (re_lst (ra_cons (re_call (takes_of rfl rfl rfl rfl) (o__law_pick.1.mono (by omega)) hr (by rfl) fc.g__law_pick o__law_pick.2.1 o__law_pick.2.2 .nil (fun _ _ => .nil) (ra_cons (re_var 0) (ra_cons (re_lst (ra_cons (re_lst (ra_cons re_str ra_nil)) (ra_cons (re_lst (ra_cons (re_var 8) ra_nil)) (ra_cons (re_var 4) ra_nil)))) ra_nil))) ra_nil))) (rg_name 3 sc.nd)))
  (rs_one (rs_if (rt_cmp (or_eq hr.units) ov_eq (re_var 5) re_int)
  (rs_cons (rs_asg (re_call (takes_of rfl rfl rfl rfl) (o__law_draw.1.mono (by omega)) hr (by rfl) fc.g__law_draw o__law_draw.2.1 o__law_draw.2.2 .nil (fun _ _ => .nil) (ra_cons (re_var 0) (ra_cons (re_callB call_len cv_len (by rfl) fc.n_len bt_len (ra_cons (re_var 4) ra_nil)) ra_nil))) (rg_name 9 sc.nd))
  (rs_one (rs_asg (re_tup (ra_cons (re_ix (re_var 4) (re_var 9)) (ra_cons (re_ix (re_var 4) (re_var 7)) ra_nil))) (rg_tup rfl (rgs_cons (rg_sub (re_var 4) (re_var 7) set_list sv_set) (rgs_cons (rg_sub (re_var 4) (re_var 9) set_list sv_set) rgs_nil))))))
  (rs_one (rs_if (rt_cmp (or_eq hr.units) ov_eq (re_var 5) re_int)
  (rs_one (rs_asg (re_call (takes_of rfl rfl rfl rfl) (o__law_pick.1.mono (by omega)) hr (by rfl) fc.g__law_pick o__law_pick.2.1 o__law_pick.2.2 .nil (fun _ _ => .nil) (ra_cons (re_var 0) (ra_cons (re_lst (ra_cons (re_bin or_add ov_add re_str (re_ix (re_var 4) (re_var 7))) (ra_cons (re_bin or_add ov_add re_str (re_ix (re_var 4) (re_var 7))) (ra_cons (re_bin or_add ov_add re_str (re_ix (re_var 4) (re_var 7))) (ra_cons (re_bin or_add ov_add (re_ix (re_var 4) (re_var 7)) re_str) (ra_cons (re_upper (re_ix (re_var 4) (re_var 7))) (ra_cons (re_bin or_add ov_add (re_ix (re_var 4) (re_var 7)) re_str) ra_nil))))))) ra_nil))) (rg_sub (re_var 4) (re_var 7) set_list sv_set)))
  rs_nil)))))))))))))))))))
  (rs_one (rs_ret (re_join re_str (re_comp FU rfl sc.nd (ri_any (re_var 3)) (blkB_ok (own := [("row", 10)]) rfl) rfl (fun _ _ _ _ _ => (pg_name sc.nd (i := 10) rfl (by first | exact Or.inl rfl | exact Or.inr rfl) (by first | exact .inl rfl | exact .inr rfl))) (fun _ _ _ _ _ => pts_yes) (fun _ _ _ _ _ => (re_join re_str (re_var 10)))))))))))))
/-! BadText___init__ -/
theorem sc_BadText___init__ : FnScope ["self", "line", "word"] ["self", "line", "word"] (defScope (inCls (top 3) 0)) := ⟨rfl, rfl, rfl, by decide +kernel, rfl, by decide +kernel, by decide +kernel⟩
theorem ok_BadText___init__ (fc : Fc K mg) : ∃ fd, FnOk P w K mg base (L2.CX P w) 1 (He.ma K ((gm K) 2) "__init__") fd ["self", "line", "word"] (spInit (gm K) 2) ∧ Binds K fd ["self", "line", "word"] [] := by
  obtain ⟨fd, F⟩ := fc.d_BadText___init__
  have sc := sc_BadText___init__
  refine ⟨fd, F.ok sc (fun vs H Q E ⟨a, ys, e1, e2, _⟩ => by rw [e1, List.length_cons, e2]; rfl) (fun cdv A outer s0 H vs Q E hr h => ⟨tInit2 K "BadText" "line" "word", ?_, init_pure2 (oexB_ok fc.x_BadText) rfl (by decide) fc.xq_BadText_line fc.xq_BadText_word h⟩), F.bindsN fun _ _ _ _ _ _ us hl => match us, hl with | [_, _, _], _ => rfl⟩
  exact pss_cons (ps_expr (pe_hinit (by rfl) fc.gh_HangError fc.h_HangError (pa_cons (pv 0) (pa_cons pe_str pa_nil)))) (pss_cons (ps_ost (pv 0) (pv 1)) (pss_one (ps_ost (pv 0) (pv 2))))
/-! Scan___init__ -/
theorem sc_Scan___init__ : FnScope ["self", "text", "line"] ["self", "text"] (defScope (inCls (top 9) 0)) := ⟨rfl, rfl, rfl, by decide +kernel, rfl, by decide +kernel, by decide +kernel⟩
def s_Scan___init__ : SF := (sSeq (sIf (fNot (fTru (fCB gIsi (fCons (fVar 1) (fCons (fC (.ty "str")) fNil)))))
  (sRaise 2 2 (fCons (fC (.int 0)) (fCons (fC (.int 0)) fNil)))
  sNil)
  (sSeq (sFldS 4 0 (fVar 0) (fComp (fSrc (fM1 gSplit (fVar 1) (fC (.str "\n")))) (.nm 2) fYes (fM1 gSplit (fVar 2) (fC (.str " "))) FU))
  (sSeq (sFldS 4 1 (fVar 0) (fC (.int 0)))
  (sFldS 4 2 (fVar 0) (fC (.int 0))))))
def F_Scan___init__ : Fn := mkFn 2 3 s_Scan___init__
theorem ok_Scan___init__ (fc : Fc K mg) : OkF P w K mg base (gm K) 3 (He.ma K ((gm K) 4) "__init__") ["self", "text"] F_Scan___init__ := by
  obtain ⟨fd, F⟩ := fc.d_Scan___init__
  have sc := sc_Scan___init__
  obtain ⟨fd_BadText___init__, o_BadText___init__⟩ := ok_BadText___init__ (P := P) (w := w) (base := base) fc
  refine ⟨fd, fn_ok F sc fun cdv A outer s0 H E hr => ?_, F.kp, F.bindsN fun _ _ _ _ _ _ us hl => match us, hl with | [_, _], _ => rfl⟩
  exact (rs_cons (rs_if (rt_not (rt_tru (re_callB call_isi cv_isi (by rfl) fc.n_isinstance bt_isinstance (ra_cons (re_var 1) (ra_cons (re_ty (by rfl) fc.n_str bt_str) ra_nil)))))
  (rs_one (rs_raise rfl (takes_of rfl rfl rfl rfl) (oexB_ok fc.x_BadText) fc.xi_BadText fc.xt_BadText o_BadText___init__.1 (hr.mono (by omega)) o_BadText___init__.2 rfl (by rfl) fc.g_BadText (ra_cons re_int (ra_cons re_int ra_nil))))
  rs_nil)
  (rs_cons (rs_fld (re_var 0) (re_comp FU rfl sc.nd (ri_any (re_split (re_var 1) re_str)) (blkB_ok (own := [("line", 2)]) rfl) rfl (fun _ _ _ _ _ => (pg_name sc.nd (i := 2) rfl (by first | exact Or.inl rfl | exact Or.inr rfl) (by first | exact .inl rfl | exact .inr rfl))) (fun _ _ _ _ _ => pts_yes) (fun _ _ _ _ _ => (re_split (re_var 2) re_str))) fc.c_Scan fc.na_Scan_lines rfl)
  (rs_cons (rs_fld (re_var 0) re_int fc.c_Scan fc.na_Scan_line rfl)
  (rs_one (rs_fld (re_var 0) re_int fc.c_Scan fc.na_Scan_word rfl)))))
/-! Scan_is_over -/
theorem sc_Scan_is_over : FnScope ["self"] ["self"] (defScope (inCls (top 9) 2)) := ⟨rfl, rfl, rfl, by decide +kernel, rfl, by decide +kernel, by decide +kernel⟩
def s_Scan_is_over : SF := (sRet (fOp gEq (fFld 4 1 (fVar 0)) (fCB gLen (fCons (fFld 4 0 (fVar 0)) fNil))))
def F_Scan_is_over : Fn := mkFn 1 1 s_Scan_is_over
theorem ok_Scan_is_over (fc : Fc K mg) : OkF P w K mg base (gm K) 1 (He.ma K ((gm K) 4) "is_over") ["self"] F_Scan_is_over := by
  obtain ⟨fd, F⟩ := fc.d_Scan_is_over
  have sc := sc_Scan_is_over
  refine ⟨fd, fn_ok F sc fun cdv A outer s0 H E hr => ?_, F.kp, F.bindsN fun _ _ _ _ _ _ us hl => match us, hl with | [_], _ => rfl⟩
  exact (rs_one (rs_ret (re_cmp (or_eq hr.units) ov_eq (re_fld (re_var 0) fc.c_Scan fc.na_Scan_line rfl) (re_callB call_len cv_len (by rfl) fc.n_len bt_len (ra_cons (re_fld (re_var 0) fc.c_Scan fc.na_Scan_lines rfl) ra_nil)))))
/-! Scan_ahead -/
theorem sc_Scan_ahead : FnScope ["self"] ["self"] (defScope (inCls (top 9) 3)) := ⟨rfl, rfl, rfl, by decide +kernel, rfl, by decide +kernel, by decide +kernel⟩
def s_Scan_ahead : SF := (sSeq (sIf (fOr (fTru (fMeth 4 F_Scan_is_over [] (fVar 0) fNil)) (fB (fOp gEq (fFld 4 2 (fVar 0)) (fCB gLen (fCons (fOp gIx (fFld 4 0 (fVar 0)) (fFld 4 1 (fVar 0))) fNil)))))
  (sRet (fC .non))
  sNil)
  (sRet (fOp gIx (fOp gIx (fFld 4 0 (fVar 0)) (fFld 4 1 (fVar 0))) (fFld 4 2 (fVar 0)))))
def F_Scan_ahead : Fn := mkFn 1 1 s_Scan_ahead
theorem ok_Scan_ahead (fc : Fc K mg) : OkF P w K mg base (gm K) 2 (He.ma K ((gm K) 4) "ahead") ["self"] F_Scan_ahead := by
  obtain ⟨fd, F⟩ := fc.d_Scan_ahead
  have sc := sc_Scan_ahead
  obtain ⟨fd_Scan_is_over, o_Scan_is_over⟩ := (ok_Scan_is_over (P := P) (w := w) (base := base) fc).ex
  refine ⟨fd, fn_ok F sc fun cdv A outer s0 H E hr => ?_, F.kp, F.bindsN fun _ _ _ _ _ _ us hl => match us, hl with | [_], _ => rfl⟩
  exact (rs_cons (rs_if (rw_or (rt_tru (re_meth0 (takes_of rfl rfl rfl rfl) (re_var 0) fc.c_Scan fc.m_Scan_is_over (o_Scan_is_over.1.mono (by omega)) hr o_Scan_is_over.2.2 .nil (fun _ _ => .nil) nm_Scan_is_over)) (rw_or1 (rt_cmp (or_eq hr.units) ov_eq (re_fld (re_var 0) fc.c_Scan fc.na_Scan_word rfl) (re_callB call_len cv_len (by rfl) fc.n_len bt_len (ra_cons (re_ix (re_fld (re_var 0) fc.c_Scan fc.na_Scan_lines rfl) (re_fld (re_var 0) fc.c_Scan fc.na_Scan_line rfl)) ra_nil))))).pt
  (rs_one (rs_ret re_non))
  rs_nil)
  (rs_one (rs_ret (re_ix (re_ix (re_fld (re_var 0) fc.c_Scan fc.na_Scan_lines rfl) (re_fld (re_var 0) fc.c_Scan fc.na_Scan_line rfl)) (re_fld (re_var 0) fc.c_Scan fc.na_Scan_word rfl)))))
/-! Scan_refuse -/
theorem sc_Scan_refuse : FnScope ["self"] ["self"] (defScope (inCls (top 9) 1)) := ⟨rfl, rfl, rfl, by decide +kernel, rfl, by decide +kernel, by decide +kernel⟩
def s_Scan_refuse : SF := (sRaise 2 2 (fCons (fFld 4 1 (fVar 0)) (fCons (fFld 4 2 (fVar 0)) fNil)))
def F_Scan_refuse : Fn := mkFn 1 1 s_Scan_refuse
theorem ok_Scan_refuse (fc : Fc K mg) : OkF P w K mg base (gm K) 3 (He.ma K ((gm K) 4) "refuse") ["self"] F_Scan_refuse := by
  obtain ⟨fd, F⟩ := fc.d_Scan_refuse
  have sc := sc_Scan_refuse
  obtain ⟨fd_BadText___init__, o_BadText___init__⟩ := ok_BadText___init__ (P := P) (w := w) (base := base) fc
  refine ⟨fd, fn_ok F sc fun cdv A outer s0 H E hr => ?_, F.kp, F.bindsN fun _ _ _ _ _ _ us hl => match us, hl with | [_], _ => rfl⟩
  exact (rs_one (rs_raise rfl (takes_of rfl rfl rfl rfl) (oexB_ok fc.x_BadText) fc.xi_BadText fc.xt_BadText o_BadText___init__.1 (hr.mono (by omega)) o_BadText___init__.2 rfl (by rfl) fc.g_BadText (ra_cons (re_fld (re_var 0) fc.c_Scan fc.na_Scan_line rfl) (ra_cons (re_fld (re_var 0) fc.c_Scan fc.na_Scan_word rfl) ra_nil))))
/-! Scan_take -/
theorem sc_Scan_take : FnScope ["self", "word"] ["self"] (defScope (inCls (top 9) 4)) := ⟨rfl, rfl, rfl, by decide +kernel, rfl, by decide +kernel, by decide +kernel⟩
def s_Scan_take : SF := (sSeq (sAsg (fMeth 4 F_Scan_ahead [] (fVar 0) fNil) (gN 1))
  (sSeq (sIf (fB (fOp gIsN (fVar 1) (fC .non)))
  (sExpr (fMeth 4 F_Scan_refuse [] (fVar 0) fNil))
  sNil)
  (sSeq (sFldS 4 2 (fVar 0) (fOp gAdd (fFld 4 2 (fVar 0)) (fC (.int 1))))
  (sRet (fVar 1)))))
def F_Scan_take : Fn := mkFn 1 2 s_Scan_take
theorem ok_Scan_take (fc : Fc K mg) : OkF P w K mg base (gm K) 4 (He.ma K ((gm K) 4) "take") ["self"] F_Scan_take := by
  obtain ⟨fd, F⟩ := fc.d_Scan_take
  have sc := sc_Scan_take
  obtain ⟨fd_Scan_ahead, o_Scan_ahead⟩ := (ok_Scan_ahead (P := P) (w := w) (base := base) fc).ex
  obtain ⟨fd_Scan_refuse, o_Scan_refuse⟩ := (ok_Scan_refuse (P := P) (w := w) (base := base) fc).ex
  refine ⟨fd, fn_ok F sc fun cdv A outer s0 H E hr => ?_, F.kp, F.bindsN fun _ _ _ _ _ _ us hl => match us, hl with | [_], _ => rfl⟩
  exact (rs_cons (rs_asg (re_meth0 (takes_of rfl rfl rfl rfl) (re_var 0) fc.c_Scan fc.m_Scan_ahead (o_Scan_ahead.1.mono (by omega)) hr o_Scan_ahead.2.2 .nil (fun _ _ => .nil) nm_Scan_ahead) (rg_name 1 sc.nd))
  (rs_cons (rs_if (rt_cmp op_isN ov_isN (re_var 1) re_non)
  (rs_one (rs_expr (re_meth0 (takes_of rfl rfl rfl rfl) (re_var 0) fc.c_Scan fc.m_Scan_refuse (o_Scan_refuse.1.mono (by omega)) hr o_Scan_refuse.2.2 .nil (fun _ _ => .nil) nm_Scan_refuse)))
  rs_nil)
  (rs_cons (rs_fld (re_var 0) (re_bin or_add ov_add (re_fld (re_var 0) fc.c_Scan fc.na_Scan_word rfl) re_int) fc.c_Scan fc.na_Scan_word rfl)
  (rs_one (rs_ret (re_var 1))))))
/-! is_name -/
theorem sc_is_name : FnScope ["value", "sign"] ["value"] (defScope (top 7)) := ⟨rfl, rfl, rfl, by decide +kernel, rfl, by decide +kernel, by decide +kernel⟩
def s_is_name : SF := (sSeq (sIf (fOr (fNot (fTru (fCB gIsi (fCons (fVar 0) (fCons (fC (.ty "str")) fNil))))) (fNot (fB (fChain gLe gLe (fC (.int 1)) (fCB gLen (fCons (fVar 0) fNil)) (fC (.int 12))))))
  (sRet (fC (.bl false)))
  sNil)
  (sRet (fAndV (fOp (gIn false) (fOp gIx (fVar 0) (fC (.int 0))) (fSl (fC (.str "abcdefghijklmnopqrstuvwxyz0123456789")) fNoP (fPart (fC (.int 26))))) (fCB gAll (fCons (fComp (fSrc (fVar 0)) (.nm 1) fYes (fOp (gIn false) (fVar 1) (fC (.str "abcdefghijklmnopqrstuvwxyz0123456789"))) FU) fNil)))))
def F_is_name : Fn := mkFn 1 2 s_is_name
theorem ok_is_name (fc : Fc K mg) : OkF P w K mg base (gm K) 1 ((gm K) 3) ["value"] F_is_name := by
  obtain ⟨fd, F⟩ := fc.d_is_name
  have sc := sc_is_name
  refine ⟨fd, fn_ok F sc fun cdv A outer s0 H E hr => ?_, F.kp, F.bindsN fun _ _ _ _ _ _ us hl => match us, hl with | [_], _ => rfl⟩
  exact (rs_cons (rs_if (rw_or (rt_not (rt_tru (re_callB call_isi cv_isi (by rfl) fc.n_isinstance bt_isinstance (ra_cons (re_var 0) (ra_cons (re_ty (by rfl) fc.n_str bt_str) ra_nil))))) (rw_or1 (rt_not (rt_chain or_le or_le ov_le ov_le re_int (re_callB call_len cv_len (by rfl) fc.n_len bt_len (ra_cons (re_var 0) ra_nil)) (re_gint (by rfl) fc.i_MOST_SIGNS))))).pt
  (rs_one (rs_ret re_bl))
  rs_nil)
  (rs_one (rs_ret (re_and (re_cmp or_in (ov_in false) (re_ix (re_var 0) re_int) (re_sl (re_gstr (by rfl) fc.s_SIGNS) ro_none (ro_some re_int))) (re_one (re_callB (cr_all rfl) cv_all (by rfl) fc.n_all bt_all (ra_cons (re_comp FU rfl sc.nd (ri_any (re_var 0)) (blkB_ok (own := [("sign", 1)]) rfl) rfl (fun _ _ _ _ _ => (pg_name sc.nd (i := 1) rfl (by first | exact Or.inl rfl | exact Or.inr rfl) (by first | exact .inl rfl | exact .inr rfl))) (fun _ _ _ _ _ => pts_yes) (fun _ _ _ _ _ => (re_cmp or_in (ov_in false) (re_var 1) (re_gstr (by rfl) fc.s_SIGNS)))) ra_nil)))))))
/-! Scan_back -/
theorem sc_Scan_back : FnScope ["self"] ["self"] (defScope (inCls (top 9) 5)) := ⟨rfl, rfl, rfl, by decide +kernel, rfl, by decide +kernel, by decide +kernel⟩
def s_Scan_back : SF := (sRaise 2 2 (fCons (fFld 4 1 (fVar 0)) (fCons (fOp gSub (fFld 4 2 (fVar 0)) (fC (.int 1))) fNil)))
def F_Scan_back : Fn := mkFn 1 1 s_Scan_back
theorem ok_Scan_back (fc : Fc K mg) : OkF P w K mg base (gm K) 3 (He.ma K ((gm K) 4) "back") ["self"] F_Scan_back := by
  obtain ⟨fd, F⟩ := fc.d_Scan_back
  have sc := sc_Scan_back
  obtain ⟨fd_BadText___init__, o_BadText___init__⟩ := ok_BadText___init__ (P := P) (w := w) (base := base) fc
  refine ⟨fd, fn_ok F sc fun cdv A outer s0 H E hr => ?_, F.kp, F.bindsN fun _ _ _ _ _ _ us hl => match us, hl with | [_], _ => rfl⟩
  exact (rs_one (rs_raise rfl (takes_of rfl rfl rfl rfl) (oexB_ok fc.x_BadText) fc.xi_BadText fc.xt_BadText o_BadText___init__.1 (hr.mono (by omega)) o_BadText___init__.2 rfl (by rfl) fc.g_BadText (ra_cons (re_fld (re_var 0) fc.c_Scan fc.na_Scan_line rfl) (ra_cons (re_bin op_sub ov_sub (re_fld (re_var 0) fc.c_Scan fc.na_Scan_word rfl) re_int) ra_nil))))
/-! Scan_take_name -/
theorem sc_Scan_take_name : FnScope ["self", "above", "word"] ["self", "above"] (defScope (inCls (top 9) 8)) := ⟨rfl, rfl, rfl, by decide +kernel, rfl, by decide +kernel, by decide +kernel⟩
def s_Scan_take_name : SF := (sSeq (sAsg (fMeth 4 F_Scan_take [] (fVar 0) fNil) (gN 2))
  (sSeq (sIf (fOr (fNot (fTru (fCall F_is_name [] (fCons (fVar 2) fNil)))) (fAnd (fB (fOp gNotN (fVar 1) (fC .non))) (fB (fOp gLe (fVar 2) (fVar 1)))))
  (sExpr (fMeth 4 F_Scan_back [] (fVar 0) fNil))
  sNil)
  (sRet (fVar 2))))
def F_Scan_take_name : Fn := mkFn 2 3 s_Scan_take_name
theorem ok_Scan_take_name (fc : Fc K mg) : OkD P w K mg base (gm K) 5 (He.ma K ((gm K) 4) "take_name") ["self", "above"] [.non] F_Scan_take_name := by
  obtain ⟨fd, F⟩ := fc.d_Scan_take_name
  have sc := sc_Scan_take_name
  obtain ⟨fd_Scan_take, o_Scan_take⟩ := (ok_Scan_take (P := P) (w := w) (base := base) fc).ex
  obtain ⟨fd_is_name, o_is_name⟩ := (ok_is_name (P := P) (w := w) (base := base) fc).ex
  obtain ⟨fd_Scan_back, o_Scan_back⟩ := (ok_Scan_back (P := P) (w := w) (base := base) fc).ex
  obtain ⟨ds0, v0, b0⟩ := F.binds1 (ps := ["self", "above"]) 2 1 (by simp) rfl fun _ _ _ _ _ _ _ us its h1 h2 => match us, its, h1, h2 with | [_, _], [_], _, _ => ⟨_, rfl, rfl⟩
  obtain ⟨ds1, v1, b1⟩ := F.binds1 (ps := ["self", "above"]) 1 0 (by simp) rfl fun _ _ _ _ _ _ _ us its h1 h2 => match us, its, h1, h2 with | [_], [_], _, _ => ⟨_, rfl, rfl⟩
  cases v0
  refine ⟨fd, ds1, fn_ok F sc fun cdv A outer s0 H E hr => ?_, F.kp, b0, v1, b1⟩
  exact (rs_cons (rs_asg (re_meth0 (takes_of rfl rfl rfl rfl) (re_var 0) fc.c_Scan fc.m_Scan_take (o_Scan_take.1.mono (by omega)) hr o_Scan_take.2.2 .nil (fun _ _ => .nil) nm_Scan_take) (rg_name 2 sc.nd))
  (rs_cons (rs_if (rw_or (rt_not (rt_tru (re_call (takes_of rfl rfl rfl rfl) (o_is_name.1.mono (by omega)) hr (by rfl) fc.g_is_name o_is_name.2.1 o_is_name.2.2 .nil (fun _ _ => .nil) (ra_cons (re_var 2) ra_nil)))) (rw_or1 (rw_and (rt_cmp op_notN ov_notN (re_var 1) re_non) (rw_and1 (rt_cmp or_le ov_le (re_var 2) (re_var 1)))).pt)).pt
  (rs_one (rs_expr (re_meth0 (takes_of rfl rfl rfl rfl) (re_var 0) fc.c_Scan fc.m_Scan_back (o_Scan_back.1.mono (by omega)) hr o_Scan_back.2.2 .nil (fun _ _ => .nil) nm_Scan_back)))
  rs_nil)
  (rs_one (rs_ret (re_var 2)))))
/-! Scan_end_line -/
theorem sc_Scan_end_line : FnScope ["self"] ["self"] (defScope (inCls (top 9) 10)) := ⟨rfl, rfl, rfl, by decide +kernel, rfl, by decide +kernel, by decide +kernel⟩
def s_Scan_end_line : SF := (sSeq (sIf (fB (fOp gNotN (fMeth 4 F_Scan_ahead [] (fVar 0) fNil) (fC .non)))
  (sExpr (fMeth 4 F_Scan_refuse [] (fVar 0) fNil))
  sNil)
  (sSeq (sFldS 4 1 (fVar 0) (fOp gAdd (fFld 4 1 (fVar 0)) (fC (.int 1))))
  (sFldS 4 2 (fVar 0) (fC (.int 0)))))
def F_Scan_end_line : Fn := mkFn 1 1 s_Scan_end_line
theorem ok_Scan_end_line (fc : Fc K mg) : OkF P w K mg base (gm K) 4 (He.ma K ((gm K) 4) "end_line") ["self"] F_Scan_end_line := by
  obtain ⟨fd, F⟩ := fc.d_Scan_end_line
  have sc := sc_Scan_end_line
  obtain ⟨fd_Scan_ahead, o_Scan_ahead⟩ := (ok_Scan_ahead (P := P) (w := w) (base := base) fc).ex
  obtain ⟨fd_Scan_refuse, o_Scan_refuse⟩ := (ok_Scan_refuse (P := P) (w := w) (base := base) fc).ex
  refine ⟨fd, fn_ok F sc fun cdv A outer s0 H E hr => ?_, F.kp, F.bindsN fun _ _ _ _ _ _ us hl => match us, hl with | [_], _ => rfl⟩
  exact (rs_cons (rs_if (rt_cmp op_notN ov_notN (re_meth0 (takes_of rfl rfl rfl rfl) (re_var 0) fc.c_Scan fc.m_Scan_ahead (o_Scan_ahead.1.mono (by omega)) hr o_Scan_ahead.2.2 .nil (fun _ _ => .nil) nm_Scan_ahead) re_non)
  (rs_one (rs_expr (re_meth0 (takes_of rfl rfl rfl rfl) (re_var 0) fc.c_Scan fc.m_Scan_refuse (o_Scan_refuse.1.mono (by omega)) hr o_Scan_refuse.2.2 .nil (fun _ _ => .nil) nm_Scan_refuse)))
  rs_nil)
  (rs_cons (rs_fld (re_var 0) (re_bin or_add ov_add (re_fld (re_var 0) fc.c_Scan fc.na_Scan_line rfl) re_int) fc.c_Scan fc.na_Scan_line rfl)
  (rs_one (rs_fld (re_var 0) re_int fc.c_Scan fc.na_Scan_word rfl))))
/-! need_over -/
theorem sc_need_over : FnScope ["scan"] ["scan"] (defScope (top 18)) := ⟨rfl, rfl, rfl, by decide +kernel, rfl, by decide +kernel, by decide +kernel⟩
def s_need_over : SF := (sIf (fNot (fTru (fMeth 4 F_Scan_is_over [] (fVar 0) fNil)))
  (sExpr (fMeth 4 F_Scan_refuse [] (fVar 0) fNil))
  sNil)
def F_need_over : Fn := mkFn 1 1 s_need_over
theorem ok_need_over (fc : Fc K mg) : OkF P w K mg base (gm K) 4 ((gm K) 10) ["scan"] F_need_over := by
  obtain ⟨fd, F⟩ := fc.d_need_over
  have sc := sc_need_over
  obtain ⟨fd_Scan_is_over, o_Scan_is_over⟩ := (ok_Scan_is_over (P := P) (w := w) (base := base) fc).ex
  obtain ⟨fd_Scan_refuse, o_Scan_refuse⟩ := (ok_Scan_refuse (P := P) (w := w) (base := base) fc).ex
  refine ⟨fd, fn_ok F sc fun cdv A outer s0 H E hr => ?_, F.kp, F.bindsN fun _ _ _ _ _ _ us hl => match us, hl with | [_], _ => rfl⟩
  exact (rs_one (rs_if (rt_not (rt_tru (re_meth0 (takes_of rfl rfl rfl rfl) (re_var 0) fc.c_Scan fc.m_Scan_is_over (o_Scan_is_over.1.mono (by omega)) hr o_Scan_is_over.2.2 .nil (fun _ _ => .nil) nm_Scan_is_over)))
  (rs_one (rs_expr (re_meth0 (takes_of rfl rfl rfl rfl) (re_var 0) fc.c_Scan fc.m_Scan_refuse (o_Scan_refuse.1.mono (by omega)) hr o_Scan_refuse.2.2 .nil (fun _ _ => .nil) nm_Scan_refuse)))
  rs_nil))
/-! read_grouping -/
theorem sc_read_grouping : FnScope ["text", "scan", "groups", "group"] ["text"] (defScope (top 17)) := ⟨rfl, rfl, rfl, by decide +kernel, rfl, by decide +kernel, by decide +kernel⟩
def s_read_grouping : SF := (sSeq (sAsg (fMake 4 F_Scan___init__ [] (fCons (fVar 0) fNil)) (gN 1))
  (sSeq (sAsg (fLst (fCons (fLst fNil) fNil)) (gN 2))
  (sSeq (sWhile (fOr (fB (fOp gNotN (fMeth 4 F_Scan_ahead [] (fVar 1) fNil) (fC .non))) (fB (fOp gEq (fOp gIx (fVar 2) (fUn gNeg (fC (.int 1)))) (fLst fNil)))) (sIf (fAnd (fB (fOp gNe (fOp gIx (fVar 2) (fUn gNeg (fC (.int 1)))) (fLst fNil))) (fB (fOp gEq (fMeth 4 F_Scan_ahead [] (fVar 1) fNil) (fC (.str "/")))))
  (sSeq (sExpr (fMeth 4 F_Scan_take [] (fVar 1) fNil))
  (sExpr (fAppend (fVar 2) (fCons (fLst fNil) fNil))))
  (sSeq (sExpr (fAppend (fOp gIx (fVar 2) (fUn gNeg (fC (.int 1)))) (fCons (fMeth 4 F_Scan_take_name [] (fVar 1) (fCons (fIf (fB (fOp gNe (fOp gIx (fVar 2) (fUn gNeg (fC (.int 1)))) (fLst fNil))) (fOp gIx (fOp gIx (fVar 2) (fUn gNeg (fC (.int 1)))) (fUn gNeg (fC (.int 1)))) (fC .non)) fNil)) fNil)))
  (sIf (fOr (fTru (fCB gAny (fCons (fComp (fSrc (fSl (fVar 2) fNoP (fPart (fUn gNeg (fC (.int 1)))))) (.nm 3) fYes (fOp (gIn false) (fOp gIx (fOp gIx (fVar 2) (fUn gNeg (fC (.int 1)))) (fUn gNeg (fC (.int 1)))) (fVar 3)) FU) fNil))) (fAnd (fB (fOp gGt (fCB gLen (fCons (fVar 2) fNil)) (fC (.int 1)))) (fB (fOp gGtD (fOp gIx (fVar 2) (fUn gNeg (fC (.int 2)))) (fOp gIx (fVar 2) (fUn gNeg (fC (.int 1))))))))
  (sExpr (fMeth 4 F_Scan_back [] (fVar 1) fNil))
  sNil))) FU)
  (sSeq (sExpr (fMeth 4 F_Scan_end_line [] (fVar 1) fNil))
  (sSeq (sExpr (fCall F_need_over [] (fCons (fVar 1) fNil)))
  (sRet (fCB gTuple (fCons (fComp (fSrc (fVar 2)) (.nm 3) fYes (fCB gTuple (fCons (fVar 3) fNil)) FU) fNil))))))))
def F_read_grouping : Fn := mkFn 1 4 s_read_grouping
theorem ok_read_grouping (fc : Fc K mg) : OkK P w K mg base (gm K) 6 ((gm K) 9) ["text"] F_read_grouping := by
  obtain ⟨fd, F⟩ := fc.d_read_grouping
  have sc := sc_read_grouping
  obtain ⟨fd_Scan___init__, o_Scan___init__⟩ := (ok_Scan___init__ (P := P) (w := w) (base := base) fc).ex
  obtain ⟨fd_Scan_ahead, o_Scan_ahead⟩ := (ok_Scan_ahead (P := P) (w := w) (base := base) fc).ex
  obtain ⟨fd_Scan_take, o_Scan_take⟩ := (ok_Scan_take (P := P) (w := w) (base := base) fc).ex
  obtain ⟨fd_Scan_take_name, ds_Scan_take_name, o_Scan_take_name⟩ := (ok_Scan_take_name (P := P) (w := w) (base := base) fc).ex
  obtain ⟨fd_Scan_back, o_Scan_back⟩ := (ok_Scan_back (P := P) (w := w) (base := base) fc).ex
  obtain ⟨fd_Scan_end_line, o_Scan_end_line⟩ := (ok_Scan_end_line (P := P) (w := w) (base := base) fc).ex
  obtain ⟨fd_need_over, o_need_over⟩ := (ok_need_over (P := P) (w := w) (base := base) fc).ex
  refine ⟨fd, fn_ok F sc fun cdv A outer s0 H E hr => ?_, F.kp, F.bindsN fun _ _ _ _ _ _ us hl => match us, hl with | [_], _ => rfl, bindsKw F fun _ _ _ _ _ _ us hl => match us, hl with | [_], _ => rfl⟩
  exact (rs_cons (rs_asg (re_make (takes_of rfl rfl rfl rfl) fc.mk_Scan o_Scan___init__.1 (hr.mono (by omega)) (by rfl) fc.g_Scan o_Scan___init__.2.2 .nil (fun _ _ => .nil) (ra_cons (re_var 0) ra_nil)) (rg_name 1 sc.nd))
  (rs_cons (rs_asg (re_lst (ra_cons (re_lst ra_nil) ra_nil)) (rg_name 2 sc.nd))
  (rs_cons (rs_while FU (passes_of rfl) (rw_or (rt_cmp op_notN ov_notN (re_meth0 (takes_of rfl rfl rfl rfl) (re_var 1) fc.c_Scan fc.m_Scan_ahead (o_Scan_ahead.1.mono (by omega)) hr o_Scan_ahead.2.2 .nil (fun _ _ => .nil) nm_Scan_ahead) re_non) (rw_or1 (rt_cmp (or_eq hr.units) ov_eq (re_ix (re_var 2) (re_un un_neg uv_neg re_int)) (re_lst ra_nil)))).pt (rs_one (rs_if (rw_and (rt_cmp (or_ne hr.units) ov_ne (re_ix (re_var 2) (re_un un_neg uv_neg re_int)) (re_lst ra_nil)) (rw_and1 (rt_cmp (or_eq hr.units) ov_eq (re_meth0 (takes_of rfl rfl rfl rfl) (re_var 1) fc.c_Scan fc.m_Scan_ahead (o_Scan_ahead.1.mono (by omega)) hr o_Scan_ahead.2.2 .nil (fun _ _ => .nil) nm_Scan_ahead) re_str))).pt
  (rs_cons (rs_expr (re_meth0 (takes_of rfl rfl rfl rfl) (re_var 1) fc.c_Scan fc.m_Scan_take (o_Scan_take.1.mono (by omega)) hr o_Scan_take.2.2 .nil (fun _ _ => .nil) nm_Scan_take))
  (rs_one (rs_expr (re_append (re_var 2) (ra_cons (re_lst ra_nil) ra_nil)))))
  (rs_cons (rs_expr (re_append (re_ix (re_var 2) (re_un un_neg uv_neg re_int)) (ra_cons (re_meth (takes_of rfl rfl rfl rfl) (re_var 1) fc.c_Scan fc.m_Scan_take_name (o_Scan_take_name.1.mono (by omega)) hr o_Scan_take_name.2.2.1 .nil (fun _ _ => .nil) nm_Scan_take_name (ra_cons (re_if (rt_cmp (or_ne hr.units) ov_ne (re_ix (re_var 2) (re_un un_neg uv_neg re_int)) (re_lst ra_nil)) (re_ix (re_ix (re_var 2) (re_un un_neg uv_neg re_int)) (re_un un_neg uv_neg re_int)) re_non) ra_nil)) ra_nil)))
  (rs_one (rs_if (rw_or (rt_tru (re_callB (cr_any rfl) cv_any (by rfl) fc.n_any bt_any (ra_cons (re_comp FU rfl sc.nd (ri_any (re_sl (re_var 2) ro_none (ro_some (re_un un_neg uv_neg re_int)))) (blkB_ok (own := [("group", 3)]) rfl) rfl (fun _ _ _ _ _ => (pg_name sc.nd (i := 3) rfl (by first | exact Or.inl rfl | exact Or.inr rfl) (by first | exact .inl rfl | exact .inr rfl))) (fun _ _ _ _ _ => pts_yes) (fun _ _ _ _ _ => (re_cmp or_in (ov_in false) (re_ix (re_ix (re_var 2) (re_un un_neg uv_neg re_int)) (re_un un_neg uv_neg re_int)) (re_var 3)))) ra_nil))) (rw_or1 (rw_and (rt_cmp or_gt ov_gt (re_callB call_len cv_len (by rfl) fc.n_len bt_len (ra_cons (re_var 2) ra_nil)) re_int) (rw_and1 (rt_cmp (or_gtD hr.units) ov_gtD (re_ix (re_var 2) (re_un un_neg uv_neg re_int)) (re_ix (re_var 2) (re_un un_neg uv_neg re_int))))).pt)).pt
  (rs_one (rs_expr (re_meth0 (takes_of rfl rfl rfl rfl) (re_var 1) fc.c_Scan fc.m_Scan_back (o_Scan_back.1.mono (by omega)) hr o_Scan_back.2.2 .nil (fun _ _ => .nil) nm_Scan_back)))
  rs_nil))))))
  (rs_cons (rs_expr (re_meth0 (takes_of rfl rfl rfl rfl) (re_var 1) fc.c_Scan fc.m_Scan_end_line (o_Scan_end_line.1.mono (by omega)) hr o_Scan_end_line.2.2 .nil (fun _ _ => .nil) nm_Scan_end_line))
  (rs_cons (rs_expr (re_call (takes_of rfl rfl rfl rfl) (o_need_over.1.mono (by omega)) hr (by rfl) fc.g_need_over o_need_over.2.1 o_need_over.2.2 .nil (fun _ _ => .nil) (ra_cons (re_var 1) ra_nil)))
  (rs_one (rs_ret (re_callTy call_tuple_of cv_tuple (by rfl) fc.n_tuple bt_tuple (ra_cons (re_comp FU rfl sc.nd (ri_any (re_var 2)) (blkB_ok (own := [("group", 3)]) rfl) rfl (fun _ _ _ _ _ => (pg_name sc.nd (i := 3) rfl (by first | exact Or.inl rfl | exact Or.inr rfl) (by first | exact .inl rfl | exact .inr rfl))) (fun _ _ _ _ _ => pts_yes) (fun _ _ _ _ _ => (re_callTy call_tuple_of cv_tuple (by rfl) fc.n_tuple bt_tuple (ra_cons (re_var 3) ra_nil)))) ra_nil)))))))))
/-! Scan_take_word -/
theorem sc_Scan_take_word : FnScope ["self", "due"] ["self", "due"] (defScope (inCls (top 9) 6)) := ⟨rfl, rfl, rfl, by decide +kernel, rfl, by decide +kernel, by decide +kernel⟩
def s_Scan_take_word : SF := (sIf (fB (fOp gNe (fMeth 4 F_Scan_take [] (fVar 0) fNil) (fVar 1)))
  (sExpr (fMeth 4 F_Scan_back [] (fVar 0) fNil))
  sNil)
def F_Scan_take_word : Fn := mkFn 2 2 s_Scan_take_word
theorem ok_Scan_take_word (fc : Fc K mg) : OkF P w K mg base (gm K) 5 (He.ma K ((gm K) 4) "take_word") ["self", "due"] F_Scan_take_word := by
  obtain ⟨fd, F⟩ := fc.d_Scan_take_word
  have sc := sc_Scan_take_word
  obtain ⟨fd_Scan_take, o_Scan_take⟩ := (ok_Scan_take (P := P) (w := w) (base := base) fc).ex
  obtain ⟨fd_Scan_back, o_Scan_back⟩ := (ok_Scan_back (P := P) (w := w) (base := base) fc).ex
  refine ⟨fd, fn_ok F sc fun cdv A outer s0 H E hr => ?_, F.kp, F.bindsN fun _ _ _ _ _ _ us hl => match us, hl with | [_, _], _ => rfl⟩
  exact (rs_one (rs_if (rt_cmp (or_ne hr.units) ov_ne (re_meth0 (takes_of rfl rfl rfl rfl) (re_var 0) fc.c_Scan fc.m_Scan_take (o_Scan_take.1.mono (by omega)) hr o_Scan_take.2.2 .nil (fun _ _ => .nil) nm_Scan_take) (re_var 1))
  (rs_one (rs_expr (re_meth0 (takes_of rfl rfl rfl rfl) (re_var 0) fc.c_Scan fc.m_Scan_back (o_Scan_back.1.mono (by omega)) hr o_Scan_back.2.2 .nil (fun _ _ => .nil) nm_Scan_back)))
  rs_nil))
/-! is_written -/
theorem sc_is_written : FnScope ["word", "digits", "sign"] ["word"] (defScope (top 10)) := ⟨rfl, rfl, rfl, by decide +kernel, rfl, by decide +kernel, by decide +kernel⟩
def s_is_written : SF := (sSeq (sAsg (fIf (fB (fOp gEq (fSl (fVar 0) fNoP (fPart (fC (.int 1)))) (fC (.str "-")))) (fSl (fVar 0) (fPart (fC (.int 1))) fNoP) (fVar 0)) (gN 1))
  (sSeq (sIf (fOr (fB (fOp gEq (fVar 1) (fC (.str "")))) (fOr (fNot (fTru (fCB gAll (fCons (fComp (fSrc (fVar 1)) (.nm 2) fYes (fOp (gIn false) (fVar 2) (fC (.str "0123456789"))) FU) fNil)))) (fB (fOp gGt (fCB gLen (fCons (fVar 1) fNil)) (fC (.int 40))))))
  (sRet (fC (.bl false)))
  sNil)
  (sRet (fOrV (fOp gEq (fVar 0) (fC (.str "0"))) (fOp gNe (fOp gIx (fVar 1) (fC (.int 0))) (fC (.str "0")))))))
def F_is_written : Fn := mkFn 1 3 s_is_written
theorem ok_is_written (fc : Fc K mg) : OkF P w K mg base (gm K) 1 ((gm K) 5) ["word"] F_is_written := by
  obtain ⟨fd, F⟩ := fc.d_is_written
  have sc := sc_is_written
  refine ⟨fd, fn_ok F sc fun cdv A outer s0 H E hr => ?_, F.kp, F.bindsN fun _ _ _ _ _ _ us hl => match us, hl with | [_], _ => rfl⟩
  exact (rs_cons (rs_asg (re_if (rt_cmp (or_eq hr.units) ov_eq (re_sl (re_var 0) ro_none (ro_some re_int)) re_str) (re_sl (re_var 0) (ro_some re_int) ro_none) (re_var 0)) (rg_name 1 sc.nd))
  (rs_cons (rs_if (rw_or (rt_cmp (or_eq hr.units) ov_eq (re_var 1) re_str) (rw_or (rt_not (rt_tru (re_callB (cr_all rfl) cv_all (by rfl) fc.n_all bt_all (ra_cons (re_comp FU rfl sc.nd (ri_any (re_var 1)) (blkB_ok (own := [("sign", 2)]) rfl) rfl (fun _ _ _ _ _ => (pg_name sc.nd (i := 2) rfl (by first | exact Or.inl rfl | exact Or.inr rfl) (by first | exact .inl rfl | exact .inr rfl))) (fun _ _ _ _ _ => pts_yes) (fun _ _ _ _ _ => (re_cmp or_in (ov_in false) (re_var 2) re_str))) ra_nil)))) (rw_or1 (rt_cmp or_gt ov_gt (re_callB call_len cv_len (by rfl) fc.n_len bt_len (ra_cons (re_var 1) ra_nil)) re_int)))).pt
  (rs_one (rs_ret re_bl))
  rs_nil)
  (rs_one (rs_ret (re_or (re_cmp (or_eq hr.units) ov_eq (re_var 0) re_str) (re_one (re_cmp (or_ne hr.units) ov_ne (re_ix (re_var 1) re_int) re_str)))))))
/-! Scan_take_integer -/
theorem sc_Scan_take_integer : FnScope ["self", "least", "most", "word"] ["self", "least", "most"] (defScope (inCls (top 9) 9)) := ⟨rfl, rfl, rfl, by decide +kernel, rfl, by decide +kernel, by decide +kernel⟩
def s_Scan_take_integer : SF := (sSeq (sAsg (fMeth 4 F_Scan_take [] (fVar 0) fNil) (gN 3))
  (sSeq (sIf (fOr (fNot (fTru (fCall F_is_written [] (fCons (fVar 3) fNil)))) (fNot (fB (fChain gLe gLe (fVar 1) (fCB gInt (fCons (fVar 3) fNil)) (fVar 2)))))
  (sExpr (fMeth 4 F_Scan_back [] (fVar 0) fNil))
  sNil)
  (sRet (fCB gInt (fCons (fVar 3) fNil)))))
def F_Scan_take_integer : Fn := mkFn 3 4 s_Scan_take_integer
theorem ok_Scan_take_integer (fc : Fc K mg) : OkF P w K mg base (gm K) 5 (He.ma K ((gm K) 4) "take_integer") ["self", "least", "most"] F_Scan_take_integer := by
  obtain ⟨fd, F⟩ := fc.d_Scan_take_integer
  have sc := sc_Scan_take_integer
  obtain ⟨fd_Scan_take, o_Scan_take⟩ := (ok_Scan_take (P := P) (w := w) (base := base) fc).ex
  obtain ⟨fd_is_written, o_is_written⟩ := (ok_is_written (P := P) (w := w) (base := base) fc).ex
  obtain ⟨fd_Scan_back, o_Scan_back⟩ := (ok_Scan_back (P := P) (w := w) (base := base) fc).ex
  refine ⟨fd, fn_ok F sc fun cdv A outer s0 H E hr => ?_, F.kp, F.bindsN fun _ _ _ _ _ _ us hl => match us, hl with | [_, _, _], _ => rfl⟩
  exact (rs_cons (rs_asg (re_meth0 (takes_of rfl rfl rfl rfl) (re_var 0) fc.c_Scan fc.m_Scan_take (o_Scan_take.1.mono (by omega)) hr o_Scan_take.2.2 .nil (fun _ _ => .nil) nm_Scan_take) (rg_name 3 sc.nd))
  (rs_cons (rs_if (rw_or (rt_not (rt_tru (re_call (takes_of rfl rfl rfl rfl) (o_is_written.1.mono (by omega)) hr (by rfl) fc.g_is_written o_is_written.2.1 o_is_written.2.2 .nil (fun _ _ => .nil) (ra_cons (re_var 3) ra_nil)))) (rw_or1 (rt_not (rt_chain or_le or_le ov_le ov_le (re_var 1) (re_callTy cr_int cv_int (by rfl) fc.n_int bt_int (ra_cons (re_var 3) ra_nil)) (re_var 2))))).pt
  (rs_one (rs_expr (re_meth0 (takes_of rfl rfl rfl rfl) (re_var 0) fc.c_Scan fc.m_Scan_back (o_Scan_back.1.mono (by omega)) hr o_Scan_back.2.2 .nil (fun _ _ => .nil) nm_Scan_back)))
  rs_nil)
  (rs_one (rs_ret (re_callTy cr_int cv_int (by rfl) fc.n_int bt_int (ra_cons (re_var 3) ra_nil))))))
/-! read_offers -/
theorem sc_read_offers : FnScope ["text", "scan", "found", "name", "one", "other"] ["text"] (defScope (top 19)) := ⟨rfl, rfl, rfl, by decide +kernel, rfl, by decide +kernel, by decide +kernel⟩
def s_read_offers : SF := (sSeq (sPar2 1 2 (fCons (fMake 4 F_Scan___init__ [] (fCons (fVar 0) fNil)) (fCons (fLst fNil) fNil)))
  (sSeq (sWhile (fOr (fB (fOp gEq (fVar 2) (fLst fNil))) (fNot (fTru (fMeth 4 F_Scan_is_over [] (fVar 1) fNil)))) (sSeq (sIf (fB (fOp gEq (fCB gLen (fCons (fVar 2) fNil)) (fC (.int 10))))
  (sExpr (fMeth 4 F_Scan_refuse [] (fVar 1) fNil))
  sNil)
  (sSeq (sExpr (fMeth 4 F_Scan_take_word [] (fVar 1) (fCons (fC (.str "offer")) fNil)))
  (sSeq (sAsg (fMeth 4 F_Scan_take_name [] (fVar 1) (fCons (fIf (fB (fOp gNe (fVar 2) (fLst fNil))) (fOp gIx (fOp gIx (fVar 2) (fUn gNeg (fC (.int 1)))) (fC (.int 0))) (fC .non)) fNil)) (gN 3))
  (sSeq (sAsg (fMeth 4 F_Scan_take_name [.non] (fVar 1) fNil) (gN 4))
  (sSeq (sAsg (fMeth 4 F_Scan_take_name [.non] (fVar 1) fNil) (gN 5))
  (sSeq (sIf (fB (fOp gEq (fVar 5) (fVar 4)))
  (sExpr (fMeth 4 F_Scan_back [] (fVar 1) fNil))
  sNil)
  (sSeq (sExpr (fAppend (fVar 2) (fCons (fTup (fCons (fVar 3) (fCons (fVar 4) (fCons (fVar 5) (fCons (fMeth 4 F_Scan_take_integer [] (fVar 1) (fCons (fC (.int 0)) (fCons (fC (.int 1000000)) fNil))) fNil))))) fNil)))
  (sExpr (fMeth 4 F_Scan_end_line [] (fVar 1) fNil))))))))) FU)
  (sRet (fCB gTuple (fCons (fVar 2) fNil)))))
def F_read_offers : Fn := mkFn 1 6 s_read_offers
theorem ok_read_offers (fc : Fc K mg) : OkK P w K mg base (gm K) 6 ((gm K) 11) ["text"] F_read_offers := by
  obtain ⟨fd, F⟩ := fc.d_read_offers
  have sc := sc_read_offers
  obtain ⟨fd_Scan___init__, o_Scan___init__⟩ := (ok_Scan___init__ (P := P) (w := w) (base := base) fc).ex
  obtain ⟨fd_Scan_is_over, o_Scan_is_over⟩ := (ok_Scan_is_over (P := P) (w := w) (base := base) fc).ex
  obtain ⟨fd_Scan_refuse, o_Scan_refuse⟩ := (ok_Scan_refuse (P := P) (w := w) (base := base) fc).ex
  obtain ⟨fd_Scan_take_word, o_Scan_take_word⟩ := (ok_Scan_take_word (P := P) (w := w) (base := base) fc).ex
  obtain ⟨fd_Scan_take_name, ds_Scan_take_name, o_Scan_take_name⟩ := (ok_Scan_take_name (P := P) (w := w) (base := base) fc).ex
  obtain ⟨fd_Scan_back, o_Scan_back⟩ := (ok_Scan_back (P := P) (w := w) (base := base) fc).ex
  obtain ⟨fd_Scan_take_integer, o_Scan_take_integer⟩ := (ok_Scan_take_integer (P := P) (w := w) (base := base) fc).ex
  obtain ⟨fd_Scan_end_line, o_Scan_end_line⟩ := (ok_Scan_end_line (P := P) (w := w) (base := base) fc).ex
  refine ⟨fd, fn_ok F sc fun cdv A outer s0 H E hr => ?_, F.kp, F.bindsN fun _ _ _ _ _ _ us hl => match us, hl with | [_], _ => rfl, bindsKw F fun _ _ _ _ _ _ us hl => match us, hl with | [_], _ => rfl⟩
  exact (rs_cons (rs_par2 rfl sc.nd (i := 1) (j := 2) rfl rfl (by decide) rfl rfl (ra_cons (re_make (takes_of rfl rfl rfl rfl) fc.mk_Scan o_Scan___init__.1 (hr.mono (by omega)) (by rfl) fc.g_Scan o_Scan___init__.2.2 .nil (fun _ _ => .nil) (ra_cons (re_var 0) ra_nil)) (ra_cons (re_lst ra_nil) ra_nil)) rfl)
  (rs_cons (rs_while FU (passes_of rfl) (rw_or (rt_cmp (or_eq hr.units) ov_eq (re_var 2) (re_lst ra_nil)) (rw_or1 (rt_not (rt_tru (re_meth0 (takes_of rfl rfl rfl rfl) (re_var 1) fc.c_Scan fc.m_Scan_is_over (o_Scan_is_over.1.mono (by omega)) hr o_Scan_is_over.2.2 .nil (fun _ _ => .nil) nm_Scan_is_over))))).pt (rs_cons (rs_if (rt_cmp (or_eq hr.units) ov_eq (re_callB call_len cv_len (by rfl) fc.n_len bt_len (ra_cons (re_var 2) ra_nil)) (re_gint (by rfl) fc.i_MOST_OFFERS))
  (rs_one (rs_expr (re_meth0 (takes_of rfl rfl rfl rfl) (re_var 1) fc.c_Scan fc.m_Scan_refuse (o_Scan_refuse.1.mono (by omega)) hr o_Scan_refuse.2.2 .nil (fun _ _ => .nil) nm_Scan_refuse)))
  rs_nil)
  (rs_cons (rs_expr (re_meth (takes_of rfl rfl rfl rfl) (re_var 1) fc.c_Scan fc.m_Scan_take_word (o_Scan_take_word.1.mono (by omega)) hr o_Scan_take_word.2.2 .nil (fun _ _ => .nil) nm_Scan_take_word (ra_cons re_str ra_nil)))
  (rs_cons (rs_asg (re_meth (takes_of rfl rfl rfl rfl) (re_var 1) fc.c_Scan fc.m_Scan_take_name (o_Scan_take_name.1.mono (by omega)) hr o_Scan_take_name.2.2.1 .nil (fun _ _ => .nil) nm_Scan_take_name (ra_cons (re_if (rt_cmp (or_ne hr.units) ov_ne (re_var 2) (re_lst ra_nil)) (re_ix (re_ix (re_var 2) (re_un un_neg uv_neg re_int)) re_int) re_non) ra_nil)) (rg_name 3 sc.nd))
  (rs_cons (rs_asg (re_meth0 (takes_of rfl rfl rfl rfl) (re_var 1) fc.c_Scan fc.m_Scan_take_name (o_Scan_take_name.1.mono (by omega)) hr o_Scan_take_name.2.2.2.2 o_Scan_take_name.2.2.2.1 (fun _ _ => .cons .non .nil) nm_Scan_take_name) (rg_name 4 sc.nd))
  (rs_cons (rs_asg (re_meth0 (takes_of rfl rfl rfl rfl) (re_var 1) fc.c_Scan fc.m_Scan_take_name (o_Scan_take_name.1.mono (by omega)) hr o_Scan_take_name.2.2.2.2 o_Scan_take_name.2.2.2.1 (fun _ _ => .cons .non .nil) nm_Scan_take_name) (rg_name 5 sc.nd))
  (rs_cons (rs_if (rt_cmp (or_eq hr.units) ov_eq (re_var 5) (re_var 4))
  (rs_one (rs_expr (re_meth0 (takes_of rfl rfl rfl rfl) (re_var 1) fc.c_Scan fc.m_Scan_back (o_Scan_back.1.mono (by omega)) hr o_Scan_back.2.2 .nil (fun _ _ => .nil) nm_Scan_back)))
  rs_nil)
  (rs_cons (rs_expr (re_append (re_var 2) (ra_cons (re_tup (ra_cons (re_var 3) (ra_cons (re_var 4) (ra_cons (re_var 5) (ra_cons (re_meth (takes_of rfl rfl rfl rfl) (re_var 1) fc.c_Scan fc.m_Scan_take_integer (o_Scan_take_integer.1.mono (by omega)) hr o_Scan_take_integer.2.2 .nil (fun _ _ => .nil) nm_Scan_take_integer (ra_cons re_int (ra_cons (re_gint (by rfl) fc.i_MOST_PRICE) ra_nil))) ra_nil))))) ra_nil)))
  (rs_one (rs_expr (re_meth0 (takes_of rfl rfl rfl rfl) (re_var 1) fc.c_Scan fc.m_Scan_end_line (o_Scan_end_line.1.mono (by omega)) hr o_Scan_end_line.2.2 .nil (fun _ _ => .nil) nm_Scan_end_line)))))))))))
  (rs_one (rs_ret (re_callTy call_tuple_of cv_tuple (by rfl) fc.n_tuple bt_tuple (ra_cons (re_var 2) ra_nil))))))
/-! _law_answered -/
theorem sc__law_answered : FnScope ["read", "text", "error"] ["read", "text"] (defScope (top 27)) := ⟨rfl, rfl, rfl, by decide +kernel, rfl, by decide +kernel, by decide +kernel⟩
def Tv : Nat → Option Fn := fun n => if n = 9 then some F_read_grouping else if n = 11 then some F_read_offers else none
def s__law_answered : SF := (sTry 2 [2] (sRet (fLst (fCons (fCallV 0 Tv (fCons (fVar 1) fNil)) fNil))) (fun x => fTup (fCons (fC (.str "bad")) (fCons (fXf x 0) (fCons (fXf x 1) fNil)))))
def F__law_answered : Fn := mkFn 2 3 s__law_answered
theorem ok__law_answered (fc : Fc K mg) : OkF P w K mg base (gm K) 7 ((gm K) 18) ["read", "text"] F__law_answered := by
  obtain ⟨fd, F⟩ := fc.d__law_answered
  have sc := sc__law_answered
  have oV : ∀ n F, Tv n = some F → ∃ (fd : FuncData) (ps : List Str), FnOk P w K mg base (L2.CX P w) 6 ((gm K) n) fd ps (spF (gm K) K F) ∧ PySem.W.keepIn K (.ref ((gm K) n)) = true ∧ Binds K fd ps [] := by
    intro n F h
    unfold Tv at h
    by_cases e : n = 9
    · subst e
      rw [if_pos rfl] at h
      cases h
      obtain ⟨fdx, o1, o2, o3⟩ := (ok_read_grouping (P := P) (w := w) (base := base) fc).ex
      exact ⟨fdx, _, o1.mono (by omega), o2, o3.1⟩
    rw [if_neg e] at h
    clear e
    by_cases e : n = 11
    · subst e
      rw [if_pos rfl] at h
      cases h
      obtain ⟨fdx, o1, o2, o3⟩ := (ok_read_offers (P := P) (w := w) (base := base) fc).ex
      exact ⟨fdx, _, o1.mono (by omega), o2, o3.1⟩
    rw [if_neg e] at h
    clear e
    cases h
  refine ⟨fd, fn_ok F sc fun cdv A outer s0 H E hr => ?_, F.kp, F.bindsN fun _ _ _ _ _ _ us hl => match us, hl with | [_, _], _ => rfl⟩
  exact (rs_one (rs_try rfl rfl sc.nd (i := 2) rfl rfl ⟨by rfl, by decide, .inl fc.g_BadText⟩ (takes_of rfl rfl rfl rfl) (fun c hc => by obtain rfl : c = 2 := (by simpa using hc); exact fc.xm_BadText) (fun W' pn xe tk hp => (rs_one (rs_ret (re_lst (ra_cons (re_callV tk oV hr (by rfl) (by first | exact Or.inl rfl | exact Or.inr (Or.inl rfl) | exact Or.inr (Or.inr rfl)) (ra_cons (re_var 1) ra_nil)) ra_nil))))) (fun a oe cls d pn xx hxx hz hf => by obtain ⟨c, ds⟩ := xx; obtain rfl : c = 2 := (by simpa using hxx); exact xe_tup (xa_cons (xe_of re_str) (xa_cons (xe_fld (xfB_ok fc.xf_BadText) fc.xno_BadText_line rfl hz hf rfl (by first | exact Or.inl rfl | exact Or.inr (Or.inl rfl) | exact Or.inr (Or.inr rfl))) (xa_cons (xe_fld (xfB_ok fc.xf_BadText) fc.xno_BadText_word rfl hz hf rfl (by first | exact Or.inl rfl | exact Or.inr (Or.inl rfl) | exact Or.inr (Or.inr rfl))) xa_nil))))))
/-! _law_is_name -/
theorem sc__law_is_name : FnScope ["word", "signs", "sign"] ["word"] (defScope (top 24)) := ⟨rfl, rfl, rfl, by decide +kernel, rfl, by decide +kernel, by decide +kernel⟩
def s__law_is_name : SF := (sSeq (sAsg (fC (.str "abcdefghijklmnopqrstuvwxyz0123456789")) (gN 1))
  (sRet (fAndV (fChain gLe gLe (fC (.int 1)) (fCB gLen (fCons (fVar 0) fNil)) (fC (.int 12))) (fAndV (fOp (gIn false) (fOp gIx (fVar 0) (fC (.int 0))) (fSl (fVar 1) fNoP (fPart (fC (.int 26))))) (fOp gEq (fComp (fSrc (fVar 0)) (.nm 2) (fB (fOp (gIn true) (fVar 2) (fVar 1))) (fVar 2) FU) (fLst fNil))))))
def F__law_is_name : Fn := mkFn 1 3 s__law_is_name
theorem ok__law_is_name (fc : Fc K mg) : OkF P w K mg base (gm K) 1 ((gm K) 15) ["word"] F__law_is_name := by
  obtain ⟨fd, F⟩ := fc.d__law_is_name
  have sc := sc__law_is_name
  refine ⟨fd, fn_ok F sc fun cdv A outer s0 H E hr => ?_, F.kp, F.bindsN fun _ _ _ _ _ _ us hl => match us, hl with | [_], _ => rfl⟩
  exact (rs_cons (rs_asg re_str (rg_name 1 sc.nd))
  (rs_one (rs_ret (re_and (re_chain or_le or_le ov_le ov_le re_int (re_callB call_len cv_len (by rfl) fc.n_len bt_len (ra_cons (re_var 0) ra_nil)) re_int) (re_and (re_cmp or_in (ov_in false) (re_ix (re_var 0) re_int) (re_sl (re_var 1) ro_none (ro_some re_int))) (re_one (re_cmp (or_eq hr.units) ov_eq (re_comp FU rfl sc.nd (ri_any (re_var 0)) (blkB_ok (own := [("sign", 2)]) rfl) rfl (fun _ _ _ _ _ => (pg_name sc.nd (i := 2) rfl (by first | exact Or.inl rfl | exact Or.inr rfl) (by first | exact .inl rfl | exact .inr rfl))) (fun _ _ _ _ _ => (pts_if (rt_cmp or_notIn (ov_in true) (re_var 2) (re_var 1)))) (fun _ _ _ _ _ => (re_var 2))) (re_lst ra_nil))))))))
/-! _law_grouping_due -/
theorem sc__law_grouping_due : FnScope ["text", "lines", "line", "words", "groups", "known", "at", "word", "last", "group"] ["text"] (defScope (top 29)) := ⟨rfl, rfl, rfl, by decide +kernel, rfl, by decide +kernel, by decide +kernel⟩
def s__law_grouping_due : SF := (sSeq (sIf (fNot (fTru (fCB gIsi (fCons (fVar 0) (fCons (fC (.ty "str")) fNil)))))
  (sRet (fTup (fCons (fC (.str "bad")) (fCons (fC (.int 0)) (fCons (fC (.int 0)) fNil)))))
  sNil)
  (sSeq (sAsg (fComp (fSrc (fM1 gSplit (fVar 0) (fC (.str "\n")))) (.nm 2) fYes (fM1 gSplit (fVar 2) (fC (.str " "))) FU) (gN 1))
  (sSeq (sAsg (fTup (fCons (fOp gIx (fVar 1) (fC (.int 0))) (fCons (fLst (fCons (fLst fNil) fNil)) (fCons (fLst fNil) (fCons (fC (.int 0)) fNil))))) (gTp 4 (gsCons (gN 3) (gsCons (gN 4) (gsCons (gN 5) (gsCons (gN 6) gsNil))))))
  (sSeq (sWhile (fOr (fB (fOp gLt (fVar 6) (fCB gLen (fCons (fVar 3) fNil)))) (fB (fOp gEq (fOp gIx (fVar 4) (fUn gNeg (fC (.int 1)))) (fLst fNil)))) (sSeq (sIf (fB (fOp gEq (fVar 6) (fCB gLen (fCons (fVar 3) fNil))))
  (sRet (fTup (fCons (fC (.str "bad")) (fCons (fC (.int 0)) (fCons (fVar 6) fNil)))))
  sNil)
  (sSeq (sPar2 7 8 (fCons (fOp gIx (fVar 3) (fVar 6)) (fCons (fOp gIx (fVar 4) (fUn gNeg (fC (.int 1)))) fNil)))
  (sSeq (sIf (fAnd (fB (fOp gEq (fVar 7) (fC (.str "/")))) (fB (fOp gNe (fVar 8) (fLst fNil))))
  (sExpr (fAppend (fVar 4) (fCons (fLst fNil) fNil)))
  (sIf (fOr (fNot (fTru (fCall F__law_is_name [] (fCons (fVar 7) fNil)))) (fOr (fB (fOp (gIn false) (fVar 7) (fVar 5))) (fOr (fAnd (fB (fOp gNe (fVar 8) (fLst fNil))) (fB (fOp gLe (fVar 7) (fOp gIx (fVar 8) (fUn gNeg (fC (.int 1))))))) (fAnd (fB (fOp gEq (fVar 8) (fLst fNil))) (fAnd (fB (fOp gGt (fCB gLen (fCons (fVar 4) fNil)) (fC (.int 1)))) (fB (fOp gLt (fVar 7) (fOp gIx (fOp gIx (fVar 4) (fUn gNeg (fC (.int 2)))) (fC (.int 0))))))))))
  (sRet (fTup (fCons (fC (.str "bad")) (fCons (fC (.int 0)) (fCons (fVar 6) fNil)))))
  (sSeq (sExpr (fAppend (fVar 8) (fCons (fVar 7) fNil)))
  (sExpr (fAppend (fVar 5) (fCons (fVar 7) fNil))))))
  (sAsg (fOp gAdd (fVar 6) (fC (.int 1))) (gN 6))))) FU)
  (sRet (fIf (fB (fOp gGt (fCB gLen (fCons (fVar 1) fNil)) (fC (.int 1)))) (fTup (fCons (fC (.str "bad")) (fCons (fC (.int 1)) (fCons (fC (.int 0)) fNil)))) (fLst (fCons (fCB gTuple (fCons (fComp (fSrc (fVar 4)) (.nm 9) fYes (fCB gTuple (fCons (fVar 9) fNil)) FU) fNil)) fNil))))))))
def F__law_grouping_due : Fn := mkFn 1 10 s__law_grouping_due
theorem ok__law_grouping_due (fc : Fc K mg) : OkF P w K mg base (gm K) 2 ((gm K) 20) ["text"] F__law_grouping_due := by
  obtain ⟨fd, F⟩ := fc.d__law_grouping_due
  have sc := sc__law_grouping_due
  obtain ⟨fd__law_is_name, o__law_is_name⟩ := (ok__law_is_name (P := P) (w := w) (base := base) fc).ex
  refine ⟨fd, fn_ok F sc fun cdv A outer s0 H E hr => ?_, F.kp, F.bindsN fun _ _ _ _ _ _ us hl => match us, hl with | [_], _ => rfl⟩
  exact (rs_cons (rs_if (rt_not (rt_tru (re_callB call_isi cv_isi (by rfl) fc.n_isinstance bt_isinstance (ra_cons (re_var 0) (ra_cons (re_ty (by rfl) fc.n_str bt_str) ra_nil)))))
  (rs_one (rs_ret (re_tup (ra_cons re_str (ra_cons re_int (ra_cons re_int ra_nil))))))
  rs_nil)
  (rs_cons (rs_setComp FU rfl sc.nd (i := 1) rfl rfl rfl (ri_any (re_split (re_var 0) re_str)) (blkB_ok (own := [("line", 2)]) rfl) rfl (fun _ _ _ _ _ => (pg_name sc.nd (i := 2) rfl (by first | exact Or.inl rfl | exact Or.inr rfl) (by first | exact .inl rfl | exact .inr rfl))) (fun _ _ _ _ _ => pts_yes) (fun _ _ _ _ _ => (re_split (re_var 2) re_str)))
  (rs_cons (rs_asg (re_tup (ra_cons (re_ix (re_var 1) re_int) (ra_cons (re_lst (ra_cons (re_lst ra_nil) ra_nil)) (ra_cons (re_lst ra_nil) (ra_cons re_int ra_nil))))) (rg_tup rfl (rgs_cons (rg_name 3 sc.nd) (rgs_cons (rg_name 4 sc.nd) (rgs_cons (rg_name 5 sc.nd) (rgs_cons (rg_name 6 sc.nd) rgs_nil))))))
  (rs_cons (rs_while FU (passes_of rfl) (rw_or (rt_cmp or_lt ov_lt (re_var 6) (re_callB call_len cv_len (by rfl) fc.n_len bt_len (ra_cons (re_var 3) ra_nil))) (rw_or1 (rt_cmp (or_eq hr.units) ov_eq (re_ix (re_var 4) (re_un un_neg uv_neg re_int)) (re_lst ra_nil)))).pt (rs_cons (rs_if (rt_cmp (or_eq hr.units) ov_eq (re_var 6) (re_callB call_len cv_len (by rfl) fc.n_len bt_len (ra_cons (re_var 3) ra_nil)))
  (rs_one (rs_ret (re_tup (ra_cons re_str (ra_cons re_int (ra_cons (re_var 6) ra_nil))))))
  rs_nil)
  (rs_cons (rs_par2 rfl sc.nd (i := 7) (j := 8) rfl rfl (by decide) rfl rfl (ra_cons (re_ix (re_var 3) (re_var 6)) (ra_cons (re_ix (re_var 4) (re_un un_neg uv_neg re_int)) ra_nil)) rfl)
  (rs_cons (rs_if (rw_and (rt_cmp (or_eq hr.units) ov_eq (re_var 7) re_str) (rw_and1 (rt_cmp (or_ne hr.units) ov_ne (re_var 8) (re_lst ra_nil)))).pt
  (rs_one (rs_expr (re_append (re_var 4) (ra_cons (re_lst ra_nil) ra_nil))))
  (rs_one (rs_if (rw_or (rt_not (rt_tru (re_call (takes_of rfl rfl rfl rfl) (o__law_is_name.1.mono (by omega)) hr (by rfl) fc.g__law_is_name o__law_is_name.2.1 o__law_is_name.2.2 .nil (fun _ _ => .nil) (ra_cons (re_var 7) ra_nil)))) (rw_or (rt_cmp or_in (ov_in false) (re_var 7) (re_var 5)) (rw_or (rw_and (rt_cmp (or_ne hr.units) ov_ne (re_var 8) (re_lst ra_nil)) (rw_and1 (rt_cmp or_le ov_le (re_var 7) (re_ix (re_var 8) (re_un un_neg uv_neg re_int))))).pt (rw_or1 (rw_and (rt_cmp (or_eq hr.units) ov_eq (re_var 8) (re_lst ra_nil)) (rw_and (rt_cmp or_gt ov_gt (re_callB call_len cv_len (by rfl) fc.n_len bt_len (ra_cons (re_var 4) ra_nil)) re_int) (rw_and1 (rt_cmp or_lt ov_lt (re_var 7) (re_ix (re_ix (re_var 4) (re_un un_neg uv_neg re_int)) re_int))))).pt)))).pt
  (rs_one (rs_ret (re_tup (ra_cons re_str (ra_cons re_int (ra_cons (re_var 6) ra_nil))))))
  (rs_cons (rs_expr (re_append (re_var 8) (ra_cons (re_var 7) ra_nil)))
  (rs_one (rs_expr (re_append (re_var 5) (ra_cons (re_var 7) ra_nil))))))))
  (rs_one (rs_asg (re_bin or_add ov_add (re_var 6) re_int) (rg_name 6 sc.nd)))))))
  (rs_one (rs_ret (re_if (rt_cmp or_gt ov_gt (re_callB call_len cv_len (by rfl) fc.n_len bt_len (ra_cons (re_var 1) ra_nil)) re_int) (re_tup (ra_cons re_str (ra_cons re_int (ra_cons re_int ra_nil)))) (re_lst (ra_cons (re_callTy call_tuple_of cv_tuple (by rfl) fc.n_tuple bt_tuple (ra_cons (re_comp FU rfl sc.nd (ri_any (re_var 4)) (blkB_ok (own := [("group", 9)]) rfl) rfl (fun _ _ _ _ _ => (pg_name sc.nd (i := 9) rfl (by first | exact Or.inl rfl | exact Or.inr rfl) (by first | exact .inl rfl | exact .inr rfl))) (fun _ _ _ _ _ => pts_yes) (fun _ _ _ _ _ => (re_callTy call_tuple_of cv_tuple (by rfl) fc.n_tuple bt_tuple (ra_cons (re_var 9) ra_nil)))) ra_nil)) ra_nil)))))))))
/-! _law_names_bad -/
theorem sc__law_names_bad : FnScope ["words", "at", "many", "spot"] ["words", "at", "many"] (defScope (top 28)) := ⟨rfl, rfl, rfl, by decide +kernel, rfl, by decide +kernel, by decide +kernel⟩
def s__law_names_bad : SF := (sSeq (sFor (fRng2 (fCons (fVar 1) (fCons (fOp gAdd (fVar 1) (fVar 2)) fNil))) (gN 3) (sIf (fOr (fB (fOp gGe (fVar 3) (fCB gLen (fCons (fVar 0) fNil)))) (fNot (fTru (fCall F__law_is_name [] (fCons (fOp gIx (fVar 0) (fVar 3)) fNil)))))
  (sRet (fVar 3))
  sNil) FU)
  (sRet (fC .non)))
def F__law_names_bad : Fn := mkFn 3 4 s__law_names_bad
theorem ok__law_names_bad (fc : Fc K mg) : OkF P w K mg base (gm K) 2 ((gm K) 19) ["words", "at", "many"] F__law_names_bad := by
  obtain ⟨fd, F⟩ := fc.d__law_names_bad
  have sc := sc__law_names_bad
  obtain ⟨fd__law_is_name, o__law_is_name⟩ := (ok__law_is_name (P := P) (w := w) (base := base) fc).ex
  refine ⟨fd, fn_ok F sc fun cdv A outer s0 H E hr => ?_, F.kp, F.bindsN fun _ _ _ _ _ _ us hl => match us, hl with | [_, _, _], _ => rfl⟩
  exact (rs_cons (rs_for FU (passes_of rfl) rfl (ri_range2 (by rfl) fc.n_range (ra_cons (re_var 1) (ra_cons (re_bin or_add ov_add (re_var 1) (re_var 2)) ra_nil))) (rg_name 3 sc.nd) (rs_one (rs_if (rw_or (rt_cmp or_ge ov_ge (re_var 3) (re_callB call_len cv_len (by rfl) fc.n_len bt_len (ra_cons (re_var 0) ra_nil))) (rw_or1 (rt_not (rt_tru (re_call (takes_of rfl rfl rfl rfl) (o__law_is_name.1.mono (by omega)) hr (by rfl) fc.g__law_is_name o__law_is_name.2.1 o__law_is_name.2.2 .nil (fun _ _ => .nil) (ra_cons (re_ix (re_var 0) (re_var 3)) ra_nil)))))).pt
  (rs_one (rs_ret (re_var 3)))
  rs_nil)))
  (rs_one (rs_ret re_non)))
/-! _law_is_number -/
theorem sc__law_is_number : FnScope ["word", "least", "most", "digits", "sign"] ["word", "least", "most"] (defScope (top 25)) := ⟨rfl, rfl, rfl, by decide +kernel, rfl, by decide +kernel, by decide +kernel⟩
def s__law_is_number : SF := (sSeq (sAsg (fIf (fB (fOp gEq (fSl (fVar 0) fNoP (fPart (fC (.int 1)))) (fC (.str "-")))) (fSl (fVar 0) (fPart (fC (.int 1))) fNoP) (fVar 0)) (gN 3))
  (sSeq (sIf (fOr (fB (fOp gEq (fVar 3) (fC (.str "")))) (fOr (fB (fOp gGt (fCB gLen (fCons (fVar 3) fNil)) (fC (.int 40)))) (fOr (fB (fOp gNe (fComp (fSrc (fVar 3)) (.nm 4) (fB (fOp (gIn true) (fVar 4) (fC (.str "0123456789")))) (fVar 4) FU) (fLst fNil))) (fAnd (fB (fOp gEq (fOp gIx (fVar 3) (fC (.int 0))) (fC (.str "0")))) (fB (fOp gNe (fVar 0) (fC (.str "0"))))))))
  (sRet (fC (.bl false)))
  sNil)
  (sRet (fChain gLe gLe (fVar 1) (fCB gInt (fCons (fVar 0) fNil)) (fVar 2)))))
def F__law_is_number : Fn := mkFn 3 5 s__law_is_number
theorem ok__law_is_number (fc : Fc K mg) : OkF P w K mg base (gm K) 1 ((gm K) 16) ["word", "least", "most"] F__law_is_number := by
  obtain ⟨fd, F⟩ := fc.d__law_is_number
  have sc := sc__law_is_number
  refine ⟨fd, fn_ok F sc fun cdv A outer s0 H E hr => ?_, F.kp, F.bindsN fun _ _ _ _ _ _ us hl => match us, hl with | [_, _, _], _ => rfl⟩
  exact (rs_cons (rs_asg (re_if (rt_cmp (or_eq hr.units) ov_eq (re_sl (re_var 0) ro_none (ro_some re_int)) re_str) (re_sl (re_var 0) (ro_some re_int) ro_none) (re_var 0)) (rg_name 3 sc.nd))
  (rs_cons (rs_if (rw_or (rt_cmp (or_eq hr.units) ov_eq (re_var 3) re_str) (rw_or (rt_cmp or_gt ov_gt (re_callB call_len cv_len (by rfl) fc.n_len bt_len (ra_cons (re_var 3) ra_nil)) re_int) (rw_or (rt_cmp (or_ne hr.units) ov_ne (re_comp FU rfl sc.nd (ri_any (re_var 3)) (blkB_ok (own := [("sign", 4)]) rfl) rfl (fun _ _ _ _ _ => (pg_name sc.nd (i := 4) rfl (by first | exact Or.inl rfl | exact Or.inr rfl) (by first | exact .inl rfl | exact .inr rfl))) (fun _ _ _ _ _ => (pts_if (rt_cmp or_notIn (ov_in true) (re_var 4) re_str))) (fun _ _ _ _ _ => (re_var 4))) (re_lst ra_nil)) (rw_or1 (rw_and (rt_cmp (or_eq hr.units) ov_eq (re_ix (re_var 3) re_int) re_str) (rw_and1 (rt_cmp (or_ne hr.units) ov_ne (re_var 0) re_str))).pt)))).pt
  (rs_one (rs_ret re_bl))
  rs_nil)
  (rs_one (rs_ret (re_chain or_le or_le ov_le ov_le (re_var 1) (re_callTy cr_int cv_int (by rfl) fc.n_int bt_int (ra_cons (re_var 0) ra_nil)) (re_var 2))))))
/-! _law_offers_due -/
theorem sc__law_offers_due : FnScope ["text", "found", "at", "words", "line", "odd"] ["text"] (defScope (top 30)) := ⟨rfl, rfl, rfl, by decide +kernel, rfl, by decide +kernel, by decide +kernel⟩
def s__law_offers_due : SF := (sSeq (sIf (fNot (fTru (fCB gIsi (fCons (fVar 0) (fCons (fC (.ty "str")) fNil)))))
  (sRet (fTup (fCons (fC (.str "bad")) (fCons (fC (.int 0)) (fCons (fC (.int 0)) fNil)))))
  sNil)
  (sSeq (sAsg (fLst fNil) (gN 1))
  (sSeq (sFor (fEnum (fCons (fComp (fSrc (fM1 gSplit (fVar 0) (fC (.str "\n")))) (.nm 4) fYes (fM1 gSplit (fVar 4) (fC (.str " "))) FU) fNil)) (gTp 2 (gsCons (gN 2) (gsCons (gN 3) gsNil))) (sSeq (sIf (fOr (fB (fOp gEq (fVar 2) (fC (.int 10)))) (fB (fOp gNe (fOp gIx (fVar 3) (fC (.int 0))) (fC (.str "offer")))))
  (sRet (fTup (fCons (fC (.str "bad")) (fCons (fVar 2) (fCons (fC (.int 0)) fNil)))))
  sNil)
  (sSeq (sAsg (fCall F__law_names_bad [] (fCons (fVar 3) (fCons (fC (.int 1)) (fCons (fC (.int 3)) fNil)))) (gN 5))
  (sSeq (sIf (fAnd (fB (fOp gNe (fVar 1) (fLst fNil))) (fAnd (fB (fOp gGt (fCB gLen (fCons (fVar 3) fNil)) (fC (.int 1)))) (fAnd (fB (fOp gNe (fVar 5) (fC (.int 1)))) (fB (fOp gLe (fOp gIx (fVar 3) (fC (.int 1))) (fOp gIx (fOp gIx (fVar 1) (fUn gNeg (fC (.int 1)))) (fC (.int 0))))))))
  (sRet (fTup (fCons (fC (.str "bad")) (fCons (fVar 2) (fCons (fC (.int 1)) fNil)))))
  sNil)
  (sSeq (sIf (fB (fOp gNotN (fVar 5) (fC .non)))
  (sRet (fTup (fCons (fC (.str "bad")) (fCons (fVar 2) (fCons (fVar 5) fNil)))))
  sNil)
  (sSeq (sIf (fB (fOp gEq (fOp gIx (fVar 3) (fC (.int 3))) (fOp gIx (fVar 3) (fC (.int 2)))))
  (sRet (fTup (fCons (fC (.str "bad")) (fCons (fVar 2) (fCons (fC (.int 3)) fNil)))))
  sNil)
  (sSeq (sIf (fOr (fB (fOp gLt (fCB gLen (fCons (fVar 3) fNil)) (fC (.int 5)))) (fNot (fTru (fCall F__law_is_number [] (fCons (fOp gIx (fVar 3) (fC (.int 4))) (fCons (fC (.int 0)) (fCons (fOp gPow (fC (.int 10)) (fC (.int 6))) fNil)))))))
  (sRet (fTup (fCons (fC (.str "bad")) (fCons (fVar 2) (fCons (fC (.int 4)) fNil)))))
  sNil)
  (sSeq (sIf (fB (fOp gGt (fCB gLen (fCons (fVar 3) fNil)) (fC (.int 5))))
  (sRet (fTup (fCons (fC (.str "bad")) (fCons (fVar 2) (fCons (fC (.int 5)) fNil)))))
  sNil)
  (sExpr (fAppend (fVar 1) (fCons (fTup (fCons (fOp gIx (fVar 3) (fC (.int 1))) (fCons (fOp gIx (fVar 3) (fC (.int 2))) (fCons (fOp gIx (fVar 3) (fC (.int 3))) (fCons (fCB gInt (fCons (fOp gIx (fVar 3) (fC (.int 4))) fNil)) fNil))))) fNil)))))))))) FU)
  (sRet (fLst (fCons (fCB gTuple (fCons (fVar 1) fNil)) fNil))))))
def F__law_offers_due : Fn := mkFn 1 6 s__law_offers_due
theorem ok__law_offers_due (fc : Fc K mg) : OkF P w K mg base (gm K) 3 ((gm K) 21) ["text"] F__law_offers_due := by
  obtain ⟨fd, F⟩ := fc.d__law_offers_due
  have sc := sc__law_offers_due
  obtain ⟨fd__law_names_bad, o__law_names_bad⟩ := (ok__law_names_bad (P := P) (w := w) (base := base) fc).ex
  obtain ⟨fd__law_is_number, o__law_is_number⟩ := (ok__law_is_number (P := P) (w := w) (base := base) fc).ex
  refine ⟨fd, fn_ok F sc fun cdv A outer s0 H E hr => ?_, F.kp, F.bindsN fun _ _ _ _ _ _ us hl => match us, hl with | [_], _ => rfl⟩
  exact (rs_cons (rs_if (rt_not (rt_tru (re_callB call_isi cv_isi (by rfl) fc.n_isinstance bt_isinstance (ra_cons (re_var 0) (ra_cons (re_ty (by rfl) fc.n_str bt_str) ra_nil)))))
  (rs_one (rs_ret (re_tup (ra_cons re_str (ra_cons re_int (ra_cons re_int ra_nil))))))
  rs_nil)
  (rs_cons (rs_asg (re_lst ra_nil) (rg_name 1 sc.nd))
  (rs_cons (rs_for FU (passes_of rfl) rfl (ri_enum (by rfl) fc.n_enumerate (ra_cons (re_comp FU rfl sc.nd (ri_any (re_split (re_var 0) re_str)) (blkB_ok (own := [("line", 4)]) rfl) rfl (fun _ _ _ _ _ => (pg_name sc.nd (i := 4) rfl (by first | exact Or.inl rfl | exact Or.inr rfl) (by first | exact .inl rfl | exact .inr rfl))) (fun _ _ _ _ _ => pts_yes) (fun _ _ _ _ _ => (re_split (re_var 4) re_str))) ra_nil)) (rg_tup rfl (rgs_cons (rg_name 2 sc.nd) (rgs_cons (rg_name 3 sc.nd) rgs_nil))) (rs_cons (rs_if (rw_or (rt_cmp (or_eq hr.units) ov_eq (re_var 2) re_int) (rw_or1 (rt_cmp (or_ne hr.units) ov_ne (re_ix (re_var 3) re_int) re_str))).pt
  (rs_one (rs_ret (re_tup (ra_cons re_str (ra_cons (re_var 2) (ra_cons re_int ra_nil))))))
  rs_nil)
  (rs_cons (rs_asg (re_call (takes_of rfl rfl rfl rfl) (o__law_names_bad.1.mono (by omega)) hr (by rfl) fc.g__law_names_bad o__law_names_bad.2.1 o__law_names_bad.2.2 .nil (fun _ _ => .nil) (ra_cons (re_var 3) (ra_cons re_int (ra_cons re_int ra_nil)))) (rg_name 5 sc.nd))
  (rs_cons (rs_if (rw_and (rt_cmp (or_ne hr.units) ov_ne (re_var 1) (re_lst ra_nil)) (rw_and (rt_cmp or_gt ov_gt (re_callB call_len cv_len (by rfl) fc.n_len bt_len (ra_cons (re_var 3) ra_nil)) re_int) (rw_and (rt_cmp (or_ne hr.units) ov_ne (re_var 5) re_int) (rw_and1 (rt_cmp or_le ov_le (re_ix (re_var 3) re_int) (re_ix (re_ix (re_var 1) (re_un un_neg uv_neg re_int)) re_int)))))).pt
  (rs_one (rs_ret (re_tup (ra_cons re_str (ra_cons (re_var 2) (ra_cons re_int ra_nil))))))
  rs_nil)
  (rs_cons (rs_if (rt_cmp op_notN ov_notN (re_var 5) re_non)
  (rs_one (rs_ret (re_tup (ra_cons re_str (ra_cons (re_var 2) (ra_cons (re_var 5) ra_nil))))))
  rs_nil)
  (rs_cons (rs_if (rt_cmp (or_eq hr.units) ov_eq (re_ix (re_var 3) re_int) (re_ix (re_var 3) re_int))
  (rs_one (rs_ret (re_tup (ra_cons re_str (ra_cons (re_var 2) (ra_cons re_int ra_nil))))))
  rs_nil)
  (rs_cons (rs_if (rw_or (rt_cmp or_lt ov_lt (re_callB call_len cv_len (by rfl) fc.n_len bt_len (ra_cons (re_var 3) ra_nil)) re_int) (rw_or1 (rt_not (rt_tru (re_call (takes_of rfl rfl rfl rfl) (o__law_is_number.1.mono (by omega)) hr (by rfl) fc.g__law_is_number o__law_is_number.2.1 o__law_is_number.2.2 .nil (fun _ _ => .nil) (ra_cons (re_ix (re_var 3) re_int) (ra_cons re_int (ra_cons (re_bin op_pow ov_pow re_int re_int) ra_nil)))))))).pt
  (rs_one (rs_ret (re_tup (ra_cons re_str (ra_cons (re_var 2) (ra_cons re_int ra_nil))))))
  rs_nil)
  (rs_cons (rs_if (rt_cmp or_gt ov_gt (re_callB call_len cv_len (by rfl) fc.n_len bt_len (ra_cons (re_var 3) ra_nil)) re_int)
  (rs_one (rs_ret (re_tup (ra_cons re_str (ra_cons (re_var 2) (ra_cons re_int ra_nil))))))
  rs_nil)
  (rs_one (rs_expr (re_append (re_var 1) (ra_cons (re_tup (ra_cons (re_ix (re_var 3) re_int) (ra_cons (re_ix (re_var 3) re_int) (ra_cons (re_ix (re_var 3) re_int) (ra_cons (re_callTy cr_int cv_int (by rfl) fc.n_int bt_int (ra_cons (re_ix (re_var 3) re_int) ra_nil)) ra_nil))))) ra_nil))))))))))))
  (rs_one (rs_ret (re_lst (ra_cons (re_callTy call_tuple_of cv_tuple (by rfl) fc.n_tuple bt_tuple (ra_cons (re_var 1) ra_nil)) ra_nil)))))))
/-! _law_right -/
theorem sc__law_right : FnScope ["pen", "grouping", "rows", "turn", "text", "group", "lines", "row", "words", "bent", "other", "told", "its"] ["pen"] (defScope (top 32)) := ⟨rfl, rfl, rfl, by decide +kernel, rfl, by decide +kernel, by decide +kernel⟩
def s__law_right : SF := (sSeq (sPar2 1 2 (fCons (fCall F__law_grouping [] (fCons (fVar 0) fNil)) (fCons (fLst fNil) fNil)))
  (sSeq (sFor (fRng1 (fCons (fCall F__law_pick [] (fCons (fVar 0) (fCons (fLst (fCons (fC (.int 1)) (fCons (fC (.int 2)) (fCons (fC (.int 3)) (fCons (fC (.int 10)) (fCons (fC (.int 11)) fNil)))))) fNil))) fNil)) (gN 3) (sExpr (fAppend (fVar 2) (fCons (fTup (fCons (fOp gAdd (fCall F__law_pick [] (fCons (fVar 0) (fCons (fLst (fCons (fC (.str "o")) (fCons (fC (.str "p")) (fCons (fC (.str "offer")) fNil)))) fNil))) (fCB gStr (fCons (fOp gAdd (fC (.int 10)) (fVar 3)) fNil))) (fCons (fCall F__law_pick [] (fCons (fVar 0) (fCons (fLst (fCons (fC (.str "a")) (fCons (fC (.str "b")) fNil))) fNil))) (fCons (fCall F__law_pick [] (fCons (fVar 0) (fCons (fLst (fCons (fC (.str "c")) (fCons (fC (.str "offer")) fNil))) fNil))) (fCons (fCall F__law_pick [] (fCons (fVar 0) (fCons (fLst (fCons (fC (.int 0)) (fCons (fC (.int 7)) (fCons (fOp gPow (fC (.int 10)) (fC (.int 6))) (fCons (fCall F__law_draw [] (fCons (fVar 0) (fCons (fOp gPow (fC (.int 10)) (fC (.int 6))) fNil))) (fCons (fC (.int 12)) fNil)))))) fNil))) fNil))))) fNil))) FU)
  (sSeq (sAsg (fM1 gJoin (fC (.str " / ")) (fComp (fSrc (fVar 1)) (.nm 5) fYes (fM1 gJoin (fC (.str " ")) (fVar 5)) FU)) (gN 4))
  (sSeq (sAsg (fM1 gJoin (fC (.str "\n")) (fComp (fSrc (fCB gSorted (fCons (fVar 2) fNil))) (.nm 7) fYes (fM1 gJoin (fC (.str " ")) (fLst (fCons (fC (.str "offer")) (fCons (fOp gIx (fVar 7) (fC (.int 0))) (fCons (fOp gIx (fVar 7) (fC (.int 1))) (fCons (fOp gIx (fVar 7) (fC (.int 2))) (fCons (fCB gStr (fCons (fOp gIx (fVar 7) (fC (.int 3))) fNil)) fNil))))))) FU)) (gN 6))
  (sSeq (sIf (fOr (fB (fOp gNe (fCall F_grouping_text [] (fCons (fVar 1) fNil)) (fVar 4))) (fB (fOp gNe (fCall F_grouping_text [] (fCons (fComp (fSrc (fVar 1)) (.nm 5) fYes (fCB gList (fCons (fVar 5) fNil)) FU) fNil)) (fVar 4))))
  (sRet (fC (.bl false)))
  sNil)
  (sSeq (sIf (fAnd (fB (fOp gLt (fCB gLen (fCons (fVar 2) fNil)) (fC (.int 11)))) (fOr (fB (fOp gNe (fCall F_offers_text [] (fCons (fVar 2) fNil)) (fVar 6))) (fB (fOp gNe (fCall F_offers_text [] (fCons (fCB gTuple (fCons (fComp (fSrc (fRev (fVar 2))) (.nm 7) fYes (fCB gList (fCons (fVar 7) fNil)) FU) fNil)) fNil)) (fVar 6)))))
  (sRet (fC (.bl false)))
  sNil)
  (sSeq (sFor (fRng1 (fCons (fC (.int 4)) fNil)) (gN 3) (sSeq (sAsg (fLst (fCons (fC (.str "/")) (fCons (fC (.str "a")) (fCons (fC (.str "b")) (fCons (fC (.str "zz")) (fCons (fC (.str "offer")) (fCons (fC (.str "0")) (fCons (fC (.str "1000001")) (fCons (fC (.str "")) (fCons (fC (.str "A")) (fCons (fC (.str "-3")) (fCons (fC (.str "12")) (fCons (fC (.str "toolongtoolong")) fNil))))))))))))) (gN 8))
  (sSeq (sPar2 9 10 (fCons (fIf (fB (fOp gGt (fVar 3) (fC (.int 0)))) (fCall F__law_bent_text [] (fCons (fVar 0) (fCons (fVar 4) (fCons (fVar 8) fNil)))) (fVar 4)) (fCons (fIf (fB (fOp gGt (fVar 3) (fC (.int 0)))) (fCall F__law_bent_text [] (fCons (fVar 0) (fCons (fVar 6) (fCons (fVar 8) fNil)))) (fVar 6)) fNil)))
  (sSeq (sPar2 11 12 (fCons (fCall F__law_answered [] (fCons (fC (.obj 9)) (fCons (fVar 9) fNil))) (fCons (fCall F__law_answered [] (fCons (fC (.obj 11)) (fCons (fVar 10) fNil))) fNil)))
  (sSeq (sIf (fOr (fB (fOp gNe (fCB gRepr (fCons (fVar 11) fNil)) (fCB gRepr (fCons (fCall F__law_grouping_due [] (fCons (fVar 9) fNil)) fNil)))) (fB (fOp gNe (fCB gRepr (fCons (fVar 12) fNil)) (fCB gRepr (fCons (fCall F__law_offers_due [] (fCons (fVar 10) fNil)) fNil)))))
  (sRet (fC (.bl false)))
  sNil)
  (sIf (fOr (fAnd (fTru (fCB gIsi (fCons (fVar 11) (fCons (fC (.ty "list")) fNil)))) (fB (fOp gNe (fCall F_grouping_text [] (fCons (fOp gIx (fVar 11) (fC (.int 0))) fNil)) (fVar 9)))) (fAnd (fTru (fCB gIsi (fCons (fVar 12) (fCons (fC (.ty "list")) fNil)))) (fB (fOp gNe (fCall F_offers_text [] (fCons (fOp gIx (fVar 12) (fC (.int 0))) fNil)) (fVar 10)))))
  (sRet (fC (.bl false)))
  sNil))))) FU)
  (sRet (fC (.bl true))))))))))
def F__law_right : Fn := mkFn 1 13 s__law_right
theorem ok__law_right (fc : Fc K mg) : OkG P w K mg base (gm K) 8 ((gm K) 23) ["pen"] F__law_right := by
  obtain ⟨fd, F⟩ := fc.d__law_right
  have sc := sc__law_right
  obtain ⟨fd__law_grouping, o__law_grouping⟩ := (ok__law_grouping (P := P) (w := w) (base := base) fc).ex
  obtain ⟨fd__law_pick, o__law_pick⟩ := (ok__law_pick (P := P) (w := w) (base := base) fc).ex
  obtain ⟨fd__law_draw, o__law_draw⟩ := (ok__law_draw (P := P) (w := w) (base := base) fc).ex
  obtain ⟨fd_grouping_text, o_grouping_text⟩ := (ok_grouping_text (P := P) (w := w) (base := base) fc).ex
  obtain ⟨fd_offers_text, o_offers_text⟩ := (ok_offers_text (P := P) (w := w) (base := base) fc).ex
  obtain ⟨fd__law_bent_text, o__law_bent_text⟩ := (ok__law_bent_text (P := P) (w := w) (base := base) fc).ex
  obtain ⟨fd__law_answered, o__law_answered⟩ := (ok__law_answered (P := P) (w := w) (base := base) fc).ex
  obtain ⟨fd__law_grouping_due, o__law_grouping_due⟩ := (ok__law_grouping_due (P := P) (w := w) (base := base) fc).ex
  obtain ⟨fd__law_offers_due, o__law_offers_due⟩ := (ok__law_offers_due (P := P) (w := w) (base := base) fc).ex
  refine ⟨fd, fn_okG F sc fun cdv A outer s0 H E hgd hr => ?_, F.kp, F.bindsN fun _ _ _ _ _ _ us hl => match us, hl with | [_], _ => rfl, F.bindsA fun _ _ _ _ _ _ us hl => match us, hl with | [_], _ => rfl⟩
  exact (rs_cons (rs_par2 rfl sc.nd (i := 1) (j := 2) rfl rfl (by decide) rfl rfl (ra_cons (re_call (takes_of rfl rfl rfl rfl) (o__law_grouping.1.mono (by omega)) hr (by rfl) fc.g__law_grouping o__law_grouping.2.1 o__law_grouping.2.2 .nil (fun _ _ => .nil) (ra_cons (re_var 0) ra_nil)) (ra_cons (re_lst ra_nil) ra_nil)) rfl)
  (rs_cons (rs_for FU (passes_of rfl) rfl (ri_range1 (by rfl) fc.n_range (ra_cons (re_call (takes_of rfl rfl rfl rfl) (o__law_pick.1.mono (by omega)) hr (by rfl) fc.g__law_pick o__law_pick.2.1 o__law_pick.2.2 .nil (fun _ _ => .nil) (ra_cons (re_var 0) (ra_cons (re_lst (ra_cons re_int (ra_cons re_int (ra_cons re_int (ra_cons re_int (ra_cons re_int ra_nil)))))) ra_nil))) ra_nil)) (rg_name 3 sc.nd) (rs_one (rs_expr (re_append (re_var 2) (ra_cons (re_tup (ra_cons (re_bin or_add ov_add (re_call (takes_of rfl rfl rfl rfl) (o__law_pick.1.mono (by omega)) hr (by rfl) fc.g__law_pick o__law_pick.2.1 o__law_pick.2.2 .nil (fun _ _ => .nil) (ra_cons (re_var 0) (ra_cons (re_lst (ra_cons re_str (ra_cons re_str (ra_cons re_str ra_nil)))) ra_nil))) (re_callTy cr_str cv_str (by rfl) fc.n_str bt_str (ra_cons (re_bin or_add ov_add re_int (re_var 3)) ra_nil))) (ra_cons (re_call (takes_of rfl rfl rfl rfl) (o__law_pick.1.mono (by omega)) hr (by rfl) fc.g__law_pick o__law_pick.2.1 o__law_pick.2.2 .nil (fun _ _ => .nil) (ra_cons (re_var 0) (ra_cons (re_lst (ra_cons re_str (ra_cons re_str ra_nil))) ra_nil))) (ra_cons (re_call (takes_of rfl rfl rfl rfl) (o__law_pick.1.mono (by omega)) hr (by rfl) fc.g__law_pick o__law_pick.2.1 o__law_pick.2.2 .nil (fun _ _ => .nil) (ra_cons (re_var 0) (ra_cons (re_lst (ra_cons re_str (ra_cons re_str ra_nil))) ra_nil))) (ra_cons (re_call (takes_of rfl rfl rfl rfl) (o__law_pick.1.mono (by omega)) hr (by rfl) fc.g__law_pick o__law_pick.2.1 o__law_pick.2.2 .nil (fun _ _ => .nil) (ra_cons (re_var 0) (ra_cons (re_lst (ra_cons re_int (ra_cons re_int (ra_cons (re_bin op_pow ov_pow re_int re_int) (ra_cons (re_call (takes_of rfl rfl rfl rfl) (o__law_draw.1.mono (by omega)) hr (by rfl) fc.g__law_draw o__law_draw.2.1 o__law_draw.2.2 .nil (fun _ _ => .nil) (ra_cons (re_var 0) (ra_cons (re_bin op_pow ov_pow re_int re_int) ra_nil))) (ra_cons re_int ra_nil)))))) ra_nil))) ra_nil))))) ra_nil)))))
  (rs_cons (rs_asg (re_join re_str (re_comp FU rfl sc.nd (ri_any (re_var 1)) (blkB_ok (own := [("group", 5)]) rfl) rfl (fun _ _ _ _ _ => (pg_name sc.nd (i := 5) rfl (by first | exact Or.inl rfl | exact Or.inr rfl) (by first | exact .inl rfl | exact .inr rfl))) (fun _ _ _ _ _ => pts_yes) (fun _ _ _ _ _ => (re_join re_str (re_var 5))))) (rg_name 4 sc.nd))
  (rs_cons (rs_asg (re_join re_str (re_comp FU rfl sc.nd (ri_any (re_callB (cr_sorted (u80 hr)) cv_sorted (by rfl) fc.n_sorted bt_sorted (ra_cons (re_var 2) ra_nil))) (blkB_ok (own := [("row", 7)]) rfl) rfl (fun _ _ _ _ _ => (pg_name sc.nd (i := 7) rfl (by first | exact Or.inl rfl | exact Or.inr rfl) (by first | exact .inl rfl | exact .inr rfl))) (fun _ _ _ _ _ => pts_yes) (fun _ _ _ _ _ => (re_join re_str (re_lst (ra_cons re_str (ra_cons (re_ix (re_var 7) re_int) (ra_cons (re_ix (re_var 7) re_int) (ra_cons (re_ix (re_var 7) re_int) (ra_cons (re_callTy cr_str cv_str (by rfl) fc.n_str bt_str (ra_cons (re_ix (re_var 7) re_int) ra_nil)) ra_nil)))))))))) (rg_name 6 sc.nd))
  (rs_cons (rs_if (rw_or (rt_cmp (or_ne hr.units) ov_ne (re_call (takes_of rfl rfl rfl rfl) (o_grouping_text.1.mono (by omega)) hr (by rfl) fc.g_grouping_text o_grouping_text.2.1 o_grouping_text.2.2.1 .nil (fun _ _ => .nil) (ra_cons (re_var 1) ra_nil)) (re_var 4)) (rw_or1 (rt_cmp (or_ne hr.units) ov_ne (re_callK (takes_of rfl rfl rfl rfl) (o_grouping_text.1.mono (by omega)) hr (by rfl) fc.g_grouping_text o_grouping_text.2.1 (fun s ws _ hl => o_grouping_text.2.2.2 s ws hl) (ra_kw (re_comp FU rfl sc.nd (ri_any (re_var 1)) (blkB_ok (own := [("group", 5)]) rfl) rfl (fun _ _ _ _ _ => (pg_name sc.nd (i := 5) rfl (by first | exact Or.inl rfl | exact Or.inr rfl) (by first | exact .inl rfl | exact .inr rfl))) (fun _ _ _ _ _ => pts_yes) (fun _ _ _ _ _ => (re_callTy call_list_of cv_list (by rfl) fc.n_list bt_list (ra_cons (re_var 5) ra_nil)))) ra_kwNil)) (re_var 4)))).pt
  (rs_one (rs_ret re_bl))
  rs_nil)
  (rs_cons (rs_if (rw_and (rt_cmp or_lt ov_lt (re_callB call_len cv_len (by rfl) fc.n_len bt_len (ra_cons (re_var 2) ra_nil)) re_int) (rw_and1 (rw_or (rt_cmp (or_ne hr.units) ov_ne (re_call (takes_of rfl rfl rfl rfl) (o_offers_text.1.mono (by omega)) hr (by rfl) fc.g_offers_text o_offers_text.2.1 o_offers_text.2.2.1 .nil (fun _ _ => .nil) (ra_cons (re_var 2) ra_nil)) (re_var 6)) (rw_or1 (rt_cmp (or_ne hr.units) ov_ne (re_callK (takes_of rfl rfl rfl rfl) (o_offers_text.1.mono (by omega)) hr (by rfl) fc.g_offers_text o_offers_text.2.1 (fun s ws _ hl => o_offers_text.2.2.2 s ws hl) (ra_kw (re_callTy call_tuple_of cv_tuple (by rfl) fc.n_tuple bt_tuple (ra_cons (re_comp FU rfl sc.nd (ri_any (re_rev (re_var 2))) (blkB_ok (own := [("row", 7)]) rfl) rfl (fun _ _ _ _ _ => (pg_name sc.nd (i := 7) rfl (by first | exact Or.inl rfl | exact Or.inr rfl) (by first | exact .inl rfl | exact .inr rfl))) (fun _ _ _ _ _ => pts_yes) (fun _ _ _ _ _ => (re_callTy call_list_of cv_list (by rfl) fc.n_list bt_list (ra_cons (re_var 7) ra_nil)))) ra_nil)) ra_kwNil)) (re_var 6)))).pt)).pt
  (rs_one (rs_ret re_bl))
  rs_nil)
  (rs_cons (rs_for FU (passes_of rfl) rfl (ri_range1 (by rfl) fc.n_range (ra_cons re_int ra_nil)) (rg_name 3 sc.nd) (rs_cons (rs_asg (re_lst (ra_cons re_str (ra_cons re_str (ra_cons re_str (ra_cons re_str (ra_cons re_str (ra_cons re_str (ra_cons re_str (ra_cons re_str (ra_cons re_str (ra_cons re_str (ra_cons re_str (ra_cons re_str ra_nil))))))))))))) (rg_name 8 sc.nd))
  (rs_cons (rs_par2 rfl sc.nd (i := 9) (j := 10) rfl rfl (by decide) rfl rfl (ra_cons (re_if (rt_cmp or_gt ov_gt (re_var 3) re_int) (re_call (takes_of rfl rfl rfl rfl) (o__law_bent_text.1.mono (by omega)) hr (by rfl) fc.g__law_bent_text o__law_bent_text.2.1 o__law_bent_text.2.2 .nil (fun _ _ => .nil) (ra_cons (re_var 0) (ra_cons (re_var 4) (ra_cons (re_var 8) ra_nil)))) (re_var 4)) (ra_cons (re_if (rt_cmp or_gt ov_gt (re_var 3) re_int) (re_call (takes_of rfl rfl rfl rfl) (o__law_bent_text.1.mono (by omega)) hr (by rfl) fc.g__law_bent_text o__law_bent_text.2.1 o__law_bent_text.2.2 .nil (fun _ _ => .nil) (ra_cons (re_var 0) (ra_cons (re_var 6) (ra_cons (re_var 8) ra_nil)))) (re_var 6)) ra_nil)) rfl)
  (rs_cons (rs_par2 rfl sc.nd (i := 11) (j := 12) rfl rfl (by decide) rfl rfl (ra_cons (re_call (takes_of rfl rfl rfl rfl) (o__law_answered.1.mono (by omega)) hr (by rfl) fc.g__law_answered o__law_answered.2.1 o__law_answered.2.2 .nil (fun _ _ => .nil) (ra_cons (re_obj 9 (by rfl) fc.g_read_grouping) (ra_cons (re_var 9) ra_nil))) (ra_cons (re_call (takes_of rfl rfl rfl rfl) (o__law_answered.1.mono (by omega)) hr (by rfl) fc.g__law_answered o__law_answered.2.1 o__law_answered.2.2 .nil (fun _ _ => .nil) (ra_cons (re_obj 11 (by rfl) fc.g_read_offers) (ra_cons (re_var 10) ra_nil))) ra_nil)) rfl)
  (rs_cons (rs_if (rw_or (rt_cmp (or_ne hr.units) ov_ne (re_callB (cr_repr hgd (u80 hr)) cv_repr (by rfl) fc.n_repr bt_repr (ra_cons (re_var 11) ra_nil)) (re_callB (cr_repr hgd (u80 hr)) cv_repr (by rfl) fc.n_repr bt_repr (ra_cons (re_call (takes_of rfl rfl rfl rfl) (o__law_grouping_due.1.mono (by omega)) hr (by rfl) fc.g__law_grouping_due o__law_grouping_due.2.1 o__law_grouping_due.2.2 .nil (fun _ _ => .nil) (ra_cons (re_var 9) ra_nil)) ra_nil))) (rw_or1 (rt_cmp (or_ne hr.units) ov_ne (re_callB (cr_repr hgd (u80 hr)) cv_repr (by rfl) fc.n_repr bt_repr (ra_cons (re_var 12) ra_nil)) (re_callB (cr_repr hgd (u80 hr)) cv_repr (by rfl) fc.n_repr bt_repr (ra_cons (re_call (takes_of rfl rfl rfl rfl) (o__law_offers_due.1.mono (by omega)) hr (by rfl) fc.g__law_offers_due o__law_offers_due.2.1 o__law_offers_due.2.2 .nil (fun _ _ => .nil) (ra_cons (re_var 10) ra_nil)) ra_nil))))).pt
  (rs_one (rs_ret re_bl))
  rs_nil)
  (rs_one (rs_if (rw_or (rw_and (rt_tru (re_callB call_isi cv_isi (by rfl) fc.n_isinstance bt_isinstance (ra_cons (re_var 11) (ra_cons (re_ty (by rfl) fc.n_list bt_list) ra_nil)))) (rw_and1 (rt_cmp (or_ne hr.units) ov_ne (re_call (takes_of rfl rfl rfl rfl) (o_grouping_text.1.mono (by omega)) hr (by rfl) fc.g_grouping_text o_grouping_text.2.1 o_grouping_text.2.2.1 .nil (fun _ _ => .nil) (ra_cons (re_ix (re_var 11) re_int) ra_nil)) (re_var 9)))).pt (rw_or1 (rw_and (rt_tru (re_callB call_isi cv_isi (by rfl) fc.n_isinstance bt_isinstance (ra_cons (re_var 12) (ra_cons (re_ty (by rfl) fc.n_list bt_list) ra_nil)))) (rw_and1 (rt_cmp (or_ne hr.units) ov_ne (re_call (takes_of rfl rfl rfl rfl) (o_offers_text.1.mono (by omega)) hr (by rfl) fc.g_offers_text o_offers_text.2.1 o_offers_text.2.2.1 .nil (fun _ _ => .nil) (ra_cons (re_ix (re_var 12) re_int) ra_nil)) (re_var 10)))).pt)).pt
  (rs_one (rs_ret re_bl))
  rs_nil)))))))
  (rs_one (rs_ret re_bl)))))))))
/-! law -/
theorem sc_law : FnScope ["script", "pen", "turn", "odd"] ["script"] (defScope (top 33)) := ⟨rfl, rfl, rfl, by decide +kernel, rfl, by decide +kernel, by decide +kernel⟩
def s_law : SF := (sSeq (sAsg (fCall F__law_pen [] (fCons (fVar 0) fNil)) (gN 1))
  (sSeq (sFor (fRng1 (fCons (fC (.int 5)) fNil)) (gN 2) (sIf (fNot (fTru (fCall F__law_right [] (fCons (fVar 1) fNil))))
  (sRet (fC (.bl false)))
  sNil) FU)
  (sSeq (sAsg (fCall F__law_pick [] (fCons (fVar 1) (fCons (fLst (fCons (fC .non) (fCons (fC (.int 5)) (fCons (fLst (fCons (fC (.str "a")) fNil)) (fCons (fTup (fCons (fC (.str "a")) fNil)) (fCons (fC (.bl true)) (fCons fDk fNil))))))) fNil))) (gN 3))
  (sSeq (sIf (fOr (fB (fOp gNe (fCall F__law_answered [] (fCons (fC (.obj 9)) (fCons (fVar 3) fNil))) (fTup (fCons (fC (.str "bad")) (fCons (fC (.int 0)) (fCons (fC (.int 0)) fNil)))))) (fB (fOp gNe (fCall F__law_answered [] (fCons (fC (.obj 11)) (fCons (fVar 3) fNil))) (fTup (fCons (fC (.str "bad")) (fCons (fC (.int 0)) (fCons (fC (.int 0)) fNil)))))))
  (sRet (fC (.bl false)))
  sNil)
  (sRet (fAndV (fOp gEq (fCall F_read_grouping [] (fCons (fC (.str "a / b")) fNil)) (fTup (fCons (fTup (fCons (fC (.str "a")) fNil)) (fCons (fTup (fCons (fC (.str "b")) fNil)) fNil)))) (fOp gEq (fCall F_read_offers [] (fCons (fC (.str "offer o a b 3")) fNil)) (fTup (fCons (fTup (fCons (fC (.str "o")) (fCons (fC (.str "a")) (fCons (fC (.str "b")) (fCons (fC (.int 3)) fNil))))) fNil)))))))))
def F_law : Fn := mkFn 1 4 s_law
theorem ok_law (fc : Fc K mg) {fd : FuncData} (F : FunD K "law" "law" (defArgs (top 33)) (defBody (top 33)) (defScope (top 33)) [] [] ((gm K) 24) fd) : FnG P w K mg base (L2.CX P w) 9 ((gm K) 24) fd ["script"] (spF (gm K) K F_law) := by
  have sc := sc_law
  obtain ⟨fd__law_pen, o__law_pen⟩ := (ok__law_pen (P := P) (w := w) (base := base) fc).ex
  obtain ⟨fd__law_right, o__law_right⟩ := (ok__law_right (P := P) (w := w) (base := base) fc).ex
  obtain ⟨fd__law_pick, o__law_pick⟩ := (ok__law_pick (P := P) (w := w) (base := base) fc).ex
  obtain ⟨fd__law_answered, o__law_answered⟩ := (ok__law_answered (P := P) (w := w) (base := base) fc).ex
  obtain ⟨fd_read_grouping, o_read_grouping⟩ := (ok_read_grouping (P := P) (w := w) (base := base) fc).ex
  obtain ⟨fd_read_offers, o_read_offers⟩ := (ok_read_offers (P := P) (w := w) (base := base) fc).ex
  refine fn_okG F sc fun cdv A outer s0 H E hgd hr => ?_
  exact (rs_cons (rs_asg (re_call (takes_of rfl rfl rfl rfl) (o__law_pen.1.mono (by omega)) hr (by rfl) fc.g__law_pen o__law_pen.2.1 o__law_pen.2.2 .nil (fun _ _ => .nil) (ra_cons (re_var 0) ra_nil)) (rg_name 1 sc.nd))
  (rs_cons (rs_for FU (passes_of rfl) rfl (ri_range1 (by rfl) fc.n_range (ra_cons re_int ra_nil)) (rg_name 2 sc.nd) (rs_one (rs_if (rt_not (rt_tru (re_callG (takes_of rfl rfl rfl rfl) hgd o__law_right.1 (hr.mono (by omega)) (by rfl) fc.g__law_right o__law_right.2.1 o__law_right.2.2.1 (ra_cons (re_var 1) ra_nil))))
  (rs_one (rs_ret re_bl))
  rs_nil)))
  (rs_cons (rs_asg (re_call (takes_of rfl rfl rfl rfl) (o__law_pick.1.mono (by omega)) hr (by rfl) fc.g__law_pick o__law_pick.2.1 o__law_pick.2.2 .nil (fun _ _ => .nil) (ra_cons (re_var 1) (ra_cons (re_lst (ra_cons re_non (ra_cons re_int (ra_cons (re_lst (ra_cons re_str ra_nil)) (ra_cons (re_tup (ra_cons re_str ra_nil)) (ra_cons re_bl (ra_cons re_dk ra_nil))))))) ra_nil))) (rg_name 3 sc.nd))
  (rs_cons (rs_if (rw_or (rt_cmp (or_ne hr.units) ov_ne (re_call (takes_of rfl rfl rfl rfl) (o__law_answered.1.mono (by omega)) hr (by rfl) fc.g__law_answered o__law_answered.2.1 o__law_answered.2.2 .nil (fun _ _ => .nil) (ra_cons (re_obj 9 (by rfl) fc.g_read_grouping) (ra_cons (re_var 3) ra_nil))) (re_tup (ra_cons re_str (ra_cons re_int (ra_cons re_int ra_nil))))) (rw_or1 (rt_cmp (or_ne hr.units) ov_ne (re_call (takes_of rfl rfl rfl rfl) (o__law_answered.1.mono (by omega)) hr (by rfl) fc.g__law_answered o__law_answered.2.1 o__law_answered.2.2 .nil (fun _ _ => .nil) (ra_cons (re_obj 11 (by rfl) fc.g_read_offers) (ra_cons (re_var 3) ra_nil))) (re_tup (ra_cons re_str (ra_cons re_int (ra_cons re_int ra_nil))))))).pt
  (rs_one (rs_ret re_bl))
  rs_nil)
  (rs_one (rs_ret (re_and (re_cmp (or_eq hr.units) ov_eq (re_callK (takes_of rfl rfl rfl rfl) (o_read_grouping.1.mono (by omega)) hr (by rfl) fc.g_read_grouping o_read_grouping.2.1 (fun s ws _ hl => o_read_grouping.2.2.2 s ws hl) (ra_kw re_str ra_kwNil)) (re_tup (ra_cons (re_tup (ra_cons re_str ra_nil)) (ra_cons (re_tup (ra_cons re_str ra_nil)) ra_nil)))) (re_one (re_cmp (or_eq hr.units) ov_eq (re_callK (takes_of rfl rfl rfl rfl) (o_read_offers.1.mono (by omega)) hr (by rfl) fc.g_read_offers o_read_offers.2.1 (fun s ws _ hl => o_read_offers.2.2.2 s ws hl) (ra_kw re_str ra_kwNil)) (re_tup (ra_cons (re_tup (ra_cons re_str (ra_cons re_str (ra_cons re_str (ra_cons re_int ra_nil))))) ra_nil)))))))))))
end
end W86
set_option Elab.async false
set_option linter.all false
set_option maxRecDepth 100000
set_option maxHeartbeats 2000000
namespace Mp
open PySem PySem.Spec PyProof.Rows L2

/-! ### the machine's steps as rewriting; what comes later stands under a name, not looked into -/
def opt {α β : Type} (o : Option α) (k : α → R β) : R β := match o with
  | some a => k a
  | none => .bad
@[simp] theorem opt_some {α β : Type} {a : α} {k : α → R β} : opt (some a) k = k a := rfl
@[simp] theorem opt_none {α β : Type} {k : α → R β} : opt none k = .bad := rfl
def optS {α : Type} (o : Option α) (k : α → SR) : SR := match o with
  | some a => k a
  | none => .bad
@[simp] theorem optS_some {α : Type} {a : α} {k : α → SR} : optS (some a) k = k a := rfl
section
variable {ρ : Env} {h : MH} {fa fb fc fo fi fv : EF D} {ft fu : EF Bool} {fs fr : EF (List D)} {s t : SF} {g : D → SF} {gs : List D → SF} {i j k n c : Nat} {d e : D} {ds : List D} {b : Bool}
@[simp] theorem ev_c : fC d ρ h = .ok d h := rfl
def kOp (g : D → D → MH → R D) (fb : EF D) (ρ : Env) (d : D) (h : MH) : R D := (fb ρ h).bind (g d)
@[simp] theorem ev_op {f : D → D → MH → R D} : fOp f fa fb ρ h = (fa ρ h).bind (kOp f fb ρ) := rfl
@[simp] theorem kOp_eq {f : D → D → MH → R D} : kOp f fb ρ d h = (fb ρ h).bind (f d) := rfl
@[simp] theorem ev_un {f : D → MH → R D} : fUn f fa ρ h = (fa ρ h).bind f := rfl
@[simp] theorem ev_nil : fNil ρ h = .ok [] h := rfl
def kC2 (d : D) (ds : List D) (h : MH) : R (List D) := .ok (d :: ds) h
def kC1 (fr : EF (List D)) (ρ : Env) (d : D) (h : MH) : R (List D) := (fr ρ h).bind (kC2 d)
@[simp] theorem ev_cons : fCons fa fr ρ h = (fa ρ h).bind (kC1 fr ρ) := rfl
@[simp] theorem kC1_eq : kC1 fr ρ d h = (fr ρ h).bind (kC2 d) := rfl
@[simp] theorem kC2_eq : kC2 d ds h = .ok (d :: ds) h := rfl
@[simp] theorem ev_cb {f : List D → MH → R D} : fCB f fs ρ h = (fs ρ h).bind f := rfl
def kTup (ds : List D) (h : MH) : R D := if ds.length ≤ 16777216 then .ok (.tup ds) h else .bad
@[simp] theorem ev_tup : fTup fs ρ h = (fs ρ h).bind kTup := rfl
@[simp] theorem kTup_eq : kTup ds h = if ds.length ≤ 16777216 then .ok (.tup ds) h else .bad := rfl
def kLst (ds : List D) (h : MH) : R D := if ds.length ≤ 16777216 then .ok (.ref h.length) (h ++ [.lst ds]) else .bad
@[simp] theorem ev_lst : fLst fs ρ h = (fs ρ h).bind kLst := rfl
@[simp] theorem kLst_eq : kLst ds h = if ds.length ≤ 16777216 then .ok (.ref h.length) (h ++ [.lst ds]) else .bad := rfl
def kIf (fa fb : EF D) (ρ : Env) (c : Bool) (h : MH) : R D := if c = true then fa ρ h else fb ρ h
@[simp] theorem ev_if : fIf ft fa fb ρ h = (ft ρ h).bind (kIf fa fb ρ) := rfl
@[simp] theorem kIf_t : kIf fa fb ρ true h = fa ρ h := rfl
@[simp] theorem kIf_f : kIf fa fb ρ false h = fb ρ h := rfl
@[simp] theorem ev_b : fB fa ρ h = (fa ρ h).bind asB := rfl
@[simp] theorem asB_bl : asB (.bl b) h = .ok b h := rfl
def kNot (c : Bool) (h : MH) : R Bool := .ok (!c) h
@[simp] theorem ev_not : fNot ft ρ h = (ft ρ h).bind kNot := rfl
@[simp] theorem kNot_eq : kNot b h = .ok (!b) h := rfl
def kAnd (fu : EF Bool) (ρ : Env) (c : Bool) (h : MH) : R Bool := if c = true then fu ρ h else .ok false h
@[simp] theorem ev_and : fAnd ft fu ρ h = (ft ρ h).bind (kAnd fu ρ) := rfl
@[simp] theorem kAnd_t : kAnd fu ρ true h = fu ρ h := rfl
@[simp] theorem kAnd_f : kAnd fu ρ false h = .ok false h := rfl
def kOr (fu : EF Bool) (ρ : Env) (c : Bool) (h : MH) : R Bool := if c = true then .ok true h else fu ρ h
@[simp] theorem ev_or : fOr ft fu ρ h = (ft ρ h).bind (kOr fu ρ) := rfl
@[simp] theorem kOr_t : kOr fu ρ true h = .ok true h := rfl
@[simp] theorem kOr_f : kOr fu ρ false h = fu ρ h := rfl
@[simp] theorem ev_tru : fTru fa ρ h = (fa ρ h).bind truth := rfl
@[simp] theorem truth_bl : truth (.bl b) h = .ok b h := rfl
def kH3 (g : D → D → MH → R D) (fc : EF D) (ρ : Env) (e : D) (k : D) (h : MH) : R D := match k with
  | .bl true => (fc ρ h).bind (g e)
  | .bl false => .ok (.bl false) h
  | _ => .bad
def kH2 (g g2 : D → D → MH → R D) (fc : EF D) (ρ : Env) (d e : D) (h : MH) : R D := (g d e h).bind (kH3 g2 fc ρ e)
def kH1 (g g2 : D → D → MH → R D) (fb fc : EF D) (ρ : Env) (d : D) (h : MH) : R D := (fb ρ h).bind (kH2 g g2 fc ρ d)
@[simp] theorem ev_chain {f f2 : D → D → MH → R D} : fChain f f2 fa fb fc ρ h = (fa ρ h).bind (kH1 f f2 fb fc ρ) := rfl
@[simp] theorem kH1_eq {f f2 : D → D → MH → R D} : kH1 f f2 fb fc ρ d h = (fb ρ h).bind (kH2 f f2 fc ρ d) := rfl
@[simp] theorem kH2_eq {f f2 : D → D → MH → R D} : kH2 f f2 fc ρ d e h = (f d e h).bind (kH3 f2 fc ρ e) := rfl
@[simp] theorem kH3_t {f : D → D → MH → R D} : kH3 f fc ρ e (.bl true) h = (fc ρ h).bind (f e) := rfl
@[simp] theorem kH3_f {f : D → D → MH → R D} : kH3 f fc ρ e (.bl false) h = .ok (.bl false) h := rfl
def kAV (fb : EF D) (ρ : Env) (d : D) (h : MH) : R D := match d with
  | .bl true => fb ρ h
  | .bl false => .ok (.bl false) h
  | _ => .bad
@[simp] theorem ev_andV : fAndV fa fb ρ h = (fa ρ h).bind (kAV fb ρ) := by unfold fAndV kAV; rfl
@[simp] theorem kAV_t : kAV fb ρ (.bl true) h = fb ρ h := rfl
@[simp] theorem kAV_f : kAV fb ρ (.bl false) h = .ok (.bl false) h := rfl
def kOV (fb : EF D) (ρ : Env) (d : D) (h : MH) : R D := match d with
  | .bl false => fb ρ h
  | .bl true => .ok (.bl true) h
  | _ => .bad
@[simp] theorem ev_orV : fOrV fa fb ρ h = (fa ρ h).bind (kOV fb ρ) := rfl
@[simp] theorem kOV_t : kOV fb ρ (.bl true) h = .ok (.bl true) h := rfl
@[simp] theorem kOV_f : kOV fb ρ (.bl false) h = fb ρ h := rfl
def kCall (F : Fn) (dds : List D) (ds : List D) (h : MH) : R D := F (ds ++ dds) h
@[simp] theorem ev_call {F : Fn} {dds : List D} : fCall F dds fs ρ h = (fs ρ h).bind (kCall F dds) := rfl
@[simp] theorem kCall_eq {F : Fn} {dds : List D} : kCall F dds ds h = F (ds ++ dds) h := rfl
def kMe3 (F : Fn) (dds : List D) (n : Nat) (ds : List D) (h : MH) : R D := F (.ref n :: (ds ++ dds)) h
def kMe2 (F : Fn) (dds : List D) (fs : EF (List D)) (ρ : Env) (n : Nat) (h : MH) (_ : List D) : R D := (fs ρ h).bind (kMe3 F dds n)
def kMe1 (c : Nat) (F : Fn) (dds : List D) (fs : EF (List D)) (ρ : Env) (d : D) (h : MH) : R D := match d with
  | .ref n => opt (insOf h n c) (kMe2 F dds fs ρ n h)
  | _ => .bad
@[simp] theorem ev_meth {F : Fn} {dds : List D} : fMeth c F dds fo fs ρ h = (fo ρ h).bind (kMe1 c F dds fs ρ) := by unfold fMeth; congr 1; funext d h; unfold kMe1 opt kMe2 kMe3; cases d <;> first | rfl | (dsimp only; split <;> simp only [*])
@[simp] theorem kMe1_eq {F : Fn} {dds : List D} : kMe1 c F dds fs ρ (.ref n) h = opt (insOf h n c) (kMe2 F dds fs ρ n h) := rfl
@[simp] theorem kMe2_eq {F : Fn} {dds : List D} : kMe2 F dds fs ρ n h ds = (fs ρ h).bind (kMe3 F dds n) := rfl
@[simp] theorem kMe3_eq {F : Fn} {dds : List D} : kMe3 F dds n ds h = F (.ref n :: (ds ++ dds)) h := rfl
def kMk2 (n : Nat) (d : D) (h : MH) : R D := match d with
  | .non => .ok (.ref n) h
  | _ => .bad
def kMk1 (c : Nat) (F : Fn) (dds : List D) (ds : List D) (h : MH) : R D := (F (.ref h.length :: (ds ++ dds)) (h ++ [.ins c []])).bind (kMk2 h.length)
@[simp] theorem ev_make {F : Fn} {dds : List D} : fMake c F dds fs ρ h = (fs ρ h).bind (kMk1 c F dds) := rfl
@[simp] theorem kMk1_eq {F : Fn} {dds : List D} : kMk1 c F dds ds h = (F (.ref h.length :: (ds ++ dds)) (h ++ [.ins c []])).bind (kMk2 h.length) := rfl
@[simp] theorem kMk2_eq : kMk2 n .non h = .ok (.ref n) h := rfl
def kFd3 (h : MH) (y : D) : R D := .ok y h
def kFd2 (i : Nat) (h : MH) (ds : List D) : R D := opt ds[i]? (kFd3 h)
def kFd1 (c i : Nat) (d : D) (h : MH) : R D := match d with
  | .ref n => opt (insOf h n c) (kFd2 i h)
  | _ => .bad
@[simp] theorem ev_fld : fFld c i fo ρ h = (fo ρ h).bind (kFd1 c i) := by unfold fFld; congr 1; funext d h; unfold kFd1 opt kFd2 opt kFd3; cases d <;> first | rfl | (dsimp only; split <;> simp only [*]; split <;> simp only [*])
@[simp] theorem kFd1_eq : kFd1 c i (.ref n) h = opt (insOf h n c) (kFd2 i h) := rfl
@[simp] theorem kFd2_eq : kFd2 i h ds = opt ds[i]? (kFd3 h) := rfl
@[simp] theorem kFd3_eq : kFd3 h d = .ok d h := rfl
def kPart (d : D) (h : MH) : R (Option Int) := match d with
  | .int i => .ok (some i) h
  | _ => .bad
@[simp] theorem ev_part : fPart fa ρ h = (fa ρ h).bind kPart := rfl
@[simp] theorem kPart_eq {i : Int} : kPart (.int i) h = .ok (some i) h := rfl
@[simp] theorem ev_noP : fNoP ρ h = .ok none h := rfl
def kSl2 (fh : EFo) (ρ : Env) (d : D) (l : Option Int) (h : MH) : R D := (fh ρ h).bind fun u h => gSl d l u h
def kSl1 (fl fh : EFo) (ρ : Env) (d : D) (h : MH) : R D := (fl ρ h).bind (kSl2 fh ρ d)
@[simp] theorem ev_sl {fl fh : EFo} : fSl fa fl fh ρ h = (fa ρ h).bind (kSl1 fl fh ρ) := rfl
@[simp] theorem kSl1_eq {fl fh : EFo} : kSl1 fl fh ρ d h = (fl ρ h).bind (kSl2 fh ρ d) := rfl
@[simp] theorem kSl2_eq {fh : EFo} {l : Option Int} : kSl2 fh ρ d l h = (fh ρ h).bind (gSl d l) := rfl
def kRev2 (h : MH) (l : List D) : R D := .ok (.ref h.length) (h ++ [.lst l.reverse])
def kRev1 (d : D) (h : MH) : R D := match d with
  | .ref n => opt (listOf h n) (kRev2 h)
  | _ => .bad
@[simp] theorem ev_rev : fRev fa ρ h = (fa ρ h).bind kRev1 := by unfold fRev; congr 1; funext d h; unfold kRev1 opt kRev2; cases d <;> first | rfl | (dsimp only; split <;> simp only [*])
@[simp] theorem kRev1_eq : kRev1 (.ref n) h = opt (listOf h n) (kRev2 h) := rfl
@[simp] theorem kRev2_eq : kRev2 h ds = .ok (.ref h.length) (h ++ [.lst ds.reverse]) := rfl
def kSrc2 (h : MH) (s : Src) : R Src := .ok s h
def kSrc1 (d : D) (h : MH) : R Src := opt (srcOf d h) (kSrc2 h)
@[simp] theorem ev_src : fSrc fa ρ h = (fa ρ h).bind kSrc1 := by unfold fSrc; congr 1; funext d h; unfold kSrc1 opt kSrc2; split <;> simp only [*]
@[simp] theorem kSrc1_eq : kSrc1 d h = opt (srcOf d h) (kSrc2 h) := rfl
@[simp] theorem kSrc2_eq {s : Src} : kSrc2 h s = .ok s h := rfl
def kM1 (f : Str → D → MH → R D) (fa : EF D) (ρ : Env) (d : D) (h : MH) : R D := match d with
  | .str x => (fa ρ h).bind (f x)
  | _ => .bad
@[simp] theorem ev_m1 {f : Str → D → MH → R D} : fM1 f fo fa ρ h = (fo ρ h).bind (kM1 f fa ρ) := rfl
@[simp] theorem kM1_eq {f : Str → D → MH → R D} {x : Str} : kM1 f fa ρ (.str x) h = (fa ρ h).bind (f x) := rfl
def kM0 (f : Str → MH → R D) (d : D) (h : MH) : R D := match d with
  | .str x => f x h
  | _ => .bad
@[simp] theorem ev_m0 {f : Str → MH → R D} : fM0 f fo ρ h = (fo ρ h).bind (kM0 f) := rfl
@[simp] theorem kM0_eq {f : Str → MH → R D} {x : Str} : kM0 f (.str x) h = f x h := rfl
def kAp2 (fs : EF (List D)) (ρ : Env) (n : Nat) (h : MH) (_ : List D) : R D := (fs ρ h).bind (gAppend (.ref n))
def kAp1 (fs : EF (List D)) (ρ : Env) (d : D) (h : MH) : R D := match d with
  | .ref n => opt (mutOf h n) (kAp2 fs ρ n h)
  | _ => .bad
@[simp] theorem ev_append : fAppend fo fs ρ h = (fo ρ h).bind (kAp1 fs ρ) := by unfold fAppend; congr 1; funext d h; unfold kAp1 opt kAp2; cases d <;> first | rfl | (dsimp only; split <;> simp only [*])
@[simp] theorem kAp1_eq : kAp1 fs ρ (.ref n) h = opt (mutOf h n) (kAp2 fs ρ n h) := rfl
@[simp] theorem kAp2_eq : kAp2 fs ρ n h ds = (fs ρ h).bind (gAppend (.ref n)) := rfl
def kSt3 (l ds : List D) (h : MH) : R (List D) := .ok (l ++ ds) h
def kSt2 (fr : EF (List D)) (ρ : Env) (h : MH) (l : List D) : R (List D) := (fr ρ h).bind (kSt3 l)
def kSt1 (fr : EF (List D)) (ρ : Env) (d : D) (h : MH) : R (List D) := opt (itemsOf h d) (kSt2 fr ρ h)
@[simp] theorem ev_star : fStar fa fr ρ h = (fa ρ h).bind (kSt1 fr ρ) := by unfold fStar; congr 1; funext d h; unfold kSt1 opt kSt2 kSt3; split <;> simp only [*]
@[simp] theorem kSt1_eq : kSt1 fr ρ d h = opt (itemsOf h d) (kSt2 fr ρ h) := rfl
@[simp] theorem kSt2_eq : kSt2 fr ρ h ds = (fr ρ h).bind (kSt3 ds) := rfl
@[simp] theorem kSt3_eq {l : List D} : kSt3 l ds h = .ok (l ++ ds) h := rfl
@[simp] theorem ev_dk : fDk ρ h = .ok (.ref h.length) (h ++ [.dk []]) := rfl
def kCV (T : Nat → Option Fn) (fs : EF (List D)) (ρ : Env) (h : MH) (d : Option D) : R D := match d with
  | some (.obj n) => opt (T n) fun F => (fs ρ h).bind F
  | _ => .bad
@[simp] theorem es_nil : sNil ρ h = .ok .nx ρ h := rfl
@[simp] theorem es_seq : sSeq s t ρ h = (s ρ h).thn t := rfl
def kEx (ρ : Env) (_ : D) (h : MH) : SR := .ok .nx ρ h
@[simp] theorem es_expr : sExpr fa ρ h = ofR (fa ρ h) ρ (kEx ρ) := rfl
@[simp] theorem kEx_eq : kEx ρ d h = .ok .nx ρ h := rfl
def kRt (ρ : Env) (d : D) (h : MH) : SR := .ok (.rt d) ρ h
@[simp] theorem es_ret : sRet fa ρ h = ofR (fa ρ h) ρ (kRt ρ) := rfl
@[simp] theorem kRt_eq : kRt ρ d h = .ok (.rt d) ρ h := rfl
@[simp] theorem es_retN : sRetN ρ h = .ok (.rt .non) ρ h := rfl
def kSIf (s t : SF) (ρ : Env) (c : Bool) (h : MH) : SR := if c = true then s ρ h else t ρ h
@[simp] theorem es_if : sIf ft s t ρ h = ofR (ft ρ h) ρ (kSIf s t ρ) := rfl
@[simp] theorem kSIf_t : kSIf s t ρ true h = s ρ h := rfl
@[simp] theorem kSIf_f : kSIf s t ρ false h = t ρ h := rfl
@[simp] theorem eg_n : gN i d ρ h = .ok .nx (ρ.set i (some d)) h := rfl
def kNx : SF := fun ρ h => .ok .nx ρ h
@[simp] theorem kNx_eq : kNx ρ h = .ok .nx ρ h := rfl
def kAs (g : D → SF) (ρ : Env) (d : D) (h : MH) : SR := (g d ρ h).tk kNx
@[simp] theorem es_asg : sAsg fa g ρ h = ofR (fa ρ h) ρ (kAs g ρ) := rfl
@[simp] theorem kAs_eq : kAs g ρ d h = (g d ρ h).tk kNx := rfl
@[simp] theorem eg_nil : gsNil [] ρ h = .ok .nx ρ h := rfl
@[simp] theorem eg_cons : gsCons g gs (d :: ds) ρ h = (g d ρ h).thn (gs ds) := rfl
@[simp] theorem eg_tp : gTp n gs (.tup ds) ρ h = if ds.length = n then gs ds ρ h else .bad := rfl
def kSb3 (ρ : Env) (_ : Unit) (h : MH) : SR := .ok .nx ρ h
def kSb2 (f : D → D → D → MH → R Unit) (d : D) (ρ : Env) (o i : D) (h : MH) : SR := ofR (f o i d h) ρ (kSb3 ρ)
def kSb1 (f : D → D → D → MH → R Unit) (fi : EF D) (d : D) (ρ : Env) (o : D) (h : MH) : SR := ofR (fi ρ h) ρ (kSb2 f d ρ o)
@[simp] theorem eg_sb {f : D → D → D → MH → R Unit} : gSb f fo fi d ρ h = ofR (fo ρ h) ρ (kSb1 f fi d ρ) := rfl
@[simp] theorem kSb1_eq {f : D → D → D → MH → R Unit} {o : D} : kSb1 f fi d ρ o h = ofR (fi ρ h) ρ (kSb2 f d ρ o) := rfl
@[simp] theorem kSb2_eq {f : D → D → D → MH → R Unit} {o i : D} : kSb2 f d ρ o i h = ofR (f o i d h) ρ (kSb3 ρ) := rfl
@[simp] theorem kSb3_eq {u : Unit} : kSb3 ρ u h = .ok .nx ρ h := rfl
def kP2 (i j : Nat) (ρ : Env) (ds : List D) (h : MH) : SR := match ds with
  | [d, e] => .ok .nx ((ρ.set i (some d)).set j (some e)) h
  | _ => .bad
@[simp] theorem es_par2 : sPar2 i j fs ρ h = ofR (fs ρ h) ρ (kP2 i j ρ) := rfl
@[simp] theorem kP2_eq : kP2 i j ρ [d, e] h = .ok .nx ((ρ.set i (some d)).set j (some e)) h := rfl
def kFs3 (c i : Nat) (ρ : Env) (y : D) (n : Nat) (h : MH) (ds : List D) : SR := if i ≤ ds.length then .ok .nx ρ (h.set n (.ins c (putD i y ds))) else .bad
def kFs2 (c i : Nat) (ρ : Env) (y : D) (d : D) (h : MH) : SR := match d with
  | .ref n => optS (insOf h n c) (kFs3 c i ρ y n h)
  | _ => .bad
def kFs1 (c i : Nat) (fo : EF D) (ρ : Env) (y : D) (h : MH) : SR := ofR (fo ρ h) ρ (kFs2 c i ρ y)
@[simp] theorem es_fld : sFldS c i fo fv ρ h = ofR (fv ρ h) ρ (kFs1 c i fo ρ) := by unfold sFldS kFs1; congr 1; funext y h; congr 1; funext d h; unfold kFs2 optS kFs3; cases d <;> first | rfl | (dsimp only; split <;> simp only [*])
@[simp] theorem kFs1_eq : kFs1 c i fo ρ d h = ofR (fo ρ h) ρ (kFs2 c i ρ d) := rfl
@[simp] theorem kFs2_eq : kFs2 c i ρ d (.ref n) h = optS (insOf h n c) (kFs3 c i ρ d n h) := rfl
@[simp] theorem kFs3_eq : kFs3 c i ρ d n h ds = if i ≤ ds.length then .ok .nx ρ (h.set n (.ins c (putD i d ds))) else .bad := rfl
def kRs (c n : Nat) (ρ : Env) (ds : List D) (h : MH) : SR := if ds.length = n then .exc ⟨c, ds⟩ ρ h else .bad
@[simp] theorem es_raise : sRaise c n fs ρ h = ofR (fs ρ h) ρ (kRs c n ρ) := rfl
@[simp] theorem kRs_eq : kRs c n ρ ds h = if ds.length = n then .exc ⟨c, ds⟩ ρ h else .bad := rfl
def kFor (g : D → SF) (s : SF) (n : Nat) (ρ : Env) (src : Src) (h : MH) : SR := sForL src g s n 0 ρ h
@[simp] theorem es_for {fi : EF Src} : sFor fi g s n ρ h = ofR (fi ρ h) ρ (kFor g s n ρ) := rfl
@[simp] theorem kFor_eq {src : Src} : kFor g s n ρ src h = sForL src g s n 0 ρ h := rfl
def kCo (t : Tg) (ft : EF Bool) (fe : EF D) (ρ : Env) (n : Nat) (src : Src) (h : MH) : R D := compL src t ft fe (wipeE ρ (tgV t)) n 0 [] h
@[simp] theorem ev_comp {fi : EF Src} {t : Tg} {fe : EF D} : fComp fi t ft fe n ρ h = (fi ρ h).bind (kCo t ft fe ρ n) := rfl
@[simp] theorem kCo_eq {t : Tg} {fe : EF D} {src : Src} : kCo t ft fe ρ n src h = compL src t ft fe (wipeE ρ (tgV t)) n 0 [] h := rfl
def kR1 (ds : List D) (h : MH) : R Src := match ds with
  | [.int j] => if -(2 ^ 62) ≤ j ∧ j < 2 ^ 62 then .ok (srcR 0 j.toNat) h else .bad
  | _ => .bad
@[simp] theorem ev_rng1 : fRng1 fs ρ h = (fs ρ h).bind kR1 := rfl
@[simp] theorem kR1_eq {j : Int} : kR1 [.int j] h = if -(2 ^ 62) ≤ j ∧ j < 2 ^ 62 then .ok (srcR 0 j.toNat) h else .bad := rfl
def kR2 (ds : List D) (h : MH) : R Src := match ds with
  | [.int i, .int j] => if (-(2 ^ 62) ≤ i ∧ i < 2 ^ 62) ∧ -(2 ^ 62) ≤ j ∧ j < 2 ^ 62 then .ok (srcR i (j - i).toNat) h else .bad
  | _ => .bad
@[simp] theorem ev_rng2 : fRng2 fs ρ h = (fs ρ h).bind kR2 := rfl
@[simp] theorem kR2_eq {i j : Int} : kR2 [.int i, .int j] h = if (-(2 ^ 62) ≤ i ∧ i < 2 ^ 62) ∧ -(2 ^ 62) ≤ j ∧ j < 2 ^ 62 then .ok (srcR i (j - i).toNat) h else .bad := rfl
def kEn2 (n : Nat) (h : MH) (_ : List D) : R Src := .ok (srcE n) h
def kEn (ds : List D) (h : MH) : R Src := match ds with
  | [.ref n] => opt (listOf h n) (kEn2 n h)
  | _ => .bad
@[simp] theorem ev_enum : fEnum fs ρ h = (fs ρ h).bind kEn := by unfold fEnum; congr 1; funext ds h; unfold kEn opt kEn2; rcases ds with _ | ⟨d, _ | ⟨e, r⟩⟩ <;> first | rfl | (cases d <;> rfl) | skip; all_goals (cases d <;> first | rfl | (dsimp only; split <;> simp only [*]))
@[simp] theorem kEn_eq : kEn [.ref n] h = opt (listOf h n) (kEn2 n h) := rfl
@[simp] theorem kEn2_eq : kEn2 n h ds = .ok (srcE n) h := rfl
def fin : SR → R D
  | .ok (.rt d) _ h => .ok d h
  | .ok .nx _ h => .ok .non h
  | .exc x _ h => .exc x h
  | _ => .bad
@[simp] theorem fin_rt : fin (.ok (.rt d) ρ h) = .ok d h := rfl
@[simp] theorem fin_nx : fin (.ok .nx ρ h) = .ok .non h := rfl
@[simp] theorem fin_exc {x : Xn} : fin (.exc x ρ h) = .exc x h := rfl
@[simp] theorem fin_bad : fin .bad = .bad := rfl
@[simp] theorem mk_fn {np nn : Nat} : mkFn np nn s ds h = if ds.length = np then fin (s (ds.map some ++ List.replicate (nn - ds.length) none) h) else .bad := by
  unfold mkFn fin
  split <;> rfl
theorem mk_go {np nn : Nat} {ρ' : Env} (hl : ds.length = np) (hρ : ds.map some ++ List.replicate (nn - ds.length) none = ρ') : mkFn np nn s ds h = fin (s ρ' h) := by
  rw [mk_fn, if_pos hl, hρ]
@[simp] theorem v_0 {o : D} {r : Env} : fVar 0 (some o :: r) h = .ok o h := rfl
@[simp] theorem v_s {o : Option D} {r : Env} : fVar (i + 1) (o :: r) h = fVar i r h := rfl
end

/-! ### heaps -/
/-- all that stood, but S, stands -/
structure Kp (S : List Nat) (h h' : MH) : Prop where
  le : h.length ≤ h'.length
  at_ : ∀ n, n < h.length → n ∉ S → h'[n]? = h[n]?
theorem Kp.refl {S : List Nat} {h : MH} : Kp S h h := ⟨Nat.le_refl _, fun _ _ _ => rfl⟩
theorem Kp.trans {S S' S2 : List Nat} {h h1 h2 : MH} (a : Kp S h h1) (b : Kp S' h1 h2) (c : ∀ n, n < h.length → n ∉ S2 → n ∉ S ∧ n ∉ S') : Kp S2 h h2 :=
  ⟨Nat.le_trans a.le b.le, fun n hn hs => (b.at_ n (Nat.lt_of_lt_of_le hn a.le) (c n hn hs).2).trans (a.at_ n hn (c n hn hs).1)⟩
theorem Kp.push {S : List Nat} {h h1 : MH} {o : O} (a : Kp S h h1) : Kp S h (h1 ++ [o]) :=
  ⟨by rw [List.length_append]; exact Nat.le_trans a.le (Nat.le_add_right _ _), fun n hn hs => by
    rw [List.getElem?_append_left (Nat.lt_of_lt_of_le hn a.le)]; exact a.at_ n hn hs⟩
theorem Kp.set {S : List Nat} {h h1 : MH} {m : Nat} {o : O} (a : Kp S h h1) (hm : m ∈ S ∨ h.length ≤ m) : Kp S h (h1.set m o) :=
  ⟨by rw [List.length_set]; exact a.le, fun n hn hs => by
    rw [List.getElem?_set_ne]
    · exact a.at_ n hn hs
    · intro e
      subst e
      rcases hm with hm | hm
      · exact hs hm
      · omega⟩
theorem Kp.get {S : List Nat} {h h' : MH} (a : Kp S h h') {n : Nat} {o : O} (e : h[n]? = some o) (hs : n ∉ S) : h'[n]? = some o := by
  rw [a.at_ n (List.getElem?_eq_some_iff.mp e).1 hs]; exact e
theorem Kp.more {S S' : List Nat} {h h' : MH} (a : Kp S h h') (c : ∀ n, n < h.length → n ∉ S' → n ∉ S) : Kp S' h h' := ⟨a.le, fun n hn hs => a.at_ n hn (c n hn hs)⟩
theorem ltOf {h : MH} {n : Nat} {o : O} (e : h[n]? = some o) : n < h.length := (List.getElem?_eq_some_iff.mp e).1
theorem push_old {h : MH} {n : Nat} {o o' : O} (e : h[n]? = some o) : (h ++ [o'])[n]? = some o := by rw [List.getElem?_append_left (ltOf e)]; exact e
theorem push_new {h : MH} {o : O} : (h ++ [o])[h.length]? = some o := by simp
theorem set_old {h : MH} {n m : Nat} {o o' : O} (e : h[n]? = some o) (ne : m ≠ n) : (h.set m o')[n]? = some o := by rw [List.getElem?_set_ne ne]; exact e
theorem set_new {h : MH} {n : Nat} {o o' : O} (e : h[n]? = some o) : (h.set n o')[n]? = some o' := List.getElem?_set_self (ltOf e)
theorem insAt {h : MH} {n c : Nat} {ds : List D} (e : h[n]? = some (.ins c ds)) : insOf h n c = some ds := by unfold insOf; rw [e]; simp
theorem lstAt {h : MH} {n : Nat} {l : List D} (e : h[n]? = some (.lst l)) : listOf h n = some l := by unfold listOf; rw [e]
theorem rlAt {h : MH} {n : Nat} {l : List D} (e : h[n]? = some (.rl l)) : listOf h n = some l := by unfold listOf; rw [e]
theorem mutAt {h : MH} {n : Nat} {l : List D} (e : h[n]? = some (.lst l)) : mutOf h n = some l := by unfold mutOf; rw [e]
end Mp
set_option Elab.async false
set_option linter.all false
set_option maxRecDepth 100000
set_option maxHeartbeats 2000000
namespace Mp
open PySem PySem.Spec PyProof.Rows L2

/-! ### values of the machine: plain rules -/
section
variable {h : MH} {n m : Nat} {l : List D} {d e : D}
def kIx2 (h : MH) (y : D) : R D := .ok y h
def kIx (i : Int) (h : MH) (l : List D) : R D := opt (atI l i) (kIx2 h)
@[simp] theorem ix_ref {i : Int} : gIx (.ref n) (.int i) h = opt (listOf h n) (kIx i h) := by
  unfold gIx kIx opt kIx2
  dsimp only [itemsOf]
  split <;> rename_i q <;> simp only [q] <;> first | rfl | (split <;> rename_i q2 <;> simp only [q2])
@[simp] theorem ix_tup {i : Int} : gIx (.tup l) (.int i) h = opt (atI l i) (kIx2 h) := by
  unfold gIx opt kIx2
  dsimp only [itemsOf]
  split <;> rename_i q <;> simp only [q]
@[simp] theorem kIx_eq {i : Int} : kIx i h l = opt (atI l i) (kIx2 h) := rfl
@[simp] theorem kIx2_eq : kIx2 h d = .ok d h := rfl
def kIxS (h : MH) (c : Nat) : R D := .ok (.str ⟨#[c]⟩) h
@[simp] theorem kIxS_eq {c : Nat} : kIxS h c = .ok (.str ⟨#[c]⟩) h := rfl
theorem ix_str {x : Str} {i : Int} : gIx (.str x) (.int i) h = if x.length ≤ 16777216 then opt (atI x.cps.toList i) (kIxS h) else .bad := by
  unfold gIx opt kIxS
  dsimp only
  by_cases z : x.length ≤ 16777216
  · rw [if_pos z, if_pos z]
    cases atI x.cps.toList i <;> rfl
  · rw [if_neg z, if_neg z]
@[simp] theorem add_int {i j : Int} : gAdd (.int i) (.int j) h = .ok (.int (i + j)) h := rfl
@[simp] theorem sub_int {i j : Int} : gSub (.int i) (.int j) h = .ok (.int (i - j)) h := rfl
def MulR (i j : Int) : Prop := (-(2 ^ 64) < i ∧ i < 2 ^ 64) ∨ (-(2 ^ 64) < j ∧ j < 2 ^ 64)
instance {i j : Int} : Decidable (MulR i j) := inferInstanceAs (Decidable ((-(2 ^ 64) < i ∧ i < 2 ^ 64) ∨ (-(2 ^ 64) < j ∧ j < 2 ^ 64)))
@[simp] theorem mul_int {i j : Int} : gMul (.int i) (.int j) h = if MulR i j then .ok (.int (i * j)) h else .bad := rfl
theorem mulR_l {i j : Int} (a : i.natAbs < 2 ^ 60) : MulR i j := .inl (by omega)
@[simp] theorem fdiv_int {i j : Int} : gFdiv (.int i) (.int j) h = if 0 < j ∧ j < 1073741824 then .ok (.int (i / j)) h else .bad := rfl
@[simp] theorem mod_int {i j : Int} : gMod (.int i) (.int j) h = if 0 < j then .ok (.int (i % j)) h else .bad := rfl
@[simp] theorem pow_int {i j : Int} : gPow (.int i) (.int j) h = if 0 ≤ j ∧ j ≤ 1000000 ∧ i.natAbs < 2 ^ 64 then .ok (.int (i ^ j.toNat)) h else .bad := rfl
@[simp] theorem neg_int {i : Int} : gNeg (.int i) h = .ok (.int (-i)) h := rfl
@[simp] theorem lt_int {i j : Int} : gLt (.int i) (.int j) h = .ok (.bl (decide (i < j))) h := rfl
@[simp] theorem le_int {i j : Int} : gLe (.int i) (.int j) h = .ok (.bl (decide (i ≤ j))) h := rfl
@[simp] theorem gt_int {i j : Int} : gGt (.int i) (.int j) h = .ok (.bl (decide (j < i))) h := rfl
@[simp] theorem ge_int {i j : Int} : gGe (.int i) (.int j) h = .ok (.bl (decide (j ≤ i))) h := rfl
@[simp] theorem lt_str {x y : Str} : gLt (.str x) (.str y) h = .ok (.bl (strLt x y)) h := rfl
@[simp] theorem le_str {x y : Str} : gLe (.str x) (.str y) h = .ok (.bl (!strLt y x)) h := rfl
@[simp] theorem gt_str {x y : Str} : gGt (.str x) (.str y) h = .ok (.bl (strLt y x)) h := rfl
@[simp] theorem ge_str {x y : Str} : gGe (.str x) (.str y) h = .ok (.bl (!strLt x y)) h := rfl
@[simp] theorem eq_int {i j : Int} : gEq (.int i) (.int j) h = .ok (.bl (decide (i = j))) h := rfl
@[simp] theorem ne_int {i j : Int} : gNe (.int i) (.int j) h = .ok (.bl (!decide (i = j))) h := rfl
@[simp] theorem eq_str {x y : Str} : gEq (.str x) (.str y) h = .ok (.bl (decide (x = y))) h := rfl
@[simp] theorem ne_str {x y : Str} : gNe (.str x) (.str y) h = .ok (.bl (!decide (x = y))) h := rfl
@[simp] theorem isN_non : gIsN .non .non h = .ok (.bl true) h := rfl
@[simp] theorem isN_str {x : Str} : gIsN (.str x) .non h = .ok (.bl false) h := rfl
@[simp] theorem isN_int {i : Int} : gIsN (.int i) .non h = .ok (.bl false) h := rfl
@[simp] theorem notN_non : gNotN .non .non h = .ok (.bl false) h := rfl
@[simp] theorem notN_str {x : Str} : gNotN (.str x) .non h = .ok (.bl true) h := rfl
@[simp] theorem notN_int {i : Int} : gNotN (.int i) .non h = .ok (.bl true) h := rfl
@[simp] theorem int_int {i : Int} : gInt [.int i] h = .ok (.int i) h := rfl
@[simp] theorem int_bl {b : Bool} : gInt [.bl b] h = .ok (.int (if b then 1 else 0)) h := rfl
@[simp] theorem abs_int {i : Int} : gAbs [.int i] h = .ok (.int (if i < 0 then -i else i)) h := rfl
@[simp] theorem min_int {i j : Int} : gMin2 [.int i, .int j] h = .ok (.int (if j < i then j else i)) h := rfl
def kLen (h : MH) (l : List D) : R D := .ok (.int l.length) h
@[simp] theorem kLen_eq : kLen h l = .ok (.int l.length) h := rfl
@[simp] theorem len_ref : gLen [.ref n] h = opt (listOf h n) (kLen h) := by
  unfold gLen opt kLen
  dsimp only [itemsOf]
  split <;> rename_i q <;> simp only [q]
@[simp] theorem len_tup : gLen [.tup l] h = .ok (.int l.length) h := rfl
theorem len_str {x : Str} : gLen [.str x] h = if x.length ≤ 16777216 then .ok (.int x.length) h else .bad := rfl
def kSet2 (n : Nat) (l : List D) (d : D) (h : MH) (j : Nat) : R Unit := .ok () (h.set n (.lst (l.set j d)))
def kSet (n : Nat) (k : Int) (d : D) (h : MH) (l : List D) : R Unit := opt (ixN l.length k) (kSet2 n l d h)
@[simp] theorem set_ref {k : Int} : gSet (.ref n) (.int k) d h = opt (mutOf h n) (kSet n k d h) := by
  unfold gSet opt kSet kSet2 opt
  dsimp only
  split <;> rename_i q <;> simp only [q] <;> first | rfl | (split <;> rename_i q2 <;> simp only [q2])
@[simp] theorem kSet_eq {k : Int} : kSet n k d h l = opt (ixN l.length k) (kSet2 n l d h) := rfl
@[simp] theorem kSet2_eq {j : Nat} : kSet2 n l d h j = .ok () (h.set n (.lst (l.set j d))) := rfl
def kApp (n : Nat) (y : D) (h : MH) (l : List D) : R D := if l.length < 16777216 then .ok .non (h.set n (.lst (l ++ [y]))) else .bad
@[simp] theorem app_ref : gAppend (.ref n) [d] h = opt (mutOf h n) (kApp n d h) := by
  unfold gAppend opt kApp
  dsimp only
  split <;> rename_i q <;> simp only [q]
@[simp] theorem kApp_eq : kApp n d h l = if l.length < 16777216 then .ok .non (h.set n (.lst (l ++ [d]))) else .bad := rfl
/-! places -/
theorem ixN_nat {k j : Nat} (hj : j < k) : ixN k (j : Int) = some j := by
  unfold ixN
  rw [if_pos (by omega), if_pos (by omega)]
  simp
theorem atI_nat {α : Type} {l : List α} {j : Nat} : atI l (j : Int) = l[j]? := by
  unfold atI
  by_cases hj : j < l.length
  · rw [ixN_nat hj]; rfl
  · unfold ixN
    rw [if_pos (by omega), if_neg (by omega), List.getElem?_eq_none (by omega)]
    rfl
@[simp] theorem atI_0 {α : Type} {l : List α} : atI l 0 = l[0]? := atI_nat (j := 0)
@[simp] theorem atI_1 {α : Type} {l : List α} : atI l 1 = l[1]? := atI_nat (j := 1)
@[simp] theorem atI_2 {α : Type} {l : List α} : atI l 2 = l[2]? := atI_nat (j := 2)
@[simp] theorem atI_3 {α : Type} {l : List α} : atI l 3 = l[3]? := atI_nat (j := 3)
@[simp] theorem atI_4 {α : Type} {l : List α} : atI l 4 = l[4]? := atI_nat (j := 4)
@[simp] theorem atI_m1 {α : Type} {l : List α} {y : α} : atI (l ++ [y]) (-1) = some y := by
  unfold atI ixN
  rw [if_neg (by omega), if_pos (by simp; omega)]
  simp only [Option.bind_some]
  have : ((-1 : Int) + ((l ++ [y]).length : Nat)).toNat = l.length := by simp; omega
  rw [this]; simp
@[simp] theorem atI_m2 {α : Type} {l : List α} {x y : α} : atI (l ++ [x, y]) (-2) = some x := by
  unfold atI ixN
  rw [if_neg (by omega), if_pos (by simp; omega)]
  simp only [Option.bind_some]
  have : ((-2 : Int) + ((l ++ [x, y]).length : Nat)).toNat = l.length := by simp; omega
  rw [this]; simp
theorem atI_m1_nil {α : Type} : atI ([] : List α) (-1) = none := by
  unfold atI ixN
  rw [if_neg (by omega), if_neg (by simp)]
  rfl
/-! ### what may be compared -/
/-! data whose signs are all in range, without objects -/
mutual
def okD : D → Bool
  | .non => true
  | .bl _ => true
  | .int _ => true
  | .str x => PyData.strOk x
  | .tup l => okDs l
  | _ => false
def okDs : List D → Bool
  | [] => true
  | d :: l => okD d && okDs l
end
mutual
def dep : D → Nat
  | .tup l => deps l + 1
  | _ => 0
def deps : List D → Nat
  | [] => 0
  | d :: l => max (dep d) (deps l)
end
mutual
def toP : D → PyData
  | .non => .none
  | .bl b => .bool b
  | .int i => .int i
  | .str x => .str x
  | .tup l => .tuple (toPs l)
  | _ => .none
def toPs : List D → List PyData
  | [] => []
  | d :: l => toP d :: toPs l
end
mutual
theorem pd_ok : ∀ (n : Nat) (d : D), okD d = true → dep d ≤ n → pd h n d = some (toP d) ∧ (toP d).canLay0 = true ∧ (toP d).depth = dep d
  | _, .non, _, _ => ⟨by unfold pd toP; rfl, by unfold toP; rfl, rfl⟩
  | _, .bl b, _, _ => ⟨by unfold pd toP; rfl, by unfold toP; rfl, rfl⟩
  | _, .int i, _, _ => ⟨by unfold pd toP; rfl, by unfold toP; rfl, rfl⟩
  | _, .str x, k, _ => ⟨by unfold pd toP; rfl, by unfold okD at k; unfold toP PyData.canLay0; exact k, rfl⟩
  | 0, .tup l, k, q => by unfold dep at q; omega
  | n + 1, .tup l, k, q => by
    unfold okD at k
    unfold dep at q
    obtain ⟨h1, h2, h3⟩ := pdL_ok n l k (by omega)
    refine ⟨by unfold pd toP; rw [h1]; rfl, by unfold toP PyData.canLay0; exact h2, by unfold toP PyData.depth dep; rw [h3]⟩
  | _, .ref _, k, _ => by cases k
  | _, .obj _, k, _ => by cases k
  | _, .ty _, k, _ => by cases k
theorem pdL_ok : ∀ (n : Nat) (l : List D), okDs l = true → deps l ≤ n → pdL h n l = some (toPs l) ∧ PyData.canLayAll0 (toPs l) = true ∧ PyData.depthAll (toPs l) = deps l
  | _, [], _, _ => ⟨by unfold pdL toPs; rfl, rfl, rfl⟩
  | n, d :: l, k, q => by
    unfold okDs at k
    rw [Bool.and_eq_true] at k
    unfold deps at q
    obtain ⟨a1, a2, a3⟩ := pd_ok n d k.1 (by omega)
    obtain ⟨b1, b2, b3⟩ := pdL_ok n l k.2 (by omega)
    refine ⟨by unfold pdL toPs; rw [a1, b1], by unfold toPs PyData.canLayAll0; rw [a2, b2]; rfl, by unfold toPs PyData.depthAll deps; rw [a3, b3]⟩
end
theorem pdS_ref (e : listOf h n = some l) (k : okDs l = true) (q : deps l ≤ 7) : pdS h (.ref n) = some (.list (toPs l)) := by
  obtain ⟨h1, h2, h3⟩ := pdL_ok (h := h) 7 l k q
  unfold pdS
  have e1 : pd h dpt (.ref n) = some (.list (toPs l)) := by
    unfold dpt pd
    rw [e]
    dsimp only
    rw [h1]
    rfl
  rw [e1]
  dsimp only
  rw [if_pos]
  unfold SeqAt.shaped
  rw [Bool.and_eq_true]
  refine ⟨by unfold PyData.canLay0; exact h2, decide_eq_true ?_⟩
  unfold PyData.depth
  rw [h3]
  omega
theorem pdS_pure (k : okD d = true) (q : dep d ≤ 7) : pdS h d = some (toP d) := by
  obtain ⟨h1, h2, h3⟩ := pd_ok (h := h) 8 d k (by omega)
  unfold pdS dpt
  rw [h1]
  dsimp only
  rw [if_pos]
  unfold SeqAt.shaped
  rw [Bool.and_eq_true]
  exact ⟨h2, decide_eq_true (by rw [h3]; omega)⟩
theorem eqRes_nil (e : listOf h n = some l) (k : okDs l = true) (q : deps l ≤ 7) (e2 : listOf h m = some []) : eqRes (.ref n) (.ref m) h = some l.isEmpty := by
  unfold eqRes
  rw [pdS_ref e k q, pdS_ref e2 (by rfl) (by decide)]
  show some (PyData.eqv (.list (toPs l)) (.list (toPs []))) = _
  cases l with
  | nil => rfl
  | cons d l => unfold toPs PyData.eqv; rfl
theorem eq_nil (e : listOf h n = some l) (k : okDs l = true) (q : deps l ≤ 7) (e2 : listOf h m = some []) : gEq (.ref n) (.ref m) h = .ok (.bl l.isEmpty) h := by
  unfold gEq; rw [eqRes_nil e k q e2]
theorem ne_nil (e : listOf h n = some l) (k : okDs l = true) (q : deps l ≤ 7) (e2 : listOf h m = some []) : gNe (.ref n) (.ref m) h = .ok (.bl (!l.isEmpty)) h := by
  unfold gNe; rw [eqRes_nil e k q e2]
theorem okDs_ints : ∀ ns : List Int, okDs (ns.map D.int) = true ∧ deps (ns.map D.int) = 0
  | [] => ⟨rfl, rfl⟩
  | i :: ns => by
    obtain ⟨h1, h2⟩ := okDs_ints ns
    exact ⟨by rw [List.map_cons]; unfold okDs okD; rw [h1]; rfl, by rw [List.map_cons]; unfold deps dep; rw [h2]; rfl⟩
/-- texts whose signs are plain -/
def okS (x : Str) : Prop := ∀ c ∈ x.cps.toList, c < 128
theorem okS.str {x : Str} (k : okS x) : PyData.strOk x = true := by
  unfold PyData.strOk
  rw [Array.all_eq_true]
  intro i hi
  have := k x.cps[i] (by simp)
  simp
  omega
theorem okDs_strs : ∀ {xs : List Str}, (∀ x ∈ xs, okS x) → okDs (xs.map D.str) = true ∧ deps (xs.map D.str) = 0
  | [], _ => ⟨rfl, rfl⟩
  | x :: xs, k => by
    obtain ⟨h1, h2⟩ := okDs_strs fun y hy => k y (List.mem_cons_of_mem _ hy)
    exact ⟨by rw [List.map_cons]; unfold okDs okD; rw [h1, (k x List.mem_cons_self).str]; rfl, by rw [List.map_cons]; unfold deps dep; rw [h2]; rfl⟩
end
end Mp
set_option Elab.async false
set_option linter.all false
set_option maxRecDepth 100000
set_option maxHeartbeats 2000000
namespace Mp
open PySem PySem.Spec PyProof.Rows L2 TL

/-! ### texts cut at a sign -/
theorem first_of {s : Nat} : ∀ {l : List Nat}, s ∈ l → ∃ p r, l = p ++ s :: r ∧ s ∉ p
  | a :: l, h => by
    by_cases e : s = a
    · exact ⟨[], l, by rw [e]; rfl, by simp⟩
    · obtain ⟨p, r, e1, e2⟩ := first_of ((List.mem_cons.mp h).resolve_left e)
      exact ⟨a :: p, r, by rw [e1]; rfl, fun z => (List.mem_cons.mp z).elim e e2⟩
theorem cut_one (s : Nat) : ∀ (n : Nat) (l : List Nat), l.length ≤ n → ∃ ps : List (List Nat), ps ≠ [] ∧ (∀ p ∈ ps, s ∉ p) ∧ l = joinL [s] ps
  | n, l, hn => by
    by_cases h : s ∈ l
    · obtain ⟨p, r, e, hp⟩ := first_of h
      cases n with
      | zero => rw [e] at hn; simp at hn
      | succ n =>
        obtain ⟨ps, h1, h2, h3⟩ := cut_one s n r (by rw [e] at hn; simp at hn; omega)
        obtain ⟨q, qs, eq⟩ := List.exists_cons_of_ne_nil h1
        refine ⟨p :: ps, by simp, fun z hz => ?_, ?_⟩
        · rcases List.mem_cons.mp hz with hz | hz
          · rw [hz]; exact hp
          · exact h2 z hz
        · rw [e, h3, eq]
          rfl
    · exact ⟨[l], by simp, fun z hz => by rw [List.mem_singleton.mp hz]; exact h, rfl⟩
def sg (s : Nat) : Str := ⟨#[s]⟩
theorem cut_is (x : Str) {s : Nat} (hs : s < 256) : Txt.split x (sg s) ≠ [] ∧ (∀ p ∈ Txt.split x (sg s), s ∉ tl p) ∧ Str.join (sg s) (Txt.split x (sg s)) = x := by
  obtain ⟨ps, h1, h2, h3⟩ := cut_one s _ (tl x) (Nat.le_refl _)
  have hk : (sg s).cps.all (· < 256) = true := by simp [sg, hs]
  have e := split_spl x (sg s) (by show tl (sg s) ≠ []; simp [sg, tl]) (kind_ok hk)
  have e2 : spl (tl (sg s)) 0 [] (tl x) = ps := by
    rw [h3]
    exact spl_join (s := s) (S := []) h1 h2
  rw [e2] at e
  refine ⟨fun z => h1 (by rw [← e, z]; rfl), fun p hp => h2 _ (by rw [← e]; exact List.mem_map.mpr ⟨p, hp, rfl⟩), PySem.StrLaws.join_split x (sg s)⟩
theorem joinL_mem {S : List Nat} {c : Nat} : ∀ {ps : List (List Nat)} {p : List Nat}, p ∈ ps → c ∈ p → c ∈ joinL S ps
  | [q], p, hp, hc => by rw [List.mem_singleton.mp hp] at hc; exact hc
  | q :: q2 :: r, p, hp, hc => by
    show c ∈ q ++ (S ++ joinL S (q2 :: r))
    rcases List.mem_cons.mp hp with e | hp
    · rw [← e]; exact List.mem_append_left _ hc
    · exact List.mem_append_right _ (List.mem_append_right _ (joinL_mem hp hc))
theorem joinL_len {S : List Nat} : ∀ {ps : List (List Nat)}, (ps.map (·.length)).sum + (ps.length - 1) * S.length = (joinL S ps).length
  | [] => by simp [joinL]
  | [q] => by simp [joinL]
  | q :: q2 :: r => by
    have ih := joinL_len (S := S) (ps := q2 :: r)
    show _ = (q ++ (S ++ joinL S (q2 :: r))).length
    rw [List.length_append, List.length_append, ← ih]
    simp only [List.map_cons, List.sum_cons, List.length_cons, Nat.add_sub_cancel]
    rw [Nat.add_mul]
    omega
theorem le_sum_of_mem : ∀ {l : List Nat} {n : Nat}, n ∈ l → n ≤ l.sum
  | a :: l, n, h => by
    rw [List.sum_cons]
    rcases List.mem_cons.mp h with h | h
    · omega
    · have := le_sum_of_mem h; omega
theorem len_tl' (x : Str) : (tl x).length = x.length := by simp [tl, Str.length]
/-- what the pieces of a text are -/
theorem cut_facts (x : Str) {s : Nat} (hs : s < 256) (k : okS x) : (∀ p ∈ Txt.split x (sg s), okS p ∧ p.length ≤ x.length) ∧ (Txt.split x (sg s)).length ≤ x.length + 1 := by
  obtain ⟨h1, h2, h3⟩ := cut_is x hs
  have e : joinL [s] ((Txt.split x (sg s)).map tl) = tl x := by
    have := tl_join (sg s) (Txt.split x (sg s))
    rw [h3] at this
    exact this.symm
  have el := joinL_len (S := [s]) (ps := (Txt.split x (sg s)).map tl)
  rw [e, len_tl'] at el
  refine ⟨fun p hp => ⟨fun c hc => k c ?_, ?_⟩, ?_⟩
  · have : c ∈ tl x := by rw [← e]; exact joinL_mem (List.mem_map.mpr ⟨p, hp, rfl⟩) hc
    exact this
  · have : (tl p).length ≤ (((Txt.split x (sg s)).map tl).map (·.length)).sum := le_sum_of_mem (List.mem_map.mpr ⟨tl p, List.mem_map.mpr ⟨p, hp, rfl⟩, rfl⟩)
    rw [len_tl'] at this
    omega
  · simp at el
    omega

/-! ### comprehensions over what stands still -/
/-- turn by turn: what is known of the results goes along -/
theorem comp_rel {src : Src} {k n : Nat} {fe : EF D} {ρ : Env} {h0 : MH} {items : List D} {Rl : MH → D → D → Prop} (hn : items.length < n) (hz : items.length ≤ 16777216)
    (hsrc : ∀ h' j, Kp [] h0 h' → src j h' = some items[j]?)
    (mono : ∀ h h' d y, Kp [] h h' → Rl h d y → Rl h' d y)
    (step : ∀ d ∈ items, ∀ h', Kp [] h0 h' → ∃ y h'', fe (ρ.set k (some d)) h' = .ok y h'' ∧ Kp [] h' h'' ∧ Rl h'' d y) :
    ∃ ys h', compL src (.nm k) fYes fe ρ n 0 [] h0 = .ok (.ref h'.length) (h' ++ [.lst ys]) ∧ Kp [] h0 h' ∧ ys.length = items.length ∧ ∀ (j : Nat) d, items[j]? = some d → ∃ y, ys[j]? = some y ∧ Rl h' d y := by
  have go : ∀ (m i : Nat) (acc : List D) (h : MH), i ≤ items.length → items.length - i < m → acc.length = i → Kp [] h0 h → (∀ (j : Nat) d, j < i → items[j]? = some d → ∃ y, acc[j]? = some y ∧ Rl h d y) →
      ∃ ys h', compL src (.nm k) fYes fe ρ m i acc h = .ok (.ref h'.length) (h' ++ [.lst ys]) ∧ Kp [] h0 h' ∧ ys.length = items.length ∧ ∀ (j : Nat) d, items[j]? = some d → ∃ y, ys[j]? = some y ∧ Rl h' d y := by
    intro m
    induction m with
    | zero => intro i acc h _ h2; omega
    | succ m ih =>
      intro i acc h h1 h2 h3 h4 h5
      unfold compL
      rw [hsrc h i h4]
      by_cases hi : i < items.length
      · rw [List.getElem?_eq_getElem hi]
        dsimp only [tgF, fYes]
        obtain ⟨y, h'', e1, e2, e3⟩ := step _ (List.getElem_mem hi) h h4
        rw [e1]
        dsimp only
        rw [if_pos (by omega)]
        refine ih (i + 1) (acc ++ [y]) h'' (by omega) (by omega) (by simp [h3]) (h4.trans e2 fun n _ hs => ⟨hs, hs⟩) fun j d hj ed => ?_
        by_cases hji : j < i
        · obtain ⟨z, z1, z2⟩ := h5 j d hji ed
          exact ⟨z, by rw [List.getElem?_append_left (by omega)]; exact z1, mono _ _ _ _ e2 z2⟩
        · have : j = i := by omega
          subst this
          rw [List.getElem?_eq_getElem hi] at ed
          cases ed
          exact ⟨y, by rw [← h3]; simp, e3⟩
      · rw [List.getElem?_eq_none (by omega)]
        dsimp only
        refine ⟨acc, h, rfl, h4, by omega, fun j d ed => ?_⟩
        have : j < items.length := (List.getElem?_eq_some_iff.mp ed).1
        exact h5 j d (by omega) ed
  exact go n 0 [] h0 (Nat.zero_le _) (by omega) rfl Kp.refl fun j d hj => absurd hj (Nat.not_lt_zero _)
/-- nothing new is made in the turns -/
theorem comp_pure {α : Type} {src : Src} {k n : Nat} {fe : EF D} {ρ : Env} {h0 : MH} {items : List α} {mk f : α → D} (hn : items.length < n) (hz : items.length ≤ 16777216)
    (hsrc : ∀ j, src j h0 = some (items[j]?.map mk)) (step : ∀ d ∈ items, fe (ρ.set k (some (mk d))) h0 = .ok (f d) h0) :
    compL src (.nm k) fYes fe ρ n 0 [] h0 = .ok (.ref h0.length) (h0 ++ [.lst (items.map f)]) := by
  have go : ∀ (m i : Nat), i ≤ items.length → items.length - i < m → compL src (.nm k) fYes fe ρ m i ((items.take i).map f) h0 = .ok (.ref h0.length) (h0 ++ [.lst (items.map f)]) := by
    intro m
    induction m with
    | zero => intro i _ h2; omega
    | succ m ih =>
      intro i h1 h2
      unfold compL
      rw [hsrc i]
      by_cases hi : i < items.length
      · rw [List.getElem?_eq_getElem hi]
        dsimp only [tgF, fYes, Option.map]
        rw [step _ (List.getElem_mem hi)]
        dsimp only
        rw [if_pos (by rw [List.length_map, List.length_take]; omega)]
        have e : (items.take i).map f ++ [f items[i]] = (items.take (i + 1)).map f := by
          rw [List.take_add_one, List.map_append, List.getElem?_eq_getElem hi]; rfl
        rw [e]
        exact ih (i + 1) (by omega) (by omega)
      · rw [List.getElem?_eq_none (by omega)]
        dsimp only [Option.map]
        rw [List.take_of_length_le (by omega)]
  have := go n 0 (Nat.zero_le _) (by omega)
  simpa using this
/-- with a test; nothing new is made in the turns -/
theorem comp_filter {α : Type} {src : Src} {k n : Nat} {ft : EF Bool} {fe : EF D} {ρ : Env} {h0 : MH} {items : List α} {b : α → Bool} {mk f : α → D} (hn : items.length < n) (hz : items.length ≤ 16777216)
    (hsrc : ∀ j, src j h0 = some (items[j]?.map mk)) (test : ∀ d ∈ items, ft (ρ.set k (some (mk d))) h0 = .ok (b d) h0) (step : ∀ d ∈ items, fe (ρ.set k (some (mk d))) h0 = .ok (f d) h0) :
    compL src (.nm k) ft fe ρ n 0 [] h0 = .ok (.ref h0.length) (h0 ++ [.lst ((items.filter b).map f)]) := by
  have go : ∀ (m i : Nat), i ≤ items.length → items.length - i < m → compL src (.nm k) ft fe ρ m i (((items.take i).filter b).map f) h0 = .ok (.ref h0.length) (h0 ++ [.lst ((items.filter b).map f)]) := by
    intro m
    induction m with
    | zero => intro i _ h2; omega
    | succ m ih =>
      intro i h1 h2
      unfold compL
      rw [hsrc i]
      by_cases hi : i < items.length
      · have e : items.take (i + 1) = items.take i ++ [items[i]] := by rw [List.take_add_one, List.getElem?_eq_getElem hi]; rfl
        have hl : ((items.take i).filter b).length ≤ i := Nat.le_trans (List.length_filter_le ..) (by rw [List.length_take]; omega)
        have ih' := ih (i + 1) (by omega) (by omega)
        rw [e, List.filter_append, List.map_append] at ih'
        rw [List.getElem?_eq_getElem hi]
        dsimp only [tgF, Option.map]
        rw [test _ (List.getElem_mem hi)]
        cases hb : b items[i] with
        | false =>
          dsimp only
          rw [List.filter_cons_of_neg (by simp [hb]), List.filter_nil, List.map_nil, List.append_nil] at ih'
          exact ih'
        | true =>
          dsimp only
          rw [step _ (List.getElem_mem hi)]
          dsimp only
          rw [if_pos (by rw [List.length_map]; omega)]
          rw [List.filter_cons_of_pos (by simp [hb]), List.filter_nil, List.map_singleton] at ih'
          exact ih'
      · rw [List.getElem?_eq_none (by omega)]
        dsimp only [Option.map]
        rw [List.take_of_length_le (by omega)]
  have := go n 0 (Nat.zero_le _) (by omega)
  simpa using this

/-! ### loops -/
theorem for_step {src : Src} {k n i : Nat} {s : SF} {ρ : Env} {h : MH} {d : D} (e : src i h = some (some d)) : sForL src (gN k) s (n + 1) i ρ h = (match s (ρ.set k (some d)) h with
    | .ok .nx ρ h => sForL src (gN k) s n (i + 1) ρ h
    | .ok .ct ρ h => sForL src (gN k) s n (i + 1) ρ h
    | .ok .bk ρ h => .ok .nx ρ h
    | r => r) := by
  conv => lhs; unfold sForL
  rw [e]
  rfl
theorem for_end {src : Src} {g : D → SF} {n i : Nat} {s : SF} {ρ : Env} {h : MH} (e : src i h = some none) : sForL src g s (n + 1) i ρ h = .ok .nx ρ h := by
  unfold sForL
  rw [e]
/-- a loop that goes through -/
theorem for_inv {src : Src} {k n N : Nat} {s : SF} {ρ : Env} {h : MH} {item : Nat → D} (I : Nat → Env → MH → Prop) (hn : N < n)
    (hsrc : ∀ j ρ h, I j ρ h → j ≤ N → src j h = some (if j < N then some (item j) else none))
    (step : ∀ j ρ h, I j ρ h → j < N → ∃ ρ' h', s (ρ.set k (some (item j))) h = .ok .nx ρ' h' ∧ I (j + 1) ρ' h') (i0 : I 0 ρ h) :
    ∃ ρ' h', sForL src (gN k) s n 0 ρ h = .ok .nx ρ' h' ∧ I N ρ' h' := by
  have go : ∀ (m j : Nat) (ρ : Env) (h : MH), j ≤ N → N - j < m → I j ρ h → ∃ ρ' h', sForL src (gN k) s m j ρ h = .ok .nx ρ' h' ∧ I N ρ' h' := by
    intro m
    induction m with
    | zero => intro j _ _ _ h2; omega
    | succ m ih =>
      intro j ρ h h1 h2 hI
      have e := hsrc j ρ h hI h1
      by_cases hj : j < N
      · rw [if_pos hj] at e
        obtain ⟨ρ', h', e1, e2⟩ := step j ρ h hI hj
        rw [for_step e, e1]
        exact ih (j + 1) ρ' h' (by omega) (by omega) e2
      · rw [if_neg hj] at e
        have : j = N := by omega
        subst this
        exact ⟨ρ, h, for_end e, hI⟩
  exact go n 0 ρ h (Nat.zero_le _) (by omega) i0
theorem while_t {ft : EF Bool} {s : SF} {n : Nat} {ρ : Env} {h h' : MH} (e : ft ρ h = .ok true h') : sWhile ft s (n + 1) ρ h = (match s ρ h' with
    | .ok .nx ρ h => sWhile ft s n ρ h
    | .ok .ct ρ h => sWhile ft s n ρ h
    | .ok .bk ρ h => .ok .nx ρ h
    | r => r) := by
  conv => lhs; unfold sWhile
  rw [e]
  rfl
theorem while_f {ft : EF Bool} {s : SF} {n : Nat} {ρ : Env} {h h' : MH} (e : ft ρ h = .ok false h') : sWhile ft s (n + 1) ρ h = .ok .nx ρ h' := by
  unfold sWhile
  rw [e]
  rfl
theorem FU_pos (m : Nat) (h : m < 2 ^ 40) : ∃ n, FU = n + 1 ∧ m ≤ n := ⟨2 ^ 40 - 1, by unfold FU; omega, by omega⟩
end Mp
set_option Elab.async false
set_option linter.all false
set_option maxRecDepth 100000
set_option maxHeartbeats 4000000
namespace W86
open PySem PySem.Spec PyProof.Rows L2 Mp

/-- the pen at p: at most c draws so far -/
structure Pen (h : MH) (p c : Nat) : Prop where
  ex : ∃ (s : Nat) (ns : List Int) (k r : Int), h[p]? = some (.lst [.ref s, .int k, .int r]) ∧ h[s]? = some (.lst (ns.map D.int)) ∧ s < p ∧ ns.length ≤ 63 ∧ (0 ≤ k ∧ k ≤ c) ∧ 0 ≤ r
theorem Pen.lt {h : MH} {p c : Nat} (P : Pen h p c) : p < h.length := by
  obtain ⟨s, ns, k, r, h1, _⟩ := P.ex
  exact ltOf h1
theorem Pen.kp {h h' : MH} {p c : Nat} (P : Pen h p c) (a : Kp [] h h') : Pen h' p c := by
  obtain ⟨s, ns, k, r, h1, h2, h3⟩ := P.ex
  exact ⟨s, ns, k, r, a.get h1 (by simp), a.get h2 (by simp), h3⟩
theorem Pen.up {h : MH} {p c c' : Nat} (P : Pen h p c) (a : c ≤ c') : Pen h p c' := by
  obtain ⟨s, ns, k, r, h1, h2, h3, h4, h5, h6⟩ := P.ex
  exact ⟨s, ns, k, r, h1, h2, h3, h4, ⟨h5.1, by omega⟩, h6⟩
theorem int_lt_pow {a : Int} {b : Nat} (h0 : 0 ≤ a) (h : a < b) : a.natAbs < b := by omega
theorem draw_ok {h : MH} {p c : Nat} {u : Int} (P : Pen h p c) (hc : c < 1000000) (h0 : 0 < u) (hu : u < 1073741824) :
    ∃ (d : Nat) (h' : MH), F__law_draw [.ref p, .int u] h = .ok (.int d) h' ∧ (d : Int) < u ∧ Pen h' p (c + 1) ∧ Kp [p] h h' := by
  obtain ⟨s, ns, k, r, hp, hs, hlt, hl, ⟨hk00, hk⟩, hr⟩ := P.ex
  have hne : s ≠ p := Nat.ne_of_lt hlt
  have lp := ltOf hp
  have ls := ltOf hs
  have hne' : p ≠ s := Ne.symm hne
  have mod_nat : ∀ i : Int, ∃ d : Nat, i % u = (d : Int) ∧ (d : Int) < u := fun i => ⟨(i % u).toNat, by have := Int.emod_nonneg i (show u ≠ 0 by omega); omega, by have := Int.emod_lt_of_pos i h0; have := Int.emod_nonneg i (show u ≠ 0 by omega); omega⟩
  have fin0 : ∀ (k' r' : Int), (0 ≤ k' ∧ k' ≤ ((c + 1 : Nat) : Int)) → 0 ≤ r' → Pen (h.set p (.lst [.ref s, .int k', .int r'])) p (c + 1) ∧ Kp [p] h (h.set p (.lst [.ref s, .int k', .int r'])) := fun k' r' h1 h2 =>
    ⟨⟨s, ns, k', r', set_new hp, set_old hs hne', hlt, hl, h1, h2⟩, Kp.refl.set (.inl (by simp))⟩
  by_cases hr0 : 0 < r
  · obtain ⟨d, e1, e2⟩ := mod_nat r
    obtain ⟨f1, f2⟩ := fin0 k (r / u) ⟨by omega, by omega⟩ (Int.ediv_nonneg hr (by omega))
    refine ⟨d, _, ?_, e2, f1, f2⟩
    simp [F__law_draw, s__law_draw, lstAt hp, mutAt hp, hr0, h0, hu, e1, ixN]
  · have r0 : r = 0 := by omega
    subst r0
    obtain ⟨h1, e1⟩ : ∃ h1, h1 = h.set p (.lst [.ref s, .int (k + 1), .int 0]) := ⟨_, rfl⟩
    have e1' : h.set p (.lst [.ref s, .int (k + 1), .int 0]) = h1 := e1.symm
    have p1 : h1[p]? = some (.lst [.ref s, .int (k + 1), .int 0]) := by rw [e1]; exact set_new hp
    have s1 : h1[s]? = some (.lst (ns.map D.int)) := by rw [e1]; exact set_old hs hne'
    have kp1 : Kp [p] h h1 := by rw [e1]; exact Kp.refl.set (.inl (by simp))
    obtain ⟨h2, e2⟩ : ∃ h2, h2 = h1 ++ [O.lst []] := ⟨_, rfl⟩
    have e2' : h1 ++ [O.lst []] = h2 := e2.symm
    have p2 : h2[p]? = some (.lst [.ref s, .int (k + 1), .int 0]) := by rw [e2]; exact push_old p1
    have s2 : h2[s]? = some (.lst (ns.map D.int)) := by rw [e2]; exact push_old s1
    have q2 : h2[h1.length]? = some (.lst []) := by rw [e2]; exact push_new
    have kp2 : Kp [p] h h2 := by rw [e2]; exact kp1.push
    obtain ⟨i1, i2⟩ := okDs_ints ns
    have ne2 := ne_nil (lstAt s2) i1 (by omega) (lstAt q2)
    have p1l := lstAt p1
    have hkk : 51437 * k * k ≤ 51437 * 1000000 * 1000000 := by
      have : k ≤ 1000000 := by omega
      have a : k * k ≤ 1000000 * 1000000 := Int.mul_le_mul this this (by omega) (by omega)
      rw [Int.mul_assoc]; omega
    have hkk0 : 0 ≤ 51437 * k * k := by
      have : 0 ≤ k * k := Int.mul_nonneg (by omega) (by omega)
      rw [Int.mul_assoc]; omega
    have last : ∀ (cell : Int), ∃ (fi : Int) (d : Nat), (cell % 2147483563 + 51437 * k * k + 30431 * k + 57).natAbs < 18446744073709551616 ∧ (cell % 2147483563 + 51437 * k * k + 30431 * k + 57) ^ 3 % 2147483647 = fi ∧ (MulR fi (2 * k + 31) ∧ True) ∧
        (fi * (2 * k + 31) + 51437).natAbs < 18446744073709551616 ∧ (((fi * (2 * k + 31) + 51437) ^ 5 % 2147483549) / 64) % u = (d : Int) ∧ (d : Int) < u := by
      intro cell
      have b1 : (cell % 2147483563 + 51437 * k * k + 30431 * k + 57).natAbs < 18446744073709551616 := by omega
      obtain ⟨fi, hfi, b2⟩ : ∃ fi : Nat, (cell % 2147483563 + 51437 * k * k + 30431 * k + 57) ^ 3 % 2147483647 = (fi : Int) ∧ (fi : Int) < 2147483647 := by
        generalize (cell % 2147483563 + 51437 * k * k + 30431 * k + 57) ^ 3 = z
        exact ⟨(z % 2147483647).toNat, by omega, by omega⟩
      have b3 : ((fi : Int) * (2 * k + 31) + 51437).natAbs < 18446744073709551616 := by
        have a : (fi : Int) * (2 * k + 31) ≤ 2147483647 * 2000031 := Int.mul_le_mul (by omega) (by omega) (by omega) (by omega)
        have b : 0 ≤ (fi : Int) * (2 * k + 31) := Int.mul_nonneg (by omega) (by omega)
        omega
      obtain ⟨d, e3, e4⟩ := mod_nat ((((fi : Int) * (2 * k + 31) + 51437) ^ 5 % 2147483549) / 64)
      exact ⟨(fi : Int), d, b1, hfi, ⟨mulR_l (by omega), trivial⟩, b3, e3, e4⟩
    have k1 : k < 18446744073709551616 := by omega
    have k2 : (-18446744073709551616 : Int) < k := by omega
    have P2 : Pen h2 p (c + 1) := ⟨s, ns, k + 1, 0, p2, s2, hlt, hl, ⟨by omega, by omega⟩, by omega⟩
    have hk0 : ¬ (k < 0) := by omega
    have ma : ∀ j, MulR 8467 j := fun j => mulR_l (by decide)
    have mb : ∀ j, MulR 51437 j := fun j => mulR_l (by decide)
    have mc : MulR (51437 * k) k := mulR_l (by omega)
    have md : ∀ j, MulR 30431 j := fun j => mulR_l (by decide)
    have me : ∀ j, MulR 2 j := fun j => mulR_l (by decide)
    have p2l := lstAt p2
    have s2l := lstAt s2
    have m2 := mutAt p2
    by_cases hns : ns = []
    · subst hns
      obtain ⟨fi, d, b1, b2, ⟨b3, b3'⟩, b4, b5, b6⟩ := last (8467 * k + 331)
      refine ⟨d, h2, ?_, b6, P2, kp2⟩
      simp at ne2 s2l
      simp [F__law_draw, s__law_draw, lstAt hp, mutAt hp, hr0, h0, hu, ixN, e1', e2', p1l, ne2, p2l, s2l, b1, b2, b3, b4, b5, hk0, ma, mb, mc, md, me]
    · have hl0 : 0 < ns.length := List.length_pos_iff.mpr hns
      have hl0' : (0 : Int) < ns.length := by omega
      obtain ⟨cell, hcell⟩ : ∃ cell, atI (ns.map D.int) (k % (ns.length : Int)) = some (D.int cell) := by
        have hi0 : 0 ≤ k % (ns.length : Int) := Int.emod_nonneg _ (by omega)
        have hi1 : k % (ns.length : Int) < ns.length := Int.emod_lt_of_pos _ hl0'
        have hi : (k % (ns.length : Int)).toNat < ns.length := by omega
        obtain ⟨j, ej, hj⟩ : ∃ j : Nat, k % (ns.length : Int) = (j : Int) ∧ j < ns.length := ⟨(k % (ns.length : Int)).toNat, by omega, hi⟩
        refine ⟨ns[j], ?_⟩
        rw [ej, Mp.atI_nat (l := ns.map D.int)]
        simp [hj]
      have nee : (ns.map D.int).isEmpty = false := by cases ns with | nil => exact absurd rfl hns | cons _ _ => rfl
      simp only [nee, Bool.not_false] at ne2
      by_cases hbig : k < ns.length ∧ (1000000000000000000 : Int) ≤ (if cell < 0 then -cell else cell)
      · obtain ⟨g1, g2⟩ := hbig
        obtain ⟨gr, hgr⟩ : ∃ gr, gr = 2 * ((if cell < 0 then -cell else cell) - 1000000000000000000) + (if cell < 0 then (1 : Int) else 0) := ⟨_, rfl⟩
        have hgr0 : 0 ≤ gr := by
          rw [hgr]
          split <;> omega
        obtain ⟨d, e3, e4⟩ := mod_nat gr
        have P3 : Pen (h2.set p (.lst [.ref s, .int (k + 1), .int (gr / u)])) p (c + 1) := ⟨s, ns, k + 1, gr / u, by rw [set_new p2], set_old s2 hne', hlt, hl, ⟨by omega, by omega⟩, Int.ediv_nonneg hgr0 (by omega)⟩
        refine ⟨d, _, ?_, e4, P3, kp2.set (.inl (by simp))⟩

        simp [F__law_draw, s__law_draw, lstAt hp, mutAt hp, hr0, h0, hu, ixN, e1', e2', p1l, ne2, p2l, s2l, hk0, hl0, hcell, g1, g2, m2, ma, me]
        rw [hgr] at e3
        exact ⟨e3, by rw [hgr]⟩
      · obtain ⟨fi, d, b1, b2, ⟨b3, b3'⟩, b4, b5, b6⟩ := last cell
        refine ⟨d, h2, ?_, b6, P2, kp2⟩
        rcases Decidable.em (k < ns.length) with g1 | g1
        · have g1n : True := trivial
          have g2 : ¬ ((1000000000000000000 : Int) ≤ (if cell < 0 then -cell else cell)) := fun z => hbig ⟨g1, z⟩
          simp [F__law_draw, s__law_draw, lstAt hp, mutAt hp, hr0, h0, hu, ixN, e1', e2', p1l, ne2, p2l, s2l, hl0, hcell, g1, g1n, g2, b1, b2, b3, b4, b5, hk0, ma, mb, mc, md, me]
        · have g1n : True := trivial
          simp [F__law_draw, s__law_draw, lstAt hp, mutAt hp, hr0, h0, hu, ixN, e1', e2', p1l, ne2, p2l, s2l, hl0, hcell, g1, g1n, b1, b2, b3, b4, b5, hk0, ma, mb, mc, md, me]
end W86
set_option Elab.async false
set_option linter.all false
set_option maxRecDepth 100000
set_option maxHeartbeats 4000000
namespace W86
open PySem Mp TL
open L2 (cutS)

theorem pick_ok {h : MH} {p c l : Nat} {L : List D} (P : Pen h p c) (hc : c < 1000000) (e : h[l]? = some (.lst L)) (hlp : l ≠ p) (hL : L ≠ []) (hl : L.length < 1073741824) :
    ∃ y ∈ L, ∃ h', F__law_pick [.ref p, .ref l] h = .ok y h' ∧ Pen h' p (c + 1) ∧ Kp [p] h h' := by
  have h0 : (0 : Int) < L.length := by have := List.length_pos_iff.mpr hL; omega
  obtain ⟨d, h', e1, e2, e3, e4⟩ := draw_ok P hc h0 (by omega)
  have hd : d < L.length := by omega
  refine ⟨L[d], List.getElem_mem hd, h', ?_, e3, e4⟩
  have e5 := e4.get e (by simpa using hlp)
  simp [F__law_pick, s__law_pick, lstAt e, e1, lstAt e5, Mp.atI_nat (l := L) (j := d), hd]

/-! ### names, numbers -/
def az : Str := cutS "abcdefghijklmnopqrstuvwxyz0123456789" none (some 26)
def isName (x : Str) : Bool := decide (1 ≤ x.length) && (decide (x.length ≤ 12) && ((x.cps.toList.headD 0 ∈ az.cps.toList) && x.cps.toList.all fun c => decide (c ∈ ("abcdefghijklmnopqrstuvwxyz0123456789" : Str).cps.toList)))
theorem srcS_at (x : Str) (j : Nat) (h : MH) : srcS x j h = some (x.cps.toList[j]?.map fun c => D.str ⟨#[c]⟩) := by
  unfold srcS
  rw [Array.getElem?_toList]
theorem in_sign {c : Nat} {y : Str} {h : MH} (b : Bool) : gIn b (.str ⟨#[c]⟩) (.str y) h = .ok (.bl (xor b (decide (c ∈ y.cps.toList)))) h := by
  unfold gIn
  simp
theorem bls_map {α : Type} (f : α → Bool) : ∀ l : List α, blsOf (l.map fun a => D.bl (f a)) = some (l.map f)
  | [] => rfl
  | a :: l => by rw [List.map_cons]; unfold blsOf; rw [bls_map f l]; rfl
theorem all_ref {h : MH} {n : Nat} {α : Type} {f : α → Bool} {l : List α} (e : listOf h n = some (l.map fun a => D.bl (f a))) : gAll [.ref n] h = .ok (.bl (l.all f)) h := by
  unfold gAll gQ
  dsimp only
  rw [e]
  dsimp only
  rw [bls_map]
  dsimp only
  rw [List.all_map]
  rfl
theorem isi_str {x : Str} {h : MH} : gIsi [.str x, .ty "str"] h = .ok (.bl true) h := by
  unfold gIsi tyOf
  simp
theorem FU_big {n : Nat} (h : n ≤ 16777216) : n < FU := by unfold FU; omega
theorem comp_signs {x : Str} {k : Nat} {fe : EF D} {ρ : Mp.Env} {h : MH} {g : Nat → D} (hx : x.length ≤ 16777216) (step : ∀ c, fe (ρ.set k (some (.str ⟨#[c]⟩))) h = .ok (g c) h) :
    compL (srcS x) (.nm k) fYes fe ρ FU 0 [] h = .ok (.ref h.length) (h ++ [.lst (x.cps.toList.map g)]) :=
  comp_pure (mk := fun c => D.str ⟨#[c]⟩) (FU_big (by rw [len_tl']; exact hx)) (by rw [len_tl']; exact hx) (fun j => srcS_at x j h) fun c _ => step c
theorem is_name_ok {x : Str} {h : MH} (hx : x.length ≤ 16777216) : ∃ h', F_is_name [.str x] h = .ok (.bl (isName x)) h' ∧ Kp [] h h' := by
  by_cases h1 : 1 ≤ x.length
  · by_cases h2 : x.length ≤ 12
    · obtain ⟨c0, r, ec⟩ : ∃ c0 r, x.cps.toList = c0 :: r := by
        cases q : x.cps.toList with
        | nil => rw [← len_tl' x] at h1; simp [tl, q] at h1
        | cons c0 r => exact ⟨c0, r, rfl⟩
      have el : ((x.length : Nat) : Int) = x.length := rfl
      have hl36 : (Str.ofString "abcdefghijklmnopqrstuvwxyz0123456789").length ≤ 16777216 := by decide
      have ha : cutS "abcdefghijklmnopqrstuvwxyz0123456789" none (some 26) = az := rfl
      have cp : ∀ ρ hh, ρ = [some (D.str x), none] → compL (srcS x) (.nm 1) fYes (fOp (gIn false) (fVar 1) (fC (.str "abcdefghijklmnopqrstuvwxyz0123456789"))) ρ FU 0 [] hh = .ok (.ref hh.length) (hh ++ [.lst (x.cps.toList.map fun c => D.bl (decide (c ∈ ("abcdefghijklmnopqrstuvwxyz0123456789" : Str).cps.toList)))]) := fun ρ hh e => by
        subst e
        exact comp_signs hx fun c => by simp [in_sign]
      have c0a : x.cps[0]? = some c0 := by rw [← Array.getElem?_toList, ec]; rfl
      have hn : isName x = (decide (c0 ∈ az.cps.toList) && x.cps.toList.all fun c => decide (c ∈ ("abcdefghijklmnopqrstuvwxyz0123456789" : Str).cps.toList)) := by
        unfold isName
        rw [decide_eq_true h1, decide_eq_true h2, ec]
        rfl
      by_cases h3 : c0 ∈ az.cps
      · refine ⟨h ++ [.lst (x.cps.toList.map fun c => D.bl (decide (c ∈ ("abcdefghijklmnopqrstuvwxyz0123456789" : Str).cps.toList)))], ?_, Kp.refl.push⟩
        have ea := all_ref (f := fun c => decide (c ∈ ("abcdefghijklmnopqrstuvwxyz0123456789" : Str).cps.toList)) (lstAt (push_new (h := h) (o := .lst (x.cps.toList.map fun c => D.bl (decide (c ∈ ("abcdefghijklmnopqrstuvwxyz0123456789" : Str).cps.toList))))))
        simp [F_is_name, s_is_name, isi_str, Mp.len_str, hx, show (1 : Int) ≤ x.length by omega, show (x.length : Int) ≤ 12 by omega, Mp.ix_str, c0a, gSl, ha, hl36, in_sign, h3, srcOf, wipeE, tgV]
        rw [cp _ _ rfl]
        simp at ea
        simp [ea, hn, h3]
      · refine ⟨h, ?_, Kp.refl⟩
        simp [F_is_name, s_is_name, isi_str, Mp.len_str, hx, show (1 : Int) ≤ x.length by omega, show (x.length : Int) ≤ 12 by omega, Mp.ix_str, c0a, gSl, ha, hl36, in_sign, h3, hn]
    · refine ⟨h, ?_, Kp.refl⟩
      have hn : isName x = false := by unfold isName; rw [decide_eq_false h2]; simp
      simp [F_is_name, s_is_name, isi_str, Mp.len_str, hx, show (1 : Int) ≤ x.length by omega, show ¬ (x.length : Int) ≤ 12 by omega, hn]
  · refine ⟨h, ?_, Kp.refl⟩
    have hn : isName x = false := by unfold isName; rw [decide_eq_false h1]; simp
    simp [F_is_name, s_is_name, isi_str, Mp.len_str, hx, show ¬ (1 : Int) ≤ x.length by omega, hn]
end W86
set_option Elab.async false
set_option linter.all false
set_option maxRecDepth 100000
set_option maxHeartbeats 4000000
namespace W86
open PySem Mp TL
open L2 (cutS)

def dg (x : Str) : Str := if cutS x none (some 1) = "-" then cutS x (some 1) none else x
def dgs : Str := "0123456789"
theorem dgs_eq : (Str.ofString "0123456789") = dgs := rfl
def isDg (c : Nat) : Bool := decide (c ∈ dgs.cps.toList)
def hd (x : Str) : Str := ⟨#[x.cps.toList.headD 0]⟩
def isWr (x : Str) : Bool := !decide (dg x = "") && (((dg x).cps.toList.all isDg) && (decide ((dg x).length ≤ 40) && (decide (x = "0") || !decide (hd (dg x) = "0"))))
theorem dg_len (x : Str) : (dg x).length ≤ x.length := by
  unfold dg
  split
  · exact L2.cutS_length _ _ _
  · exact Nat.le_refl _
theorem empty_of {x : Str} : x = "" ↔ x.cps.toList = [] := by
  constructor
  · intro e; rw [e]; rfl
  · intro e
    obtain ⟨⟨l⟩⟩ := x
    have : l = [] := e
    subst this
    rfl
theorem first_of_ne {x : Str} (h : ¬ x = "") : ∃ c r, x.cps.toList = c :: r ∧ x.cps[0]? = some c ∧ hd x = ⟨#[c]⟩ := by
  cases q : x.cps.toList with
  | nil => exact absurd (empty_of.mpr q) h
  | cons c r => exact ⟨c, r, rfl, by rw [← Array.getElem?_toList, q]; rfl, by unfold hd; rw [q]; rfl⟩
theorem is_written_ok {x : Str} {h : MH} (hx : x.length ≤ 16777216) : ∃ h', F_is_written [.str x] h = .ok (.bl (isWr x)) h' ∧ Kp [] h h' := by
  have hd1 : (if cutS x none (some 1) = Str.ofString "-" then cutS x (some 1) none else x) = dg x := rfl
  have dl := Nat.le_trans (dg_len x) hx
  have start : ∀ (s : SF), fin ((sSeq (sAsg (fIf (fB (fOp gEq (fSl (fVar 0) fNoP (fPart (fC (.int 1)))) (fC (.str "-")))) (fSl (fVar 0) (fPart (fC (.int 1))) fNoP) (fVar 0)) (gN 1)) s) [some (.str x), none, none] h) = fin (s [some (.str x), some (.str (dg x)), none] h) := by
    intro s
    by_cases c : cutS x none (some 1) = Str.ofString "-"
    · have : dg x = cutS x (some 1) none := by unfold dg; exact if_pos c
      simp [gSl, hx, c, this]
    · have : dg x = x := by unfold dg; exact if_neg c
      simp [gSl, hx, c, this]
  have cp : ∀ ρ hh, ρ = [some (D.str x), some (D.str (dg x)), none] → compL (srcS (dg x)) (.nm 2) fYes (fOp (gIn false) (fVar 2) (fC (.str (Str.ofString "0123456789")))) ρ FU 0 [] hh = .ok (.ref hh.length) (hh ++ [.lst ((dg x).cps.toList.map fun c => D.bl (isDg c))]) := fun ρ hh e => by
    subst e
    exact comp_signs dl fun c => by simp [in_sign, isDg, dgs]
  have ea := all_ref (f := isDg) (lstAt (push_new (h := h) (o := .lst ((dg x).cps.toList.map fun c => D.bl (isDg c)))))
  unfold F_is_written s_is_written
  rw [mk_go (np := 1) (nn := 3) (ds := [.str x]) (ρ' := [some (.str x), none, none]) rfl rfl, start]
  by_cases e0 : dg x = ""
  · refine ⟨h, ?_, Kp.refl⟩
    have : isWr x = false := by unfold isWr; simp [e0]
    simp [e0, this]
  · obtain ⟨c, r, f1, f2, f3⟩ := first_of_ne e0
    refine ⟨h ++ [.lst ((dg x).cps.toList.map fun c => D.bl (isDg c))], ?_, Kp.refl.push⟩
    by_cases e1 : (dg x).cps.toList.all isDg = true
    · by_cases e2 : (dg x).length ≤ 40
      · have : isWr x = (decide (x = "0") || !decide (hd (dg x) = "0")) := by unfold isWr; rw [e1, decide_eq_true e2, decide_eq_false e0]; rfl
        rw [this]
        have e2' : ¬ (40 : Int) < (dg x).length := by omega
        by_cases e3 : x = "0"
        · simp [e0, srcOf, cp, wipeE, tgV, ea, e1, Mp.len_str, dl, e2']
          rw [decide_eq_true e3]
          simp
        · simp [e0, srcOf, cp, wipeE, tgV, ea, e1, Mp.len_str, dl, e2', e3, Mp.ix_str, f2, f3]
      · have : isWr x = false := by unfold isWr; rw [decide_eq_false e2]; simp
        have e2' : (40 : Int) < (dg x).length := by omega
        simp [e0, srcOf, cp, wipeE, tgV, ea, e1, Mp.len_str, dl, e2', this]
    · have e1' : (dg x).cps.toList.all isDg = false := by simpa using e1
      have : isWr x = false := by unfold isWr; rw [e1']; simp
      simp [e0, srcOf, cp, wipeE, tgV, ea, e1', this]
/-- what a written number is worth -/
def wrV (x : Str) : Int := (PySem.intText? x).getD 0
theorem isDg_iff {c : Nat} : isDg c = true → 48 ≤ c ∧ c ≤ 57 := by
  have e : dgs.cps.toList = [48, 49, 50, 51, 52, 53, 54, 55, 56, 57] := by decide
  unfold isDg
  rw [e]
  intro h
  have := of_decide_eq_true h
  simp at this
  omega
theorem dg_cases (x : Str) : (x.cps.toList = 45 :: (dg x).cps.toList) ∨ dg x = x := by
  unfold dg
  split
  · rename_i e
    left
    have e1 : (cutS x none (some 1)).cps.toList = [45] := by rw [e]; rfl
    have e2 : (cutS x none (some 1)).cps.toList = x.cps.toList.take (min 1 x.length) := by
      unfold cutS
      simp [HT.sIx]
    have e3 : (cutS x (some 1) none).cps.toList = x.cps.toList.drop (min 1 x.length) := by
      unfold cutS
      simp only [HT.sIx]
      show ((x.cps.toList.drop (min 1 x.length)).take (x.length - min 1 x.length)) = _
      exact List.take_of_length_le (by rw [List.length_drop, len_tl']; omega)
    rw [e3]
    rw [e2] at e1
    have := List.take_append_drop (min 1 x.length) x.cps.toList
    rw [e1] at this
    exact this.symm
  · right; rfl
theorem int_str {x : Str} {h : MH} (k : isWr x = true) : gInt [.str x] h = .ok (.int (wrV x)) h := by
  have k0 := k
  unfold isWr at k
  simp only [Bool.and_eq_true, Bool.not_eq_true', decide_eq_false_iff_not, decide_eq_true_eq] at k
  obtain ⟨k1, k2, k3, k4⟩ := k
  have ad : NumText.AllDigits (dg x).cps.toList := fun c hc => isDg_iff (List.all_eq_true.mp k2 c hc)
  have ne : (dg x).cps.toList ≠ [] := fun z => k1 (empty_of.mpr z)
  have len : x.length ≤ 41 := by
    rcases dg_cases x with e | e
    · have := congrArg List.length e
      rw [List.length_cons, len_tl', len_tl'] at this
      omega
    · rw [e] at k3; omega
  have hv : ∃ n, PySem.intText? x = some n := by
    rcases dg_cases x with e | e
    · exact ⟨_, PySem.intText_neg e ad ne (by omega)⟩
    · rw [e] at ad ne
      exact ⟨_, PySem.intText_digits ad ne (by omega)⟩
  obtain ⟨n, hn⟩ := hv
  unfold gInt wrV
  dsimp only
  rw [if_pos (by omega), hn]
  rfl
theorem is_number_ok {x : Str} {lo hi : Int} {h : MH} (hx : x.length ≤ 16777216) (ok : okS x) : ∃ h', F__law_is_number [.str x, .int lo, .int hi] h = .ok (.bl (isWr x && (decide (lo ≤ wrV x) && decide (wrV x ≤ hi)))) h' ∧ Kp [] h h' := by
  have dl := Nat.le_trans (dg_len x) hx
  have start : ∀ (s : SF), fin ((sSeq (sAsg (fIf (fB (fOp gEq (fSl (fVar 0) fNoP (fPart (fC (.int 1)))) (fC (.str "-")))) (fSl (fVar 0) (fPart (fC (.int 1))) fNoP) (fVar 0)) (gN 3)) s) [some (.str x), some (.int lo), some (.int hi), none, none] h) = fin (s [some (.str x), some (.int lo), some (.int hi), some (.str (dg x)), none] h) := by
    intro s
    by_cases c : cutS x none (some 1) = Str.ofString "-"
    · have : dg x = cutS x (some 1) none := by unfold dg; exact if_pos c
      simp [gSl, hx, c, this]
    · have : dg x = x := by unfold dg; exact if_neg c
      simp [gSl, hx, c, this]
  have okd : ∀ c ∈ (dg x).cps.toList, c < 128 := by
    intro c hc
    unfold dg at hc
    split at hc
    · refine ok c ?_
      unfold cutS at hc
      exact List.mem_of_mem_drop (List.mem_of_mem_take hc)
    · exact ok c hc
  obtain ⟨fl, efl⟩ : ∃ fl, fl = ((dg x).cps.toList.filter fun c => !isDg c) := ⟨_, rfl⟩
  have cp : ∀ ρ hh, ρ = [some (D.str x), some (.int lo), some (.int hi), some (D.str (dg x)), none] → compL (srcS (dg x)) (.nm 4) (fB (fOp (gIn true) (fVar 4) (fC (.str (Str.ofString "0123456789"))))) (fVar 4) ρ FU 0 [] hh = .ok (.ref hh.length) (hh ++ [.lst (fl.map fun c => D.str ⟨#[c]⟩)]) := fun ρ hh e => by
    subst e
    rw [efl]
    exact comp_filter (mk := fun c => D.str ⟨#[c]⟩) (b := fun c => !isDg c) (FU_big (by rw [len_tl']; exact dl)) (by rw [len_tl']; exact dl) (fun j => srcS_at _ j hh) (fun c _ => by simp [in_sign, isDg, dgs]) (fun c _ => by simp)
  have okf : okDs (fl.map fun c => D.str ⟨#[c]⟩) = true ∧ deps (fl.map fun c => D.str ⟨#[c]⟩) = 0 := by
    have := okDs_strs (xs := fl.map fun c => (⟨#[c]⟩ : Str)) (by
      intro y hy
      obtain ⟨c, hc, rfl⟩ := List.mem_map.mp hy
      intro z hz
      have ez : z = c := by simpa using hz
      rw [ez]
      rw [efl] at hc
      exact okd c (List.mem_filter.mp hc).1)
    rw [List.map_map] at this
    exact this
  have fe : fl.isEmpty = (dg x).cps.toList.all isDg := by
    rw [efl]
    induction (dg x).cps.toList with
    | nil => rfl
    | cons c r ih =>
      rw [List.filter_cons, List.all_cons]
      cases hc : isDg c with
      | true => simpa using ih
      | false => simp
  unfold F__law_is_number s__law_is_number
  rw [mk_go (np := 3) (nn := 5) (ds := [.str x, .int lo, .int hi]) (ρ' := [some (.str x), some (.int lo), some (.int hi), none, none]) rfl rfl, start]
  by_cases e0 : dg x = ""
  · refine ⟨h, ?_, Kp.refl⟩
    have : isWr x = false := by unfold isWr; simp [e0]
    simp [e0, this]
  · obtain ⟨c, r, f1, f2, f3⟩ := first_of_ne e0
    by_cases e2 : (dg x).length ≤ 40
    · have e2' : ¬ (40 : Int) < (dg x).length := by omega
      obtain ⟨h2, eh2⟩ : ∃ h2, h2 = (h ++ [O.lst (fl.map fun c => D.str ⟨#[c]⟩)]) ++ [.lst []] := ⟨_, rfl⟩
      have k2 : Kp [] h h2 := by rw [eh2]; exact Kp.refl.push.push
      have ne := ne_nil (h := h2) (n := h.length) (m := (h ++ [O.lst (fl.map fun c => D.str ⟨#[c]⟩)]).length) (l := fl.map fun c => D.str ⟨#[c]⟩) (by rw [eh2]; exact lstAt (push_old push_new)) okf.1 (by omega) (by rw [eh2]; exact lstAt push_new)
      rw [List.isEmpty_map, fe] at ne
      have eh2' := eh2.symm
      simp only [List.append_assoc, List.cons_append, List.nil_append] at eh2'
      simp only [List.length_append, List.length_cons, List.length_nil] at ne
      refine ⟨h2, ?_, k2⟩
      simp only [Nat.zero_add] at ne
      by_cases e1 : (dg x).cps.toList.all isDg = true
      · have iw : isWr x = (decide (x = "0") || !decide (hd (dg x) = "0")) := by unfold isWr; rw [e1, decide_eq_true e2, decide_eq_false e0]; rfl
        rw [e1] at ne
        by_cases e4 : isWr x = true
        · have ei := int_str (h := h2) e4
          have hor : x = "0" ∨ ¬ hd (dg x) = "0" := by
            rw [e4] at iw
            simpa using iw.symm
          rw [e4]
          by_cases e5 : (⟨#[c]⟩ : Str) = "0"
          · have e3 : x = "0" := hor.resolve_right (by rw [f3, e5]; simp)
            simp [e0, Mp.len_str, dl, e2', srcOf, cp, wipeE, tgV, eh2', ne, Mp.ix_str, f2]
            rw [decide_eq_true e5]
            simp
            rw [decide_eq_true e3]
            by_cases e6 : lo ≤ wrV x
            · simp [ei, e6]
            · simp [ei, e6]
          · simp [e0, Mp.len_str, dl, e2', srcOf, cp, wipeE, tgV, eh2', ne, Mp.ix_str, f2]
            rw [decide_eq_false e5]
            by_cases e6 : lo ≤ wrV x
            · simp [ei, e6]
            · simp [ei, e6]
        · have e4' : isWr x = false := by simpa using e4
          rw [e4'] at iw
          have e3 : ¬ x = "0" := fun z => by rw [decide_eq_true z] at iw; simp at iw
          have e5 : (⟨#[c]⟩ : Str) = "0" := by
            rw [decide_eq_false e3, f3] at iw
            simpa using iw.symm
          simp [e0, Mp.len_str, dl, e2', srcOf, cp, wipeE, tgV, eh2', ne, Mp.ix_str, f2, e4']
          rw [decide_eq_true e5]
          simp
          rw [decide_eq_false e3]
          simp
      · have e1' : (dg x).cps.toList.all isDg = false := by simpa using e1
        have iw : isWr x = false := by unfold isWr; rw [e1']; simp
        rw [e1'] at ne
        simp [e0, Mp.len_str, dl, e2', srcOf, cp, wipeE, tgV, eh2', ne, iw]
    · refine ⟨h, ?_, Kp.refl⟩
      have : isWr x = false := by unfold isWr; rw [decide_eq_false e2]; simp
      have e2' : (40 : Int) < (dg x).length := by omega
      simp [e0, Mp.len_str, dl, e2', this]
end W86
set_option Elab.async false
set_option linter.all false
set_option maxRecDepth 100000
set_option maxHeartbeats 4000000
namespace W86
open PySem Mp TL
open L2 (cutS atI)

def isSg (c : Nat) : Bool := decide (c ∈ ("abcdefghijklmnopqrstuvwxyz0123456789" : Str).cps.toList)
theorem okDs_signs {fl : List Nat} (k : ∀ c ∈ fl, c < 128) : okDs (fl.map fun c => D.str ⟨#[c]⟩) = true ∧ deps (fl.map fun c => D.str ⟨#[c]⟩) = 0 := by
  have := okDs_strs (xs := fl.map fun c => (⟨#[c]⟩ : Str)) (by
    intro y hy
    obtain ⟨c, hc, rfl⟩ := List.mem_map.mp hy
    intro z hz
    have ez : z = c := by simpa using hz
    rw [ez]
    exact k c hc)
  rw [List.map_map] at this
  exact this
theorem filter_empty {f : Nat → Bool} : ∀ l : List Nat, (l.filter fun c => !f c).isEmpty = l.all f
  | [] => rfl
  | c :: r => by
    rw [List.filter_cons, List.all_cons]
    cases hc : f c with
    | true => simpa using filter_empty r
    | false => simp
theorem law_is_name_ok {x : Str} {h : MH} (hx : x.length ≤ 16777216) (ok : okS x) : ∃ h', F__law_is_name [.str x] h = .ok (.bl (isName x)) h' ∧ Kp [] h h' := by
  have hl36 : (Str.ofString "abcdefghijklmnopqrstuvwxyz0123456789").length ≤ 16777216 := by decide
  have ha : cutS "abcdefghijklmnopqrstuvwxyz0123456789" none (some 26) = az := rfl
  by_cases h1 : 1 ≤ x.length
  · by_cases h2 : x.length ≤ 12
    · obtain ⟨c0, r, ec⟩ : ∃ c0 r, x.cps.toList = c0 :: r := by
        cases q : x.cps.toList with
        | nil => rw [← len_tl' x] at h1; simp [tl, q] at h1
        | cons c0 r => exact ⟨c0, r, rfl⟩
      have c0a : x.cps[0]? = some c0 := by rw [← Array.getElem?_toList, ec]; rfl
      have hn : isName x = (decide (c0 ∈ az.cps.toList) && x.cps.toList.all isSg) := by
        unfold isName
        rw [decide_eq_true h1, decide_eq_true h2, ec]
        rfl
      obtain ⟨fl, efl⟩ : ∃ fl, fl = (x.cps.toList.filter fun c => !isSg c) := ⟨_, rfl⟩
      have cp : ∀ ρ hh, ρ = [some (D.str x), some (.str "abcdefghijklmnopqrstuvwxyz0123456789"), none] → compL (srcS x) (.nm 2) (fB (fOp (gIn true) (fVar 2) (fVar 1))) (fVar 2) ρ FU 0 [] hh = .ok (.ref hh.length) (hh ++ [.lst (fl.map fun c => D.str ⟨#[c]⟩)]) := fun ρ hh e => by
        subst e
        rw [efl]
        exact comp_filter (mk := fun c => D.str ⟨#[c]⟩) (b := fun c => !isSg c) (FU_big (by rw [len_tl']; exact hx)) (by rw [len_tl']; exact hx) (fun j => srcS_at _ j hh) (fun c _ => by simp [in_sign, isSg]) (fun c _ => by simp)
      have okf := okDs_signs (fl := fl) fun c hc => ok c (by rw [efl] at hc; exact (List.mem_filter.mp hc).1)
      by_cases h3 : c0 ∈ az.cps
      · obtain ⟨h2', eh2⟩ : ∃ h2, h2 = (h ++ [O.lst (fl.map fun c => D.str ⟨#[c]⟩)]) ++ [.lst []] := ⟨_, rfl⟩
        have k2 : Kp [] h h2' := by rw [eh2]; exact Kp.refl.push.push
        have ne := eq_nil (h := h2') (n := h.length) (m := (h ++ [O.lst (fl.map fun c => D.str ⟨#[c]⟩)]).length) (l := fl.map fun c => D.str ⟨#[c]⟩) (by rw [eh2]; exact lstAt (push_old push_new)) okf.1 (by omega) (by rw [eh2]; exact lstAt push_new)
        rw [List.isEmpty_map, efl, filter_empty] at ne
        rw [← efl] at ne
        have eh2' := eh2.symm
        simp only [List.append_assoc, List.cons_append, List.nil_append] at eh2'
        simp only [List.length_append, List.length_cons, List.length_nil, Nat.zero_add] at ne
        refine ⟨h2', ?_, k2⟩
        simp at ne
        simp [F__law_is_name, s__law_is_name, Mp.len_str, hx, show (1 : Int) ≤ x.length by omega, show (x.length : Int) ≤ 12 by omega, Mp.ix_str, c0a, gSl, ha, hl36, in_sign, h3, srcOf, wipeE, tgV, cp, eh2', ne, hn]
      · refine ⟨h, ?_, Kp.refl⟩
        simp [F__law_is_name, s__law_is_name, Mp.len_str, hx, show (1 : Int) ≤ x.length by omega, show (x.length : Int) ≤ 12 by omega, Mp.ix_str, c0a, gSl, ha, hl36, in_sign, h3, hn]
    · refine ⟨h, ?_, Kp.refl⟩
      have hn : isName x = false := by unfold isName; rw [decide_eq_false h2]; simp
      simp [F__law_is_name, s__law_is_name, Mp.len_str, hx, show (1 : Int) ≤ x.length by omega, show ¬ (x.length : Int) ≤ 12 by omega, hn]
  · refine ⟨h, ?_, Kp.refl⟩
    have hn : isName x = false := by unfold isName; rw [decide_eq_false h1]; simp
    simp [F__law_is_name, s__law_is_name, Mp.len_str, hx, show ¬ (1 : Int) ≤ x.length by omega, hn]

/-! ### the scan -/
/-- the lines of words at L -/
structure Lns (h : MH) (L : Nat) (ws : List (List Str)) : Prop where
  ex : ∃ rs : List Nat, h[L]? = some (.lst (rs.map D.ref)) ∧ rs.length = ws.length ∧ ∀ (j r : Nat) (w : List Str), rs[j]? = some r → ws[j]? = some w → h[r]? = some (.lst (w.map D.str))
theorem Lns.kp {h h' : MH} {S : List Nat} {L : Nat} {ws : List (List Str)} (a : Lns h L ws) (k : Kp S h h') (hs : ∀ n ∈ S, ∀ l, h[n]? ≠ some (.lst l)) : Lns h' L ws := by
  obtain ⟨rs, h1, h2, h3⟩ := a.ex
  exact ⟨rs, k.get h1 fun z => hs _ z _ h1, h2, fun j r w e1 e2 => k.get (h3 j r w e1 e2) fun z => hs _ z _ (h3 j r w e1 e2)⟩
structure Sc (h : MH) (n L : Nat) (ws : List (List Str)) (l w : Nat) : Prop where
  at_ : h[n]? = some (.ins 4 [.ref L, .int l, .int w])
  ln : Lns h L ws
  le : l ≤ ws.length
theorem Sc.notL {h : MH} {n L : Nat} {ws : List (List Str)} {l w : Nat} (a : Sc h n L ws l w) : ∀ m ∈ [n], ∀ l, h[m]? ≠ some (.lst l) := by
  intro m hm l z
  have : m = n := by simpa using hm
  subst this
  rw [a.at_] at z
  cases z
/-- the word ahead -/
def wd (ws : List (List Str)) (l w : Nat) : Option Str := (ws[l]?).bind fun line => line[w]?
def wdD (ws : List (List Str)) (l w : Nat) : D := match wd ws l w with
  | some x => .str x
  | none => .non
section
variable {h : MH} {n L : Nat} {ws : List (List Str)} {l w : Nat}
theorem is_over_ok (a : Sc h n L ws l w) : F_Scan_is_over [.ref n] h = .ok (.bl (decide (l = ws.length))) h := by
  obtain ⟨rs, h1, h2, h3⟩ := a.ln.ex
  have e : ((l : Int) = (rs.length : Int)) ↔ (l = ws.length) := by omega
  simp [F_Scan_is_over, s_Scan_is_over, insAt a.at_, lstAt h1, e]
theorem ahead_ok (a : Sc h n L ws l w) (hw : ∀ line, ws[l]? = some line → w ≤ line.length) : F_Scan_ahead [.ref n] h = .ok (wdD ws l w) h := by
  obtain ⟨rs, h1, h2, h3⟩ := a.ln.ex
  have ov := is_over_ok a
  have le := a.le
  by_cases hl : l = ws.length
  · have e : wdD ws l w = .non := by unfold wdD wd; rw [List.getElem?_eq_none (by omega)]; rfl
    have ov' : F_Scan_is_over [.ref n] h = .ok (.bl true) h := by rw [ov, decide_eq_true hl]
    simp [F_Scan_ahead, s_Scan_ahead, insAt a.at_, ov', e]
  · have ov' : F_Scan_is_over [.ref n] h = .ok (.bl false) h := by rw [ov, decide_eq_false hl]
    have hlt : l < ws.length := by omega
    have hlr : l < rs.length := by omega
    have el : (rs.map D.ref)[l]? = some (.ref rs[l]) := by rw [List.getElem?_map, List.getElem?_eq_getElem hlr]; rfl
    have er : h[rs[l]]? = some (.lst (ws[l].map D.str)) := h3 l _ _ (List.getElem?_eq_getElem hlr) (List.getElem?_eq_getElem hlt)
    have hw' := hw _ (List.getElem?_eq_getElem hlt)
    have ix1 : atI (rs.map D.ref) (l : Int) = some (.ref rs[l]) := by rw [Mp.atI_nat, el]
    by_cases hwl : w = ws[l].length
    · have e : wdD ws l w = .non := by unfold wdD wd; rw [List.getElem?_eq_getElem hlt]; simp [hwl]
      have t : ((w : Int) = (ws[l].length : Int)) := by omega
      simp [F_Scan_ahead, s_Scan_ahead, insAt a.at_, ov', lstAt h1, ix1, lstAt er, t, e]
    · have hwlt : w < ws[l].length := by omega
      have e : wdD ws l w = .str (ws[l][w]) := by unfold wdD wd; rw [List.getElem?_eq_getElem hlt]; simp [hwlt]
      have t : ¬ ((w : Int) = (ws[l].length : Int)) := by omega
      have ix2 : atI (ws[l].map D.str) (w : Int) = some (.str (ws[l][w])) := by rw [Mp.atI_nat, List.getElem?_map, List.getElem?_eq_getElem hwlt]; rfl
      simp [F_Scan_ahead, s_Scan_ahead, insAt a.at_, ov', lstAt h1, ix1, lstAt er, t, e, ix2]
theorem refuse_ok (a : Sc h n L ws l w) : F_Scan_refuse [.ref n] h = .exc ⟨2, [.int l, .int w]⟩ h := by
  simp [F_Scan_refuse, s_Scan_refuse, insAt a.at_]
theorem back_ok (a : Sc h n L ws l w) : F_Scan_back [.ref n] h = .exc ⟨2, [.int l, .int ((w : Int) - 1)]⟩ h := by
  simp [F_Scan_back, s_Scan_back, insAt a.at_]
/-- the scan at another place -/
theorem Sc.move (a : Sc h n L ws l w) {l' w' : Nat} (hl : l' ≤ ws.length) : Sc (h.set n (.ins 4 [.ref L, .int l', .int w'])) n L ws l' w' ∧ Kp [n] h (h.set n (.ins 4 [.ref L, .int l', .int w'])) := by
  have k : Kp [n] h (h.set n (.ins 4 [.ref L, .int l', .int w'])) := Kp.refl.set (.inl (by simp))
  exact ⟨⟨set_new a.at_, a.ln.kp k a.notL, hl⟩, k⟩
theorem Sc.kp {h' : MH} {S : List Nat} (a : Sc h n L ws l w) (k : Kp S h h') (hs : ∀ m ∈ S, ∀ l, h[m]? ≠ some (.lst l)) (hn : n ∉ S) : Sc h' n L ws l w := ⟨k.get a.at_ hn, a.ln.kp k hs, a.le⟩
theorem Sc.kp0 {h' : MH} (a : Sc h n L ws l w) (k : Kp [] h h') : Sc h' n L ws l w := a.kp k (by simp) (by simp)
theorem take_ok (a : Sc h n L ws l w) (hw : ∀ line, ws[l]? = some line → w ≤ line.length) : match wd ws l w with
    | some x => ∃ h', F_Scan_take [.ref n] h = .ok (.str x) h' ∧ Sc h' n L ws l (w + 1) ∧ Kp [n] h h'
    | none => F_Scan_take [.ref n] h = .exc ⟨2, [.int l, .int w]⟩ h := by
  have ah := ahead_ok a hw
  have rf := refuse_ok a
  cases q : wd ws l w with
  | none =>
    have e : wdD ws l w = .non := by unfold wdD; rw [q]
    rw [e] at ah
    simp [F_Scan_take, s_Scan_take, insAt a.at_, ah, rf]
  | some x =>
    have e : wdD ws l w = .str x := by unfold wdD; rw [q]
    rw [e] at ah
    obtain ⟨m1, m2⟩ := a.move (l' := l) (w' := w + 1) a.le
    refine ⟨_, ?_, m1, m2⟩
    simp [F_Scan_take, s_Scan_take, insAt a.at_, ah, putD]
end
end W86
set_option Elab.async false
set_option linter.all false
set_option maxRecDepth 100000
set_option maxHeartbeats 4000000
namespace W86
open PySem Mp TL
open L2 (cutS atI)

def Wok (ws : List (List Str)) : Prop := ∀ line ∈ ws, ∀ x ∈ line, okS x ∧ x.length ≤ 16777216
theorem Wok.wd {ws : List (List Str)} (k : Wok ws) {l w : Nat} {x : Str} (e : wd ws l w = some x) : okS x ∧ x.length ≤ 16777216 := by
  unfold W86.wd at e
  cases q : ws[l]? with
  | none => rw [q] at e; cases e
  | some line => rw [q] at e; exact k line (List.mem_of_getElem? q) x (List.mem_of_getElem? e)
def abD : Option Str → D
  | none => .non
  | some y => .str y
def nmOk (x : Str) (ab : Option Str) : Bool := isName x && (match ab with | none => true | some y => strLt y x)
section
variable {h : MH} {n L : Nat} {ws : List (List Str)} {l w : Nat}
theorem kp_n {h1 h2 : MH} (a : Kp [n] h h1) (b : Kp [] h1 h2) : Kp [n] h h2 := a.trans b fun m _ hs => ⟨hs, by simp⟩
theorem take_name_ok (a : Sc h n L ws l w) (hw : ∀ line, ws[l]? = some line → w ≤ line.length) (k : Wok ws) (ab : Option Str) : match wd ws l w with
    | some x => if nmOk x ab = true then ∃ h', F_Scan_take_name [.ref n, abD ab] h = .ok (.str x) h' ∧ Sc h' n L ws l (w + 1) ∧ Kp [n] h h' else ∃ h', F_Scan_take_name [.ref n, abD ab] h = .exc ⟨2, [.int l, .int w]⟩ h' ∧ Kp [n] h h'
    | none => F_Scan_take_name [.ref n, abD ab] h = .exc ⟨2, [.int l, .int w]⟩ h := by
  have tk := take_ok a hw
  cases q : wd ws l w with
  | none =>
    rw [q] at tk
    dsimp only at tk
    have i := insAt a.at_
    cases ab <;> simp [F_Scan_take_name, s_Scan_take_name, abD, i, tk]
  | some x =>
    rw [q] at tk
    obtain ⟨h1, t1, t2, t3⟩ := tk
    obtain ⟨h2, n1, n2⟩ := is_name_ok (h := h1) (k.wd q).2
    have b := back_ok (t2.kp0 n2)
    have i0 := insAt a.at_
    have i2 := insAt (t2.kp0 n2).at_
    have b' : F_Scan_back [.ref n] h2 = .exc ⟨2, [.int l, .int w]⟩ h2 := by
      rw [b]
      have : ((w + 1 : Nat) : Int) - 1 = w := by omega
      rw [this]
    have kk := kp_n t3 n2
    dsimp only
    cases hn : isName x with
    | false =>
      have : nmOk x ab = false := by unfold nmOk; rw [hn]; rfl
      rw [if_neg (by rw [this]; simp)]
      rw [hn] at n1
      refine ⟨h2, ?_, kk⟩
      cases ab <;> simp [F_Scan_take_name, s_Scan_take_name, abD, i0, t1, n1, i2, b']
    | true =>
      rw [hn] at n1
      cases ab with
      | none =>
        have : nmOk x none = true := by unfold nmOk; rw [hn]; rfl
        rw [if_pos this]
        exact ⟨h2, by simp [F_Scan_take_name, s_Scan_take_name, abD, i0, t1, n1], t2.kp0 n2, kk⟩
      | some y =>
        cases hl : strLt y x with
        | true =>
          have : nmOk x (some y) = true := by unfold nmOk; rw [hn]; exact hl
          rw [if_pos this]
          exact ⟨h2, by simp [F_Scan_take_name, s_Scan_take_name, abD, i0, t1, n1, hl], t2.kp0 n2, kk⟩
        | false =>
          have : nmOk x (some y) = false := by unfold nmOk; rw [hn]; exact hl
          rw [if_neg (by rw [this]; simp)]
          exact ⟨h2, by simp [F_Scan_take_name, s_Scan_take_name, abD, i0, t1, n1, hl, i2, b'], kk⟩
theorem take_word_ok (a : Sc h n L ws l w) (hw : ∀ line, ws[l]? = some line → w ≤ line.length) (due : Str) : match wd ws l w with
    | some x => if x = due then ∃ h', F_Scan_take_word [.ref n, .str due] h = .ok .non h' ∧ Sc h' n L ws l (w + 1) ∧ Kp [n] h h' else ∃ h', F_Scan_take_word [.ref n, .str due] h = .exc ⟨2, [.int l, .int w]⟩ h' ∧ Kp [n] h h'
    | none => F_Scan_take_word [.ref n, .str due] h = .exc ⟨2, [.int l, .int w]⟩ h := by
  have tk := take_ok a hw
  have i := insAt a.at_
  cases q : wd ws l w with
  | none =>
    rw [q] at tk
    dsimp only at tk
    simp [F_Scan_take_word, s_Scan_take_word, i, tk]
  | some x =>
    rw [q] at tk
    obtain ⟨h1, t1, t2, t3⟩ := tk
    have b := back_ok t2
    have i1 := insAt t2.at_
    have b' : F_Scan_back [.ref n] h1 = .exc ⟨2, [.int l, .int w]⟩ h1 := by
      rw [b]
      have : ((w + 1 : Nat) : Int) - 1 = w := by omega
      rw [this]
    dsimp only
    by_cases e : x = due
    · rw [if_pos e]
      exact ⟨h1, by simp [F_Scan_take_word, s_Scan_take_word, i, t1, e], t2, t3⟩
    · rw [if_neg e]
      exact ⟨h1, by simp [F_Scan_take_word, s_Scan_take_word, i, t1, e, i1, b'], t3⟩
def inOk (x : Str) (lo hi : Int) : Bool := isWr x && (decide (lo ≤ wrV x) && decide (wrV x ≤ hi))
theorem take_integer_ok (a : Sc h n L ws l w) (hw : ∀ line, ws[l]? = some line → w ≤ line.length) (k : Wok ws) (lo hi : Int) : match wd ws l w with
    | some x => if inOk x lo hi = true then ∃ h', F_Scan_take_integer [.ref n, .int lo, .int hi] h = .ok (.int (wrV x)) h' ∧ Sc h' n L ws l (w + 1) ∧ Kp [n] h h' else ∃ h', F_Scan_take_integer [.ref n, .int lo, .int hi] h = .exc ⟨2, [.int l, .int w]⟩ h' ∧ Kp [n] h h'
    | none => F_Scan_take_integer [.ref n, .int lo, .int hi] h = .exc ⟨2, [.int l, .int w]⟩ h := by
  have tk := take_ok a hw
  have i := insAt a.at_
  cases q : wd ws l w with
  | none =>
    rw [q] at tk
    dsimp only at tk
    simp [F_Scan_take_integer, s_Scan_take_integer, i, tk]
  | some x =>
    rw [q] at tk
    obtain ⟨h1, t1, t2, t3⟩ := tk
    obtain ⟨h2, n1, n2⟩ := is_written_ok (h := h1) (k.wd q).2
    have b := back_ok (t2.kp0 n2)
    have i2 := insAt (t2.kp0 n2).at_
    have b' : F_Scan_back [.ref n] h2 = .exc ⟨2, [.int l, .int w]⟩ h2 := by
      rw [b]
      have : ((w + 1 : Nat) : Int) - 1 = w := by omega
      rw [this]
    have kk := kp_n t3 n2
    dsimp only
    cases hn : isWr x with
    | false =>
      have : inOk x lo hi = false := by unfold inOk; rw [hn]; rfl
      rw [if_neg (by rw [this]; simp)]
      rw [hn] at n1
      exact ⟨h2, by simp [F_Scan_take_integer, s_Scan_take_integer, i, t1, n1, i2, b'], kk⟩
    | true =>
      rw [hn] at n1
      have ei : ∀ hh, gInt [.str x] hh = .ok (.int (wrV x)) hh := fun hh => int_str hn
      by_cases c1 : lo ≤ wrV x
      · by_cases c2 : wrV x ≤ hi
        · have : inOk x lo hi = true := by unfold inOk; rw [hn, decide_eq_true c1, decide_eq_true c2]; rfl
          rw [if_pos this]
          exact ⟨h2, by simp [F_Scan_take_integer, s_Scan_take_integer, i, t1, n1, ei, c1, c2], t2.kp0 n2, kk⟩
        · have : inOk x lo hi = false := by unfold inOk; rw [hn, decide_eq_true c1, decide_eq_false c2]; rfl
          rw [if_neg (by rw [this]; simp)]
          exact ⟨h2, by simp [F_Scan_take_integer, s_Scan_take_integer, i, t1, n1, ei, c1, c2, i2, b'], kk⟩
      · have : inOk x lo hi = false := by unfold inOk; rw [hn, decide_eq_false c1]; rfl
        rw [if_neg (by rw [this]; simp)]
        exact ⟨h2, by simp [F_Scan_take_integer, s_Scan_take_integer, i, t1, n1, ei, c1, i2, b'], kk⟩
theorem end_line_ok (a : Sc h n L ws l w) (hw : ∀ line, ws[l]? = some line → w ≤ line.length) (hl : l < ws.length) : match wd ws l w with
    | some x => F_Scan_end_line [.ref n] h = .exc ⟨2, [.int l, .int w]⟩ h
    | none => ∃ h', F_Scan_end_line [.ref n] h = .ok .non h' ∧ Sc h' n L ws (l + 1) 0 ∧ Kp [n] h h' := by
  have ah := ahead_ok a hw
  have rf := refuse_ok a
  have i := insAt a.at_
  cases q : wd ws l w with
  | some x =>
    have e : wdD ws l w = .str x := by unfold wdD; rw [q]
    rw [e] at ah
    simp [F_Scan_end_line, s_Scan_end_line, i, ah, rf]
  | none =>
    have e : wdD ws l w = .non := by unfold wdD; rw [q]
    rw [e] at ah
    obtain ⟨m1, m2⟩ := a.move (l' := l + 1) (w' := 0) (by omega)
    refine ⟨_, ?_, m1, m2⟩
    have i2 : insOf (h.set n (.ins 4 [.ref L, .int ((l : Int) + 1), .int w])) n 4 = some [.ref L, .int ((l : Int) + 1), .int w] := insAt (set_new a.at_)
    simp [F_Scan_end_line, s_Scan_end_line, i, ah, putD, i2]
theorem need_over_ok (a : Sc h n L ws l w) : F_need_over [.ref n] h = if l = ws.length then .ok .non h else .exc ⟨2, [.int l, .int w]⟩ h := by
  have ov := is_over_ok a
  have rf := refuse_ok a
  have i := insAt a.at_
  by_cases e : l = ws.length
  · rw [if_pos e]
    rw [decide_eq_true e] at ov
    simp [F_need_over, s_need_over, i, ov]
  · rw [if_neg e]
    rw [decide_eq_false e] at ov
    simp [F_need_over, s_need_over, i, ov, rf]
end
/-! ### a text, cut in lines and words -/
def nl : Str := sg 10
def bl : Str := sg 32
theorem nl_eq : Str.ofString "\n" = nl := by decide
theorem bl_eq : Str.ofString " " = bl := by decide
def wds (x : Str) : List (List Str) := (Txt.split x nl).map fun y => Txt.split y bl
end W86
set_option Elab.async false
set_option linter.all false
set_option maxRecDepth 100000
set_option maxHeartbeats 4000000
namespace W86
open PySem Mp TL
open L2 (cutS atI)

theorem split_str {x : Str} {s : Nat} {h : MH} (hx : x.length + 2 ≤ 16777216) : gSplit x (.str (sg s)) h = .ok (.ref h.length) (h ++ [.lst ((Txt.split x (sg s)).map D.str)]) := by
  unfold gSplit
  dsimp only
  rw [if_pos ⟨by rfl, hx⟩]
theorem srcL_at {h h' : MH} {n : Nat} {l : List D} (e : h[n]? = some (.lst l)) (k : Kp [] h h') (j : Nat) : srcL n j h' = some l[j]? := by
  unfold srcL
  rw [lstAt (k.get e (by simp))]
/-- [line.split(' ') for line in lines] -/
theorem lines_ok {x : Str} {h0 : MH} {n0 k : Nat} {ρ : Mp.Env} (ok : okS x) (hx : x.length ≤ 1000000) (hk : k < ρ.length) (e : h0[n0]? = some (.lst ((Txt.split x nl).map D.str))) :
    ∃ h' L, compL (srcL n0) (.nm k) fYes (fM1 gSplit (fVar k) (fC (.str (Str.ofString " ")))) ρ FU 0 [] h0 = .ok (.ref L) h' ∧ Lns h' L (wds x) ∧ Kp [] h0 h' ∧ h0.length ≤ L := by
  obtain ⟨c1, c2⟩ := cut_facts x (s := 10) (by decide) ok
  obtain ⟨ys, h', e1, e2, e3, e4⟩ := comp_rel (src := srcL n0) (k := k) (n := FU) (fe := fM1 gSplit (fVar k) (fC (.str (Str.ofString " ")))) (ρ := ρ) (h0 := h0) (items := (Txt.split x nl).map D.str)
    (Rl := fun hh d y => ∃ s r, d = D.str s ∧ y = D.ref r ∧ hh[r]? = some (.lst ((Txt.split s bl).map D.str)))
    (FU_big (by rw [List.length_map]; have : (Txt.split x nl).length ≤ x.length + 1 := c2; omega)) (by rw [List.length_map]; have : (Txt.split x nl).length ≤ x.length + 1 := c2; omega)
    (fun h' j a => srcL_at e a j) (fun a b d y kk ⟨s, r, q1, q2, q3⟩ => ⟨s, r, q1, q2, kk.get q3 (by simp)⟩) (fun d hd hh a => by
      obtain ⟨s, hs, rfl⟩ := List.mem_map.mp hd
      have hl := (c1 s hs).2
      refine ⟨.ref hh.length, hh ++ [.lst ((Txt.split s bl).map D.str)], ?_, Kp.refl.push, s, hh.length, rfl, rfl, push_new⟩
      have ev : fVar k (ρ.set k (some (D.str s))) hh = .ok (.str s) hh := by
        unfold fVar
        rw [List.getElem?_set_self hk]
      rw [bl_eq]
      simp only [ev_m1, ev, R.bind_ok, kM1_eq, ev_c]
      exact split_str (by omega))
  obtain ⟨rs, er⟩ : ∃ rs : List Nat, ys = rs.map D.ref := by
    have : ∀ (zs : List D), (∀ z ∈ zs, ∃ r, z = D.ref r) → ∃ rs : List Nat, zs = rs.map D.ref := by
      intro zs
      induction zs with
      | nil => intro _; exact ⟨[], rfl⟩
      | cons z zs ih =>
        intro q
        obtain ⟨r, hr⟩ := q z List.mem_cons_self
        obtain ⟨rs, hrs⟩ := ih fun z hz => q z (List.mem_cons_of_mem _ hz)
        exact ⟨r :: rs, by rw [hr, hrs]; rfl⟩
    refine this ys fun z hz => ?_
    obtain ⟨j, hj⟩ := List.getElem?_of_mem hz
    have hlt : j < ((Txt.split x nl).map D.str).length := by rw [← e3]; exact (List.getElem?_eq_some_iff.mp hj).1
    obtain ⟨y, q1, s, r, q2, q3, q4⟩ := e4 j _ (List.getElem?_eq_getElem hlt)
    rw [hj] at q1
    cases q1
    exact ⟨r, q3⟩
  subst er
  refine ⟨h' ++ [.lst (rs.map D.ref)], h'.length, e1, ⟨rs, push_new, ?_, fun j r w h1 h2 => ?_⟩, e2.push, e2.le⟩
  · rw [List.length_map, List.length_map] at e3
    rw [e3]
    simp [wds]
  · unfold wds at h2
    rw [List.getElem?_map] at h2
    cases q : (Txt.split x nl)[j]? with
    | none => rw [q] at h2; cases h2
    | some s =>
      rw [q] at h2
      cases h2
      obtain ⟨y, q1, s', r', q2, q3, q4⟩ := e4 j (D.str s) (by rw [List.getElem?_map, q]; rfl)
      rw [List.getElem?_map, h1] at q1
      cases q1
      cases q2
      cases q3
      exact push_old q4
theorem wds_ok {x : Str} (ok : okS x) (hx : x.length ≤ 1000000) : Wok (wds x) ∧ wds x ≠ [] ∧ (∀ line ∈ wds x, line ≠ []) ∧ ∀ line ∈ wds x, line.length ≤ 1000001 := by
  obtain ⟨c1, c2⟩ := cut_facts x (s := 10) (by decide) ok
  obtain ⟨d1, d2, d3⟩ := cut_is x (s := 10) (by decide)
  refine ⟨fun line hl y hy => ?_, fun z => d1 (List.map_eq_nil_iff.mp z), fun line hl => ?_, fun line hl => ?_⟩
  · obtain ⟨s, hs, rfl⟩ := List.mem_map.mp hl
    obtain ⟨q1, q2⟩ := c1 s hs
    obtain ⟨q3, q4⟩ := (cut_facts s (s := 32) (by decide) q1).1 y hy
    exact ⟨q3, by omega⟩
  · obtain ⟨s, hs, rfl⟩ := List.mem_map.mp hl
    exact (cut_is s (s := 32) (by decide)).1
  · obtain ⟨s, hs, rfl⟩ := List.mem_map.mp hl
    obtain ⟨q1, q2⟩ := c1 s hs
    have : (Txt.split s bl).length ≤ s.length + 1 := (cut_facts s (s := 32) (by decide) q1).2
    omega
theorem init_ok {x : Str} {h : MH} {m : Nat} (ok : okS x) (hx : x.length ≤ 1000000) (e : h[m]? = some (.ins 4 [])) :
    ∃ h' L, F_Scan___init__ [.ref m, .str x] h = .ok .non h' ∧ Sc h' m L (wds x) 0 0 ∧ Kp [m] h h' := by
  obtain ⟨h1, e1⟩ : ∃ h1, h1 = h ++ [O.lst ((Txt.split x nl).map D.str)] := ⟨_, rfl⟩
  have n1 : h1[h.length]? = some (.lst ((Txt.split x nl).map D.str)) := by rw [e1]; exact push_new
  obtain ⟨h2, L, l1, l2, l3, l4⟩ := lines_ok (ρ := [some (.ref m), some (.str x), none]) (k := 2) ok hx (by simp) n1
  have k1 : Kp [] h h1 := by rw [e1]; exact Kp.refl.push
  have k2 : Kp [] h h2 := k1.trans l3 fun n _ hs => ⟨hs, hs⟩
  have m2 := k2.get e (by simp)
  have hL : m ≠ L := by have := ltOf e; have := k1.le; omega
  obtain ⟨h3, e3⟩ : ∃ h3, h3 = h2.set m (.ins 4 [.ref L]) := ⟨_, rfl⟩
  obtain ⟨h4, e4⟩ : ∃ h4, h4 = h3.set m (.ins 4 [.ref L, .int 0]) := ⟨_, rfl⟩
  obtain ⟨h5, e5⟩ : ∃ h5, h5 = h4.set m (.ins 4 [.ref L, .int 0, .int 0]) := ⟨_, rfl⟩
  have m3 : h3[m]? = some (.ins 4 [.ref L]) := by rw [e3]; exact set_new m2
  have m4 : h4[m]? = some (.ins 4 [.ref L, .int 0]) := by rw [e4]; exact set_new m3
  have m5 : h5[m]? = some (.ins 4 [.ref L, .int 0, .int 0]) := by rw [e5]; exact set_new m4
  have kk : Kp [m] h2 h5 := by
    rw [e5, e4, e3]
    exact ((Kp.refl.set (.inl (by simp))).set (.inl (by simp))).set (.inl (by simp))
  refine ⟨h5, L, ?_, ⟨m5, l2.kp kk (fun n hn l z => ?_), Nat.zero_le _⟩, k2.trans kk fun n _ hs => ⟨by simp, hs⟩⟩
  · simp [F_Scan___init__, s_Scan___init__, isi_str, nl_eq]
    rw [show gSplit x (.str nl) h = .ok (.ref h.length) (h ++ [.lst ((Txt.split x nl).map D.str)]) from split_str (by omega), ← e1]
    simp [srcOf, lstAt n1, wipeE, tgV, l1, insAt m2, putD, ← e3, insAt m3, ← e4, insAt m4, ← e5]
  · have : n = m := by simpa using hn
    subst this
    rw [m2] at z
    cases z
theorem init_bad {d : D} {h : MH} {m : Nat} {t : String} (ht : tyOf h d = some t) (hs : t ≠ "str") : F_Scan___init__ [.ref m, d] h = .exc ⟨2, [.int 0, .int 0]⟩ h := by
  have : gIsi [d, .ty "str"] h = .ok (.bl false) h := by
    unfold gIsi
    dsimp only
    rw [ht]
    dsimp only
    rw [if_pos (Or.inl rfl)]
    have : (t == "str") = false := beq_eq_false_iff_ne.mpr hs
    rw [this]
  simp [F_Scan___init__, s_Scan___init__, this]
end W86
set_option Elab.async false
set_option linter.all false
set_option maxRecDepth 100000
set_option maxHeartbeats 4000000
namespace W86
open PySem Mp TL
open L2 (cutS atI)
open PySem.W (alike dataLt keyToks)

def condG : EF Bool := (fOr (fB (fOp gNotN (fMeth 4 F_Scan_ahead [] (fVar 1) fNil) (fC .non))) (fB (fOp gEq (fOp gIx (fVar 2) (fUn gNeg (fC (.int 1)))) (fLst fNil))))
def testG : EF Bool := (fAnd (fB (fOp gNe (fOp gIx (fVar 2) (fUn gNeg (fC (.int 1)))) (fLst fNil))) (fB (fOp gEq (fMeth 4 F_Scan_ahead [] (fVar 1) fNil) (fC (.str "/")))))
def slashG : SF := (sSeq (sExpr (fMeth 4 F_Scan_take [] (fVar 1) fNil))
  (sExpr (fAppend (fVar 2) (fCons (fLst fNil) fNil))))
def nameG : SF := (sExpr (fAppend (fOp gIx (fVar 2) (fUn gNeg (fC (.int 1)))) (fCons (fMeth 4 F_Scan_take_name [] (fVar 1) (fCons (fIf (fB (fOp gNe (fOp gIx (fVar 2) (fUn gNeg (fC (.int 1)))) (fLst fNil))) (fOp gIx (fOp gIx (fVar 2) (fUn gNeg (fC (.int 1)))) (fUn gNeg (fC (.int 1)))) (fC .non)) fNil)) fNil)))
def chkG : EF Bool := (fOr (fTru (fCB gAny (fCons (fComp (fSrc (fSl (fVar 2) fNoP (fPart (fUn gNeg (fC (.int 1)))))) (.nm 3) fYes (fOp (gIn false) (fOp gIx (fOp gIx (fVar 2) (fUn gNeg (fC (.int 1)))) (fUn gNeg (fC (.int 1)))) (fVar 3)) FU) fNil))) (fAnd (fB (fOp gGt (fCB gLen (fCons (fVar 2) fNil)) (fC (.int 1)))) (fB (fOp gGtD (fOp gIx (fVar 2) (fUn gNeg (fC (.int 2)))) (fOp gIx (fVar 2) (fUn gNeg (fC (.int 1))))))))
def bodyG : SF := sIf testG slashG (sSeq nameG (sIf chkG (sExpr (fMeth 4 F_Scan_back [] (fVar 1) fNil)) sNil))
theorem s_rg : s_read_grouping = (sSeq (sAsg (fMake 4 F_Scan___init__ [] (fCons (fVar 0) fNil)) (gN 1))
  (sSeq (sAsg (fLst (fCons (fLst fNil) fNil)) (gN 2))
  (sSeq (sWhile condG bodyG FU)
  (sSeq (sExpr (fMeth 4 F_Scan_end_line [] (fVar 1) fNil))
  (sSeq (sExpr (fCall F_need_over [] (fCons (fVar 1) fNil)))
  (sRet (fCB gTuple (fCons (fComp (fSrc (fVar 2)) (.nm 3) fYes (fCB gTuple (fCons (fVar 3) fNil)) FU) fNil)))))))) := rfl

/-- groups at g: those ahead, the last; all of it made behind b -/
structure Grp (h : MH) (g b : Nat) (rp : List Nat) (rl : Nat) (prev : List (List Str)) (last : List Str) : Prop where
  at_ : h[g]? = some (.lst (rp.map D.ref ++ [D.ref rl]))
  len : rp.length = prev.length
  nd : (rp ++ [rl]).Nodup
  big : b ≤ g ∧ ∀ r ∈ rp ++ [rl], b ≤ r ∧ r ≠ g
  pv : ∀ (j r : Nat) (w : List Str), rp[j]? = some r → prev[j]? = some w → h[r]? = some (.lst (w.map D.str))
  la : h[rl]? = some (.lst (last.map D.str))
theorem Grp.kp {h h' : MH} {g b rl : Nat} {rp : List Nat} {prev : List (List Str)} {last : List Str} {S : List Nat} (a : Grp h g b rp rl prev last) (k : Kp S h h') (hs : ∀ n ∈ S, n < b) : Grp h' g b rp rl prev last := by
  have no : ∀ m, b ≤ m → m ∉ S := fun m hm z => by have := hs m z; omega
  refine ⟨k.get a.at_ (no g a.big.1), a.len, a.nd, a.big, fun j r w h1 h2 => k.get (a.pv j r w h1 h2) (no r (a.big.2 r (List.mem_append_left _ (List.mem_of_getElem? h1))).1), k.get a.la (no rl (a.big.2 rl (by simp)).1)⟩
/-- between two turns: the scan at n, its lines behind L; the first line, word w -/
structure GI (h1 h : MH) (n L g : Nat) (ws : List (List Str)) (w : Nat) (rp : List Nat) (rl : Nat) (prev : List (List Str)) (last : List Str) : Prop where
  sc : h[n]? = some (.ins 4 [.ref L, .int (0 : Nat), .int w])
  kp : Kp [n] h1 h
  s1 : h1[n]? = some (.ins 4 [.ref L, .int (0 : Nat), .int (0 : Nat)])
  ln : Lns h1 L ws
  gr : Grp h g h1.length rp rl prev last
  ok : ∀ x ∈ prev.flatten ++ last, okS x
section
variable {h1 h : MH} {n L g w rl : Nat} {ws : List (List Str)} {rp : List Nat} {prev : List (List Str)} {last : List Str} {x0 : D}
theorem GI.scan (a : GI h1 h n L g ws w rp rl prev last) (hne : ws ≠ []) : Sc h n L ws 0 w := by
  refine ⟨a.sc, a.ln.kp a.kp fun m hm l z => ?_, Nat.zero_le _⟩
  have : m = n := by simpa using hm
  subst this
  rw [a.s1] at z
  cases z
theorem GI.nlt (a : GI h1 h n L g ws w rp rl prev last) : n < h1.length := ltOf a.s1
theorem GI.more {h' : MH} (a : GI h1 h n L g ws w rp rl prev last) (k : Kp [] h h') : GI h1 h' n L g ws w rp rl prev last :=
  ⟨k.get a.sc (by simp), a.kp.trans k fun m _ hs => ⟨hs, by simp⟩, a.s1, a.ln, a.gr.kp k (by simp), a.ok⟩
theorem last_ok (a : GI h1 h n L g ws w rp rl prev last) : okDs (last.map D.str) = true ∧ deps (last.map D.str) = 0 := okDs_strs fun x hx => a.ok x (List.mem_append_right _ hx)
theorem last_eq (a : GI h1 h n L g ws w rp rl prev last) : gEq (.ref rl) (.ref h.length) (h ++ [.lst []]) = .ok (.bl last.isEmpty) (h ++ [.lst []]) := by
  obtain ⟨i1, i2⟩ := last_ok a
  have := eq_nil (h := h ++ [.lst []]) (n := rl) (m := h.length) (lstAt (push_old a.gr.la)) i1 (by omega) (lstAt push_new)
  rw [List.isEmpty_map] at this
  exact this
theorem last_ne (a : GI h1 h n L g ws w rp rl prev last) : gNe (.ref rl) (.ref h.length) (h ++ [.lst []]) = .ok (.bl (!last.isEmpty)) (h ++ [.lst []]) := by
  obtain ⟨i1, i2⟩ := last_ok a
  have := ne_nil (h := h ++ [.lst []]) (n := rl) (m := h.length) (lstAt (push_old a.gr.la)) i1 (by omega) (lstAt push_new)
  rw [List.isEmpty_map] at this
  exact this
abbrev rhoG (x0 : D) (n g : Nat) : Mp.Env := [some x0, some (.ref n), some (.ref g), none]
theorem cond_ok (a : GI h1 h n L g ws w rp rl prev last) (hne : ws ≠ []) (hw : ∀ line, ws[0]? = some line → w ≤ line.length) :
    ∃ h', condG (rhoG x0 n g) h = .ok ((wd ws 0 w).isSome || last.isEmpty) h' ∧ Kp [] h h' := by
  have ah := ahead_ok (a.scan hne) hw
  have i := insAt a.sc
  cases q : wd ws 0 w with
  | some x =>
    have e : wdD ws 0 w = .str x := by unfold wdD; rw [q]
    rw [e] at ah
    exact ⟨h, by simp [condG, i, ah], Kp.refl⟩
  | none =>
    have e : wdD ws 0 w = .non := by unfold wdD; rw [q]
    rw [e] at ah
    exact ⟨h ++ [.lst []], by simp [condG, i, ah, lstAt a.gr.at_, last_eq a], Kp.refl.push⟩
theorem test_ok (a : GI h1 h n L g ws w rp rl prev last) (hne : ws ≠ []) (hw : ∀ line, ws[0]? = some line → w ≤ line.length) :
    ∃ h', testG (rhoG x0 n g) h = .ok (!last.isEmpty && decide (wd ws 0 w = some "/")) h' ∧ Kp [] h h' := by
  have k : Kp [] h (h ++ [.lst []]) := Kp.refl.push
  have a' := a.more k
  have ah := ahead_ok (a'.scan hne) hw
  have i := insAt a'.sc
  have ln := last_ne a
  refine ⟨h ++ [.lst []], ?_, k⟩
  cases hl : last.isEmpty with
  | true =>
    rw [hl] at ln
    simp [testG, lstAt a.gr.at_, ln]
  | false =>
    rw [hl] at ln
    cases q : wd ws 0 w with
    | some x =>
      have e : wdD ws 0 w = .str x := by unfold wdD; rw [q]
      rw [e] at ah
      simp [testG, lstAt a.gr.at_, ln, i, ah]
    | none =>
      have e : wdD ws 0 w = .non := by unfold wdD; rw [q]
      rw [e] at ah
      have en : ∀ hh, gEq .non (.str (Str.ofString "/")) hh = .ok (.bl false) hh := fun hh => by
        unfold gEq eqRes
        rw [show sameS .non (.str (Str.ofString "/")) = none from rfl]
        dsimp only
        rw [pdS_pure (by rfl) (by decide), pdS_pure (d := .str (Str.ofString "/")) (by decide +kernel) (by decide +kernel)]
        rfl
      simp [testG, lstAt a.gr.at_, ln, i, ah, en]
theorem sub_bound {h1 : MH} {n m : Nat} {S : List Nat} (hm : m ∈ S ∨ h1.length ≤ m) : True := trivial
/-- a '/': a new group -/
theorem slash_ok (a : GI h1 h n L g ws w rp rl prev last) (hne : ws ≠ []) (hw : ∀ line, ws[0]? = some line → w ≤ line.length) {x : Str} (q : wd ws 0 w = some x) (hp : prev.length < 16777215) :
    ∃ h', slashG (rhoG x0 n g) h = .ok .nx (rhoG x0 n g) h' ∧ GI h1 h' n L g ws (w + 1) (rp ++ [rl]) h'.length.pred (prev ++ [last]) [] := by
  have tk := take_ok (a.scan hne) hw
  rw [q] at tk
  obtain ⟨h2, t1, t2, t3⟩ := tk
  have i := insAt a.sc
  have nb : ∀ m ∈ [n], m < h1.length := fun m hm => by
    obtain rfl : m = n := (by simpa using hm)
    exact a.nlt
  have g2 := a.gr.kp t3 nb
  have kp2 : Kp [n] h1 h2 := a.kp.trans t3 fun m _ hs => ⟨hs, hs⟩
  obtain ⟨h3, e3⟩ : ∃ h3, h3 = h2 ++ [O.lst []] := ⟨_, rfl⟩
  have g3 : Grp h3 g h1.length rp rl prev last := g2.kp (by rw [e3]; exact (Kp.refl (S := [])).push) (by simp)
  have n3 : h3[h2.length]? = some (.lst []) := by rw [e3]; exact push_new
  have sc3 : h3[n]? = some (.ins 4 [.ref L, .int (0 : Nat), .int ((w + 1 : Nat) : Int)]) := by rw [e3]; exact push_old t2.at_
  obtain ⟨h4, e4⟩ : ∃ h4, h4 = h3.set g (.lst ((rp ++ [rl]).map D.ref ++ [D.ref h2.length])) := ⟨_, rfl⟩
  have gl : g < h2.length := ltOf g2.at_
  have ng : n ≠ g := by have := a.nlt; have := a.gr.big.1; omega
  have el : h4.length.pred = h2.length := by rw [e4, List.length_set, e3, List.length_append]; rfl
  have len3 : h3.length = h2.length + 1 := by rw [e3, List.length_append]; rfl
  refine ⟨h4, ?_, ?_⟩
  · simp [slashG, i, t1, mutAt g2.at_, ← e3, mutAt g3.at_, show rp.length + 1 < 16777216 by have := a.gr.len; omega]
    rw [e4]
    simp
  · rw [el]
    refine ⟨by rw [e4]; exact set_old sc3 (Ne.symm ng), ?_, a.s1, a.ln, ⟨by rw [e4]; exact set_new g3.at_, by simp [a.gr.len], ?_, ⟨a.gr.big.1, fun r hr => ?_⟩, fun j r wj h5 h6 => ?_, by rw [e4]; exact set_old n3 (by omega)⟩, fun y hy => a.ok y (by simpa using hy)⟩
    · rw [e4, e3]
      exact (kp2.push).set (.inr a.gr.big.1)
    · rw [List.nodup_append]
      refine ⟨a.gr.nd, by simp, fun r hr s hs => ?_⟩
      have : s = h2.length := by simpa using hs
      rw [this]
      intro z
      rcases List.mem_append.mp hr with hr | hr
      · obtain ⟨j, hj⟩ := List.getElem?_of_mem hr
        have hjl : j < prev.length := by rw [← a.gr.len]; exact (List.getElem?_eq_some_iff.mp hj).1
        have := ltOf (g2.pv j r _ hj (List.getElem?_eq_getElem hjl))
        omega
      · have : r = rl := by simpa using hr
        have := ltOf g2.la
        omega
    · rcases List.mem_append.mp hr with hr | hr
      · exact a.gr.big.2 r hr
      · have : r = h2.length := by simpa using hr
        have := kp2.le
        omega
    · have hrg : r ≠ g := (a.gr.big.2 r (List.mem_of_getElem? h5)).2
      rw [e4]
      refine set_old ?_ (Ne.symm hrg)
      by_cases hj : j < rp.length
      · rw [List.getElem?_append_left hj] at h5
        rw [List.getElem?_append_left (by rw [← a.gr.len]; exact hj)] at h6
        exact g3.pv j r wj h5 h6
      · have hj' : j = rp.length := by
          have := (List.getElem?_eq_some_iff.mp h5).1
          simp at this
          omega
        subst hj'
        rw [List.getElem?_append_right (Nat.le_refl _)] at h5
        rw [a.gr.len, List.getElem?_append_right (Nat.le_refl _)] at h6
        simp at h5 h6
        subst h5 h6
        exact g3.la
/-- a name -/
theorem name_ok (a : GI h1 h n L g ws w rp rl prev last) (hne : ws ≠ []) (k : Wok ws) (hw : ∀ line, ws[0]? = some line → w ≤ line.length) (hl : last.length < 16777215) : match wd ws 0 w with
    | some x => if nmOk x last.getLast? = true then ∃ h', nameG (rhoG x0 n g) h = .ok .nx (rhoG x0 n g) h' ∧ GI h1 h' n L g ws (w + 1) rp rl prev (last ++ [x]) else ∃ h', nameG (rhoG x0 n g) h = .exc ⟨2, [.int 0, .int w]⟩ (rhoG x0 n g) h' ∧ Kp [n] h1 h'
    | none => ∃ h', nameG (rhoG x0 n g) h = .exc ⟨2, [.int 0, .int w]⟩ (rhoG x0 n g) h' ∧ Kp [n] h1 h' := by
  have kk : Kp [] h (h ++ [.lst []]) := Kp.refl.push
  have a' := a.more kk
  have ln := last_ne a
  have tn := take_name_ok (a'.scan hne) hw k last.getLast?
  have i := insAt a'.sc
  have pre : ∀ (cont : D → MH → R D), True := fun _ => trivial
  have hab : abD last.getLast? = (match last.getLast? with | none => .non | some y => .str y) := by cases last.getLast? <;> rfl
  have nb : ∀ m ∈ [n], m < h1.length := fun m hm => by
    obtain rfl : m = n := (by simpa using hm)
    exact a.nlt
  have arg : (fIf (fB (fOp gNe (fOp gIx (fVar 2) (fUn gNeg (fC (.int 1)))) (fLst fNil))) (fOp gIx (fOp gIx (fVar 2) (fUn gNeg (fC (.int 1)))) (fUn gNeg (fC (.int 1)))) (fC .non)) (rhoG x0 n g) h = .ok (abD last.getLast?) (h ++ [.lst []]) := by
    cases hl' : last with
    | nil =>
      rw [hl'] at ln
      simp at ln
      simp [lstAt a.gr.at_, ln, abD]
    | cons y ys =>
      obtain ⟨zs, z, ez⟩ : ∃ zs z, last = zs ++ [z] := ⟨last.dropLast, last.getLast (by rw [hl']; simp), (List.dropLast_concat_getLast _).symm⟩
      have le : last.isEmpty = false := by rw [hl']; rfl
      rw [le] at ln
      have la := lstAt a'.gr.la
      rw [ez] at la
      rw [← hl']
      simp at la
      simp [lstAt a.gr.at_, ln, lstAt a'.gr.at_, la, ez, abD]
  have ev : nameG (rhoG x0 n g) h = ofR ((F_Scan_take_name [.ref n, abD last.getLast?] (h ++ [.lst []])).bind fun d hh => gAppend (.ref rl) [d] hh) (rhoG x0 n g) (kEx (rhoG x0 n g)) := by
    unfold nameG
    revert arg
    generalize (fIf (fB (fOp gNe (fOp gIx (fVar 2) (fUn gNeg (fC (.int 1)))) (fLst fNil))) (fOp gIx (fOp gIx (fVar 2) (fUn gNeg (fC (.int 1)))) (fUn gNeg (fC (.int 1)))) (fC .non)) = A
    intro arg
    simp [lstAt a.gr.at_, mutAt a.gr.la, arg, insAt a.sc]
    cases F_Scan_take_name [.ref n, abD last.getLast?] (h ++ [.lst []]) <;> first | rfl | simp
  cases q : wd ws 0 w with
  | none =>
    rw [q] at tn
    dsimp only at tn ⊢
    rw [ev, tn]
    exact ⟨_, rfl, a'.kp⟩
  | some x =>
    rw [q] at tn
    dsimp only at tn ⊢
    by_cases c : nmOk x last.getLast? = true
    · rw [if_pos c] at tn ⊢
      obtain ⟨h2, t1, t2, t3⟩ := tn
      have g2 := a'.gr.kp t3 nb
      have kp2 : Kp [n] h1 h2 := a'.kp.trans t3 fun m _ hs => ⟨hs, hs⟩
      have ng : n ≠ rl := by have := a.nlt; have := (a.gr.big.2 rl (by simp)).1; omega
      have rg : rl ≠ g := (a.gr.big.2 rl (by simp)).2
      refine ⟨h2.set rl (.lst ((last ++ [x]).map D.str)), ?_, ?_⟩
      · rw [ev, t1]
        simp [mutAt g2.la, show last.length < 16777216 by omega, ofR]
      · have hx : okS x := (k.wd q).1
        refine ⟨set_old t2.at_ (Ne.symm ng), kp2.set (.inr (a.gr.big.2 rl (by simp)).1), a.s1, a.ln, ⟨set_old g2.at_ rg, a.gr.len, a.gr.nd, a.gr.big, fun j r wj h5 h6 => set_old (g2.pv j r wj h5 h6) ?_, set_new g2.la⟩, fun y hy => ?_⟩
        · intro z
          subst z
          have := a.gr.nd
          rw [List.nodup_append] at this
          exact this.2.2 rl (List.mem_of_getElem? h5) rl (by simp) rfl
        · rw [← List.append_assoc] at hy
          rcases List.mem_append.mp hy with hy | hy
          · exact a.ok y hy
          · obtain rfl : y = x := (by simpa using hy)
            exact hx
    · rw [if_neg c] at tn ⊢
      obtain ⟨h2, t1, t2⟩ := tn
      rw [ev, t1]
      exact ⟨_, rfl, a'.kp.trans t2 fun m _ hs => ⟨hs, hs⟩⟩
end
end W86
set_option Elab.async false
set_option linter.all false
set_option maxRecDepth 100000
set_option maxHeartbeats 4000000
namespace W86
open PySem Mp TL
open L2 (cutS atI)
open PySem.W (alike alikeAll dataLt keyToks keyToksAll)

/-! ### rows of texts compared -/
def strsP (xs : List Str) : PyData := .list (toPs (xs.map D.str))
def sLt (a b : List Str) : Bool := dataLt (strsP a) (strsP b)
theorem alike_strs : ∀ xs ys : List Str, alikeAll (toPs (xs.map D.str)) (toPs (ys.map D.str)) = true
  | [], ys => by rw [List.map_nil]; unfold toPs; cases ys <;> simp [alikeAll]
  | x :: xs, [] => by rw [List.map_cons, List.map_nil]; unfold toPs; simp [alikeAll]
  | x :: xs, y :: ys => by
    rw [List.map_cons, List.map_cons]; unfold toPs toP alikeAll alike
    rw [alike_strs xs ys]; rfl
theorem toks_ne (xs : List Str) : keyToks (strsP xs) ≠ [] := by
  unfold strsP keyToks
  cases xs <;> (simp only [List.map_nil, List.map_cons]; unfold toPs keyToksAll; simp)
theorem gt_strs {h : MH} {n m : Nat} {a b : List Str} (ea : h[n]? = some (.lst (a.map D.str))) (eb : h[m]? = some (.lst (b.map D.str))) (ka : ∀ x ∈ a, okS x) (kb : ∀ x ∈ b, okS x) :
    gGtD (.ref n) (.ref m) h = .ok (.bl (sLt b a)) h := by
  obtain ⟨a1, a2⟩ := okDs_strs ka
  obtain ⟨b1, b2⟩ := okDs_strs kb
  have al : ∀ xs ys : List Str, alike (strsP xs) (strsP ys) = true := fun xs ys => by unfold strsP alike; exact alike_strs xs ys
  have dp : (strsP a).depth ≤ 64 := by
    obtain ⟨_, _, h3⟩ := pdL_ok (h := h) 7 (a.map D.str) a1 (by omega)
    unfold strsP PyData.depth
    rw [h3]; omega
  unfold gGtD cmpD
  rw [pdS_ref (lstAt ea) a1 (by omega), pdS_ref (lstAt eb) b1 (by omega)]
  dsimp only
  rw [if_pos ⟨al a b, al b a, toks_ne a, dp⟩]
  rfl
theorem strLt_lt (x y : Str) : dataLt (.str x) (.str y) = strLt x y := by
  rw [PySem.W.dataLt_str]; rfl
/-- heads that differ -/
theorem sLt_heads {x y : Str} {xs ys : List Str} (ne : x ≠ y) : sLt (x :: xs) (y :: ys) = strLt x y := by
  unfold sLt strsP
  rw [PySem.W.dataLt_list, List.map_cons, List.map_cons]
  unfold toPs
  rw [PySem.W.dataLt_all_no (by unfold toP; rfl) (by unfold toP PyData.eqv; simp [ne])]
  exact strLt_lt x y

/-! ### a word in a row of words -/
theorem in_strs {h : MH} {x : Str} {n : Nat} {w : List Str} (e : h[n]? = some (.lst (w.map D.str))) : gIn false (.str x) (.ref n) h = .ok (.bl (decide (x ∈ w))) h := by
  have i : inD (.str x) (w.map D.str) = decide (x ∈ w) := by
    unfold inD
    rw [List.any_map, Bool.eq_iff_iff, List.any_eq_true, decide_eq_true_iff]
    constructor
    · rintro ⟨y, hy, q⟩
      have : (y == x) = true := q
      rw [← eq_of_beq this]; exact hy
    · intro hx
      exact ⟨x, hx, show (x == x) = true from by simp⟩
  have f : (w.map D.str).all flatD = true := by rw [List.all_map, List.all_eq_true]; intro y _; rfl
  unfold gIn
  dsimp only [itemsOf]
  rw [lstAt e]
  dsimp only
  rw [if_pos ⟨rfl, f⟩, i]
  simp
theorem any_ref {h : MH} {n : Nat} {α : Type} {f : α → Bool} {l : List α} (e : listOf h n = some (l.map fun a => D.bl (f a))) : gAny [.ref n] h = .ok (.bl (l.any f)) h := by
  unfold gAny gQ
  dsimp only
  rw [e]
  dsimp only
  rw [bls_map]
  dsimp only
  rw [List.any_map]
  rfl
theorem cutD_m1 (l : List D) (d : D) : cutD (l ++ [d]) none (some (-1)) = l := by
  unfold cutD HT.sIx
  have e : ((-1 : Int) + ((l ++ [d]).length : Nat)).toNat = l.length := by simp; omega
  dsimp only
  rw [if_pos (by decide), e]
  simp
section
variable {h1 h : MH} {n L g w rl : Nat} {ws : List (List Str)} {rp : List Nat} {prev : List (List Str)} {last : List Str} {x0 : D}
def beh (prev : List (List Str)) (last : List Str) : Bool := match prev.getLast? with
  | none => false
  | some p => sLt last p
def chkV (prev : List (List Str)) (last : List Str) (x : Str) : Bool := (prev.any fun y => decide (x ∈ y)) || beh prev last
theorem chk_ok (a : GI h1 h n L g ws w rp rl prev last) {l0 : List Str} {x : Str} (el : last = l0 ++ [x]) (hp : prev.length < 16777215) :
    ∃ h', chkG (rhoG x0 n g) h = .ok (chkV prev last x) h' ∧ Kp [] h h' := by
  obtain ⟨h2, e2⟩ : ∃ h2, h2 = h ++ [O.lst (rp.map D.ref)] := ⟨_, rfl⟩
  have n2 : h2[h.length]? = some (.lst (rp.map D.ref)) := by rw [e2]; exact push_new
  have k2 : Kp [] h h2 := by rw [e2]; exact Kp.refl.push
  have a2 := a.more k2
  have hl := a.gr.len
  have zl : (rp.zip prev).map (fun p => D.ref p.1) = rp.map D.ref := by
    have := List.map_fst_zip (l₁ := rp) (l₂ := prev) (by omega)
    rw [← this, List.map_map]
    rw [this]
    rfl
  have zs : (rp.zip prev).map (fun p => p.2) = prev := List.map_snd_zip (by omega)
  have la2 := a2.gr.la
  rw [el] at la2
  obtain ⟨ρ, eρ⟩ : ∃ ρ : Mp.Env, ρ = [some x0, some (.ref n), some (.ref g), none] := ⟨_, rfl⟩
  obtain ⟨fe, efe⟩ : ∃ fe : EF D, fe = (fOp (gIn false) (fOp gIx (fOp gIx (fVar 2) (fUn gNeg (fC (.int 1)))) (fUn gNeg (fC (.int 1)))) (fVar 3)) := ⟨_, rfl⟩
  have cp : compL (srcL h.length) (.nm 3) fYes fe ρ FU 0 [] h2 = .ok (.ref h2.length) (h2 ++ [.lst ((rp.zip prev).map fun p => D.bl (decide (x ∈ p.2)))]) := by
    refine comp_pure (items := rp.zip prev) (mk := fun p => D.ref p.1) (FU_big (by rw [List.length_zip]; omega)) (by rw [List.length_zip]; omega) (fun j => ?_) fun p hp' => ?_
    · rw [srcL_at n2 Kp.refl j, ← zl, List.getElem?_map]
    · obtain ⟨j, hj⟩ := List.getElem?_of_mem hp'
      rw [List.getElem?_zip_eq_some] at hj
      have ep := a2.gr.pv j p.1 p.2 hj.1 hj.2
      have ii := in_strs (x := x) ep
      rw [eρ, efe]
      simp [lstAt a2.gr.at_, lstAt la2, ii]
  obtain ⟨h3, e3⟩ : ∃ h3, h3 = h2 ++ [O.lst ((rp.zip prev).map fun p => D.bl (decide (x ∈ p.2)))] := ⟨_, rfl⟩
  have n3 : h3[h2.length]? = some (.lst ((rp.zip prev).map fun p => D.bl (decide (x ∈ p.2)))) := by rw [e3]; exact push_new
  have k3 : Kp [] h h3 := by rw [e3]; exact k2.push
  have a3 := a.more k3
  have an := any_ref (f := fun p : Nat × List Str => decide (x ∈ p.2)) (lstAt n3)
  have an2 : ((rp.zip prev).any fun p => decide (x ∈ p.2)) = prev.any fun y => decide (x ∈ y) := by
    conv => rhs; rw [← zs, List.any_map]
    rfl
  rw [an2] at an
  have sl : gSl (.ref g) none (some (-1)) h = .ok (.ref h.length) h2 := by
    unfold gSl
    dsimp only
    rw [lstAt a.gr.at_]
    dsimp only
    rw [cutD_m1, e2]
  rw [← e3] at cp
  have fst : (fTru (fCB gAny (fCons (fComp (fSrc (fSl (fVar 2) fNoP (fPart (fUn gNeg (fC (.int 1)))))) (.nm 3) fYes fe FU) fNil))) (rhoG x0 n g) h = .ok (prev.any fun y => decide (x ∈ y)) h3 := by
    rw [eρ] at cp
    simp [sl, srcOf, lstAt n2, wipeE, tgV, cp, an]
  refine ⟨h3, ?_, k3⟩
  unfold chkG
  rw [← efe]
  rw [ev_or, fst]
  simp only [R.bind_ok]
  cases b1 : (prev.any fun y => decide (x ∈ y)) with
  | true => rw [kOr_t]; unfold chkV; rw [b1]; rfl
  | false =>
    rw [kOr_f]
    unfold chkV beh
    rw [b1, Bool.false_or]
    rcases List.eq_nil_or_concat prev with e | ⟨ps, p, e⟩
    · have : rp = [] := List.eq_nil_of_length_eq_zero (by rw [hl, e]; rfl)
      have at3 := a3.gr.at_
      rw [this] at at3
      rw [e]
      simp [lstAt at3]
    · rw [List.concat_eq_append] at e
      obtain ⟨rs, r, er⟩ : ∃ rs r, rp = rs ++ [r] := by
        rcases List.eq_nil_or_concat rp with e' | ⟨rs, r, e'⟩
        · rw [e', e] at hl; simp at hl
        · exact ⟨rs, r, by rw [e', List.concat_eq_append]⟩
      have hl2 : rs.length = ps.length := by rw [er, e] at hl; simpa using hl
      have at3 := a3.gr.at_
      rw [er] at at3
      have pr := a3.gr.pv ps.length r p (by rw [er, ← hl2]; simp) (by rw [e]; simp)
      have gt := gt_strs pr a3.gr.la (fun y hy => a.ok y (by rw [e]; simp [hy])) (fun y hy => a.ok y (by simp [hy]))
      rw [e]
      simp at at3
      have i1 : atI (rs.map D.ref ++ [D.ref r, D.ref rl]) (-1) = some (.ref rl) := by
        have := atI_m1 (l := rs.map D.ref ++ [D.ref r]) (y := D.ref rl)
        simpa using this
      simp [lstAt at3, gt, i1, show (1 : Int) < (rs.length : Int) + 2 by omega]
end
end W86
set_option Elab.async false
set_option linter.all false
set_option maxRecDepth 100000
set_option maxHeartbeats 4000000
namespace W86
open PySem Mp TL
open L2 (cutS atI)

/-! ### a grouping read, as the rules say -/
def goG : List Str → Nat → List (List Str) → List Str → Except Nat (List (List Str))
  | [], w, prev, last => if last.isEmpty = true then .error w else .ok (prev ++ [last])
  | x :: r, w, prev, last => if (!last.isEmpty && decide (x = "/")) = true then goG r (w + 1) (prev ++ [last]) []
    else if (nmOk x last.getLast? && !chkV prev (last ++ [x]) x) = true then goG r (w + 1) prev (last ++ [x]) else .error w
section
variable {h1 h : MH} {n L g rl : Nat} {ws : List (List Str)} {rp : List Nat} {prev : List (List Str)} {last : List Str} {x0 : D}
theorem wd_at {ws : List (List Str)} {line taken rest : List Str} (e : ws[0]? = some line) (el : line = taken ++ rest) : wd ws 0 taken.length = rest.head? := by
  unfold wd
  rw [e]
  show line[taken.length]? = rest.head?
  rw [el, List.getElem?_append_right (Nat.le_refl _), Nat.sub_self]
  cases rest <;> rfl
theorem GI.back {w : Nat} (a : GI h1 h n L g ws (w + 1) rp rl prev last) (hne : ws ≠ []) : F_Scan_back [.ref n] h = .exc ⟨2, [.int (0 : Nat), .int w]⟩ h := by
  rw [back_ok (a.scan hne)]
  have : ((w + 1 : Nat) : Int) - 1 = w := by omega
  rw [this]
theorem body_slash {line taken r : List Str} (e0 : ws[0]? = some line) (el : line = taken ++ ("/" : Str) :: r) (a : GI h1 h n L g ws taken.length rp rl prev last) (hp : prev.length < 16777215) (hl : last.isEmpty = false) :
    ∃ h' rp' rl', bodyG (rhoG x0 n g) h = .ok .nx (rhoG x0 n g) h' ∧ GI h1 h' n L g ws (taken.length + 1) rp' rl' (prev ++ [last]) [] := by
  have hne : ws ≠ [] := fun z => by rw [z] at e0; cases e0
  have q : wd ws 0 taken.length = some "/" := wd_at e0 el
  have hw : ∀ line, ws[0]? = some line → taken.length ≤ line.length := fun l hl => by rw [e0] at hl; cases hl; rw [el]; simp
  obtain ⟨h2, t1, t2⟩ := test_ok (x0 := x0) a hne hw
  have a2 := a.more t2
  obtain ⟨h3, s1, s2⟩ := slash_ok (x0 := x0) a2 hne hw q hp
  rw [hl, q] at t1
  refine ⟨h3, _, _, ?_, s2⟩
  unfold bodyG
  rw [es_if, t1]
  simp [ofR, s1]
theorem body_name {line taken r : List Str} {x : Str} (e0 : ws[0]? = some line) (el : line = taken ++ x :: r) (k : Wok ws) (a : GI h1 h n L g ws taken.length rp rl prev last) (hp : prev.length < 16777215) (hl : last.length < 16777215)
    (ns : (!last.isEmpty && decide (x = "/")) = false) :
    if (nmOk x last.getLast? && !chkV prev (last ++ [x]) x) = true then ∃ h', bodyG (rhoG x0 n g) h = .ok .nx (rhoG x0 n g) h' ∧ GI h1 h' n L g ws (taken.length + 1) rp rl prev (last ++ [x])
    else ∃ h', bodyG (rhoG x0 n g) h = .exc ⟨2, [.int (0 : Nat), .int taken.length]⟩ (rhoG x0 n g) h' ∧ Kp [n] h1 h' := by
  have hne : ws ≠ [] := fun z => by rw [z] at e0; cases e0
  have q : wd ws 0 taken.length = some x := wd_at e0 el
  have hw : ∀ line, ws[0]? = some line → taken.length ≤ line.length := fun l hl => by rw [e0] at hl; cases hl; rw [el]; simp
  obtain ⟨h2, t1, t2⟩ := test_ok (x0 := x0) a hne hw
  have a2 := a.more t2
  have nm := name_ok (x0 := x0) a2 hne k hw hl
  have t1' : testG (rhoG x0 n g) h = .ok false h2 := by
    rw [t1, q]
    have : (!last.isEmpty && decide (some x = some "/")) = (!last.isEmpty && decide (x = "/")) := by simp
    rw [this, ns]
  rw [q] at nm
  dsimp only at nm
  have b : bodyG (rhoG x0 n g) h = (nameG (rhoG x0 n g) h2).thn (sIf chkG (sExpr (fMeth 4 F_Scan_back [] (fVar 1) fNil)) sNil) := by
    unfold bodyG
    rw [es_if, t1']
    rfl
  rw [b]
  cases c : nmOk x last.getLast? with
  | false =>
    rw [c] at nm
    obtain ⟨h3, n1, n1k⟩ := nm
    rw [if_neg (by simp)]
    rw [n1]
    exact ⟨h3, rfl, n1k⟩
  | true =>
    rw [c] at nm
    obtain ⟨h3, n1, n2⟩ := nm
    obtain ⟨h4, c1, c2⟩ := chk_ok (x0 := x0) n2 rfl hp
    have n4 := n2.more c2
    rw [n1]
    cases cc : chkV prev (last ++ [x]) x with
    | true =>
      rw [if_neg (by simp)]
      rw [cc] at c1
      have bk := n4.back hne
      refine ⟨h4, ?_, n4.kp⟩
      simp [SR.thn, c1, insAt n4.sc, bk, ofR]
    | false =>
      rw [if_pos (by simp)]
      rw [cc] at c1
      refine ⟨h4, ?_, n4⟩
      simp [SR.thn, c1, ofR]
theorem loop_ok {line : List Str} (e0 : ws[0]? = some line) (hlen : line.length ≤ 1000001) (k : Wok ws) : ∀ (rest taken : List Str) (m : Nat) (h : MH) (rp : List Nat) (rl : Nat) (prev : List (List Str)) (last : List Str), line = taken ++ rest → rest.length < m → GI h1 h n L g ws taken.length rp rl prev last → prev.length + last.length ≤ taken.length →
    match goG rest taken.length prev last with
    | .error w => ∃ h', sWhile condG bodyG m (rhoG x0 n g) h = .exc ⟨2, [.int (0 : Nat), .int w]⟩ (rhoG x0 n g) h' ∧ Kp [n] h1 h'
    | .ok gs => ∃ h' rp' rl' ps l, gs = ps ++ [l] ∧ sWhile condG bodyG m (rhoG x0 n g) h = .ok .nx (rhoG x0 n g) h' ∧ GI h1 h' n L g ws line.length rp' rl' ps l ∧ ps.length + l.length ≤ line.length := by
  intro rest
  induction rest with
  | nil =>
    intro taken m h rp rl prev last el hm a bd
    obtain ⟨m, rfl⟩ : ∃ m', m = m' + 1 := ⟨m - 1, by simp at hm; omega⟩
    have hne : ws ≠ [] := fun z => by rw [z] at e0; cases e0
    have hw : ∀ line, ws[0]? = some line → taken.length ≤ line.length := fun l hl => by rw [e0] at hl; cases hl; rw [el]; simp
    have q : wd ws 0 taken.length = none := wd_at e0 el
    obtain ⟨h2, c1, c2⟩ := cond_ok (x0 := x0) a hne hw
    have a2 := a.more c2
    rw [q] at c1
    unfold goG
    cases hl : last.isEmpty with
    | false =>
      rw [hl] at c1
      rw [if_neg (by simp)]
      refine ⟨h2, rp, rl, prev, last, rfl, while_f c1, ?_, ?_⟩
      · have : line.length = taken.length := by rw [el]; simp
        rw [this]; exact a2
      · rw [el]; simpa using bd
    | true =>
      rw [hl] at c1
      rw [if_pos rfl]
      have t := test_ok (x0 := x0) a2 hne hw
      obtain ⟨h3, t1, t2⟩ := t
      rw [hl] at t1
      have a3 := a2.more t2
      have nm := name_ok (x0 := x0) a3 hne k hw (by rw [List.isEmpty_iff.mp hl]; decide)
      rw [q] at nm
      obtain ⟨h4, n1, n1k⟩ := nm
      refine ⟨h4, ?_, n1k⟩
      rw [while_t c1]
      have : bodyG (rhoG x0 n g) h2 = .exc ⟨2, [.int (0 : Nat), .int taken.length]⟩ (rhoG x0 n g) h4 := by
        unfold bodyG
        rw [es_if, t1]
        simp [ofR, n1, SR.thn]
      rw [this]
  | cons x r ih =>
    intro taken m h rp rl prev last el hm a bd
    obtain ⟨m, rfl⟩ : ∃ m', m = m' + 1 := ⟨m - 1, by simp at hm; omega⟩
    have hne : ws ≠ [] := fun z => by rw [z] at e0; cases e0
    have hw : ∀ line, ws[0]? = some line → taken.length ≤ line.length := fun l hl => by rw [e0] at hl; cases hl; rw [el]; simp
    have q : wd ws 0 taken.length = some x := wd_at e0 el
    have tl : taken.length ≤ 1000001 := by have := hw _ e0; omega
    obtain ⟨h2, c1, c2⟩ := cond_ok (x0 := x0) a hne hw
    have a2 := a.more c2
    rw [q] at c1
    rw [while_t c1]
    unfold goG
    have el' : line = (taken ++ [x]) ++ r := by rw [el]; simp
    have tl' : (taken ++ [x]).length = taken.length + 1 := by simp
    cases ns : (!last.isEmpty && decide (x = "/")) with
    | true =>
      rw [if_pos rfl]
      rw [Bool.and_eq_true, decide_eq_true_iff] at ns
      obtain ⟨ns1, ns2⟩ := ns
      subst ns2
      obtain ⟨h3, rp', rl', b1, b2⟩ := body_slash (x0 := x0) e0 el a2 (by omega) (by simpa using ns1)
      rw [b1]
      have := ih (taken ++ [("/" : Str)]) m h3 rp' rl' (prev ++ [last]) [] el' (by simp at hm ⊢; omega) (by rw [tl']; exact b2) (by
        have : 1 ≤ last.length := by cases last with
          | nil => simp at ns1
          | cons _ _ => simp
        rw [tl']; simp; omega)
      rw [tl'] at this
      exact this
    | false =>
      rw [if_neg (by simp)]
      have bn := body_name (x0 := x0) e0 el k a2 (by omega) (by omega) ns
      by_cases c : (nmOk x last.getLast? && !chkV prev (last ++ [x]) x) = true
      · rw [if_pos c] at bn ⊢
        obtain ⟨h3, b1, b2⟩ := bn
        rw [b1]
        have := ih (taken ++ [x]) m h3 rp rl prev (last ++ [x]) el' (by simp at hm ⊢; omega) (by rw [tl']; exact b2) (by rw [tl']; simp; omega)
        rw [tl'] at this
        exact this
      · rw [if_neg c] at bn ⊢
        obtain ⟨h3, b1, b1k⟩ := bn
        rw [b1]
        exact ⟨h3, rfl, b1k⟩
end
end W86
set_option Elab.async false
set_option linter.all false
set_option maxRecDepth 100000
set_option maxHeartbeats 4000000
namespace W86
open PySem Mp TL
open L2 (cutS atI)

/-- what a text of a grouping tells: its groups, or the line and the word that cannot stand -/
def RG (x : Str) : Except (Nat × Nat) (List (List Str)) := match wds x with
  | [] => .error (0, 0)
  | line :: more => match goG line 0 [] [] with
    | .error w => .error (0, w)
    | .ok gs => if more.isEmpty = true then .ok gs else .error (1, 0)
def GD (gs : List (List Str)) : D := .tup (gs.map fun w => .tup (w.map D.str))
theorem thn_nx {s : SF} {ρ : Mp.Env} {h : MH} : (SR.ok .nx ρ h).thn s = s ρ h := rfl
theorem thn_exc {s : SF} {ρ : Mp.Env} {h : MH} {x : Xn} : (SR.exc x ρ h).thn s = .exc x ρ h := rfl
section
variable {h1 h : MH} {n L g w rl : Nat} {ws : List (List Str)} {rp : List Nat} {prev : List (List Str)} {last : List Str} {x0 : D}
/-- tuple([tuple(group) for group in groups]) -/
theorem tups_ok {h : MH} {g k : Nat} {rs : List Nat} {gs : List (List Str)} {ρ : Mp.Env} (hk : k < ρ.length) (e : h[g]? = some (.lst (rs.map D.ref))) (hl : rs.length = gs.length) (hz : gs.length ≤ 16777216)
    (pv : ∀ (j r : Nat) (w : List Str), rs[j]? = some r → gs[j]? = some w → h[r]? = some (.lst (w.map D.str))) :
    compL (srcL g) (.nm k) fYes (fCB gTuple (fCons (fVar k) fNil)) ρ FU 0 [] h = .ok (.ref h.length) (h ++ [.lst (gs.map fun w => D.tup (w.map D.str))]) := by
  have zl : (rs.zip gs).map (fun p => D.ref p.1) = rs.map D.ref := by
    have := List.map_fst_zip (l₁ := rs) (l₂ := gs) (by omega)
    rw [← this, List.map_map]
    rw [this]
    rfl
  have zs : (rs.zip gs).map (fun p => D.tup (p.2.map D.str)) = gs.map fun w => D.tup (w.map D.str) := by
    have := List.map_snd_zip (l₁ := rs) (l₂ := gs) (by omega)
    conv => rhs; rw [← this, List.map_map]
    rfl
  have := comp_pure (src := srcL g) (k := k) (n := FU) (fe := fCB gTuple (fCons (fVar k) fNil)) (ρ := ρ) (h0 := h) (items := rs.zip gs) (mk := fun p => D.ref p.1) (f := fun p => D.tup (p.2.map D.str)) (FU_big (by rw [List.length_zip]; omega)) (by rw [List.length_zip]; omega) (fun j => by
      rw [srcL_at e Kp.refl j, ← zl, List.getElem?_map]) (fun p hp => by
      obtain ⟨j, hj⟩ := List.getElem?_of_mem hp
      rw [List.getElem?_zip_eq_some] at hj
      have ep := lstAt (pv j p.1 p.2 hj.1 hj.2)
      have ev : fVar k (ρ.set k (some (D.ref p.1))) h = .ok (.ref p.1) h := by
        unfold fVar
        rw [List.getElem?_set_self hk]
      simp [ev, gTuple, itemsOf, ep])
  rw [zs] at this
  exact this
theorem Grp.all (a : Grp h g n rp rl prev last) : ∀ (j r : Nat) (w : List Str), (rp ++ [rl])[j]? = some r → (prev ++ [last])[j]? = some w → h[r]? = some (.lst (w.map D.str)) := by
  intro j r w e1 e2
  have hl := a.len
  by_cases hj : j < rp.length
  · rw [List.getElem?_append_left hj] at e1
    rw [List.getElem?_append_left (by omega)] at e2
    exact a.pv j r w e1 e2
  · rw [List.getElem?_append_right (by omega)] at e1
    rw [List.getElem?_append_right (by omega), ← hl] at e2
    have hj0 : j - rp.length = 0 := by
      have := (List.getElem?_eq_some_iff.mp e1).1
      simpa using this
    rw [hj0] at e1 e2
    simp at e1 e2
    subst e1 e2
    exact a.la
end
theorem read_grouping_ok {x : Str} {h : MH} (ok : okS x) (hx : x.length ≤ 1000000) : match RG x with
    | .ok gs => ∃ h', F_read_grouping [.str x] h = .ok (GD gs) h' ∧ Kp [] h h'
    | .error (l, w) => ∃ h', F_read_grouping [.str x] h = .exc ⟨2, [.int l, .int w]⟩ h' ∧ Kp [] h h' := by
  obtain ⟨h1, L, i1, i2, i3⟩ := init_ok (m := h.length) (h := h ++ [O.ins 4 []]) ok hx push_new
  have k1 : Kp [] h h1 := (Kp.refl (S := [])).push.trans (S2 := []) i3 fun m hm _ => ⟨by simp, fun z => absurd (List.mem_singleton.mp z) (by omega)⟩
  obtain ⟨wk, wne, wl1, wl2⟩ := wds_ok ok hx
  have nl1 : h.length < h1.length := ltOf i2.at_
  obtain ⟨h2, e2⟩ : ∃ h2, h2 = (h1 ++ [O.lst []]) ++ [O.lst [D.ref h1.length]] := ⟨_, rfl⟩
  have g0 : GI h1 h2 h.length L (h1.length + 1) (wds x) 0 [] h1.length [] [] := by
    refine ⟨?_, ?_, i2.at_, i2.ln, ⟨?_, rfl, by simp, ⟨by omega, fun r hr => ?_⟩, fun j r w h1 => by simp at h1, ?_⟩, by simp⟩
    · rw [e2]; exact push_old (push_old i2.at_)
    · rw [e2]; exact Kp.refl.push.push
    · rw [e2]; simp
    · obtain rfl : r = h1.length := (by simpa using hr)
      omega
    · rw [e2]; exact push_old push_new
  have back : ∀ {h' : MH}, Kp [h.length] h1 h' → Kp [] h h' := fun kk => k1.trans (S2 := []) kk fun m hm _ => ⟨by simp, fun z => absurd (List.mem_singleton.mp z) (by omega)⟩
  obtain ⟨line, more, ew⟩ := List.exists_cons_of_ne_nil wne
  have e0 : (wds x)[0]? = some line := by rw [ew]; rfl
  have hlen : line.length ≤ 1000001 := wl2 line (by rw [ew]; simp)
  have lp := loop_ok (x0 := .str x) e0 hlen wk line [] FU h2 [] h1.length [] [] rfl (FU_big (by omega)) g0 (by simp)
  have ev : ∀ (r : R D), fin ((sSeq (sWhile condG bodyG FU)
      (sSeq (sExpr (fMeth 4 F_Scan_end_line [] (fVar 1) fNil))
      (sSeq (sExpr (fCall F_need_over [] (fCons (fVar 1) fNil)))
      (sRet (fCB gTuple (fCons (fComp (fSrc (fVar 2)) (.nm 3) fYes (fCB gTuple (fCons (fVar 3) fNil)) FU) fNil)))))) (rhoG (.str x) h.length (h1.length + 1)) h2) = r → F_read_grouping [.str x] h = r := by
    intro r hr
    rw [← hr]
    unfold F_read_grouping
    rw [s_rg]
    refine (mk_go (ρ' := [some (.str x), none, none, none]) rfl rfl).trans ?_
    refine congrArg fin ?_
    rw [es_seq]
    have a1 : sAsg (fMake 4 F_Scan___init__ [] (fCons (fVar 0) fNil)) (gN 1) [some (.str x), none, none, none] h = .ok .nx [some (.str x), some (.ref h.length), none, none] h1 := by
      simp [i1, ofR, SR.tk]
    rw [a1, thn_nx, es_seq]
    have a2 : sAsg (fLst (fCons (fLst fNil) fNil)) (gN 2) [some (.str x), some (.ref h.length), none, none] h1 = .ok .nx (rhoG (.str x) h.length (h1.length + 1)) h2 := by
      simp [ofR, SR.tk, e2]
    rw [a2, thn_nx]
  unfold RG
  rw [ew]
  dsimp only
  cases q : goG line 0 [] [] with
  | error w =>
    rw [show ([] : List Str).length = 0 from rfl, q] at lp
    obtain ⟨h', l1, l2⟩ := lp
    refine ⟨h', ev _ ?_, back l2⟩
    rw [es_seq, l1, thn_exc, fin_exc]
  | ok gs =>
    rw [show ([] : List Str).length = 0 from rfl, q] at lp
    obtain ⟨h3, rp, rl, ps, l, eg, l1, l2, l3⟩ := lp
    have sc3 := l2.scan wne
    have hwd : wd (wds x) 0 line.length = none := by
      have := wd_at (ws := wds x) (line := line) (taken := line) (rest := []) e0 (by simp)
      exact this
    have en := end_line_ok sc3 (fun l hl => by rw [e0] at hl; cases hl; exact Nat.le_refl _) (by rw [ew]; simp)
    rw [hwd] at en
    obtain ⟨h4, n1, n2, n3⟩ := en
    have no := need_over_ok n2
    have kp4 : Kp [h.length] h1 h4 := l2.kp.trans n3 fun m _ hs => ⟨hs, hs⟩
    have step : (sSeq (sWhile condG bodyG FU)
      (sSeq (sExpr (fMeth 4 F_Scan_end_line [] (fVar 1) fNil))
      (sSeq (sExpr (fCall F_need_over [] (fCons (fVar 1) fNil)))
      (sRet (fCB gTuple (fCons (fComp (fSrc (fVar 2)) (.nm 3) fYes (fCB gTuple (fCons (fVar 3) fNil)) FU) fNil)))))) (rhoG (.str x) h.length (h1.length + 1)) h2 = (sSeq (sExpr (fCall F_need_over [] (fCons (fVar 1) fNil)))
      (sRet (fCB gTuple (fCons (fComp (fSrc (fVar 2)) (.nm 3) fYes (fCB gTuple (fCons (fVar 3) fNil)) FU) fNil)))) (rhoG (.str x) h.length (h1.length + 1)) h4 := by
      rw [es_seq, l1, thn_nx, es_seq]
      have : sExpr (fMeth 4 F_Scan_end_line [] (fVar 1) fNil) (rhoG (.str x) h.length (h1.length + 1)) h3 = .ok .nx (rhoG (.str x) h.length (h1.length + 1)) h4 := by
        simp [insAt l2.sc, n1, ofR]
      rw [this, thn_nx]
    rw [step] at ev
    dsimp only
    cases hm : more with
    | cons y ys =>
      have ne : ¬ (0 + 1 = (wds x).length) := by rw [ew, hm]; simp
      rw [if_neg ne] at no
      refine ⟨h4, ev _ ?_, back kp4⟩
      rw [es_seq]
      simp [no, ofR, SR.thn]
    | nil =>
      have ne : 0 + 1 = (wds x).length := by rw [ew, hm]; simp
      rw [if_pos ne] at no
      have g4 := l2.gr.kp n3 (fun m hm => by
        obtain rfl : m = h.length := (by simpa using hm)
        exact nl1)
      have at4 := g4.at_
      have at4' : h4[h1.length + 1]? = some (.lst ((rp ++ [rl]).map D.ref)) := by rw [at4]; simp
      have tp := tups_ok (k := 3) (ρ := rhoG (.str x) h.length (h1.length + 1)) (gs := ps ++ [l]) (by simp) at4' (by simp [g4.len]) (by simp; omega) g4.all
      refine ⟨h4 ++ [.lst ((ps ++ [l]).map fun w => D.tup (w.map D.str))], ev _ ?_, (back kp4).push⟩
      rw [es_seq]
      have a1 : sExpr (fCall F_need_over [] (fCons (fVar 1) fNil)) (rhoG (.str x) h.length (h1.length + 1)) h4 = .ok .nx (rhoG (.str x) h.length (h1.length + 1)) h4 := by
        simp [no, ofR]
      rw [a1, thn_nx]
      have a2 : (fComp (fSrc (fVar 2)) (.nm 3) fYes (fCB gTuple (fCons (fVar 3) fNil)) FU) (rhoG (.str x) h.length (h1.length + 1)) h4 = .ok (.ref h4.length) (h4 ++ [.lst ((ps ++ [l]).map fun w => D.tup (w.map D.str))]) := by
        rw [ev_comp, ev_src]
        have v2 : fVar 2 (rhoG (.str x) h.length (h1.length + 1)) h4 = .ok (.ref (h1.length + 1)) h4 := rfl
        rw [v2]
        simp only [R.bind_ok, kSrc1_eq]
        rw [show srcOf (.ref (h1.length + 1)) h4 = some (srcL (h1.length + 1)) from by unfold srcOf; dsimp only; rw [lstAt at4']]
        simp only [opt_some, kSrc2_eq, R.bind_ok, kCo_eq]
        rw [show wipeE (rhoG (.str x) h.length (h1.length + 1)) (tgV (.nm 3)) = rhoG (.str x) h.length (h1.length + 1) from rfl, tp]
      rw [es_ret, ev_cb, ev_cons, a2]
      simp [gTuple, itemsOf, lstAt push_new, ofR, eg, GD]
theorem read_grouping_bad {d : D} {h : MH} {t : String} (ht : tyOf (h ++ [O.ins 4 []]) d = some t) (hs : t ≠ "str") : ∃ h', F_read_grouping [d] h = .exc ⟨2, [.int 0, .int 0]⟩ h' ∧ Kp [] h h' := by
  have ib := init_bad (m := h.length) ht hs
  refine ⟨h ++ [O.ins 4 []], ?_, Kp.refl.push⟩
  unfold F_read_grouping
  rw [s_rg]
  refine (mk_go (ρ' := [some d, none, none, none]) rfl rfl).trans ?_
  simp [ib, ofR, SR.thn]
end W86
set_option Elab.async false
set_option linter.all false
set_option maxRecDepth 100000
set_option maxHeartbeats 4000000
namespace W86
open PySem Mp TL
open L2 (cutS atI)

/-! ### the law's own reading of a grouping, as a plain function -/
def headLt (x : Str) (prev : List (List Str)) : Bool := match prev.getLast? with
  | none => false
  | some p => match p.head? with
    | none => false
    | some z => strLt x z
def notAb (x : Str) (last : List Str) : Bool := match last.getLast? with
  | none => false
  | some y => !strLt y x
def badD (x : Str) (prev : List (List Str)) (last : List Str) : Bool := !isName x || (decide (x ∈ prev.flatten ++ last) || (notAb x last || (last.isEmpty && headLt x prev)))
def goD : List Str → Nat → List (List Str) → List Str → Except Nat (List (List Str))
  | [], w, prev, last => if last.isEmpty = true then .error w else .ok (prev ++ [last])
  | x :: r, w, prev, last => if (!last.isEmpty && decide (x = "/")) = true then goD r (w + 1) (prev ++ [last]) []
    else if badD x prev last = true then .error w else goD r (w + 1) prev (last ++ [x])
theorem sLt_irr (x : Str) : strLt x x = false := by
  unfold strLt
  exact decide_eq_false (List.lt_irrefl _)
theorem sLt_tr {x y z : Str} (a : strLt x y = true) (b : strLt y z = true) : strLt x z = true := by
  unfold strLt at *
  exact decide_eq_true (List.lt_trans (of_decide_eq_true a) (of_decide_eq_true b))
structure PI (prev : List (List Str)) (last : List Str) : Prop where
  asc : last.Pairwise fun a b => strLt a b = true
  ne : ∀ p ∈ prev, p ≠ []
  hd : ∀ p y z, prev.getLast? = some p → last.head? = some y → p.head? = some z → y ≠ z ∧ strLt y z = false
theorem any_flat {x : Str} {prev : List (List Str)} : (prev.any fun y => decide (x ∈ y)) = decide (x ∈ prev.flatten) := by
  rw [Bool.eq_iff_iff, List.any_eq_true, decide_eq_true_iff, List.mem_flatten]
  constructor
  · rintro ⟨y, h1, h2⟩; exact ⟨y, h1, of_decide_eq_true h2⟩
  · rintro ⟨y, h1, h2⟩; exact ⟨y, h1, decide_eq_true h2⟩
theorem asc_all {last : List Str} {y x : Str} (a : last.Pairwise fun a b => strLt a b = true) (e : last.getLast? = some y) (l : strLt y x = true) : ∀ z ∈ last, strLt z x = true := by
  obtain ⟨l0, rfl⟩ : ∃ l0, last = l0 ++ [y] := by
    rcases List.eq_nil_or_concat last with e' | ⟨l0, z, e'⟩
    · rw [e'] at e; cases e
    · rw [List.concat_eq_append] at e'
      rw [e'] at e
      simp at e
      exact ⟨l0, by rw [e', e]⟩
  intro z hz
  rcases List.mem_append.mp hz with hz | hz
  · exact sLt_tr ((List.pairwise_append.mp a).2.2 z hz y (by simp)) l
  · rw [List.mem_singleton.mp hz]; exact l
/-- one word: the two readings say the same -/
theorem step_eq {prev : List (List Str)} {last : List Str} {x : Str} (I : PI prev last) : (nmOk x last.getLast? && !chkV prev (last ++ [x]) x) = !badD x prev last ∧ (badD x prev last = false → PI prev (last ++ [x])) := by
  cases hN : isName x with
  | false => 
    have b : badD x prev last = true := by unfold badD; rw [hN]; rfl
    rw [b]
    refine ⟨by unfold nmOk; rw [hN]; rfl, fun z => by cases z⟩
  | true =>
    have nm : nmOk x last.getLast? = !notAb x last := by
      unfold nmOk notAb
      rw [hN]
      cases last.getLast? <;> simp
    have bd : badD x prev last = (decide (x ∈ prev.flatten ++ last) || (notAb x last || (last.isEmpty && headLt x prev))) := by unfold badD; rw [hN]; rfl
    rw [nm, bd]
    unfold chkV
    rw [any_flat]
    cases hl : last with
    | nil =>
      have na : notAb x [] = false := rfl
      rw [na]
      simp only [List.nil_append, List.append_nil, List.isEmpty_nil, Bool.true_and, Bool.not_false, Bool.false_or]
      by_cases hx : x ∈ prev.flatten
      · rw [decide_eq_true hx]
        exact ⟨rfl, fun z => by cases z⟩
      · rw [decide_eq_false hx, Bool.false_or, Bool.false_or]
        have e : beh prev [x] = headLt x prev := by
          unfold headLt beh
          cases q : prev.getLast? with
          | none => rfl
          | some p =>
            have pm := List.mem_of_getLast? q
            obtain ⟨z, zs, rfl⟩ := List.exists_cons_of_ne_nil (I.ne p pm)
            have : x ≠ z := fun e => hx (List.mem_flatten.mpr ⟨_, pm, by rw [e]; simp⟩)
            exact sLt_heads this
        rw [e]
        refine ⟨rfl, fun z => ⟨by simp, I.ne, fun p y z' h1 h2 h3 => ?_⟩⟩
        simp at h2
        subst h2
        have pm := List.mem_of_getLast? h1
        refine ⟨fun e => hx (List.mem_flatten.mpr ⟨_, pm, ?_⟩), ?_⟩
        · rw [e]
          obtain ⟨z0, zs, rfl⟩ := List.exists_cons_of_ne_nil (I.ne p pm)
          simp at h3
          rw [h3]; simp
        · unfold headLt at z
          rw [h1] at z
          dsimp only at z
          rw [h3] at z
          exact z
    | cons y0 ys =>
      rw [← hl]
      have le : last.isEmpty = false := by rw [hl]; rfl
      rw [le, Bool.false_and, Bool.or_false]
      have e : beh prev (last ++ [x]) = false := by
        unfold beh
        cases q : prev.getLast? with
        | none => rfl
        | some p =>
          have pm := List.mem_of_getLast? q
          obtain ⟨z, zs, ez⟩ := List.exists_cons_of_ne_nil (I.ne p pm)
          obtain ⟨h1, h2⟩ := I.hd p y0 z q (by rw [hl]; rfl) (by rw [ez]; rfl)
          rw [hl, ez]
          show sLt (y0 :: (ys ++ [x])) (z :: zs) = false
          rw [sLt_heads h1, h2]
      rw [e, Bool.or_false]
      cases na : notAb x last with
      | true => exact ⟨by simp, fun z => by simp at z⟩
      | false =>
        obtain ⟨y, ey⟩ : ∃ y, last.getLast? = some y := by
          cases q : last.getLast? with
          | none => rw [List.getLast?_eq_none_iff] at q; rw [q] at le; cases le
          | some y => exact ⟨y, rfl⟩
        have ly : strLt y x = true := by
          unfold notAb at na
          rw [ey] at na
          simpa using na
        have al := asc_all I.asc ey ly
        have nl : x ∉ last := fun hx => by have := al x hx; rw [sLt_irr] at this; cases this
        have em : decide (x ∈ prev.flatten ++ last) = decide (x ∈ prev.flatten) := by simp [nl]
        rw [em, Bool.or_false]
        refine ⟨by simp, fun z => ⟨?_, I.ne, fun p y' z' h1 h2 h3 => I.hd p y' z' h1 ?_ h3⟩⟩
        · rw [List.pairwise_append]
          exact ⟨I.asc, by simp, fun a ha b hb => by rw [List.mem_singleton.mp hb]; exact al a ha⟩
        · rw [hl] at h2 ⊢
          exact h2
theorem goD_eq : ∀ (rest : List Str) (w : Nat) (prev : List (List Str)) (last : List Str), PI prev last → goD rest w prev last = goG rest w prev last
  | [], _, _, _, _ => rfl
  | x :: r, w, prev, last, I => by
    obtain ⟨s1, s2⟩ := step_eq (x := x) I
    unfold goD goG
    rw [s1]
    cases c : (!last.isEmpty && decide (x = "/")) with
    | true =>
      rw [if_pos rfl, if_pos rfl]
      refine goD_eq r (w + 1) (prev ++ [last]) [] ⟨by simp, fun p hp => ?_, fun p y z h1 h2 => by cases h2⟩
      rcases List.mem_append.mp hp with hp | hp
      · exact I.ne p hp
      · rw [List.mem_singleton.mp hp]
        intro e
        rw [e] at c
        cases c
    | false =>
      simp only [Bool.false_eq_true, if_false]
      cases b : badD x prev last with
      | true => simp
      | false =>
        simp only [Bool.false_eq_true, if_false, Bool.not_false, if_true]
        exact goD_eq r (w + 1) prev (last ++ [x]) (s2 b)
end W86
set_option Elab.async false
set_option linter.all false
set_option maxRecDepth 100000
set_option maxHeartbeats 4000000
namespace W86
open PySem Mp TL
open L2 (cutS atI)

def condD : EF Bool := (fOr (fB (fOp gLt (fVar 6) (fCB gLen (fCons (fVar 3) fNil)))) (fB (fOp gEq (fOp gIx (fVar 4) (fUn gNeg (fC (.int 1)))) (fLst fNil))))
def overD : EF Bool := (fB (fOp gEq (fVar 6) (fCB gLen (fCons (fVar 3) fNil))))
def refD : SF := (sRet (fTup (fCons (fC (.str "bad")) (fCons (fC (.int 0)) (fCons (fVar 6) fNil)))))
def parD : SF := (sPar2 7 8 (fCons (fOp gIx (fVar 3) (fVar 6)) (fCons (fOp gIx (fVar 4) (fUn gNeg (fC (.int 1)))) fNil)))
def slD : EF Bool := (fAnd (fB (fOp gEq (fVar 7) (fC (.str "/")))) (fB (fOp gNe (fVar 8) (fLst fNil))))
def appD : SF := (sExpr (fAppend (fVar 4) (fCons (fLst fNil) fNil)))
def badC : EF Bool := (fOr (fNot (fTru (fCall F__law_is_name [] (fCons (fVar 7) fNil)))) (fOr (fB (fOp (gIn false) (fVar 7) (fVar 5))) (fOr (fAnd (fB (fOp gNe (fVar 8) (fLst fNil))) (fB (fOp gLe (fVar 7) (fOp gIx (fVar 8) (fUn gNeg (fC (.int 1))))))) (fAnd (fB (fOp gEq (fVar 8) (fLst fNil))) (fAnd (fB (fOp gGt (fCB gLen (fCons (fVar 4) fNil)) (fC (.int 1)))) (fB (fOp gLt (fVar 7) (fOp gIx (fOp gIx (fVar 4) (fUn gNeg (fC (.int 2)))) (fC (.int 0))))))))))
def addD : SF := (sSeq (sExpr (fAppend (fVar 8) (fCons (fVar 7) fNil)))
  (sExpr (fAppend (fVar 5) (fCons (fVar 7) fNil))))
def incD : SF := (sAsg (fOp gAdd (fVar 6) (fC (.int 1))) (gN 6))
def bodyD : SF := (sSeq (sIf overD refD sNil) (sSeq parD (sSeq (sIf slD appD (sIf badC refD addD)) incD)))
def tailD : SF := (sRet (fIf (fB (fOp gGt (fCB gLen (fCons (fVar 1) fNil)) (fC (.int 1)))) (fTup (fCons (fC (.str "bad")) (fCons (fC (.int 1)) (fCons (fC (.int 0)) fNil)))) (fLst (fCons (fCB gTuple (fCons (fComp (fSrc (fVar 4)) (.nm 9) fYes (fCB gTuple (fCons (fVar 9) fNil)) FU) fNil)) fNil))))
theorem s_gd : s__law_grouping_due = (sSeq (sIf (fNot (fTru (fCB gIsi (fCons (fVar 0) (fCons (fC (.ty "str")) fNil)))))
  (sRet (fTup (fCons (fC (.str "bad")) (fCons (fC (.int 0)) (fCons (fC (.int 0)) fNil)))))
  sNil)
  (sSeq (sAsg (fComp (fSrc (fM1 gSplit (fVar 0) (fC (.str "\n")))) (.nm 2) fYes (fM1 gSplit (fVar 2) (fC (.str " "))) FU) (gN 1))
  (sSeq (sAsg (fTup (fCons (fOp gIx (fVar 1) (fC (.int 0))) (fCons (fLst (fCons (fLst fNil) fNil)) (fCons (fLst fNil) (fCons (fC (.int 0)) fNil))))) (gTp 4 (gsCons (gN 3) (gsCons (gN 4) (gsCons (gN 5) (gsCons (gN 6) gsNil))))))
  (sSeq (sWhile condD bodyD FU)
  tailD)))) := rfl
theorem nil_eq {h : MH} {r : Nat} {l : List Str} (e : h[r]? = some (.lst (l.map D.str))) (ok : ∀ x ∈ l, okS x) : gEq (.ref r) (.ref h.length) (h ++ [.lst []]) = .ok (.bl l.isEmpty) (h ++ [.lst []]) := by
  obtain ⟨i1, i2⟩ := okDs_strs ok
  have := eq_nil (h := h ++ [.lst []]) (n := r) (m := h.length) (lstAt (push_old e)) i1 (by omega) (lstAt push_new)
  rw [List.isEmpty_map] at this
  exact this
theorem nil_ne {h : MH} {r : Nat} {l : List Str} (e : h[r]? = some (.lst (l.map D.str))) (ok : ∀ x ∈ l, okS x) : gNe (.ref r) (.ref h.length) (h ++ [.lst []]) = .ok (.bl (!l.isEmpty)) (h ++ [.lst []]) := by
  obtain ⟨i1, i2⟩ := okDs_strs ok
  have := ne_nil (h := h ++ [.lst []]) (n := r) (m := h.length) (lstAt (push_old e)) i1 (by omega) (lstAt push_new)
  rw [List.isEmpty_map] at this
  exact this
structure DI (hB h : MH) (L lr g sn : Nat) (line : List Str) (rp : List Nat) (rl : Nat) (prev : List (List Str)) (last : List Str) : Prop where
  kp : Kp [] hB h
  lrA : hB[lr]? = some (.lst (line.map D.str))
  gr : Grp h g hB.length rp rl prev last
  snA : h[sn]? = some (.lst ((prev.flatten ++ last).map D.str))
  snb : hB.length ≤ sn ∧ sn ≠ g ∧ sn ∉ rp ++ [rl]
  ok : ∀ x ∈ prev.flatten ++ last, okS x
section
variable {hB h : MH} {L lr g sn w rl : Nat} {line : List Str} {rp : List Nat} {prev : List (List Str)} {last : List Str} {x0 : D} {y z : Option D}
abbrev rhoD (x0 : D) (L lr g sn w : Nat) (y z : Option D) : Mp.Env := [some x0, some (.ref L), none, some (.ref lr), some (.ref g), some (.ref sn), some (.int w), y, z, none]
theorem DI.more {h' : MH} (a : DI hB h L lr g sn line rp rl prev last) (k : Kp [] h h') : DI hB h' L lr g sn line rp rl prev last :=
  ⟨a.kp.trans k fun m _ hs => ⟨hs, hs⟩, a.lrA, a.gr.kp k (by simp), k.get a.snA (by simp), a.snb, a.ok⟩
theorem DI.okl (a : DI hB h L lr g sn line rp rl prev last) : ∀ x ∈ last, okS x := fun x hx => a.ok x (List.mem_append_right _ hx)
theorem condD_ok (a : DI hB h L lr g sn line rp rl prev last) : ∃ h', condD (rhoD x0 L lr g sn w y z) h = .ok (decide (w < line.length) || last.isEmpty) h' ∧ Kp [] h h' := by
  have l1 := lstAt (a.kp.get a.lrA (by simp))
  by_cases c : w < line.length
  · rw [decide_eq_true c]
    exact ⟨h, by simp [condD, l1, show (w : Int) < line.length by omega], Kp.refl⟩
  · rw [decide_eq_false c]
    have := nil_eq a.gr.la a.okl
    exact ⟨h ++ [.lst []], by simp [condD, l1, show ¬ (w : Int) < line.length by omega, lstAt a.gr.at_, this], Kp.refl.push⟩
theorem overD_ok (a : DI hB h L lr g sn line rp rl prev last) : overD (rhoD x0 L lr g sn w y z) h = .ok (decide (w = line.length)) h := by
  have l1 := lstAt (a.kp.get a.lrA (by simp))
  have e : ((w : Int) = line.length) ↔ (w = line.length) := by omega
  simp [overD, l1, e]
theorem parD_ok (a : DI hB h L lr g sn line rp rl prev last) {x : Str} (e : line[w]? = some x) : parD (rhoD x0 L lr g sn w y z) h = .ok .nx (rhoD x0 L lr g sn w (some (.str x)) (some (.ref rl))) h := by
  have l1 := lstAt (a.kp.get a.lrA (by simp))
  have i1 : atI (line.map D.str) (w : Int) = some (.str x) := by rw [Mp.atI_nat, List.getElem?_map, e]; rfl
  simp [parD, l1, i1, lstAt a.gr.at_, ofR]
theorem slD_ok (a : DI hB h L lr g sn line rp rl prev last) {x : Str} : ∃ h', slD (rhoD x0 L lr g sn w (some (.str x)) (some (.ref rl))) h = .ok (!last.isEmpty && decide (x = "/")) h' ∧ Kp [] h h' := by
  by_cases c : x = "/"
  · rw [decide_eq_true c, Bool.and_true]
    have := nil_ne a.gr.la a.okl
    refine ⟨h ++ [.lst []], ?_, Kp.refl.push⟩
    have d : decide (x = Str.ofString "/") = true := decide_eq_true c
    simp only [slD, ev_and, ev_b, ev_op, v_s, v_0, R.bind_ok, kOp_eq, ev_c, eq_str, d, asB_bl, kAnd_t]
    simp [this]
  · rw [decide_eq_false c, Bool.and_false]
    have d : decide (x = Str.ofString "/") = false := decide_eq_false c
    refine ⟨h, ?_, Kp.refl⟩
    simp only [slD, ev_and, ev_b, ev_op, v_s, v_0, R.bind_ok, kOp_eq, ev_c, eq_str, d, asB_bl, kAnd_f]
theorem badC_ok (a : DI hB h L lr g sn line rp rl prev last) {x : Str} (hx : x.length ≤ 16777216) (okx : okS x) (ne : ∀ p ∈ prev, p ≠ []) : ∃ h', badC (rhoD x0 L lr g sn w (some (.str x)) (some (.ref rl))) h = .ok (badD x prev last) h' ∧ Kp [] h h' := by
  obtain ⟨h2, n1, n2⟩ := law_is_name_ok (h := h) hx okx
  have a2 := a.more n2
  have ins := in_strs (x := x) a2.snA
  unfold badD
  cases c1 : isName x with
  | false =>
    rw [c1] at n1
    exact ⟨h2, by simp [badC, n1], n2⟩
  | true =>
    rw [c1] at n1
    cases c2 : decide (x ∈ prev.flatten ++ last) with
    | true =>
      rw [c2] at ins
      exact ⟨h2, by simp [badC, n1, ins], n2⟩
    | false =>
      rw [c2] at ins
      obtain ⟨h3, e3⟩ : ∃ h3, h3 = h2 ++ [O.lst []] := ⟨_, rfl⟩
      obtain ⟨h4, e4⟩ : ∃ h4, h4 = h3 ++ [O.lst []] := ⟨_, rfl⟩
      have k3 : Kp [] h h3 := by rw [e3]; exact n2.push
      have k4 : Kp [] h h4 := by rw [e4]; exact k3.push
      have a3 := a.more k3
      have a4 := a.more k4
      have q3 := nil_ne a2.gr.la a2.okl
      have q4 := nil_eq a3.gr.la a3.okl
      rw [← e3] at q3
      rw [← e4] at q4
      rcases List.eq_nil_or_concat last with e | ⟨l0, t, e⟩
      · have i0 : last.isEmpty = true := by rw [e]; rfl
        have na : notAb x last = false := by rw [e]; rfl
        rw [na, i0]
        rw [i0] at q3 q4
        rcases List.eq_nil_or_concat prev with e' | ⟨ps, p, e'⟩
        · have : rp = [] := List.eq_nil_of_length_eq_zero (by rw [a.gr.len, e']; rfl)
          have at4 := a4.gr.at_
          rw [this] at at4
          refine ⟨h4, ?_, k4⟩
          have hd : headLt x prev = false := by rw [e']; rfl
          simp [badC, n1, ins, q3, ← e3, q4, ← e4, lstAt at4, hd]
        · rw [List.concat_eq_append] at e'
          have hl := a.gr.len
          obtain ⟨rs, r, er⟩ : ∃ rs r, rp = rs ++ [r] := by
            rcases List.eq_nil_or_concat rp with e'' | ⟨rs, r, e''⟩
            · rw [e'', e'] at hl; simp at hl
            · exact ⟨rs, r, by rw [e'', List.concat_eq_append]⟩
          have hl2 : rs.length = ps.length := by rw [er, e'] at hl; simpa using hl
          have at4 := a4.gr.at_
          rw [er] at at4
          have pr := a4.gr.pv ps.length r p (by rw [er, ← hl2]; simp) (by rw [e']; simp)
          obtain ⟨zz, zs, ez⟩ := List.exists_cons_of_ne_nil (ne p (by rw [e']; simp))
          rw [ez] at pr
          simp at at4 pr
          have hd : headLt x prev = strLt x zz := by unfold headLt; rw [e', ez]; simp
          refine ⟨h4, ?_, k4⟩
          simp [badC, n1, ins, q3, ← e3, q4, ← e4, lstAt at4, lstAt pr, hd, show (1 : Int) < (rs.length : Int) + 2 by omega]
      · rw [List.concat_eq_append] at e
        have i0 : last.isEmpty = false := by rw [e]; simp
        have na : notAb x last = !strLt t x := by unfold notAb; rw [e]; simp
        rw [na, i0]
        rw [i0] at q3 q4
        have la3 := a3.gr.la
        rw [e] at la3
        simp at la3
        cases c3 : strLt t x with
        | true =>
          refine ⟨h4, ?_, k4⟩
          simp [badC, n1, ins, q3, ← e3, q4, ← e4, lstAt la3, c3]
        | false =>
          refine ⟨h3, ?_, k3⟩
          simp [badC, n1, ins, q3, ← e3, lstAt la3, c3]
end
end W86
set_option Elab.async false
set_option linter.all false
set_option maxRecDepth 100000
set_option maxHeartbeats 4000000
namespace W86
open PySem Mp TL
open L2 (cutS atI)

theorem thn_rt {s : SF} {ρ : Mp.Env} {h : MH} {d : D} : (SR.ok (.rt d) ρ h).thn s = .ok (.rt d) ρ h := rfl
def badT (l w : Nat) : D := .tup [.str "bad", .int l, .int w]
section
variable {hB h : MH} {L lr g sn rl : Nat} {line : List Str} {rp : List Nat} {prev : List (List Str)} {last : List Str} {x0 : D} {y z : Option D}
theorem refD_ok {w : Nat} : refD (rhoD x0 L lr g sn w y z) h = .ok (.rt (badT 0 w)) (rhoD x0 L lr g sn w y z) h := by
  simp [refD, ofR, badT]
theorem incD_ok {w : Nat} : incD (rhoD x0 L lr g sn w y z) h = .ok .nx (rhoD x0 L lr g sn (w + 1) y z) h := by
  simp [incD, ofR, SR.tk]
theorem appD_ok {w : Nat} (a : DI hB h L lr g sn line rp rl prev last) (hp : prev.length < 16777215) : ∃ h' rl', appD (rhoD x0 L lr g sn w y z) h = .ok .nx (rhoD x0 L lr g sn w y z) h' ∧ DI hB h' L lr g sn line (rp ++ [rl]) rl' (prev ++ [last]) [] := by
  obtain ⟨h3, e3⟩ : ∃ h3, h3 = h ++ [O.lst []] := ⟨_, rfl⟩
  have k3 : Kp [] h h3 := by rw [e3]; exact Kp.refl.push
  have a3 := a.more k3
  have n3 : h3[h.length]? = some (.lst []) := by rw [e3]; exact push_new
  obtain ⟨h4, e4⟩ : ∃ h4, h4 = h3.set g (.lst ((rp ++ [rl]).map D.ref ++ [D.ref h.length])) := ⟨_, rfl⟩
  have gl : g < h.length := ltOf a.gr.at_
  refine ⟨h4, h.length, ?_, ?_⟩
  · simp [appD, mutAt a.gr.at_, ← e3, mutAt a3.gr.at_, show rp.length + 1 < 16777216 by have := a.gr.len; omega, ofR]
    rw [e4]
    simp
  · refine ⟨?_, a.lrA, ⟨by rw [e4]; exact set_new a3.gr.at_, by simp [a.gr.len], ?_, ⟨a.gr.big.1, fun r hr => ?_⟩, fun j r wj h5 h6 => ?_, by rw [e4]; exact set_old n3 (by omega)⟩, ?_, ⟨a.snb.1, a.snb.2.1, ?_⟩, fun y hy => a.ok y (by simpa using hy)⟩
    · rw [e4]
      exact a3.kp.set (.inr a.gr.big.1)
    · rw [List.nodup_append]
      refine ⟨a.gr.nd, by simp, fun r hr s hs => ?_⟩
      have : s = h.length := by simpa using hs
      rw [this]
      intro zz
      obtain ⟨j, hj⟩ := List.getElem?_of_mem hr
      have hjl : j < (prev ++ [last]).length := by have := (List.getElem?_eq_some_iff.mp hj).1; simp at this ⊢; rw [← a.gr.len]; omega
      have := ltOf (a.gr.all j r _ hj (List.getElem?_eq_getElem hjl))
      omega
    · rcases List.mem_append.mp hr with hr | hr
      · exact a.gr.big.2 r hr
      · have : r = h.length := by simpa using hr
        have := a.kp.le
        omega
    · have hrg : r ≠ g := (a.gr.big.2 r (List.mem_of_getElem? h5)).2
      rw [e4]
      exact set_old (a3.gr.all j r wj h5 h6) (Ne.symm hrg)
    · rw [e4]
      have e : (prev ++ [last]).flatten ++ [] = prev.flatten ++ last := by simp
      rw [e]
      exact set_old a3.snA (Ne.symm a.snb.2.1)
    · intro hm
      rcases List.mem_append.mp hm with hm | hm
      · exact a.snb.2.2 hm
      · have : sn = h.length := by simpa using hm
        have := ltOf a.snA
        omega
theorem addD_ok {w : Nat} {x : Str} (a : DI hB h L lr g sn line rp rl prev last) (okx : okS x) (hl : last.length < 16777215) (hs : (prev.flatten ++ last).length < 16777215) : ∃ h', addD (rhoD x0 L lr g sn w (some (.str x)) (some (.ref rl))) h = .ok .nx (rhoD x0 L lr g sn w (some (.str x)) (some (.ref rl))) h' ∧ DI hB h' L lr g sn line rp rl prev (last ++ [x]) := by
  obtain ⟨h2, e2⟩ : ∃ h2, h2 = h.set rl (.lst ((last ++ [x]).map D.str)) := ⟨_, rfl⟩
  have rg : rl ≠ g := (a.gr.big.2 rl (by simp)).2
  have rb := (a.gr.big.2 rl (by simp)).1
  have rs : rl ≠ sn := fun e => a.snb.2.2 (by rw [← e]; simp)
  have sn2 : h2[sn]? = some (.lst ((prev.flatten ++ last).map D.str)) := by rw [e2]; exact set_old a.snA rs
  obtain ⟨h3, e3⟩ : ∃ h3, h3 = h2.set sn (.lst ((prev.flatten ++ (last ++ [x])).map D.str)) := ⟨_, rfl⟩
  have up : ∀ {m : Nat} {o : O}, h[m]? = some o → m ≠ rl → m ≠ sn → h3[m]? = some o := fun e n1 n2 => by
    rw [e3, e2]; exact set_old (set_old e (Ne.symm n1)) (Ne.symm n2)
  refine ⟨h3, ?_, ?_⟩
  · have m1 := mutAt a.gr.la
    have m2 := mutAt sn2
    have l2 : last.length < 16777216 := by omega
    have l3 : prev.flatten.length + last.length < 16777216 := by simp at hs; simp; omega
    have e2' : h2 = h.set rl (.lst (last.map D.str ++ [D.str x])) := by rw [e2]; simp
    have e3' : h3 = h2.set sn (.lst ((prev.flatten ++ last).map D.str ++ [D.str x])) := by rw [e3]; simp
    have s1 : sExpr (fAppend (fVar 8) (fCons (fVar 7) fNil)) (rhoD x0 L lr g sn w (some (.str x)) (some (.ref rl))) h = .ok .nx (rhoD x0 L lr g sn w (some (.str x)) (some (.ref rl))) h2 := by
      simp [m1, l2, ← e2', ofR]
    have s2 : sExpr (fAppend (fVar 5) (fCons (fVar 7) fNil)) (rhoD x0 L lr g sn w (some (.str x)) (some (.ref rl))) h2 = .ok .nx (rhoD x0 L lr g sn w (some (.str x)) (some (.ref rl))) h3 := by
      have q : ((prev.flatten ++ last).map D.str).length < 16777216 := by rw [List.length_map, List.length_append]; exact l3
      simp only [es_expr, ev_append, v_s, v_0, R.bind_ok, kAp1_eq, m2, opt_some, kAp2_eq, ev_cons, kC1_eq, ev_nil, kC2_eq, app_ref, kApp_eq, q, if_true, ← e3']
      simp [ofR]
    unfold addD
    rw [es_seq, s1, thn_nx, s2]
  · refine ⟨?_, a.lrA, ⟨up a.gr.at_ (Ne.symm rg) (Ne.symm a.snb.2.1), a.gr.len, a.gr.nd, a.gr.big, fun j r wj h5 h6 => up (a.gr.pv j r wj h5 h6) ?_ ?_, ?_⟩, ?_, a.snb, ?_⟩
    · rw [e3, e2]
      exact (a.kp.set (.inr rb)).set (.inr a.snb.1)
    · intro zz
      have := a.gr.nd
      rw [List.nodup_append] at this
      exact this.2.2 r (List.mem_of_getElem? h5) rl (by simp) zz
    · intro zz
      exact a.snb.2.2 (by rw [← zz]; exact List.mem_append_left _ (List.mem_of_getElem? h5))
    · rw [e3]
      refine set_old ?_ (Ne.symm rs)
      rw [e2]; exact set_new a.gr.la
    · rw [e3]; exact set_new sn2
    · intro y hy
      rw [← List.append_assoc] at hy
      rcases List.mem_append.mp hy with hy | hy
      · exact a.ok y hy
      · rw [List.mem_singleton.mp hy]; exact okx
theorem loopD_ok (hlen : line.length ≤ 1000001) (lok : ∀ x ∈ line, okS x ∧ x.length ≤ 16777216) : ∀ (rest taken : List Str) (m : Nat) (h : MH) (y z : Option D) (rp : List Nat) (rl : Nat) (prev : List (List Str)) (last : List Str), line = taken ++ rest → rest.length < m → DI hB h L lr g sn line rp rl prev last → prev.length + (prev.flatten ++ last).length ≤ taken.length → (∀ p ∈ prev, p ≠ []) →
    match goD rest taken.length prev last with
    | .error w => ∃ ρ' h', sWhile condD bodyD m (rhoD x0 L lr g sn taken.length y z) h = .ok (.rt (badT 0 w)) ρ' h' ∧ Kp [] hB h'
    | .ok gs => ∃ y' z' h' rp' rl' ps l, gs = ps ++ [l] ∧ sWhile condD bodyD m (rhoD x0 L lr g sn taken.length y z) h = .ok .nx (rhoD x0 L lr g sn line.length y' z') h' ∧ DI hB h' L lr g sn line rp' rl' ps l ∧ ps.length + l.length ≤ line.length := by
  intro rest
  induction rest with
  | nil =>
    intro taken m h y z rp rl prev last el hm a bd ne
    obtain ⟨m, rfl⟩ : ∃ m', m = m' + 1 := ⟨m - 1, by simp at hm; omega⟩
    have tl : line.length = taken.length := by rw [el]; simp
    obtain ⟨h2, c1, c2⟩ := condD_ok (x0 := x0) (w := taken.length) (y := y) (z := z) a
    have a2 := a.more c2
    rw [decide_eq_false (by omega), Bool.false_or] at c1
    unfold goD
    cases hl : last.isEmpty with
    | false =>
      rw [hl] at c1
      rw [if_neg (by simp)]
      refine ⟨y, z, h2, rp, rl, prev, last, rfl, ?_, a2, ?_⟩
      · rw [while_f c1, tl]
      · rw [tl]; simp at bd; omega
    | true =>
      rw [hl] at c1
      rw [if_pos rfl]
      have o := overD_ok (x0 := x0) (w := taken.length) (y := y) (z := z) a2
      rw [decide_eq_true tl.symm] at o
      refine ⟨rhoD x0 L lr g sn taken.length y z, h2, ?_, a2.kp⟩
      rw [while_t c1]
      have : bodyD (rhoD x0 L lr g sn taken.length y z) h2 = .ok (.rt (badT 0 taken.length)) (rhoD x0 L lr g sn taken.length y z) h2 := by
        unfold bodyD
        rw [es_seq, es_if, o]
        simp only [ofR, kSIf_t, refD_ok, thn_rt]
      rw [this]
  | cons x r ih =>
    intro taken m h y z rp rl prev last el hm a bd ne
    obtain ⟨m, rfl⟩ : ∃ m', m = m' + 1 := ⟨m - 1, by simp at hm; omega⟩
    have tl : taken.length < line.length := by rw [el]; simp
    have ew : line[taken.length]? = some x := by rw [el, List.getElem?_append_right (Nat.le_refl _), Nat.sub_self]; rfl
    obtain ⟨okx, hx⟩ := lok x (List.mem_of_getElem? ew)
    obtain ⟨h2, c1, c2⟩ := condD_ok (x0 := x0) (w := taken.length) (y := y) (z := z) a
    have a2 := a.more c2
    rw [decide_eq_true tl, Bool.true_or] at c1
    have o := overD_ok (x0 := x0) (w := taken.length) (y := y) (z := z) a2
    rw [decide_eq_false (by omega)] at o
    have pr := parD_ok (x0 := x0) (y := y) (z := z) a2 ew
    obtain ⟨h3, s1, s2⟩ := slD_ok (x0 := x0) (w := taken.length) a2 (x := x)
    have a3 := a2.more s2
    rw [while_t c1]
    have b : bodyD (rhoD x0 L lr g sn taken.length y z) h2 = ((if (!last.isEmpty && decide (x = "/")) = true then appD (rhoD x0 L lr g sn taken.length (some (.str x)) (some (.ref rl))) h3 else sIf badC refD addD (rhoD x0 L lr g sn taken.length (some (.str x)) (some (.ref rl))) h3).thn incD) := by
      unfold bodyD
      rw [es_seq, es_if, o]
      simp only [ofR, kSIf_f, es_nil, thn_nx]
      rw [es_seq, pr, thn_nx, es_seq, es_if, s1]
      rfl
    rw [b]
    have el' : line = (taken ++ [x]) ++ r := by rw [el]; simp
    have tl' : (taken ++ [x]).length = taken.length + 1 := by simp
    unfold goD
    simp at bd
    cases ns : (!last.isEmpty && decide (x = "/")) with
    | true =>
      rw [if_pos rfl, if_pos rfl]
      have l1 : 1 ≤ last.length := by
        cases last with
        | nil => simp at ns
        | cons _ _ => simp
      obtain ⟨h4, rl', d1, d2⟩ := appD_ok (x0 := x0) (w := taken.length) (y := some (.str x)) (z := some (.ref rl)) a3 (by omega)
      rw [d1, thn_nx, incD_ok]
      have := ih (taken ++ [x]) m h4 (some (.str x)) (some (.ref rl)) _ rl' _ _ el' (by simp at hm; omega) d2 (by rw [tl']; simp; omega) (fun p hp => by
        rcases List.mem_append.mp hp with hp | hp
        · exact ne p hp
        · rw [List.mem_singleton.mp hp]
          intro e
          rw [e] at l1
          simp at l1)
      rw [tl'] at this
      exact this
    | false =>
      simp only [Bool.false_eq_true, if_false]
      obtain ⟨h4, b1, b2⟩ := badC_ok (x0 := x0) (w := taken.length) a3 hx okx ne
      have a4 := a3.more b2
      rw [es_if, b1]
      cases bb : badD x prev last with
      | true =>
        simp only [ofR, kSIf_t, refD_ok, thn_rt, if_true]
        exact ⟨_, h4, rfl, a4.kp⟩
      | false =>
        simp only [ofR, kSIf_f, Bool.false_eq_true, if_false]
        obtain ⟨h5, d1, d2⟩ := addD_ok (x0 := x0) (w := taken.length) a4 okx (by omega) (by simp; omega)
        rw [d1, thn_nx, incD_ok]
        have := ih (taken ++ [x]) m h5 (some (.str x)) (some (.ref rl)) _ rl _ _ el' (by simp at hm; omega) d2 (by rw [tl']; simp; omega) ne
        rw [tl'] at this
        exact this
end
end W86
set_option Elab.async false
set_option linter.all false
set_option maxRecDepth 100000
set_option maxHeartbeats 4000000
namespace W86
open PySem Mp TL
open L2 (cutS atI)

theorem grouping_due_ok {x : Str} {h : MH} (ok : okS x) (hx : x.length ≤ 1000000) : match RG x with
    | .ok gs => ∃ h' n, F__law_grouping_due [.str x] h = .ok (.ref n) h' ∧ h'[n]? = some (.lst [GD gs]) ∧ h.length ≤ n ∧ Kp [] h h'
    | .error (l, w) => ∃ h', F__law_grouping_due [.str x] h = .ok (badT l w) h' ∧ Kp [] h h' := by
  obtain ⟨wk, wne, wl1, wl2⟩ := wds_ok ok hx
  obtain ⟨h1, e1⟩ : ∃ h1, h1 = h ++ [O.lst ((Txt.split x nl).map D.str)] := ⟨_, rfl⟩
  have n1 : h1[h.length]? = some (.lst ((Txt.split x nl).map D.str)) := by rw [e1]; exact push_new
  obtain ⟨ρ1, eρ⟩ : ∃ ρ1 : Mp.Env, ρ1 = [some (.str x), none, none, none, none, none, none, none, none, none] := ⟨_, rfl⟩
  obtain ⟨h2, L, l1, l2, l3, l4⟩ := lines_ok (ρ := ρ1) (k := 2) ok hx (by rw [eρ]; simp) n1
  have k1 : Kp [] h h1 := by rw [e1]; exact Kp.refl.push
  have k2 : Kp [] h h2 := k1.trans l3 fun n _ hs => ⟨hs, hs⟩
  obtain ⟨line, more, ew⟩ := List.exists_cons_of_ne_nil wne
  obtain ⟨rs, r1, r2, r3⟩ := l2.ex
  obtain ⟨lr, rs', er⟩ : ∃ lr rs', rs = lr :: rs' := by
    cases rs with
    | nil => rw [ew] at r2; simp at r2
    | cons a b => exact ⟨a, b, rfl⟩
  have lrA : h2[lr]? = some (.lst (line.map D.str)) := r3 0 lr line (by rw [er]; rfl) (by rw [ew]; rfl)
  have hlen : line.length ≤ 1000001 := wl2 line (by rw [ew]; simp)
  obtain ⟨h3, e3⟩ : ∃ h3, h3 = ((h2 ++ [O.lst []]) ++ [O.lst [D.ref h2.length]]) ++ [O.lst []] := ⟨_, rfl⟩
  have lk3 : Kp [] h2 h3 := by rw [e3]; exact Kp.refl.push.push.push
  have d0 : DI h2 h3 L lr (h2.length + 1) (h2.length + 2) line [] h2.length [] [] := by
    refine ⟨lk3, lrA, ⟨?_, rfl, by simp, ⟨by omega, fun r hr => ?_⟩, fun j r w h1 => by simp at h1, ?_⟩, ?_, ⟨by omega, by omega, by simp⟩, by simp⟩
    · rw [e3]; simp
    · obtain rfl : r = h2.length := (by simpa using hr)
      omega
    · rw [e3]; exact push_old (push_old push_new)
    · rw [e3]; simp
  have lp := loopD_ok (x0 := .str x) (L := L) hlen (fun y hy => wk line (by rw [ew]; simp) y hy) line [] FU h3 none none [] h2.length [] [] rfl (FU_big (by omega)) d0 (by simp) (by simp)
  have ev : F__law_grouping_due [.str x] h = fin ((sSeq (sWhile condD bodyD FU) tailD) (rhoD (.str x) L lr (h2.length + 1) (h2.length + 2) 0 none none) h3) := by
    unfold F__law_grouping_due
    rw [s_gd]
    refine (mk_go (ρ' := ρ1) rfl (by rw [eρ]; rfl)).trans ?_
    refine congrArg fin ?_
    rw [es_seq]
    have a1 : sIf (fNot (fTru (fCB gIsi (fCons (fVar 0) (fCons (fC (.ty "str")) fNil))))) (sRet (fTup (fCons (fC (.str "bad")) (fCons (fC (.int 0)) (fCons (fC (.int 0)) fNil))))) sNil ρ1 h = .ok .nx ρ1 h := by
      rw [eρ]
      simp [isi_str, ofR]
    rw [a1, thn_nx, es_seq]
    have a2 : sAsg (fComp (fSrc (fM1 gSplit (fVar 0) (fC (.str "\n")))) (.nm 2) fYes (fM1 gSplit (fVar 2) (fC (.str " "))) FU) (gN 1) ρ1 h = .ok .nx [some (.str x), some (.ref L), none, none, none, none, none, none, none, none] h2 := by
      have c : fComp (fSrc (fM1 gSplit (fVar 0) (fC (.str "\n")))) (.nm 2) fYes (fM1 gSplit (fVar 2) (fC (.str " "))) FU ρ1 h = .ok (.ref L) h2 := by
        rw [ev_comp, ev_src, ev_m1]
        have v0 : fVar 0 ρ1 h = .ok (.str x) h := by rw [eρ]; rfl
        rw [v0]
        simp only [R.bind_ok, kM1_eq, ev_c, nl_eq]
        rw [show gSplit x (.str nl) h = .ok (.ref h.length) (h ++ [.lst ((Txt.split x nl).map D.str)]) from split_str (by omega), ← e1]
        simp only [R.bind_ok, kSrc1_eq]
        rw [show srcOf (.ref h.length) h1 = some (srcL h.length) from by unfold srcOf; dsimp only; rw [lstAt n1]]
        simp only [opt_some, kSrc2_eq, R.bind_ok, kCo_eq]
        rw [show wipeE ρ1 (tgV (.nm 2)) = ρ1 from by rw [eρ]; rfl]
        exact l1
      rw [es_asg, c, eρ]
      simp [ofR, SR.tk]
    rw [a2, thn_nx, es_seq]
    have a3 : sAsg (fTup (fCons (fOp gIx (fVar 1) (fC (.int 0))) (fCons (fLst (fCons (fLst fNil) fNil)) (fCons (fLst fNil) (fCons (fC (.int 0)) fNil))))) (gTp 4 (gsCons (gN 3) (gsCons (gN 4) (gsCons (gN 5) (gsCons (gN 6) gsNil))))) [some (.str x), some (.ref L), none, none, none, none, none, none, none, none] h2 = .ok .nx (rhoD (.str x) L lr (h2.length + 1) (h2.length + 2) 0 none none) h3 := by
      rw [er] at r1
      simp [lstAt r1, ofR, SR.tk, SR.thn, e3]
    rw [a3, thn_nx]
  unfold RG
  rw [ew]
  dsimp only
  rw [← goD_eq line 0 [] [] ⟨by simp, by simp, fun p y z h1 => by cases h1⟩]
  cases q : goD line 0 [] [] with
  | error w =>
    rw [show ([] : List Str).length = 0 from rfl, q] at lp
    obtain ⟨ρ', h', p1, p2⟩ := lp
    refine ⟨h', ?_, k2.trans p2 fun n _ hs => ⟨hs, hs⟩⟩
    rw [ev, es_seq, p1, thn_rt, fin_rt]
  | ok gs =>
    rw [show ([] : List Str).length = 0 from rfl, q] at lp
    obtain ⟨y', z', h4, rp, rl, ps, l, eg, p1, p2, p3⟩ := lp
    have k4 : Kp [] h h4 := k2.trans p2.kp fun n _ hs => ⟨hs, hs⟩
    rw [es_seq, p1, thn_nx] at ev
    have Lat := p2.kp.get r1 (by simp)
    dsimp only
    cases hm : more with
    | cons y ys =>
      refine ⟨h4, ?_, k4⟩
      have c : (1 : Int) < rs.length := by rw [r2, ew, hm]; simp; omega
      rw [ev]
      simp [tailD, lstAt Lat, c, ofR, badT]
    | nil =>
      have c : ¬ (1 : Int) < rs.length := by rw [r2, ew, hm]; simp
      have at4' : h4[h2.length + 1]? = some (.lst ((rp ++ [rl]).map D.ref)) := by rw [p2.gr.at_]; simp
      have tp := tups_ok (k := 9) (ρ := rhoD (.str x) L lr (h2.length + 1) (h2.length + 2) line.length y' z') (gs := ps ++ [l]) (by simp) at4' (by simp [p2.gr.len]) (by simp; omega) p2.gr.all
      have a2 : (fComp (fSrc (fVar 4)) (.nm 9) fYes (fCB gTuple (fCons (fVar 9) fNil)) FU) (rhoD (.str x) L lr (h2.length + 1) (h2.length + 2) line.length y' z') h4 = .ok (.ref h4.length) (h4 ++ [.lst ((ps ++ [l]).map fun w => D.tup (w.map D.str))]) := by
        rw [ev_comp, ev_src]
        have v2 : fVar 4 (rhoD (.str x) L lr (h2.length + 1) (h2.length + 2) line.length y' z') h4 = .ok (.ref (h2.length + 1)) h4 := rfl
        rw [v2]
        simp only [R.bind_ok, kSrc1_eq]
        rw [show srcOf (.ref (h2.length + 1)) h4 = some (srcL (h2.length + 1)) from by unfold srcOf; dsimp only; rw [lstAt at4']]
        simp only [opt_some, kSrc2_eq, R.bind_ok, kCo_eq]
        rw [show wipeE (rhoD (.str x) L lr (h2.length + 1) (h2.length + 2) line.length y' z') (tgV (.nm 9)) = rhoD (.str x) L lr (h2.length + 1) (h2.length + 2) line.length y' z' from rfl, tp]
      obtain ⟨h5, e5⟩ : ∃ h5, h5 = h4 ++ [O.lst ((ps ++ [l]).map fun w => D.tup (w.map D.str))] := ⟨_, rfl⟩
      rw [← e5] at a2
      have n5 : h5[h4.length]? = some (.lst ((ps ++ [l]).map fun w => D.tup (w.map D.str))) := by rw [e5]; exact push_new
      refine ⟨h5 ++ [.lst [GD gs]], h5.length, ?_, push_new, ?_, ?_⟩
      · rw [ev]
        have t : fB (fOp gGt (fCB gLen (fCons (fVar 1) fNil)) (fC (.int 1))) (rhoD (.str x) L lr (h2.length + 1) (h2.length + 2) line.length y' z') h4 = .ok false h4 := by
          simp [lstAt Lat, c]
        unfold tailD
        rw [es_ret, ev_if, t]
        simp only [R.bind_ok, kIf_f]
        rw [ev_lst, ev_cons, ev_cb, ev_cons, a2]
        simp [gTuple, itemsOf, lstAt n5, ofR, eg, GD]
      · have := k4.le; rw [e5]; simp; omega
      · rw [e5]; exact k4.push.push
theorem grouping_due_bad {d : D} {h : MH} {t : String} (ht : tyOf h d = some t) (hs : t ≠ "str") : F__law_grouping_due [d] h = .ok (badT 0 0) h := by
  have : gIsi [d, .ty "str"] h = .ok (.bl false) h := by
    unfold gIsi
    dsimp only
    rw [ht]
    dsimp only
    rw [if_pos (Or.inl rfl)]
    have : (t == "str") = false := beq_eq_false_iff_ne.mpr hs
    rw [this]
  simp [F__law_grouping_due, s__law_grouping_due, this, badT]
end W86
set_option Elab.async false
set_option linter.all false
set_option maxRecDepth 100000
set_option maxHeartbeats 4000000
namespace W86
open PySem Mp TL
open L2 (cutS atI)

/-! ### offers -/
structure Of where
  o : Str
  a : Str
  b : Str
  p : Int
def OD (x : Of) : D := .tup [.str x.o, .str x.a, .str x.b, .int x.p]
def okO (x : Of) : Prop := okS x.o ∧ okS x.a ∧ okS x.b
theorem okDs_offs : ∀ {xs : List Of}, (∀ x ∈ xs, okO x) → okDs (xs.map OD) = true ∧ deps (xs.map OD) ≤ 1
  | [], _ => ⟨rfl, by decide⟩
  | x :: xs, k => by
    obtain ⟨h1, h2⟩ := okDs_offs fun y hy => k y (List.mem_cons_of_mem _ hy)
    obtain ⟨k1, k2, k3⟩ := k x List.mem_cons_self
    refine ⟨?_, ?_⟩
    · rw [List.map_cons]
      unfold okDs
      rw [h1]
      simp [OD, okD, okDs, k1.str, k2.str, k3.str]
    · rw [List.map_cons]
      unfold deps
      have : dep (OD x) = 1 := by simp [OD, dep, deps]
      omega
theorem offs_eq {h : MH} {r : Nat} {l : List Of} (e : h[r]? = some (.lst (l.map OD))) (ok : ∀ x ∈ l, okO x) : gEq (.ref r) (.ref h.length) (h ++ [.lst []]) = .ok (.bl l.isEmpty) (h ++ [.lst []]) := by
  obtain ⟨i1, i2⟩ := okDs_offs ok
  have := eq_nil (h := h ++ [.lst []]) (n := r) (m := h.length) (lstAt (push_old e)) i1 (by omega) (lstAt push_new)
  rw [List.isEmpty_map] at this
  exact this
theorem offs_ne {h : MH} {r : Nat} {l : List Of} (e : h[r]? = some (.lst (l.map OD))) (ok : ∀ x ∈ l, okO x) : gNe (.ref r) (.ref h.length) (h ++ [.lst []]) = .ok (.bl (!l.isEmpty)) (h ++ [.lst []]) := by
  obtain ⟨i1, i2⟩ := okDs_offs ok
  have := ne_nil (h := h ++ [.lst []]) (n := r) (m := h.length) (lstAt (push_old e)) i1 (by omega) (lstAt push_new)
  rw [List.isEmpty_map] at this
  exact this
/-- one line of offers -/
def lineO (line : List Str) (ab : Option Str) : Except Nat Of := match line[0]? with
  | none => .error 0
  | some w0 => if w0 = ("offer" : Str) then (match line[1]? with
    | none => .error 1
    | some x => if nmOk x ab = true then (match line[2]? with
      | none => .error 2
      | some y => if isName y = true then (match line[3]? with
        | none => .error 3
        | some z => if isName z = true then (if z = y then .error 3 else (match line[4]? with
          | none => .error 4
          | some p => if inOk p 0 1000000 = true then (match line[5]? with
            | none => .ok ⟨x, y, z, wrV p⟩
            | some _ => .error 5) else .error 4)) else .error 3) else .error 2) else .error 1) else .error 0
def goO : List (List Str) → Nat → List Of → Except (Nat × Nat) (List Of)
  | [], _, acc => .ok acc
  | line :: r, l, acc => if acc.length = 10 then .error (l, 0) else match lineO line (acc.getLast?.map Of.o) with
    | .error w => .error (l, w)
    | .ok x => goO r (l + 1) (acc ++ [x])
def RO (x : Str) : Except (Nat × Nat) (List Of) := goO (wds x) 0 []
def OsD (xs : List Of) : D := .tup (xs.map OD)

def condO : EF Bool := (fOr (fB (fOp gEq (fVar 2) (fLst fNil))) (fNot (fTru (fMeth 4 F_Scan_is_over [] (fVar 1) fNil))))
def tenO : EF Bool := (fB (fOp gEq (fCB gLen (fCons (fVar 2) fNil)) (fC (.int 10))))
def refO : SF := (sExpr (fMeth 4 F_Scan_refuse [] (fVar 1) fNil))
def wO : SF := (sExpr (fMeth 4 F_Scan_take_word [] (fVar 1) (fCons (fC (.str "offer")) fNil)))
def abO : EF D := (fIf (fB (fOp gNe (fVar 2) (fLst fNil))) (fOp gIx (fOp gIx (fVar 2) (fUn gNeg (fC (.int 1)))) (fC (.int 0))) (fC .non))
def n1O : SF := (sAsg (fMeth 4 F_Scan_take_name [] (fVar 1) (fCons abO fNil)) (gN 3))
def n2O : SF := (sAsg (fMeth 4 F_Scan_take_name [.non] (fVar 1) fNil) (gN 4))
def n3O : SF := (sAsg (fMeth 4 F_Scan_take_name [.non] (fVar 1) fNil) (gN 5))
def sameO : SF := (sIf (fB (fOp gEq (fVar 5) (fVar 4)))
  (sExpr (fMeth 4 F_Scan_back [] (fVar 1) fNil))
  sNil)
def addO : SF := (sExpr (fAppend (fVar 2) (fCons (fTup (fCons (fVar 3) (fCons (fVar 4) (fCons (fVar 5) (fCons (fMeth 4 F_Scan_take_integer [] (fVar 1) (fCons (fC (.int 0)) (fCons (fC (.int 1000000)) fNil))) fNil))))) fNil)))
def endO : SF := (sExpr (fMeth 4 F_Scan_end_line [] (fVar 1) fNil))
def bodyO : SF := (sSeq (sIf tenO refO sNil) (sSeq wO (sSeq n1O (sSeq n2O (sSeq n3O (sSeq sameO (sSeq addO endO)))))))
theorem s_ro : s_read_offers = (sSeq (sPar2 1 2 (fCons (fMake 4 F_Scan___init__ [] (fCons (fVar 0) fNil)) (fCons (fLst fNil) fNil)))
  (sSeq (sWhile condO bodyO FU)
  (sRet (fCB gTuple (fCons (fVar 2) fNil))))) := rfl
structure OI (h1 h : MH) (n L g : Nat) (ws : List (List Str)) (l w : Nat) (acc : List Of) : Prop where
  sc : h[n]? = some (.ins 4 [.ref L, .int l, .int w])
  kp : Kp [n] h1 h
  s1 : h1[n]? = some (.ins 4 [.ref L, .int (0 : Nat), .int (0 : Nat)])
  ln : Lns h1 L ws
  gb : h1.length ≤ g
  off : h[g]? = some (.lst (acc.map OD))
  le : l ≤ ws.length
  ok : ∀ x ∈ acc, okO x
section
variable {h1 h : MH} {n L g l w : Nat} {ws : List (List Str)} {acc : List Of} {x0 : D} {y3 y4 y5 : Option D}
theorem OI.scan (a : OI h1 h n L g ws l w acc) : Sc h n L ws l w := by
  refine ⟨a.sc, a.ln.kp a.kp fun m hm l' z => ?_, a.le⟩
  have : m = n := by simpa using hm
  subst this
  rw [a.s1] at z
  cases z
theorem OI.ng (a : OI h1 h n L g ws l w acc) : g ∉ [n] := fun z => by
  have := ltOf a.s1
  have := a.gb
  have := List.mem_singleton.mp z
  omega
theorem OI.step {h' : MH} {l' w' : Nat} (a : OI h1 h n L g ws l w acc) (s : Sc h' n L ws l' w') (k : Kp [n] h h') : OI h1 h' n L g ws l' w' acc :=
  ⟨s.at_, a.kp.trans k fun m _ hs => ⟨hs, hs⟩, a.s1, a.ln, a.gb, k.get a.off a.ng, s.le, a.ok⟩
theorem OI.more {h' : MH} (a : OI h1 h n L g ws l w acc) (k : Kp [] h h') : OI h1 h' n L g ws l w acc :=
  ⟨k.get a.sc (by simp), a.kp.trans k fun m _ hs => ⟨hs, by simp⟩, a.s1, a.ln, a.gb, k.get a.off (by simp), a.le, a.ok⟩
abbrev rhoO (x0 : D) (n g : Nat) (y3 y4 y5 : Option D) : Mp.Env := [some x0, some (.ref n), some (.ref g), y3, y4, y5]
theorem condO_ok (a : OI h1 h n L g ws l w acc) : ∃ h', condO (rhoO x0 n g y3 y4 y5) h = .ok (acc.isEmpty || !decide (l = ws.length)) h' ∧ Kp [] h h' := by
  obtain ⟨h2, e2⟩ : ∃ h2, h2 = h ++ [O.lst []] := ⟨_, rfl⟩
  have k2 : Kp [] h h2 := by rw [e2]; exact Kp.refl.push
  have a2 := a.more k2
  have q := offs_eq a.off a.ok
  rw [← e2] at q
  have ov := is_over_ok a2.scan
  refine ⟨h2, ?_, k2⟩
  cases c : acc.isEmpty with
  | true => rw [c] at q; simp [condO, ← e2, q]
  | false => rw [c] at q; simp [condO, ← e2, q, insAt a2.sc, ov]
theorem tenO_ok (a : OI h1 h n L g ws l w acc) : tenO (rhoO x0 n g y3 y4 y5) h = .ok (decide (acc.length = 10)) h := by
  have e : ((acc.length : Int) = 10) ↔ (acc.length = 10) := by omega
  simp [tenO, lstAt a.off, e]
theorem refO_ok (a : OI h1 h n L g ws l w acc) : refO (rhoO x0 n g y3 y4 y5) h = .exc ⟨2, [.int l, .int w]⟩ (rhoO x0 n g y3 y4 y5) h := by
  have := refuse_ok a.scan
  simp [refO, insAt a.sc, this, ofR]
theorem abO_ok (a : OI h1 h n L g ws l w acc) : ∃ h', abO (rhoO x0 n g y3 y4 y5) h = .ok (abD (acc.getLast?.map Of.o)) h' ∧ Kp [] h h' := by
  obtain ⟨h2, e2⟩ : ∃ h2, h2 = h ++ [O.lst []] := ⟨_, rfl⟩
  have k2 : Kp [] h h2 := by rw [e2]; exact Kp.refl.push
  have a2 := a.more k2
  have q := offs_ne a.off a.ok
  rw [← e2] at q
  refine ⟨h2, ?_, k2⟩
  rcases List.eq_nil_or_concat acc with e | ⟨ps, p, e⟩
  · rw [e] at q
    have q' : gNe (.ref g) (.ref h.length) h2 = .ok (.bl false) h2 := q
    simp [abO, ← e2, q', e, abD]
  · rw [List.concat_eq_append] at e
    have o2 := a2.off
    have ie : acc.isEmpty = false := by rw [e]; simp
    rw [ie] at q
    have q' : gNe (.ref g) (.ref h.length) h2 = .ok (.bl true) h2 := q
    rw [e] at o2
    simp at o2
    simp [abO, ← e2, q', e, abD, lstAt o2, OD]
end
end W86
set_option Elab.async false
set_option linter.all false
set_option maxRecDepth 100000
set_option maxHeartbeats 4000000
namespace W86
open PySem Mp TL
open L2 (cutS atI)

section
variable {h1 h : MH} {n L g l w : Nat} {ws : List (List Str)} {acc : List Of} {x0 : D} {y3 y4 y5 : Option D} {line : List Str}
theorem wd_l (e0 : ws[l]? = some line) : wd ws l w = line[w]? := by unfold wd; rw [e0]; rfl
theorem hw_l (e0 : ws[l]? = some line) (hw : w ≤ line.length) : ∀ ln, ws[l]? = some ln → w ≤ ln.length := fun ln e => by rw [e0] at e; cases e; exact hw
theorem OI.fail {h' : MH} (a : OI h1 h n L g ws l w acc) (k : Kp [n] h h') : Kp [n] h1 h' := a.kp.trans k fun m _ hs => ⟨hs, hs⟩
theorem wO_ok (a : OI h1 h n L g ws l w acc) (e0 : ws[l]? = some line) (hw : w ≤ line.length) :
    (∃ x, line[w]? = some x ∧ x = ("offer" : Str) ∧ ∃ h', wO (rhoO x0 n g y3 y4 y5) h = .ok .nx (rhoO x0 n g y3 y4 y5) h' ∧ OI h1 h' n L g ws l (w + 1) acc) ∨
    ((∀ x, line[w]? = some x → x ≠ ("offer" : Str)) ∧ ∃ h', wO (rhoO x0 n g y3 y4 y5) h = .exc ⟨2, [.int l, .int w]⟩ (rhoO x0 n g y3 y4 y5) h' ∧ Kp [n] h1 h') := by
  have t := take_word_ok a.scan (hw_l e0 hw) ("offer" : Str)
  rw [wd_l e0] at t
  have i := insAt a.sc
  cases q : line[w]? with
  | none =>
    rw [q] at t
    dsimp only at t
    exact .inr ⟨by simp, h, by simp [wO, i, t, ofR], a.kp⟩
  | some x =>
    rw [q] at t
    dsimp only at t
    by_cases c : x = ("offer" : Str)
    · rw [if_pos c] at t
      obtain ⟨h', t1, t2, t3⟩ := t
      exact .inl ⟨x, rfl, c, h', by simp [wO, i, t1, ofR], a.step t2 t3⟩
    · rw [if_neg c] at t
      obtain ⟨h', t1, t2⟩ := t
      exact .inr ⟨fun y hy => by cases hy; exact c, h', by simp [wO, i, t1, ofR], a.fail t2⟩
theorem n1O_ok (a : OI h1 h n L g ws l w acc) (e0 : ws[l]? = some line) (hw : w ≤ line.length) (k : Wok ws) :
    (∃ x, line[w]? = some x ∧ nmOk x (acc.getLast?.map Of.o) = true ∧ ∃ h', n1O (rhoO x0 n g y3 y4 y5) h = .ok .nx (rhoO x0 n g (some (.str x)) y4 y5) h' ∧ OI h1 h' n L g ws l (w + 1) acc) ∨
    ((∀ x, line[w]? = some x → nmOk x (acc.getLast?.map Of.o) = false) ∧ ∃ h', n1O (rhoO x0 n g y3 y4 y5) h = .exc ⟨2, [.int l, .int w]⟩ (rhoO x0 n g y3 y4 y5) h' ∧ Kp [n] h1 h') := by
  obtain ⟨h2, b1, b2⟩ := abO_ok (x0 := x0) (y3 := y3) (y4 := y4) (y5 := y5) a
  have a2 := a.more b2
  have t := take_name_ok a2.scan (hw_l e0 hw) k (acc.getLast?.map Of.o)
  rw [wd_l e0] at t
  have i := insAt a.sc
  have ev : n1O (rhoO x0 n g y3 y4 y5) h = ofR (F_Scan_take_name [.ref n, abD (acc.getLast?.map Of.o)] h2) (rhoO x0 n g y3 y4 y5) (kAs (gN 3) (rhoO x0 n g y3 y4 y5)) := by
    unfold n1O
    revert b1
    generalize abO = A
    intro b1
    simp [i, b1]
  rw [ev]
  cases q : line[w]? with
  | none =>
    rw [q] at t
    dsimp only at t
    exact .inr ⟨by simp, h2, by rw [t]; rfl, a2.kp⟩
  | some x =>
    rw [q] at t
    dsimp only at t
    cases c : nmOk x (acc.getLast?.map Of.o) with
    | true =>
      rw [if_pos c] at t
      obtain ⟨h', t1, t2, t3⟩ := t
      exact .inl ⟨x, rfl, c, h', by rw [t1]; rfl, a2.step t2 t3⟩
    | false =>
      rw [if_neg (by rw [c]; simp)] at t
      obtain ⟨h', t1, t2⟩ := t
      exact .inr ⟨fun y hy => by cases hy; exact c, h', by rw [t1]; rfl, a2.fail t2⟩
theorem nO_ok (a : OI h1 h n L g ws l w acc) (e0 : ws[l]? = some line) (hw : w ≤ line.length) (k : Wok ws) {i : Nat} :
    (∃ x, line[w]? = some x ∧ isName x = true ∧ ∃ h', (sAsg (fMeth 4 F_Scan_take_name [.non] (fVar 1) fNil) (gN i)) (rhoO x0 n g y3 y4 y5) h = .ok .nx ((rhoO x0 n g y3 y4 y5).set i (some (.str x))) h' ∧ OI h1 h' n L g ws l (w + 1) acc) ∨
    ((∀ x, line[w]? = some x → isName x = false) ∧ ∃ h', (sAsg (fMeth 4 F_Scan_take_name [.non] (fVar 1) fNil) (gN i)) (rhoO x0 n g y3 y4 y5) h = .exc ⟨2, [.int l, .int w]⟩ (rhoO x0 n g y3 y4 y5) h' ∧ Kp [n] h1 h') := by
  have t := take_name_ok a.scan (hw_l e0 hw) k none
  rw [wd_l e0] at t
  have ii := insAt a.sc
  have nm : ∀ x, nmOk x none = isName x := fun x => by unfold nmOk; simp
  have ev : (sAsg (fMeth 4 F_Scan_take_name [.non] (fVar 1) fNil) (gN i)) (rhoO x0 n g y3 y4 y5) h = ofR (F_Scan_take_name [.ref n, abD none] h) (rhoO x0 n g y3 y4 y5) (kAs (gN i) (rhoO x0 n g y3 y4 y5)) := by
    simp [ii, abD]
  rw [ev]
  cases q : line[w]? with
  | none =>
    rw [q] at t
    dsimp only at t
    exact .inr ⟨by simp, h, by rw [t]; rfl, a.kp⟩
  | some x =>
    rw [q] at t
    dsimp only at t
    rw [nm] at t
    cases c : isName x with
    | true =>
      rw [if_pos c] at t
      obtain ⟨h', t1, t2, t3⟩ := t
      exact .inl ⟨x, rfl, c, h', by rw [t1]; rfl, a.step t2 t3⟩
    | false =>
      rw [if_neg (by rw [c]; simp)] at t
      obtain ⟨h', t1, t2⟩ := t
      exact .inr ⟨fun y hy => by cases hy; exact c, h', by rw [t1]; rfl, a.fail t2⟩
theorem sameO_ok {x y z : Str} (a : OI h1 h n L g ws l (w + 1) acc) : sameO (rhoO x0 n g (some (.str x)) (some (.str y)) (some (.str z))) h = if z = y then .exc ⟨2, [.int l, .int w]⟩ (rhoO x0 n g (some (.str x)) (some (.str y)) (some (.str z))) h else .ok .nx (rhoO x0 n g (some (.str x)) (some (.str y)) (some (.str z))) h := by
  have b := back_ok a.scan
  have b' : F_Scan_back [.ref n] h = .exc ⟨2, [.int l, .int w]⟩ h := by
    rw [b]
    have : ((w + 1 : Nat) : Int) - 1 = w := by omega
    rw [this]
  have i := insAt a.sc
  by_cases c : z = y
  · rw [if_pos c]
    simp [sameO, c, i, b', ofR]
  · rw [if_neg c]
    simp [sameO, c, ofR]
theorem addO_ok {x y z : Str} (a : OI h1 h n L g ws l w acc) (e0 : ws[l]? = some line) (hw : w ≤ line.length) (k : Wok ws) (ox : okS x) (oy : okS y) (oz : okS z) (hl : acc.length < 16777216) :
    (∃ p, line[w]? = some p ∧ inOk p 0 1000000 = true ∧ ∃ h', addO (rhoO x0 n g (some (.str x)) (some (.str y)) (some (.str z))) h = .ok .nx (rhoO x0 n g (some (.str x)) (some (.str y)) (some (.str z))) h' ∧ OI h1 h' n L g ws l (w + 1) (acc ++ [⟨x, y, z, wrV p⟩])) ∨
    ((∀ p, line[w]? = some p → inOk p 0 1000000 = false) ∧ ∃ h', addO (rhoO x0 n g (some (.str x)) (some (.str y)) (some (.str z))) h = .exc ⟨2, [.int l, .int w]⟩ (rhoO x0 n g (some (.str x)) (some (.str y)) (some (.str z))) h' ∧ Kp [n] h1 h') := by
  have t := take_integer_ok a.scan (hw_l e0 hw) k 0 1000000
  rw [wd_l e0] at t
  have i := insAt a.sc
  have m := mutAt a.off
  cases q : line[w]? with
  | none =>
    rw [q] at t
    dsimp only at t
    exact .inr ⟨by simp, h, by simp [addO, i, m, t, ofR], a.kp⟩
  | some p =>
    rw [q] at t
    dsimp only at t
    cases c : inOk p 0 1000000 with
    | true =>
      rw [if_pos c] at t
      obtain ⟨h', t1, t2, t3⟩ := t
      have a2 := a.step t2 t3
      have m2 := mutAt a2.off
      obtain ⟨h3, e3⟩ : ∃ h3, h3 = h'.set g (.lst ((acc ++ [Of.mk x y z (wrV p)]).map OD)) := ⟨_, rfl⟩
      have ng : n ≠ g := fun e => a.ng (by rw [e]; simp)
      refine .inl ⟨p, rfl, c, h3, ?_, ?_⟩
      · simp [addO, i, m, t1, m2, hl, ofR]
        rw [e3]
        simp [OD]
      · refine ⟨by rw [e3]; exact set_old a2.sc (Ne.symm ng), by rw [e3]; exact a2.kp.set (.inr a.gb), a.s1, a.ln, a.gb, by rw [e3]; exact set_new a2.off, a.le, fun u hu => ?_⟩
        rcases List.mem_append.mp hu with hu | hu
        · exact a.ok u hu
        · rw [List.mem_singleton.mp hu]; exact ⟨ox, oy, oz⟩
    | false =>
      rw [if_neg (by rw [c]; simp)] at t
      obtain ⟨h', t1, t2⟩ := t
      exact .inr ⟨fun y hy => by cases hy; exact c, h', by simp [addO, i, m, t1, ofR], a.fail t2⟩
theorem endO_ok (a : OI h1 h n L g ws l w acc) (e0 : ws[l]? = some line) (hw : w ≤ line.length) :
    (line[w]? = none ∧ ∃ h', endO (rhoO x0 n g y3 y4 y5) h = .ok .nx (rhoO x0 n g y3 y4 y5) h' ∧ OI h1 h' n L g ws (l + 1) 0 acc) ∨
    ((∃ x, line[w]? = some x) ∧ endO (rhoO x0 n g y3 y4 y5) h = .exc ⟨2, [.int l, .int w]⟩ (rhoO x0 n g y3 y4 y5) h) := by
  have t := end_line_ok a.scan (hw_l e0 hw) (List.getElem?_eq_some_iff.mp e0).1
  rw [wd_l e0] at t
  have i := insAt a.sc
  cases q : line[w]? with
  | none =>
    rw [q] at t
    obtain ⟨h', t1, t2, t3⟩ := t
    exact .inl ⟨rfl, h', by simp [endO, i, t1, ofR], a.step t2 t3⟩
  | some x =>
    rw [q] at t
    dsimp only at t
    exact .inr ⟨⟨x, rfl⟩, by simp [endO, i, t, ofR]⟩
end
end W86
set_option Elab.async false
set_option linter.all false
set_option maxRecDepth 100000
set_option maxHeartbeats 4000000
namespace W86
open PySem Mp TL
open L2 (cutS atI)

section
variable {h1 h : MH} {n L g l w : Nat} {ws : List (List Str)} {acc : List Of} {x0 : D} {y3 y4 y5 : Option D} {line : List Str} {ab : Option Str}
theorem lineO_0 (q : ∀ x, line[0]? = some x → x ≠ ("offer" : Str)) : lineO line ab = .error 0 := by
  unfold lineO
  cases e : line[0]? with
  | none => rfl
  | some x => dsimp only; rw [if_neg (q x e)]
theorem lineO_1 {w0 : Str} (e0 : line[0]? = some w0) (c0 : w0 = ("offer" : Str)) (q : ∀ x, line[1]? = some x → nmOk x ab = false) : lineO line ab = .error 1 := by
  unfold lineO
  rw [e0]
  dsimp only
  rw [if_pos c0]
  cases e : line[1]? with
  | none => rfl
  | some x => dsimp only; rw [if_neg (by rw [q x e]; simp)]
theorem lineO_2 {w0 x : Str} (e0 : line[0]? = some w0) (c0 : w0 = ("offer" : Str)) (e1 : line[1]? = some x) (c1 : nmOk x ab = true) (q : ∀ x, line[2]? = some x → isName x = false) : lineO line ab = .error 2 := by
  unfold lineO
  rw [e0]
  dsimp only
  rw [if_pos c0, e1]
  dsimp only
  rw [if_pos c1]
  cases e : line[2]? with
  | none => rfl
  | some x => dsimp only; rw [if_neg (by rw [q x e]; simp)]
def lineO3 (line : List Str) (x y : Str) : Except Nat Of := match line[3]? with
        | none => .error 3
        | some z => if isName z = true then (if z = y then .error 3 else (match line[4]? with
          | none => .error 4
          | some p => if inOk p 0 1000000 = true then (match line[5]? with
            | none => .ok ⟨x, y, z, wrV p⟩
            | some _ => .error 5) else .error 4)) else .error 3
theorem lineO_3 {w0 x y : Str} (e0 : line[0]? = some w0) (c0 : w0 = ("offer" : Str)) (e1 : line[1]? = some x) (c1 : nmOk x ab = true) (e2 : line[2]? = some y) (c2 : isName y = true) : lineO line ab = lineO3 line x y := by
  unfold lineO lineO3
  rw [e0]
  dsimp only
  rw [if_pos c0, e1]
  dsimp only
  rw [if_pos c1, e2]
  dsimp only
  rw [if_pos c2]
  all_goals rfl
theorem bodyO_ok (a : OI h1 h n L g ws l 0 acc) (e0 : ws[l]? = some line) (k : Wok ws) (ten : acc.length < 10) : match lineO line (acc.getLast?.map Of.o) with
    | .error w => ∃ ρ' h', bodyO (rhoO x0 n g y3 y4 y5) h = .exc ⟨2, [.int l, .int w]⟩ ρ' h' ∧ Kp [n] h1 h'
    | .ok x => ∃ z3 z4 z5 h', bodyO (rhoO x0 n g y3 y4 y5) h = .ok .nx (rhoO x0 n g z3 z4 z5) h' ∧ OI h1 h' n L g ws (l + 1) 0 (acc ++ [x]) := by
  have t := tenO_ok (x0 := x0) (y3 := y3) (y4 := y4) (y5 := y5) a
  rw [decide_eq_false (by omega)] at t
  have lk := k line (List.mem_of_getElem? e0)
  have lt : ∀ {i : Nat} {x : Str}, line[i]? = some x → i + 1 ≤ line.length := fun e => (List.getElem?_eq_some_iff.mp e).1
  have b0 : bodyO (rhoO x0 n g y3 y4 y5) h = (wO (rhoO x0 n g y3 y4 y5) h).thn (sSeq n1O (sSeq n2O (sSeq n3O (sSeq sameO (sSeq addO endO))))) := by
    unfold bodyO
    rw [es_seq, es_if, t]
    simp only [ofR, kSIf_f, es_nil, thn_nx]
    rw [es_seq]
  rw [b0]
  rcases wO_ok (x0 := x0) (y3 := y3) (y4 := y4) (y5 := y5) a e0 (Nat.zero_le _) with ⟨w0, f0, c0, ha, s1, s2⟩ | ⟨f0, ha, s1, s2⟩
  rotate_left
  · rw [lineO_0 f0, s1, thn_exc]
    exact ⟨_, ha, rfl, s2⟩
  rw [s1, thn_nx, es_seq]
  rcases n1O_ok (x0 := x0) (y3 := y3) (y4 := y4) (y5 := y5) s2 e0 (lt f0) k with ⟨x, f1, c1, hb, s3, s4⟩ | ⟨f1, hb, s3, s4⟩
  rotate_left
  · rw [lineO_1 f0 c0 f1, s3, thn_exc]
    exact ⟨_, hb, rfl, s4⟩
  rw [s3, thn_nx, es_seq]
  have en2 : n2O = (sAsg (fMeth 4 F_Scan_take_name [.non] (fVar 1) fNil) (gN 4)) := rfl
  have en3 : n3O = (sAsg (fMeth 4 F_Scan_take_name [.non] (fVar 1) fNil) (gN 5)) := rfl
  rw [en2]
  rcases nO_ok (x0 := x0) (y3 := some (.str x)) (y4 := y4) (y5 := y5) (i := 4) s4 e0 (lt f1) k with ⟨y, f2, c2, hc, s5, s6⟩ | ⟨f2, hc, s5, s6⟩
  rotate_left
  · rw [lineO_2 f0 c0 f1 c1 f2, s5, thn_exc]
    exact ⟨_, hc, rfl, s6⟩
  rw [lineO_3 f0 c0 f1 c1 f2 c2]
  rw [s5, thn_nx, es_seq, en3]
  rw [show (rhoO x0 n g (some (.str x)) y4 y5).set 4 (some (.str y)) = rhoO x0 n g (some (.str x)) (some (.str y)) y5 from rfl]
  rcases nO_ok (x0 := x0) (y3 := some (.str x)) (y4 := some (.str y)) (y5 := y5) (i := 5) s6 e0 (lt f2) k with ⟨z, f3, c3, hd, s7, s8⟩ | ⟨f3, hd, s7, s8⟩
  rotate_left
  · have : lineO3 line x y = .error 3 := by
      unfold lineO3
      cases e : line[3]? with
      | none => rfl
      | some x => dsimp only; rw [if_neg (by rw [f3 x e]; simp)]
    rw [this, s7, thn_exc]
    exact ⟨_, hd, rfl, s8⟩
  rw [s7, thn_nx, es_seq]
  rw [show (rhoO x0 n g (some (.str x)) (some (.str y)) y5).set 5 (some (.str z)) = rhoO x0 n g (some (.str x)) (some (.str y)) (some (.str z)) from rfl]
  have sm := sameO_ok (x0 := x0) (w := 3) (x := x) (y := y) (z := z) s8
  rw [sm]
  unfold lineO3
  rw [f3]
  dsimp only
  rw [if_pos c3]
  by_cases c : z = y
  · rw [if_pos c, if_pos c, thn_exc]
    exact ⟨_, hd, rfl, s8.kp⟩
  rw [if_neg c, if_neg c, thn_nx, es_seq]
  have ox := (lk x (List.mem_of_getElem? f1)).1
  have oy := (lk y (List.mem_of_getElem? f2)).1
  have oz := (lk z (List.mem_of_getElem? f3)).1
  rcases addO_ok (x0 := x0) s8 e0 (lt f3) k ox oy oz (by omega) with ⟨p, f4, c4, he, s9, s10⟩ | ⟨f4, he, s9, s10⟩
  rotate_left
  · rw [s9, thn_exc]
    cases e : line[4]? with
    | none => exact ⟨_, he, rfl, s10⟩
    | some p => dsimp only; rw [if_neg (by rw [f4 p e]; simp)]; exact ⟨_, he, rfl, s10⟩
  rw [s9, thn_nx, f4]
  dsimp only
  rw [if_pos c4]
  rcases endO_ok (x0 := x0) (y3 := some (.str x)) (y4 := some (.str y)) (y5 := some (.str z)) s10 e0 (lt f4) with ⟨f5, hf, s11, s12⟩ | ⟨⟨u, f5⟩, s11⟩
  · rw [f5]
    exact ⟨_, _, _, hf, s11, s12⟩
  · rw [f5]
    exact ⟨_, he, s11, s10.kp⟩
end
end W86
set_option Elab.async false
set_option linter.all false
set_option maxRecDepth 100000
set_option maxHeartbeats 4000000
namespace W86
open PySem Mp TL
open L2 (cutS atI)

theorem loopO_ok {h1 : MH} {n L g : Nat} {ws : List (List Str)} {x0 : D} (k : Wok ws) : ∀ (rest taken : List (List Str)) (m : Nat) (h : MH) (y3 y4 y5 : Option D) (acc : List Of), ws = taken ++ rest → rest.length < m → OI h1 h n L g ws taken.length 0 acc → acc.length ≤ 10 → (acc = [] → rest ≠ []) →
    match goO rest taken.length acc with
    | .error (l, w) => ∃ ρ' h', sWhile condO bodyO m (rhoO x0 n g y3 y4 y5) h = .exc ⟨2, [.int l, .int w]⟩ ρ' h' ∧ Kp [n] h1 h'
    | .ok os => ∃ z3 z4 z5 h', sWhile condO bodyO m (rhoO x0 n g y3 y4 y5) h = .ok .nx (rhoO x0 n g z3 z4 z5) h' ∧ OI h1 h' n L g ws ws.length 0 os := by
  intro rest
  induction rest with
  | nil =>
    intro taken m h y3 y4 y5 acc el hm a bd ne
    obtain ⟨m, rfl⟩ : ∃ m', m = m' + 1 := ⟨m - 1, by simp at hm; omega⟩
    have tl : taken.length = ws.length := by rw [el]; simp
    obtain ⟨h2, c1, c2⟩ := condO_ok (x0 := x0) (y3 := y3) (y4 := y4) (y5 := y5) a
    have a2 := a.more c2
    have ie : acc.isEmpty = false := by
      cases acc with
      | nil => exact absurd rfl (ne rfl)
      | cons _ _ => rfl
    rw [ie, decide_eq_true tl] at c1
    unfold goO
    rw [while_f c1]
    refine ⟨y3, y4, y5, h2, rfl, ?_⟩
    rw [← tl]
    exact a2
  | cons line r ih =>
    intro taken m h y3 y4 y5 acc el hm a bd ne
    obtain ⟨m, rfl⟩ : ∃ m', m = m' + 1 := ⟨m - 1, by simp at hm; omega⟩
    have tl : taken.length ≠ ws.length := by rw [el]; simp
    have e0 : ws[taken.length]? = some line := by rw [el, List.getElem?_append_right (Nat.le_refl _), Nat.sub_self]; rfl
    obtain ⟨h2, c1, c2⟩ := condO_ok (x0 := x0) (y3 := y3) (y4 := y4) (y5 := y5) a
    have a2 := a.more c2
    rw [decide_eq_false tl, Bool.not_false, Bool.or_true] at c1
    rw [while_t c1]
    unfold goO
    by_cases t : acc.length = 10
    · rw [if_pos t]
      have tt := tenO_ok (x0 := x0) (y3 := y3) (y4 := y4) (y5 := y5) a2
      rw [decide_eq_true t] at tt
      have b : bodyO (rhoO x0 n g y3 y4 y5) h2 = .exc ⟨2, [.int taken.length, .int (0 : Nat)]⟩ (rhoO x0 n g y3 y4 y5) h2 := by
        unfold bodyO
        rw [es_seq, es_if, tt]
        simp only [ofR, kSIf_t, refO_ok a2, thn_exc]
      rw [b]
      exact ⟨_, h2, rfl, a2.kp⟩
    · rw [if_neg t]
      have b := bodyO_ok (x0 := x0) (y3 := y3) (y4 := y4) (y5 := y5) a2 e0 k (by omega)
      cases q : lineO line (acc.getLast?.map Of.o) with
      | error w =>
        rw [q] at b
        obtain ⟨ρ', h', b1, b2⟩ := b
        rw [b1]
        exact ⟨ρ', h', rfl, b2⟩
      | ok x =>
        rw [q] at b
        obtain ⟨z3, z4, z5, h', b1, b2⟩ := b
        rw [b1]
        have tl' : (taken ++ [line]).length = taken.length + 1 := by simp
        have := ih (taken ++ [line]) m h' z3 z4 z5 (acc ++ [x]) (by rw [el]; simp) (by simp at hm; omega) (by rw [tl']; exact b2) (by simp; omega) (fun z => by simp at z)
        rw [tl'] at this
        exact this
theorem wds_len {x : Str} (ok : okS x) : (wds x).length ≤ x.length + 1 := by
  unfold wds
  rw [List.length_map]
  exact (cut_facts x (s := 10) (by decide) ok).2
theorem read_offers_ok {x : Str} {h : MH} (ok : okS x) (hx : x.length ≤ 1000000) : match RO x with
    | .ok os => ∃ h', F_read_offers [.str x] h = .ok (OsD os) h' ∧ Kp [] h h' ∧ (∀ o ∈ os, okO o)
    | .error (l, w) => ∃ h', F_read_offers [.str x] h = .exc ⟨2, [.int l, .int w]⟩ h' ∧ Kp [] h h' := by
  obtain ⟨h1, L, i1, i2, i3⟩ := init_ok (m := h.length) (h := h ++ [O.ins 4 []]) ok hx push_new
  have k1 : Kp [] h h1 := (Kp.refl (S := [])).push.trans (S2 := []) i3 fun m hm _ => ⟨by simp, fun z => absurd (List.mem_singleton.mp z) (by omega)⟩
  obtain ⟨wk, wne, wl1, wl2⟩ := wds_ok ok hx
  obtain ⟨h2, e2⟩ : ∃ h2, h2 = h1 ++ [O.lst []] := ⟨_, rfl⟩
  have a0 : OI h1 h2 h.length L h1.length (wds x) 0 0 [] := by
    refine ⟨?_, ?_, i2.at_, i2.ln, Nat.le_refl _, ?_, Nat.zero_le _, by simp⟩
    · rw [e2]; exact push_old i2.at_
    · rw [e2]; exact Kp.refl.push
    · rw [e2]; exact push_new
  have back : ∀ {h' : MH}, Kp [h.length] h1 h' → Kp [] h h' := fun kk => k1.trans (S2 := []) kk fun m hm _ => ⟨by simp, fun z => absurd (List.mem_singleton.mp z) (by omega)⟩
  have wl := wds_len ok
  have lp := loopO_ok (x0 := .str x) wk (wds x) [] FU h2 none none none [] rfl (FU_big (by omega)) a0 (by simp) (fun _ => wne)
  have ev : F_read_offers [.str x] h = fin ((sSeq (sWhile condO bodyO FU) (sRet (fCB gTuple (fCons (fVar 2) fNil)))) (rhoO (.str x) h.length h1.length none none none) h2) := by
    unfold F_read_offers
    rw [s_ro]
    refine (mk_go (ρ' := [some (.str x), none, none, none, none, none]) rfl rfl).trans ?_
    refine congrArg fin ?_
    rw [es_seq]
    have a1 : sPar2 1 2 (fCons (fMake 4 F_Scan___init__ [] (fCons (fVar 0) fNil)) (fCons (fLst fNil) fNil)) [some (.str x), none, none, none, none, none] h = .ok .nx (rhoO (.str x) h.length h1.length none none none) h2 := by
      simp [i1, ofR, e2]
    rw [a1, thn_nx]
  unfold RO
  rw [show ([] : List (List Str)).length = 0 from rfl] at lp
  cases q : goO (wds x) 0 [] with
  | error p =>
    obtain ⟨l, w⟩ := p
    rw [q] at lp
    obtain ⟨ρ', h', l1, l2⟩ := lp
    refine ⟨h', ?_, back l2⟩
    rw [ev, es_seq, l1, thn_exc, fin_exc]
  | ok os =>
    rw [q] at lp
    obtain ⟨z3, z4, z5, h', l1, l2⟩ := lp
    refine ⟨h', ?_, back l2.kp, l2.ok⟩
    rw [ev, es_seq, l1, thn_nx]
    simp [gTuple, itemsOf, lstAt l2.off, ofR, OsD]
theorem read_offers_bad {d : D} {h : MH} {t : String} (ht : tyOf (h ++ [O.ins 4 []]) d = some t) (hs : t ≠ "str") : ∃ h', F_read_offers [d] h = .exc ⟨2, [.int 0, .int 0]⟩ h' ∧ Kp [] h h' := by
  have ib := init_bad (m := h.length) ht hs
  refine ⟨h ++ [O.ins 4 []], ?_, Kp.refl.push⟩
  unfold F_read_offers
  rw [s_ro]
  refine (mk_go (ρ' := [some d, none, none, none, none, none]) rfl rfl).trans ?_
  simp [ib, ofR, SR.thn]
end W86
set_option Elab.async false
set_option linter.all false
set_option maxRecDepth 100000
set_option maxHeartbeats 4000000
namespace W86
open PySem Mp TL
open L2 (cutS atI)

/-! ### the law's own reading of offers -/
def badAt (line : List Str) (k : Nat) : Bool := match line[k]? with
  | none => true
  | some x => !isName x
def nb3 (line : List Str) : Option Nat := if badAt line 1 = true then some 1 else if badAt line 2 = true then some 2 else if badAt line 3 = true then some 3 else none
def nbD (o : Option Nat) : D := match o with
  | none => .non
  | some k => .int k
def nbBody : SF := (sIf (fOr (fB (fOp gGe (fVar 3) (fCB gLen (fCons (fVar 0) fNil)))) (fNot (fTru (fCall F__law_is_name [] (fCons (fOp gIx (fVar 0) (fVar 3)) fNil)))))
  (sRet (fVar 3))
  sNil)
theorem s_nb : s__law_names_bad = (sSeq (sFor (fRng2 (fCons (fVar 1) (fCons (fOp gAdd (fVar 1) (fVar 2)) fNil))) (gN 3) nbBody FU)
  (sRet (fC .non))) := rfl
theorem nbBody_ok {h : MH} {r k : Nat} {line : List Str} {p q : Option D} (e : h[r]? = some (.lst (line.map D.str))) (lok : ∀ x ∈ line, okS x ∧ x.length ≤ 16777216) :
    ∃ h', nbBody [some (.ref r), p, q, some (.int k)] h = (if badAt line k = true then .ok (.rt (.int k)) [some (.ref r), p, q, some (.int k)] h' else .ok .nx [some (.ref r), p, q, some (.int k)] h') ∧ Kp [] h h' := by
  unfold badAt
  cases c : line[k]? with
  | none =>
    have hk : line.length ≤ k := List.getElem?_eq_none_iff.mp c
    exact ⟨h, by simp [nbBody, lstAt e, show (line.length : Int) ≤ k by omega, ofR], Kp.refl⟩
  | some x =>
    have hk : k < line.length := (List.getElem?_eq_some_iff.mp c).1
    obtain ⟨okx, hx⟩ := lok x (List.mem_of_getElem? c)
    obtain ⟨h', n1, n2⟩ := law_is_name_ok (h := h) hx okx
    have i1 : atI (line.map D.str) (k : Int) = some (.str x) := by rw [Mp.atI_nat, List.getElem?_map, c]; rfl
    refine ⟨h', ?_, n2⟩
    cases b : isName x with
    | true => rw [b] at n1; simp [nbBody, lstAt e, show ¬ (line.length : Int) ≤ k by omega, i1, n1, ofR, b]
    | false => rw [b] at n1; simp [nbBody, lstAt e, show ¬ (line.length : Int) ≤ k by omega, i1, n1, ofR, b]
theorem names_bad_ok {h : MH} {r : Nat} {line : List Str} (e : h[r]? = some (.lst (line.map D.str))) (lok : ∀ x ∈ line, okS x ∧ x.length ≤ 16777216) :
    ∃ h', F__law_names_bad [.ref r, .int 1, .int 3] h = .ok (nbD (nb3 line)) h' ∧ Kp [] h h' := by
  obtain ⟨N, hN⟩ : ∃ N, FU = N + 4 := ⟨2 ^ 40 - 4, by unfold FU; omega⟩
  obtain ⟨ha, a1, a2⟩ := nbBody_ok (k := 1) (p := some (.int 1)) (q := some (.int 3)) e lok
  have eb := a2.get e (by simp)
  obtain ⟨hb, b1, b2⟩ := nbBody_ok (k := 2) (p := some (.int 1)) (q := some (.int 3)) eb lok
  have ec := b2.get eb (by simp)
  obtain ⟨hc, c1, c2⟩ := nbBody_ok (k := 3) (p := some (.int 1)) (q := some (.int 3)) ec lok
  have kb : Kp [] h hb := a2.trans b2 fun _ _ hs => ⟨hs, hs⟩
  have kc : Kp [] h hc := kb.trans c2 fun _ _ hs => ⟨hs, hs⟩
  have ev : F__law_names_bad [.ref r, .int 1, .int 3] h = fin ((sForL (srcR 1 3) (gN 3) nbBody FU 0 [some (.ref r), some (.int 1), some (.int 3), none] h).thn (sRet (fC .non))) := by
    unfold F__law_names_bad
    rw [s_nb]
    refine (mk_go (ρ' := [some (.ref r), some (.int 1), some (.int 3), none]) rfl rfl).trans ?_
    refine congrArg fin ?_
    rw [es_seq]
    refine congrArg (fun z => SR.thn z _) ?_
    generalize FU = F
    simp [ofR]
  rw [ev, hN]
  rw [for_step (d := .int 1) rfl]
  simp only [List.set]
  unfold nb3
  have x1 : ((1 : Nat) : Int) = 1 := rfl
  have x2 : ((2 : Nat) : Int) = 2 := rfl
  have x3 : ((3 : Nat) : Int) = 3 := rfl
  rw [x1] at a1
  rw [x2] at b1
  rw [x3] at c1
  rw [a1]
  cases c : badAt line 1 with
  | true => exact ⟨ha, rfl, a2⟩
  | false =>
    simp only [Bool.false_eq_true, if_false]
    rw [for_step (d := .int 2) rfl]
    simp only [List.set]
    rw [b1]
    cases c : badAt line 2 with
    | true => exact ⟨hb, rfl, kb⟩
    | false =>
      simp only [Bool.false_eq_true, if_false]
      rw [for_step (d := .int 3) rfl]
      simp only [List.set]
      rw [c1]
      cases c : badAt line 3 with
      | true => exact ⟨hc, rfl, kc⟩
      | false =>
        simp only [Bool.false_eq_true, if_false]
        rw [for_end rfl]
        exact ⟨hc, rfl, kc⟩
end W86
set_option Elab.async false
set_option linter.all false
set_option maxRecDepth 100000
set_option maxHeartbeats 4000000
namespace W86
open PySem Mp TL
open L2 (cutS atI)

def t0U : EF Bool := (fOr (fB (fOp gEq (fVar 2) (fC (.int 10)))) (fB (fOp gNe (fOp gIx (fVar 3) (fC (.int 0))) (fC (.str "offer")))))
def rU (k : Int) : SF := (sRet (fTup (fCons (fC (.str "bad")) (fCons (fVar 2) (fCons (fC (.int k)) fNil)))))
def fiveU : SF := (sAsg (fCall F__law_names_bad [] (fCons (fVar 3) (fCons (fC (.int 1)) (fCons (fC (.int 3)) fNil)))) (gN 5))
def t1U : EF Bool := (fAnd (fB (fOp gNe (fVar 1) (fLst fNil))) (fAnd (fB (fOp gGt (fCB gLen (fCons (fVar 3) fNil)) (fC (.int 1)))) (fAnd (fB (fOp gNe (fVar 5) (fC (.int 1)))) (fB (fOp gLe (fOp gIx (fVar 3) (fC (.int 1))) (fOp gIx (fOp gIx (fVar 1) (fUn gNeg (fC (.int 1)))) (fC (.int 0))))))))
def t2U : EF Bool := (fB (fOp gNotN (fVar 5) (fC .non)))
def r2U : SF := (sRet (fTup (fCons (fC (.str "bad")) (fCons (fVar 2) (fCons (fVar 5) fNil)))))
def t3U : EF Bool := (fB (fOp gEq (fOp gIx (fVar 3) (fC (.int 3))) (fOp gIx (fVar 3) (fC (.int 2)))))
def t4U : EF Bool := (fOr (fB (fOp gLt (fCB gLen (fCons (fVar 3) fNil)) (fC (.int 5)))) (fNot (fTru (fCall F__law_is_number [] (fCons (fOp gIx (fVar 3) (fC (.int 4))) (fCons (fC (.int 0)) (fCons (fOp gPow (fC (.int 10)) (fC (.int 6))) fNil)))))))
def t5U : EF Bool := (fB (fOp gGt (fCB gLen (fCons (fVar 3) fNil)) (fC (.int 5))))
def adU : SF := (sExpr (fAppend (fVar 1) (fCons (fTup (fCons (fOp gIx (fVar 3) (fC (.int 1))) (fCons (fOp gIx (fVar 3) (fC (.int 2))) (fCons (fOp gIx (fVar 3) (fC (.int 3))) (fCons (fCB gInt (fCons (fOp gIx (fVar 3) (fC (.int 4))) fNil)) fNil))))) fNil)))
def bodyU : SF := (sSeq (sIf t0U (rU 0) sNil) (sSeq fiveU (sSeq (sIf t1U (rU 1) sNil) (sSeq (sIf t2U r2U sNil) (sSeq (sIf t3U (rU 3) sNil) (sSeq (sIf t4U (rU 4) sNil) (sSeq (sIf t5U (rU 5) sNil) adU)))))))
theorem s_od : s__law_offers_due = (sSeq (sIf (fNot (fTru (fCB gIsi (fCons (fVar 0) (fCons (fC (.ty "str")) fNil)))))
  (sRet (fTup (fCons (fC (.str "bad")) (fCons (fC (.int 0)) (fCons (fC (.int 0)) fNil)))))
  sNil)
  (sSeq (sAsg (fLst fNil) (gN 1))
  (sSeq (sFor (fEnum (fCons (fComp (fSrc (fM1 gSplit (fVar 0) (fC (.str "\n")))) (.nm 4) fYes (fM1 gSplit (fVar 4) (fC (.str " "))) FU) fNil)) (gTp 2 (gsCons (gN 2) (gsCons (gN 3) gsNil))) bodyU FU)
  (sRet (fLst (fCons (fCB gTuple (fCons (fVar 1) fNil)) fNil)))))) := rfl
section
variable {h : MH} {out i r : Nat} {acc : List Of} {line : List Str} {x0 : D} {y5 : Option D}
abbrev rhoU (x0 : D) (out i r : Nat) (y5 : Option D) : Mp.Env := [some x0, some (.ref out), some (.int i), some (.ref r), none, y5]
theorem rU_ok {k : Nat} : rU k (rhoU x0 out i r y5) h = .ok (.rt (badT i k)) (rhoU x0 out i r y5) h := by
  simp [rU, ofR, badT]
theorem t0U_ok (e : h[r]? = some (.lst (line.map D.str))) {w0 : Str} (e0 : line[0]? = some w0) : t0U (rhoU x0 out i r y5) h = .ok (decide (i = 10) || !decide (w0 = ("offer" : Str))) h := by
  have c : ((i : Int) = 10) ↔ (i = 10) := by omega
  by_cases t : i = 10
  · simp [t0U, t]
  · have t' : ¬ ((i : Int) = 10) := by omega
    simp [t0U, t, t', lstAt e, e0]
theorem fiveU_ok (e : h[r]? = some (.lst (line.map D.str))) (lok : ∀ x ∈ line, okS x ∧ x.length ≤ 16777216) : ∃ h', fiveU (rhoU x0 out i r y5) h = .ok .nx (rhoU x0 out i r (some (nbD (nb3 line)))) h' ∧ Kp [] h h' := by
  obtain ⟨h', n1, n2⟩ := names_bad_ok e lok
  exact ⟨h', by simp [fiveU, n1, ofR, SR.tk], n2⟩
theorem ne_non_1 {h : MH} : gNe .non (.int 1) h = .ok (.bl true) h := by
  unfold gNe eqRes
  rw [show sameS .non (.int 1) = none from rfl]
  dsimp only
  rw [pdS_pure (by rfl) (by decide), pdS_pure (d := .int 1) (by rfl) (by decide)]
  rfl
theorem ne_nb1 {h : MH} (o : Option Nat) : gNe (nbD o) (.int 1) h = .ok (.bl (!decide (o = some 1))) h := by
  cases o with
  | none => exact ne_non_1
  | some k =>
    have c : ((k : Int) = 1) ↔ (k = 1) := by omega
    simp [nbD, c]
/-- the first name is not above the last offer's -/
def belowO (acc : List Of) (x : Str) : Bool := match acc.getLast? with
  | none => false
  | some o => !strLt o.o x
theorem t1U_ok (e : h[r]? = some (.lst (line.map D.str))) (eo : h[out]? = some (.lst (acc.map OD))) (ok : ∀ x ∈ acc, okO x) : ∃ h', t1U (rhoU x0 out i r (some (nbD (nb3 line)))) h = .ok (match line[1]? with
    | none => false
    | some x => !decide (nb3 line = some 1) && belowO acc x) h' ∧ Kp [] h h' := by
  obtain ⟨h2, e2⟩ : ∃ h2, h2 = h ++ [O.lst []] := ⟨_, rfl⟩
  have k2 : Kp [] h h2 := by rw [e2]; exact Kp.refl.push
  have q := offs_ne eo ok
  rw [← e2] at q
  have er := k2.get e (by simp)
  have eo2 := k2.get eo (by simp)
  refine ⟨h2, ?_, k2⟩
  rcases List.eq_nil_or_concat acc with ea | ⟨ps, p, ea⟩
  · rw [ea] at q
    have q' : gNe (.ref out) (.ref h.length) h2 = .ok (.bl false) h2 := q
    rw [ea]
    cases line[1]? <;> simp [t1U, ← e2, q', belowO]
  · rw [List.concat_eq_append] at ea
    have ie : acc.isEmpty = false := by rw [ea]; simp
    rw [ie] at q
    have q' : gNe (.ref out) (.ref h.length) h2 = .ok (.bl true) h2 := q
    rw [ea] at eo2 ⊢
    simp at eo2
    cases c : line[1]? with
    | none =>
      have hk : line.length ≤ 1 := List.getElem?_eq_none_iff.mp c
      simp [t1U, ← e2, q', lstAt er, show ¬ (1 : Int) < line.length by omega]
    | some x =>
      have hk : 1 < line.length := (List.getElem?_eq_some_iff.mp c).1
      have nn := ne_nb1 (h := h2) (nb3 line)
      cases d : decide (nb3 line = some 1) with
      | true =>
        rw [d] at nn
        simp [t1U, ← e2, q', lstAt er, show (1 : Int) < line.length by omega, nn]
      | false =>
        rw [d] at nn
        simp [t1U, ← e2, q', lstAt er, show (1 : Int) < line.length by omega, nn, c, lstAt eo2, OD, belowO]
end
end W86
set_option Elab.async false
set_option linter.all false
set_option maxRecDepth 100000
set_option maxHeartbeats 4000000
namespace W86
open PySem Mp TL
open L2 (cutS atI)

section
variable {h : MH} {out i r : Nat} {acc : List Of} {line : List Str} {x0 : D} {y5 : Option D}
theorem t2U_ok {o : Option Nat} : t2U (rhoU x0 out i r (some (nbD o))) h = .ok o.isSome h := by
  cases o <;> simp [t2U, nbD]
theorem r2U_ok {k : Nat} : r2U (rhoU x0 out i r (some (nbD (some k)))) h = .ok (.rt (badT i k)) (rhoU x0 out i r (some (nbD (some k)))) h := by
  simp [r2U, ofR, badT, nbD]
theorem t3U_ok (e : h[r]? = some (.lst (line.map D.str))) {y z : Str} (e2 : line[2]? = some y) (e3 : line[3]? = some z) : t3U (rhoU x0 out i r y5) h = .ok (decide (z = y)) h := by
  simp [t3U, lstAt e, e2, e3]
theorem t5U_ok (e : h[r]? = some (.lst (line.map D.str))) : t5U (rhoU x0 out i r y5) h = .ok (decide (5 < line.length)) h := by
  have c : ((5 : Int) < line.length) ↔ (5 < line.length) := by omega
  simp [t5U, lstAt e, c]
theorem t4U_ok (e : h[r]? = some (.lst (line.map D.str))) (lok : ∀ x ∈ line, okS x ∧ x.length ≤ 16777216) : ∃ h', t4U (rhoU x0 out i r y5) h = .ok (match line[4]? with
    | none => true
    | some p => !inOk p 0 1000000) h' ∧ Kp [] h h' := by
  cases c : line[4]? with
  | none =>
    have hk : line.length ≤ 4 := List.getElem?_eq_none_iff.mp c
    exact ⟨h, by simp [t4U, lstAt e, show (line.length : Int) < 5 by omega], Kp.refl⟩
  | some p =>
    have hk : 4 < line.length := (List.getElem?_eq_some_iff.mp c).1
    obtain ⟨okx, hx⟩ := lok p (List.mem_of_getElem? c)
    obtain ⟨h', n1, n2⟩ := is_number_ok (h := h) (lo := 0) (hi := 1000000) hx okx
    refine ⟨h', ?_, n2⟩
    have n1' : F__law_is_number [.str p, .int 0, .int 1000000] h = .ok (.bl (inOk p 0 1000000)) h' := n1
    simp [t4U, lstAt e, show ¬ (line.length : Int) < 5 by omega, c, n1']
end
end W86
set_option Elab.async false
set_option linter.all false
set_option maxRecDepth 100000
set_option maxHeartbeats 4000000
namespace W86
open PySem Mp TL
open L2 (cutS atI)

section
variable {h : MH} {out i r : Nat} {acc : List Of} {line : List Str} {x0 : D} {y5 : Option D} {ab : Option Str}
theorem adU_ok (e : h[r]? = some (.lst (line.map D.str))) (eo : h[out]? = some (.lst (acc.map OD))) (ne : out ≠ r) (hl : acc.length < 16777216) {x y z p : Str} (e1 : line[1]? = some x) (e2 : line[2]? = some y) (e3 : line[3]? = some z) (e4 : line[4]? = some p) (wr : isWr p = true) :
    adU (rhoU x0 out i r y5) h = .ok .nx (rhoU x0 out i r y5) (h.set out (.lst ((acc ++ [Of.mk x y z (wrV p)]).map OD))) := by
  have ei : ∀ hh, gInt [.str p] hh = .ok (.int (wrV p)) hh := fun hh => int_str wr
  have i4 : atI (line.map D.str) 4 = some (.str p) := by rw [atI_4, List.getElem?_map, e4]; rfl
  simp [adU, mutAt eo, lstAt e, e1, e2, e3, e4, ei, hl, ofR, OD]
theorem nb3_cases (line : List Str) : (badAt line 1 = true ∧ nb3 line = some 1) ∨ (badAt line 1 = false ∧ badAt line 2 = true ∧ nb3 line = some 2) ∨ (badAt line 1 = false ∧ badAt line 2 = false ∧ badAt line 3 = true ∧ nb3 line = some 3) ∨ (badAt line 1 = false ∧ badAt line 2 = false ∧ badAt line 3 = false ∧ nb3 line = none) := by
  unfold nb3
  cases badAt line 1 <;> cases badAt line 2 <;> cases badAt line 3 <;> simp
theorem badAt_f {k : Nat} (q : badAt line k = false) : ∃ x, line[k]? = some x ∧ isName x = true := by
  unfold badAt at q
  cases c : line[k]? with
  | none => rw [c] at q; cases q
  | some x => rw [c] at q; exact ⟨x, rfl, by simpa using q⟩
theorem badAt_t {k : Nat} (q : badAt line k = true) : ∀ x, line[k]? = some x → isName x = false := by
  intro x e
  unfold badAt at q
  rw [e] at q
  simpa using q
end
end W86
set_option Elab.async false
set_option linter.all false
set_option maxRecDepth 100000
set_option maxHeartbeats 4000000
namespace W86
open PySem Mp TL
open L2 (cutS atI)

section
variable {h : MH} {out i r : Nat} {acc : List Of} {line : List Str} {x0 : D} {y5 : Option D} {ab : Option Str}
theorem sIf_f {ft : EF Bool} {s t : SF} {ρ : Mp.Env} {h h' : MH} (e : ft ρ h = .ok false h') : sIf ft s t ρ h = t ρ h' := by rw [es_if, e]; rfl
theorem sIf_t {ft : EF Bool} {s t : SF} {ρ : Mp.Env} {h h' : MH} (e : ft ρ h = .ok true h') : sIf ft s t ρ h = s ρ h' := by rw [es_if, e]; rfl
theorem nm_split {x : Str} (hn : isName x = true) : nmOk x (acc.getLast?.map Of.o) = !belowO acc x := by
  unfold nmOk belowO
  rw [hn]
  cases acc.getLast? <;> simp
theorem ref_k {ft : EF Bool} {ρ0 : Mp.Env} {hh h3 : MH} {s : SF} {k : Nat} {y5 : Option D} (e0 : ρ0 = rhoU x0 out i r y5) (e : ft ρ0 hh = .ok true h3) : (sIf ft (rU k) sNil ρ0 hh).thn s = .ok (.rt (badT i k)) ρ0 h3 := by
  subst e0
  rw [sIf_t e, rU_ok, thn_rt]
theorem on_f {ft : EF Bool} {ρ : Mp.Env} {hh h3 : MH} {s t : SF} (e : ft ρ hh = .ok false h3) : (sIf ft t sNil ρ hh).thn s = s ρ h3 := by
  rw [sIf_f e, es_nil, thn_nx]
theorem bodyU_end {ρ0 : Mp.Env} (e0 : ρ0 = rhoU x0 out i r y5) (e : h[r]? = some (.lst (line.map D.str))) (eo : h[out]? = some (.lst (acc.map OD))) (ne : out ≠ r) (lok : ∀ x ∈ line, okS x ∧ x.length ≤ 16777216) (hl : acc.length < 16777216)
    {x y : Str} (f1 : line[1]? = some x) (f2 : line[2]? = some y) {z : Str} (f3 : line[3]? = some z) (m3 : isName z = true) :
    match lineO3 line x y with
    | .error w => ∃ ρ' h', (sSeq (sIf t3U (rU (3 : Nat)) sNil) (sSeq (sIf t4U (rU (4 : Nat)) sNil) (sSeq (sIf t5U (rU (5 : Nat)) sNil) adU))) ρ0 h = .ok (.rt (badT i w)) ρ' h' ∧ Kp [] h h'
    | .ok u => ∃ h', (sSeq (sIf t3U (rU (3 : Nat)) sNil) (sSeq (sIf t4U (rU (4 : Nat)) sNil) (sSeq (sIf t5U (rU (5 : Nat)) sNil) adU))) ρ0 h = .ok .nx ρ0 h' ∧ Kp [out] h h' ∧ h'[out]? = some (.lst ((acc ++ [u]).map OD)) ∧ okO u := by
  have t3 := t3U_ok (x0 := x0) (out := out) (i := i) (y5 := y5) e f2 f3
  rw [← e0] at t3
  unfold lineO3
  rw [f3]
  dsimp only
  rw [if_pos m3, es_seq]
  by_cases c : z = y
  · rw [if_pos c]
    rw [decide_eq_true c] at t3
    rw [ref_k e0 t3]
    exact ⟨_, h, rfl, Kp.refl⟩
  rw [if_neg c]
  rw [decide_eq_false c] at t3
  rw [on_f t3, es_seq]
  obtain ⟨h3, t4, k3⟩ := t4U_ok (x0 := x0) (out := out) (i := i) (y5 := y5) e lok
  rw [← e0] at t4
  cases f4 : line[4]? with
  | none =>
    rw [f4] at t4
    rw [ref_k e0 t4]
    exact ⟨_, h3, rfl, k3⟩
  | some p =>
    rw [f4] at t4
    dsimp only at t4 ⊢
    cases c4 : inOk p 0 1000000 with
    | false =>
      rw [c4] at t4
      rw [ref_k e0 t4]
      exact ⟨_, h3, rfl, k3⟩
    | true =>
      rw [c4] at t4
      rw [if_pos rfl, on_f t4, es_seq]
      have e3 := k3.get e (by simp)
      have eo3 := k3.get eo (by simp)
      have t5 := t5U_ok (x0 := x0) (out := out) (i := i) (y5 := y5) e3
      rw [← e0] at t5
      cases f5 : line[5]? with
      | some u =>
        rw [decide_eq_true (List.getElem?_eq_some_iff.mp f5).1] at t5
        rw [ref_k e0 t5]
        exact ⟨_, h3, rfl, k3⟩
      | none =>
        have : ¬ 5 < line.length := by have := List.getElem?_eq_none_iff.mp f5; omega
        rw [decide_eq_false this] at t5
        have wr : isWr p = true := by
          unfold inOk at c4
          rw [Bool.and_eq_true] at c4
          exact c4.1
        have ad := adU_ok (x0 := x0) (i := i) (y5 := y5) e3 eo3 ne hl f1 f2 f3 f4 wr
        rw [← e0] at ad
        rw [on_f t5, ad]
        refine ⟨_, rfl, ?_, set_new eo3, (lok x (List.mem_of_getElem? f1)).1, (lok y (List.mem_of_getElem? f2)).1, (lok z (List.mem_of_getElem? f3)).1⟩
        exact (k3.more fun n _ hs => by simp).set (.inl (by simp))
theorem bodyU_ok (e : h[r]? = some (.lst (line.map D.str))) (eo : h[out]? = some (.lst (acc.map OD))) (ne : out ≠ r) (ok : ∀ x ∈ acc, okO x) (lok : ∀ x ∈ line, okS x ∧ x.length ≤ 16777216) (hne : line ≠ []) (hi : i ≠ 10) (hl : acc.length < 16777216) :
    match lineO line (acc.getLast?.map Of.o) with
    | .error w => ∃ ρ' h', bodyU (rhoU x0 out i r y5) h = .ok (.rt (badT i w)) ρ' h' ∧ Kp [] h h'
    | .ok x => ∃ z5 h', bodyU (rhoU x0 out i r y5) h = .ok .nx (rhoU x0 out i r z5) h' ∧ Kp [out] h h' ∧ h'[out]? = some (.lst ((acc ++ [x]).map OD)) ∧ okO x := by
  obtain ⟨w0, rest, el⟩ := List.exists_cons_of_ne_nil hne
  have f0 : line[0]? = some w0 := by rw [el]; rfl
  have t0 := t0U_ok (x0 := x0) (out := out) (i := i) (y5 := y5) e f0
  rw [decide_eq_false hi, Bool.false_or] at t0
  have eb : bodyU = (sSeq (sIf t0U (rU (0 : Nat)) sNil) (sSeq fiveU (sSeq (sIf t1U (rU (1 : Nat)) sNil) (sSeq (sIf t2U r2U sNil) (sSeq (sIf t3U (rU (3 : Nat)) sNil) (sSeq (sIf t4U (rU (4 : Nat)) sNil) (sSeq (sIf t5U (rU (5 : Nat)) sNil) adU))))))) := rfl
  rw [eb, es_seq]
  by_cases c0 : w0 = ("offer" : Str)
  rotate_left
  · rw [decide_eq_false c0] at t0
    rw [lineO_0 (fun x q => by rw [f0] at q; cases q; exact c0), ref_k rfl t0]
    exact ⟨_, h, rfl, Kp.refl⟩
  rw [decide_eq_true c0] at t0
  rw [on_f t0, es_seq]
  obtain ⟨h1, v1, v2⟩ := fiveU_ok (x0 := x0) (out := out) (i := i) (y5 := y5) e lok
  rw [v1, thn_nx, es_seq]
  have ee1 := v2.get e (by simp)
  have eo1 := v2.get eo (by simp)
  obtain ⟨h2, u1, u2⟩ := t1U_ok (x0 := x0) (i := i) ee1 eo1 ok
  have k2 : Kp [] h h2 := v2.trans u2 fun _ _ hs => ⟨hs, hs⟩
  have ee2 := k2.get e (by simp)
  have eo2 := k2.get eo (by simp)
  by_cases q1 : badAt line 1 = true
  · have n3 : nb3 line = some 1 := by unfold nb3; rw [if_pos q1]
    have l1 : lineO line (acc.getLast?.map Of.o) = .error 1 := lineO_1 f0 c0 fun x ex => by
      unfold nmOk
      rw [badAt_t q1 x ex]
      rfl
    rw [l1]
    rw [n3] at u1 ⊢
    have u1' : t1U (rhoU x0 out i r (some (nbD (some 1)))) h1 = .ok false h2 := by
      rw [u1]
      cases line[1]? <;> simp
    rw [on_f u1', es_seq, sIf_t (t2U_ok (o := some 1)), r2U_ok, thn_rt]
    exact ⟨_, h2, rfl, k2⟩
  · have q1' : badAt line 1 = false := by simpa using q1
    obtain ⟨x, f1, m1⟩ := badAt_f q1'
    have nn := nm_split (acc := acc) m1
    have n1 : nb3 line ≠ some 1 := by
      unfold nb3
      rw [if_neg q1]
      split <;> (try split) <;> simp
    rw [f1] at u1
    dsimp only at u1
    rw [decide_eq_false n1, Bool.not_false, Bool.true_and] at u1
    cases nb : belowO acc x with
    | true =>
      rw [nb] at nn u1
      rw [lineO_1 f0 c0 (fun x' e' => by rw [f1] at e'; cases e'; exact nn), ref_k rfl u1]
      exact ⟨_, h2, rfl, k2⟩
    | false =>
      rw [nb] at nn u1
      rw [on_f u1, es_seq]
      by_cases q2 : badAt line 2 = true
      · have n3 : nb3 line = some 2 := by unfold nb3; rw [if_neg q1, if_pos q2]
        rw [n3, lineO_2 f0 c0 f1 nn (badAt_t q2), sIf_t (t2U_ok (o := some 2)), r2U_ok, thn_rt]
        exact ⟨_, h2, rfl, k2⟩
      obtain ⟨y, f2, m2⟩ := badAt_f (show badAt line 2 = false by simpa using q2)
      rw [lineO_3 f0 c0 f1 nn f2 m2]
      by_cases q3 : badAt line 3 = true
      · have n3 : nb3 line = some 3 := by unfold nb3; rw [if_neg q1, if_neg q2, if_pos q3]
        have l3 : lineO3 line x y = .error 3 := by
          unfold lineO3
          cases e3 : line[3]? with
          | none => rfl
          | some z => dsimp only; rw [if_neg (by rw [badAt_t q3 z e3]; simp)]
        rw [n3, l3, sIf_t (t2U_ok (o := some 3)), r2U_ok, thn_rt]
        exact ⟨_, h2, rfl, k2⟩
      obtain ⟨z, f3, m3⟩ := badAt_f (show badAt line 3 = false by simpa using q3)
      have n3 : nb3 line = none := by unfold nb3; rw [if_neg q1, if_neg q2, if_neg q3]
      rw [n3, on_f (t2U_ok (o := none))]
      have be := bodyU_end (x0 := x0) (out := out) (i := i) (y5 := some (nbD none)) rfl ee2 eo2 ne lok hl f1 f2 f3 m3
      cases q : lineO3 line x y with
      | error w =>
        rw [q] at be
        obtain ⟨ρ', h', b1, b2⟩ := be
        exact ⟨ρ', h', b1, k2.trans b2 fun _ _ hs => ⟨hs, hs⟩⟩
      | ok u =>
        rw [q] at be
        obtain ⟨h', b1, b2, b3, b4⟩ := be
        exact ⟨_, h', b1, k2.trans b2 fun _ _ hs => ⟨by simp, hs⟩, b3, b4⟩
end
end W86
set_option Elab.async false
set_option linter.all false
set_option maxRecDepth 100000
set_option maxHeartbeats 4000000
namespace W86
open PySem Mp TL
open L2 (cutS atI)

theorem for_stepG {src : Src} {g : D → SF} {n i : Nat} {s : SF} {ρ ρ1 : Mp.Env} {h h1 : MH} {d : D} (e : src i h = some (some d)) (t : g d ρ h = .ok .nx ρ1 h1) : sForL src g s (n + 1) i ρ h = (match s ρ1 h1 with
    | .ok .nx ρ h => sForL src g s n (i + 1) ρ h
    | .ok .ct ρ h => sForL src g s n (i + 1) ρ h
    | .ok .bk ρ h => .ok .nx ρ h
    | r => r) := by
  conv => lhs; unfold sForL
  rw [e]
  dsimp only
  rw [t]
  rfl
def tgU : D → SF := gTp 2 (gsCons (gN 2) (gsCons (gN 3) gsNil))
abbrev rhoU0 (x0 : D) (out : Nat) (y2 y3 y5 : Option D) : Mp.Env := [some x0, some (.ref out), y2, y3, none, y5]
theorem tgU_ok {x0 : D} {out i r : Nat} {y2 y3 y5 : Option D} {h : MH} : tgU (.tup [.int i, .ref r]) (rhoU0 x0 out y2 y3 y5) h = .ok .nx (rhoU x0 out i r y5) h := by
  simp [tgU, SR.thn]
theorem loopU_ok {hB : MH} {x0 : D} {out L : Nat} {ws : List (List Str)} {rs : List Nat} (k : Wok ws) (wne : ∀ line ∈ ws, line ≠ []) (eL : hB[L]? = some (.lst (rs.map D.ref))) (el : rs.length = ws.length) (er : ∀ (j r : Nat) (w : List Str), rs[j]? = some r → ws[j]? = some w → hB[r]? = some (.lst (w.map D.str)))
    (nL : out ≠ L) (nr : ∀ r ∈ rs, out ≠ r) : ∀ (rest taken : List (List Str)) (m : Nat) (h : MH) (y2 y3 y5 : Option D) (acc : List Of), ws = taken ++ rest → rest.length < m → Kp [out] hB h → h[out]? = some (.lst (acc.map OD)) → (∀ x ∈ acc, okO x) → acc.length = taken.length → acc.length ≤ 10 →
    match goO rest taken.length acc with
    | .error (l, w) => ∃ ρ' h', sForL (srcE L) tgU bodyU m taken.length (rhoU0 x0 out y2 y3 y5) h = .ok (.rt (badT l w)) ρ' h' ∧ Kp [out] hB h'
    | .ok os => ∃ z2 z3 z5 h', sForL (srcE L) tgU bodyU m taken.length (rhoU0 x0 out y2 y3 y5) h = .ok .nx (rhoU0 x0 out z2 z3 z5) h' ∧ Kp [out] hB h' ∧ h'[out]? = some (.lst (os.map OD)) ∧ (∀ x ∈ os, okO x) := by
  intro rest
  induction rest with
  | nil =>
    intro taken m h y2 y3 y5 acc ew hm kp eo ok ea bd
    obtain ⟨m, rfl⟩ : ∃ m', m = m' + 1 := ⟨m - 1, by simp at hm; omega⟩
    have tl : taken.length = rs.length := by rw [el, ew]; simp
    have lL := lstAt (kp.get eL (by simpa using Ne.symm nL))
    have s : srcE L taken.length h = some none := by
      unfold srcE
      rw [lL]
      dsimp only
      rw [List.getElem?_eq_none (by rw [List.length_map]; omega)]
      rfl
    unfold goO
    rw [for_end s]
    exact ⟨_, _, _, h, rfl, kp, eo, ok⟩
  | cons line r ih =>
    intro taken m h y2 y3 y5 acc ew hm kp eo ok ea bd
    obtain ⟨m, rfl⟩ : ∃ m', m = m' + 1 := ⟨m - 1, by simp at hm; omega⟩
    have tl : taken.length < rs.length := by rw [el, ew]; simp
    have e0 : ws[taken.length]? = some line := by rw [ew, List.getElem?_append_right (Nat.le_refl _), Nat.sub_self]; rfl
    have er0 : rs[taken.length]? = some rs[taken.length] := List.getElem?_eq_getElem tl
    have lL := lstAt (kp.get eL (by simpa using Ne.symm nL))
    have s : srcE L taken.length h = some (some (.tup [.int taken.length, .ref rs[taken.length]])) := by
      unfold srcE
      rw [lL]
      dsimp only
      rw [List.getElem?_map, er0]
      rfl
    have nor := nr _ (List.getElem_mem tl)
    have eline := kp.get (er _ _ _ er0 e0) (by simpa using Ne.symm nor)
    have lm := List.mem_of_getElem? e0
    rw [for_stepG s tgU_ok]
    unfold goO
    by_cases t : acc.length = 10
    · rw [if_pos t]
      obtain ⟨w0, rest', el'⟩ := List.exists_cons_of_ne_nil (wne line lm)
      have t0 := t0U_ok (x0 := x0) (out := out) (i := taken.length) (y5 := y5) eline (w0 := w0) (by rw [el']; rfl)
      rw [decide_eq_true (show taken.length = 10 by omega), Bool.true_or] at t0
      have b : bodyU (rhoU x0 out taken.length rs[taken.length] y5) h = .ok (.rt (badT taken.length 0)) (rhoU x0 out taken.length rs[taken.length] y5) h := by
        unfold bodyU
        rw [es_seq, show rU 0 = rU (0 : Nat) from rfl, ref_k rfl t0]
      rw [b]
      exact ⟨_, h, rfl, kp⟩
    · rw [if_neg t]
      have b := bodyU_ok (x0 := x0) (i := taken.length) (y5 := y5) eline eo nor ok (k line lm) (wne line lm) (by omega) (by omega)
      cases q : lineO line (acc.getLast?.map Of.o) with
      | error w =>
        rw [q] at b
        obtain ⟨ρ', h', b1, b2⟩ := b
        rw [b1]
        exact ⟨ρ', h', rfl, kp.trans b2 fun _ _ hs => ⟨hs, by simp⟩⟩
      | ok x =>
        rw [q] at b
        obtain ⟨z5, h', b1, b2, b3, b4⟩ := b
        rw [b1]
        have tl' : (taken ++ [line]).length = taken.length + 1 := by simp
        have := ih (taken ++ [line]) m h' (some (.int taken.length)) (some (.ref rs[taken.length])) z5 (acc ++ [x]) (by rw [ew]; simp) (by simp at hm; omega) (kp.trans b2 fun _ _ hs => ⟨hs, hs⟩) b3 (fun u hu => by
          rcases List.mem_append.mp hu with hu | hu
          · exact ok u hu
          · rw [List.mem_singleton.mp hu]; exact b4) (by simp [ea]) (by simp; omega)
        rw [tl'] at this
        exact this
theorem offers_due_ok {x : Str} {h : MH} (ok : okS x) (hx : x.length ≤ 1000000) : match RO x with
    | .ok os => ∃ h' n, F__law_offers_due [.str x] h = .ok (.ref n) h' ∧ h'[n]? = some (.lst [OsD os]) ∧ h.length ≤ n ∧ Kp [] h h' ∧ (∀ o ∈ os, okO o)
    | .error (l, w) => ∃ h', F__law_offers_due [.str x] h = .ok (badT l w) h' ∧ Kp [] h h' := by
  obtain ⟨wk, wne, wl1, wl2⟩ := wds_ok ok hx
  obtain ⟨ha, ea⟩ : ∃ ha, ha = h ++ [O.lst []] := ⟨_, rfl⟩
  have ka : Kp [] h ha := by rw [ea]; exact Kp.refl.push
  have na : ha[h.length]? = some (.lst []) := by rw [ea]; exact push_new
  obtain ⟨h1, e1⟩ : ∃ h1, h1 = ha ++ [O.lst ((Txt.split x nl).map D.str)] := ⟨_, rfl⟩
  have n1 : h1[ha.length]? = some (.lst ((Txt.split x nl).map D.str)) := by rw [e1]; exact push_new
  obtain ⟨ρ1, eρ⟩ : ∃ ρ1 : Mp.Env, ρ1 = [some (.str x), some (.ref h.length), none, none, none, none] := ⟨_, rfl⟩
  obtain ⟨h2, L, l1, l2, l3, l4⟩ := lines_ok (ρ := ρ1) (k := 4) ok hx (by rw [eρ]; simp) n1
  have k1 : Kp [] ha h1 := by rw [e1]; exact Kp.refl.push
  have k2 : Kp [] ha h2 := k1.trans l3 fun n _ hs => ⟨hs, hs⟩
  have kk2 : Kp [] h h2 := ka.trans k2 fun n _ hs => ⟨hs, hs⟩
  obtain ⟨rs, r1, r2, r3⟩ := l2.ex
  have o2 := k2.get na (by simp)
  have hla : ha.length = h.length + 1 := by rw [ea]; simp
  have nL : h.length ≠ L := by
    have := k1.le
    omega
  have nr : ∀ r ∈ rs, h.length ≠ r := fun r hr e => by
    obtain ⟨j, hj⟩ := List.getElem?_of_mem hr
    have hjl : j < (wds x).length := by have := (List.getElem?_eq_some_iff.mp hj).1; omega
    have := r3 j r _ hj (List.getElem?_eq_getElem hjl)
    rw [← e, o2] at this
    have z := wl1 _ (List.getElem_mem hjl)
    simp at this
    exact z this
  have wl := wds_len ok
  have lp := loopU_ok (x0 := .str x) wk wl1 r1 r2 r3 nL nr (wds x) [] FU h2 none none none [] rfl (FU_big (by omega)) Kp.refl o2 (by simp) rfl (by simp)
  have ev : F__law_offers_due [.str x] h = fin ((sForL (srcE L) tgU bodyU FU 0 (rhoU0 (.str x) h.length none none none) h2).thn (sRet (fLst (fCons (fCB gTuple (fCons (fVar 1) fNil)) fNil)))) := by
    unfold F__law_offers_due
    rw [s_od]
    refine (mk_go (ρ' := [some (.str x), none, none, none, none, none]) rfl rfl).trans ?_
    refine congrArg fin ?_
    rw [es_seq]
    have a1 : sIf (fNot (fTru (fCB gIsi (fCons (fVar 0) (fCons (fC (.ty "str")) fNil))))) (sRet (fTup (fCons (fC (.str "bad")) (fCons (fC (.int 0)) (fCons (fC (.int 0)) fNil))))) sNil [some (.str x), none, none, none, none, none] h = .ok .nx [some (.str x), none, none, none, none, none] h := by
      simp [isi_str, ofR]
    rw [a1, thn_nx, es_seq]
    have a2 : sAsg (fLst fNil) (gN 1) [some (.str x), none, none, none, none, none] h = .ok .nx ρ1 ha := by
      rw [eρ, ea]
      simp [ofR, SR.tk]
    rw [a2, thn_nx, es_seq]
    have c : fEnum (fCons (fComp (fSrc (fM1 gSplit (fVar 0) (fC (.str "\n")))) (.nm 4) fYes (fM1 gSplit (fVar 4) (fC (.str " "))) FU) fNil) ρ1 ha = .ok (srcE L) h2 := by
      have c : fComp (fSrc (fM1 gSplit (fVar 0) (fC (.str "\n")))) (.nm 4) fYes (fM1 gSplit (fVar 4) (fC (.str " "))) FU ρ1 ha = .ok (.ref L) h2 := by
        rw [ev_comp, ev_src, ev_m1]
        have v0 : fVar 0 ρ1 ha = .ok (.str x) ha := by rw [eρ]; rfl
        rw [v0]
        simp only [R.bind_ok, kM1_eq, ev_c, nl_eq]
        rw [show gSplit x (.str nl) ha = .ok (.ref ha.length) (ha ++ [.lst ((Txt.split x nl).map D.str)]) from split_str (by omega), ← e1]
        simp only [R.bind_ok, kSrc1_eq]
        rw [show srcOf (.ref ha.length) h1 = some (srcL ha.length) from by unfold srcOf; dsimp only; rw [lstAt n1]]
        simp only [opt_some, kSrc2_eq, R.bind_ok, kCo_eq]
        rw [show wipeE ρ1 (tgV (.nm 4)) = ρ1 from by rw [eρ]; rfl]
        exact l1
      rw [ev_enum, ev_cons, c]
      simp [lstAt r1]
    have fe : sFor (fEnum (fCons (fComp (fSrc (fM1 gSplit (fVar 0) (fC (.str "\n")))) (.nm 4) fYes (fM1 gSplit (fVar 4) (fC (.str " "))) FU) fNil)) (gTp 2 (gsCons (gN 2) (gsCons (gN 3) gsNil))) bodyU FU ρ1 ha = sForL (srcE L) tgU bodyU FU 0 (rhoU0 (.str x) h.length none none none) h2 := by
      rw [es_for, c]
      simp only [ofR, kFor_eq]
      rw [eρ, show (gTp 2 (gsCons (gN 2) (gsCons (gN 3) gsNil))) = tgU from rfl]
    rw [fe]
  unfold RO
  rw [show ([] : List (List Str)).length = 0 from rfl] at lp
  have bk : ∀ {h' : MH}, Kp [h.length] h2 h' → Kp [] h h' := fun kk => kk2.trans kk fun m hm _ => ⟨by simp, fun z => absurd (List.mem_singleton.mp z) (by omega)⟩
  cases q : goO (wds x) 0 [] with
  | error p =>
    obtain ⟨l, w⟩ := p
    rw [q] at lp
    obtain ⟨ρ', h', p1, p2⟩ := lp
    refine ⟨h', ?_, bk p2⟩
    rw [ev, p1, thn_rt, fin_rt]
  | ok os =>
    rw [q] at lp
    obtain ⟨z2, z3, z5, h', p1, p2, p3, p4⟩ := lp
    refine ⟨h' ++ [.lst [OsD os]], h'.length, ?_, push_new, ?_, (bk p2).push, p4⟩
    · rw [ev, p1, thn_nx]
      simp [gTuple, itemsOf, lstAt p3, ofR, OsD]
    · exact (bk p2).le
theorem offers_due_bad {d : D} {h : MH} {t : String} (ht : tyOf h d = some t) (hs : t ≠ "str") : F__law_offers_due [d] h = .ok (badT 0 0) h := by
  have : gIsi [d, .ty "str"] h = .ok (.bl false) h := by
    unfold gIsi
    dsimp only
    rw [ht]
    dsimp only
    rw [if_pos (Or.inl rfl)]
    have : (t == "str") = false := beq_eq_false_iff_ne.mpr hs
    rw [this]
  unfold F__law_offers_due
  rw [s_od]
  refine (mk_go (ρ' := [some d, none, none, none, none, none]) rfl rfl).trans ?_
  rw [es_seq]
  have a1 : sIf (fNot (fTru (fCB gIsi (fCons (fVar 0) (fCons (fC (.ty "str")) fNil))))) (sRet (fTup (fCons (fC (.str "bad")) (fCons (fC (.int 0)) (fCons (fC (.int 0)) fNil))))) sNil [some d, none, none, none, none, none] h = .ok (.rt (badT 0 0)) [some d, none, none, none, none, none] h := by
    simp [this, ofR, badT]
  rw [a1, thn_rt, fin_rt]
end W86
set_option Elab.async false
set_option linter.all false
set_option maxRecDepth 100000
set_option maxHeartbeats 4000000
namespace W86
open PySem Mp TL
open L2 (cutS atI)

/-! ### the law's asking of a reader -/
theorem callV_ok {n : Nat} {F : Fn} (hT : Tv n = some F) {d : D} {h : MH} : fCallV 0 Tv (fCons (fVar 1) fNil) [some (.obj n), some d, none] h = F [d] h := by
  unfold fCallV
  simp [hT]
theorem answered_ok {n : Nat} {F : Fn} (hT : Tv n = some F) {d v : D} {h h' : MH} (e : F [d] h = .ok v h') : F__law_answered [.obj n, d] h = .ok (.ref h'.length) (h' ++ [.lst [v]]) := by
  unfold F__law_answered
  refine (mk_go (ρ' := [some (.obj n), some d, none]) rfl rfl).trans ?_
  have c := callV_ok hT (d := d) (h := h)
  rw [e] at c
  unfold s__law_answered sTry
  have b : sRet (fLst (fCons (fCallV 0 Tv (fCons (fVar 1) fNil)) fNil)) [some (.obj n), some d, none] h = .ok (.rt (.ref h'.length)) [some (.obj n), some d, none] (h' ++ [.lst [v]]) := by
    rw [es_ret, ev_lst, ev_cons, c]
    simp [ofR]
  rw [b]
  rfl
theorem answered_exc {n : Nat} {F : Fn} (hT : Tv n = some F) {d a b : D} {h h' : MH} (e : F [d] h = .exc ⟨2, [a, b]⟩ h') : F__law_answered [.obj n, d] h = .ok (.tup [.str "bad", a, b]) h' := by
  unfold F__law_answered
  refine (mk_go (ρ' := [some (.obj n), some d, none]) rfl rfl).trans ?_
  have c := callV_ok hT (d := d) (h := h)
  rw [e] at c
  unfold s__law_answered sTry
  have b' : sRet (fLst (fCons (fCallV 0 Tv (fCons (fVar 1) fNil)) fNil)) [some (.obj n), some d, none] h = .exc ⟨2, [a, b]⟩ [some (.obj n), some d, none] h' := by
    rw [es_ret, ev_lst, ev_cons, c]
    simp [ofR]
  rw [b']
  dsimp only
  rw [if_pos ⟨by simp, by simp⟩]
  simp [fXf]
theorem Tv9 : Tv 9 = some F_read_grouping := rfl
theorem Tv11 : Tv 11 = some F_read_offers := rfl

/-! ### repr -/
mutual
def smD : D → Bool
  | .non => true
  | .bl _ => true
  | .int i => decide (i.natAbs < 1000000000000)
  | .str x => PyData.strOk x
  | .tup l => smDs l
  | _ => false
def smDs : List D → Bool
  | [] => true
  | d :: l => smD d && smDs l
end
mutual
def wtD : D → Nat
  | .int _ => 41
  | .str x => x.length
  | .tup l => wtDs l
  | _ => 0
def wtDs : List D → Nat
  | [] => 0
  | d :: l => wtD d + 1 + wtDs l
end
theorem log2_small {n : Nat} (h : n < 1000000000000) : n.log2 < 41 := by
  by_cases z : n = 0
  · subst z; decide
  · rw [Nat.log2_lt z]
    exact Nat.lt_trans h (by decide)
theorem strOk_big {x : Str} (k : PyData.strOk x = true) : ∀ c ∈ x.cps.toList, c < 16 ^ 8 := by
  intro c hc
  unfold PyData.strOk at k
  rw [Array.all_eq_true] at k
  obtain ⟨i, hi, e⟩ := List.getElem_of_mem hc
  have := k i (by simpa using hi)
  simp at this
  have e' : x.cps[i]'(by simpa using hi) = c := by simpa using e
  rw [e'] at this
  omega
mutual
theorem sm_ok : ∀ d : D, smD d = true → okD d = true ∧ (toP d).showable = true ∧ (toP d).leavesShort 13 = true ∧ (toP d).weight ≤ wtD d
  | .non, _ => ⟨rfl, rfl, rfl, Nat.zero_le _⟩
  | .bl _, _ => ⟨rfl, rfl, rfl, Nat.zero_le _⟩
  | .int i, k => by
    unfold smD at k
    have k' := of_decide_eq_true k
    have l := log2_small k'
    refine ⟨rfl, by unfold toP PyData.showable; exact decide_eq_true (by omega), by unfold toP PyData.leavesShort; exact decide_eq_true (PyData.shown_int_le2 (by omega) (by omega)), ?_⟩
    unfold toP PyData.weight wtD
    split
    · omega
    · omega
  | .str x, k => by
    unfold smD at k
    refine ⟨by unfold okD; exact k, by unfold toP PyData.showable; rfl, ?_, ?_⟩
    · unfold toP PyData.leavesShort
      rw [List.all_eq_true]
      intro c hc
      exact decide_eq_true (strOk_big k c hc)
    · unfold toP PyData.weight wtD
      exact Nat.le_refl _
  | .tup l, k => by
    unfold smD at k
    obtain ⟨h1, h2, h3, h4⟩ := sms_ok l k
    exact ⟨by unfold okD; exact h1, by unfold toP PyData.showable; exact h2, by unfold toP PyData.leavesShort; exact h3, by unfold toP PyData.weight wtD; exact h4⟩
  | .ref _, k => by cases k
  | .obj _, k => by cases k
  | .ty _, k => by cases k
theorem sms_ok : ∀ l : List D, smDs l = true → okDs l = true ∧ PyData.showableAll (toPs l) = true ∧ PyData.leavesShortAll 13 (toPs l) = true ∧ PyData.weightAll (toPs l) ≤ wtDs l
  | [], _ => ⟨rfl, rfl, rfl, Nat.le_refl _⟩
  | d :: l, k => by
    unfold smDs at k
    rw [Bool.and_eq_true] at k
    obtain ⟨a1, a2, a3, a4⟩ := sm_ok d k.1
    obtain ⟨b1, b2, b3, b4⟩ := sms_ok l k.2
    refine ⟨by unfold okDs; rw [a1, b1]; rfl, by unfold toPs PyData.showableAll; rw [a2, b2]; rfl, by unfold toPs PyData.leavesShortAll; rw [a3, b3]; rfl, ?_⟩
    unfold toPs PyData.weightAll wtDs
    omega
end
theorem repr_ref {h : MH} {n : Nat} {l : List D} (e : h[n]? = some (.lst l)) (k : smDs l = true) (q : deps l ≤ 7) (w : wtDs l ≤ 1048576) : gRepr [.ref n] h = .ok (.str (PyData.list (toPs l)).shown) h := by
  obtain ⟨k1, k2, k3, k4⟩ := sms_ok l k
  obtain ⟨h1, h2, h3⟩ := pdL_ok (h := h) 7 l k1 q
  have e1 : pd h dpt (.ref n) = some (.list (toPs l)) := by
    unfold dpt pd
    rw [lstAt e]
    dsimp only
    rw [h1]
    rfl
  unfold gRepr
  dsimp only
  rw [e1]
  dsimp only
  rw [if_pos]
  refine ⟨by unfold PyData.showable; exact k2, PyData.hasDict_of_canLay _ (by unfold PyData.canLay0; exact h2), ?_, ?_⟩
  · unfold PyData.depth; rw [h3]; omega
  · have wb : (PyData.list (toPs l)).weight ≤ 2 ^ 20 := by
      rw [show (2 : Nat) ^ 20 = 1048576 by decide]
      unfold PyData.weight
      omega
    have := PyData.shown_fits (B := 13) (by decide) (by decide) (d := .list (toPs l)) (by unfold PyData.leavesShort; exact k3) wb
    rw [sizeLine_eq] at this
    exact this
theorem repr_pure {h : MH} {d : D} (k : smD d = true) (q : dep d ≤ 7) (w : wtD d ≤ 1048576) : gRepr [d] h = .ok (.str (toP d).shown) h := by
  obtain ⟨k1, k2, k3, k4⟩ := sm_ok d k
  obtain ⟨h1, h2, h3⟩ := pd_ok (h := h) 8 d k1 (by omega)
  unfold gRepr dpt
  dsimp only
  rw [h1]
  dsimp only
  rw [if_pos]
  refine ⟨k2, PyData.hasDict_of_canLay _ h2, by rw [h3]; omega, ?_⟩
  have wb : (toP d).weight ≤ 2 ^ 20 := by
    rw [show (2 : Nat) ^ 20 = 1048576 by decide]
    omega
  have := PyData.shown_fits (B := 13) (by decide) (by decide) k3 wb
  rw [sizeLine_eq] at this
  exact this
theorem badT_sm {l w : Nat} (hl : l < 1000000000000) (hw : w < 1000000000000) : smD (badT l w) = true ∧ dep (badT l w) ≤ 7 ∧ wtD (badT l w) ≤ 1048576 := by
  refine ⟨?_, by simp [badT, dep, deps], ?_⟩
  · have ob : PyData.strOk (Str.ofString "bad") = true := okS.str (by
      have e : (Str.ofString "bad").cps.toList = [98, 97, 100] := by decide
      intro c hc
      rw [e] at hc
      simp at hc
      omega)
    simp [badT, smD, smDs, hl, hw, ob]
  · simp [badT, wtD, wtDs]
    decide
end W86
set_option Elab.async false
set_option linter.all false
set_option maxRecDepth 100000
set_option maxHeartbeats 4000000
namespace W86
open PySem Mp TL
open L2 (cutS atI)

/-! ### what is read is written the same again -/
def unG (ps : List (List Str)) (l : List Str) : List Str := (ps.map (· ++ [("/" : Str)])).flatten ++ l
theorem goG_un : ∀ (rest : List Str) (w : Nat) (prev : List (List Str)) (last : List Str) (gs : List (List Str)), goG rest w prev last = .ok gs → (∀ p ∈ prev, p ≠ []) → ∃ ps l, gs = ps ++ [l] ∧ (∀ p ∈ gs, p ≠ []) ∧ unG prev last ++ rest = unG ps l
  | [], w, prev, last, gs, e, ne => by
    unfold goG at e
    by_cases c : last.isEmpty = true
    · rw [if_pos c] at e; cases e
    · rw [if_neg c] at e
      cases e
      refine ⟨prev, last, rfl, fun p hp => ?_, by simp⟩
      rcases List.mem_append.mp hp with hp | hp
      · exact ne p hp
      · rw [List.mem_singleton.mp hp]
        intro z
        rw [z] at c
        exact c rfl
  | x :: r, w, prev, last, gs, e, ne => by
    unfold goG at e
    by_cases c : (!last.isEmpty && decide (x = "/")) = true
    · rw [if_pos c] at e
      rw [Bool.and_eq_true] at c
      have hx : x = ("/" : Str) := of_decide_eq_true c.2
      obtain ⟨ps, l, e1, e2, e3⟩ := goG_un r (w + 1) (prev ++ [last]) [] gs e (fun p hp => by
        rcases List.mem_append.mp hp with hp | hp
        · exact ne p hp
        · rw [List.mem_singleton.mp hp]
          intro z
          rw [z] at c
          exact absurd c.1 (by simp))
      refine ⟨ps, l, e1, e2, ?_⟩
      rw [← e3, hx]
      simp [unG]
    · rw [if_neg c] at e
      by_cases c2 : (nmOk x last.getLast? && !chkV prev (last ++ [x]) x) = true
      · rw [if_pos c2] at e
        obtain ⟨ps, l, e1, e2, e3⟩ := goG_un r (w + 1) prev (last ++ [x]) gs e ne
        refine ⟨ps, l, e1, e2, ?_⟩
        rw [← e3]
        simp [unG]
      · rw [if_neg c2] at e; cases e
theorem joinL_cons {S a : List Nat} {bs : List (List Nat)} (h : bs ≠ []) : joinL S (a :: bs) = a ++ (S ++ joinL S bs) := by
  cases bs with
  | nil => exact absurd rfl h
  | cons b bs => rfl
theorem joinL_app {S : List Nat} : ∀ {as bs : List (List Nat)}, as ≠ [] → bs ≠ [] → joinL S (as ++ bs) = joinL S as ++ (S ++ joinL S bs)
  | [], _, h, _ => absurd rfl h
  | [a], bs, _, h => by rw [List.singleton_append, joinL_cons h]; rfl
  | a :: b :: r, bs, _, h => by
    have ih := joinL_app (S := S) (as := b :: r) (bs := bs) (by simp) h
    have e1 : joinL S (a :: b :: r) = a ++ (S ++ joinL S (b :: r)) := rfl
    have e2 : joinL S ((a :: b :: r) ++ bs) = a ++ (S ++ joinL S ((b :: r) ++ bs)) := rfl
    rw [e1, e2, ih]
    simp only [List.append_assoc]
def sl3 : Str := " / "
theorem sl3_eq : Str.ofString " / " = sl3 := rfl
theorem tl_sl : tl ("/" : Str) = [47] := by decide
theorem tl_sl3 : tl sl3 = [32, 47, 32] := by decide
theorem tl_bl : tl bl = [32] := by decide
theorem tl_nl : tl nl = [10] := by decide
theorem joinL_un (l : List Str) (hl : l ≠ []) : ∀ ps : List (List Str), (∀ p ∈ ps, p ≠ []) → joinL [32] ((unG ps l).map tl) = joinL [32, 47, 32] ((ps ++ [l]).map fun g => joinL [32] (g.map tl))
  | [], _ => by simp [unG, joinL]
  | p :: ps, h => by
    have ih := joinL_un l hl ps fun q hq => h q (List.mem_cons_of_mem _ hq)
    have hp := h p List.mem_cons_self
    have e : unG (p :: ps) l = p ++ ("/" : Str) :: unG ps l := by simp [unG]
    have hu : (unG ps l).map tl ≠ [] := by
      unfold unG
      intro z
      rw [List.map_append] at z
      exact hl (List.map_eq_nil_iff.mp (List.append_eq_nil_iff.mp z).2)
    have e2 : ((p :: ps ++ [l]).map fun g => joinL [32] (g.map tl)) = joinL [32] (p.map tl) :: (ps ++ [l]).map (fun g => joinL [32] (g.map tl)) := rfl
    rw [e, List.map_append, joinL_app (by simpa using hp) (by simp), List.map_cons, joinL_cons hu, ih, tl_sl, e2, joinL_cons (by simp)]
    simp only [List.append_assoc, List.cons_append, List.nil_append]
def gT (g : List Str) : Str := Str.join bl g
def GT (gs : List (List Str)) : Str := Str.join sl3 (gs.map gT)
theorem tl_inj {x y : Str} (h : tl x = tl y) : x = y := PySem.W.str_of_cps h
theorem tl_gT (g : List Str) : tl (gT g) = joinL [32] (g.map tl) := by unfold gT; rw [tl_join, tl_bl]
theorem tl_GT (gs : List (List Str)) : tl (GT gs) = joinL [32, 47, 32] (gs.map fun g => joinL [32] (g.map tl)) := by
  unfold GT
  rw [tl_join, tl_sl3, List.map_map]
  congr 1
  apply List.map_congr_left
  intro g _
  exact tl_gT g
theorem RG_text {x : Str} {gs : List (List Str)} (e : RG x = .ok gs) : GT gs = x ∧ (∀ g ∈ gs, g ≠ []) ∧ gs ≠ [] := by
  obtain ⟨c1, c2, c3⟩ := cut_is x (s := 10) (by decide)
  unfold RG at e
  cases q : wds x with
  | nil => rw [q] at e; cases e
  | cons line more =>
    rw [q] at e
    dsimp only at e
    cases q2 : goG line 0 [] [] with
    | error w => rw [q2] at e; cases e
    | ok gs' =>
      rw [q2] at e
      dsimp only at e
      by_cases m : more.isEmpty = true
      · rw [if_pos m] at e
        cases e
        obtain ⟨ps, l, e1, e2, e3⟩ := goG_un line 0 [] [] gs q2 (by simp)
        have m0 : more = [] := List.isEmpty_iff.mp m
        rw [m0] at q
        unfold wds at q
        obtain ⟨y, ys, ey⟩ := List.exists_cons_of_ne_nil c1
        have ey' : Txt.split x nl = y :: ys := ey
        rw [ey', List.map_cons] at q
        injection q with q3 q4
        have ys0 : ys = [] := List.map_eq_nil_iff.mp q4
        rw [ey, ys0] at c3
        have hy : y = x := c3
        obtain ⟨d1, d2, d3⟩ := cut_is x (s := 32) (by decide)
        have q3' : Txt.split x (sg 32) = line := by rw [← hy]; exact q3
        rw [q3'] at d3
        refine ⟨tl_inj ?_, e2, by rw [e1]; simp⟩
        have e3' : line = unG ps l := by rw [← e3]; simp [unG]
        rw [tl_GT, e1, ← joinL_un l (e2 l (by rw [e1]; simp)) ps (fun p hp => e2 p (by rw [e1]; exact List.mem_append_left _ hp)), ← e3', ← tl_bl, ← tl_join]
        exact congrArg tl d3
      · rw [if_neg m] at e; cases e
/-- a joined text: its sizes -/
theorem join_sizes {s : Str} {xs : List Str} : (xs.map (·.length)).sum + (xs.length - 1) * s.length = (Str.join s xs).length := by
  have := joinL_len (S := tl s) (ps := xs.map tl)
  rw [← tl_join, len_tl', len_tl', List.length_map, List.map_map] at this
  rw [← this]
  have : ((fun x => x.length) ∘ tl) = fun x : Str => x.length := by
    funext x
    exact len_tl' x
  rw [this]
theorem sum_le_mul {l : List Nat} {m : Nat} (h : ∀ a ∈ l, a ≤ m) : l.sum ≤ l.length * m := by
  induction l with
  | nil => simp
  | cons a l ih =>
    have h1 := h a List.mem_cons_self
    have h2 := ih fun b hb => h b (List.mem_cons_of_mem _ hb)
    rw [List.sum_cons, List.length_cons, Nat.add_mul]
    omega
/-- sizes of groups that may be written -/
structure GSz (gs : List (List Str)) : Prop where
  each : ∀ g ∈ gs, (g.map (·.length)).sum + g.length ≤ 1000000
  all : (gs.map fun g => (gT g).length).sum + gs.length * 3 ≤ 1000000
theorem gT_len (g : List Str) : (g.map (·.length)).sum + g.length ≤ (gT g).length + 1 := by
  have := join_sizes (s := bl) (xs := g)
  have e : bl.length = 1 := rfl
  rw [e] at this
  unfold gT
  omega
theorem GT_len (gs : List (List Str)) : (gs.map fun g => (gT g).length).sum + gs.length * 3 ≤ (GT gs).length + 3 := by
  have := join_sizes (s := sl3) (xs := gs.map gT)
  have e : sl3.length = 3 := rfl
  rw [e, List.map_map, List.length_map] at this
  have e2 : ((fun x : Str => x.length) ∘ gT) = fun g => (gT g).length := rfl
  rw [e2] at this
  unfold GT
  omega
theorem GSz_of {x : Str} {gs : List (List Str)} (e : GT gs = x) (hx : x.length ≤ 950000) : GSz gs := by
  have h1 := GT_len gs
  rw [e] at h1
  refine ⟨fun g hg => ?_, by omega⟩
  have h2 := gT_len g
  have h3 : (gT g).length ≤ (gs.map fun g => (gT g).length).sum := le_sum_of_mem (List.mem_map.mpr ⟨g, hg, rfl⟩)
  omega
theorem wt_strs : ∀ g : List Str, wtDs (g.map D.str) = (g.map (·.length)).sum + g.length
  | [] => rfl
  | x :: g => by
    rw [List.map_cons]
    unfold wtDs wtD
    rw [wt_strs g]
    simp
    omega
theorem sm_strs : ∀ {g : List Str}, (∀ x ∈ g, okS x) → smDs (g.map D.str) = true
  | [], _ => rfl
  | x :: g, h => by
    rw [List.map_cons]
    unfold smDs smD
    rw [(h x List.mem_cons_self).str, sm_strs fun y hy => h y (List.mem_cons_of_mem _ hy)]
    rfl
theorem GD_wt : ∀ gs : List (List Str), wtDs (gs.map fun w => D.tup (w.map D.str)) ≤ (gs.map fun g => (gT g).length).sum + gs.length * 2
  | [] => Nat.le_refl _
  | g :: gs => by
    have ih := GD_wt gs
    have h := gT_len g
    simp only [List.map_cons, List.sum_cons, List.length_cons]
    unfold wtDs wtD
    rw [wt_strs]
    omega
theorem GD_sm : ∀ {gs : List (List Str)}, (∀ g ∈ gs, ∀ x ∈ g, okS x) → smDs (gs.map fun w => D.tup (w.map D.str)) = true ∧ deps (gs.map fun w => D.tup (w.map D.str)) ≤ 1
  | [], _ => ⟨rfl, by decide⟩
  | g :: gs, h => by
    obtain ⟨i1, i2⟩ := GD_sm fun y hy => h y (List.mem_cons_of_mem _ hy)
    obtain ⟨_, j2⟩ := okDs_strs (h g List.mem_cons_self)
    simp only [List.map_cons]
    refine ⟨?_, ?_⟩
    · unfold smDs smD
      rw [sm_strs (h g List.mem_cons_self), i1]
      rfl
    · unfold deps dep
      rw [j2]
      omega
theorem GD_repr {gs : List (List Str)} (ok : ∀ g ∈ gs, ∀ x ∈ g, okS x) (sz : GSz gs) : smDs [GD gs] = true ∧ deps [GD gs] ≤ 7 ∧ wtDs [GD gs] ≤ 1048576 := by
  obtain ⟨i1, i2⟩ := GD_sm ok
  have i3 := GD_wt gs
  have i4 := sz.all
  refine ⟨?_, ?_, ?_⟩
  · unfold GD smDs smD
    rw [i1]; rfl
  · unfold GD deps dep
    have : deps [] = 0 := rfl
    omega
  · unfold GD wtDs wtD
    have : wtDs [] = 0 := rfl
    omega
/-- signs of what is read -/
theorem okS_tl {x y : Str} (h : ∀ c ∈ tl x, c ∈ tl y) (k : okS y) : okS x := fun c hc => k c (h c hc)
theorem GT_ok {gs : List (List Str)} (k : okS (GT gs)) : ∀ g ∈ gs, ∀ x ∈ g, okS x := fun g hg x hx => okS_tl (y := GT gs) (fun c hc => by
  rw [tl_GT]
  refine joinL_mem (List.mem_map.mpr ⟨g, hg, rfl⟩) ?_
  exact joinL_mem (List.mem_map.mpr ⟨x, hx, rfl⟩) hc) k
end W86
set_option Elab.async false
set_option linter.all false
set_option maxRecDepth 100000
set_option maxHeartbeats 4000000
namespace W86
open PySem Mp TL
open L2 (cutS atI)

/-! ### offers: lines, order -/
def nS (i : Int) : Str := toString i
def rowO (o : Of) : List Str := [("offer" : Str), o.o, o.a, o.b, nS o.p]
theorem wr_str {p : Str} (k : isWr p = true) (h0 : 0 ≤ wrV p) : nS (wrV p) = p := by
  unfold isWr at k
  simp only [Bool.and_eq_true, Bool.not_eq_true', decide_eq_false_iff_not, decide_eq_true_eq] at k
  obtain ⟨k1, k2, k3, k4⟩ := k
  have ad : NumText.AllDigits (dg p).cps.toList := fun c hc => isDg_iff (List.all_eq_true.mp k2 c hc)
  have ne : (dg p).cps.toList ≠ [] := fun z => k1 (empty_of.mpr z)
  obtain ⟨c, r, f1, f2, f3⟩ := first_of_ne k1
  have k4' : p = ("0" : Str) ∨ ¬ hd (dg p) = ("0" : Str) := by
    rw [Bool.or_eq_true, decide_eq_true_iff, Bool.not_eq_true', decide_eq_false_iff_not] at k4
    exact k4
  have c49 : ¬ hd (dg p) = ("0" : Str) → 49 ≤ c := fun z => by
    have := ad c (by rw [f1]; simp)
    by_cases e : c = 48
    · exact absurd (by rw [f3, e]; rfl) z
    · omega
  have len : p.length ≤ 41 := by
    rcases dg_cases p with e | e
    · have := congrArg List.length e
      rw [List.length_cons, len_tl', len_tl'] at this
      omega
    · rw [e] at k3; omega
  rcases dg_cases p with e | e
  · have v := PySem.intText_neg e ad ne (by omega)
    have hv : wrV p = -((NumText.digitsVal (dg p).cps.toList : Nat) : Int) := by unfold wrV; rw [v]; rfl
    rcases k4' with z | z
    · rw [z] at e
      have e' : ([48] : List Nat) = 45 :: (dg ("0" : Str)).cps.toList := e
      injection e' with e1 e2
      cases e1
    · have := NumText.digitsVal_pos (cs := r) (c49 z)
      rw [← f1] at this
      omega
  · rw [e] at ad ne f1 c49 k4' f3
    have v := PySem.intText_digits ad ne (by omega)
    have hv : wrV p = ((NumText.digitsVal p.cps.toList : Nat) : Int) := by unfold wrV; rw [v]; rfl
    rw [hv]
    apply tl_inj
    show (PySem.Str.ofString (toString ((NumText.digitsVal p.cps.toList : Nat) : Int))).cps.toList = p.cps.toList
    have td := NumText.toDigits_digitsVal r.length p.cps.toList (by rw [f1]; simp) ad (by
      rcases k4' with z | z
      · left
        have : p.cps.toList = [48] := by rw [z]; rfl
        rw [f1] at this
        injection this with h1 h2
        rw [h2]; rfl
      · right; exact ⟨c, r, f1, c49 z⟩)
    rw [PySem.W.KIN.signs_num, td, List.map_map]
    conv => rhs; rw [← List.map_id p.cps.toList]
    apply List.map_congr_left
    intro d hd'
    have := ad d hd'
    show (Char.ofNat d).toNat = d
    have : ∀ d : Nat, d < 58 → (Char.ofNat d).toNat = d := by decide
    exact this d (by omega)
def Asc (xs : List Of) : Prop := (xs.map Of.o).Pairwise fun a b => strLt a b = true
theorem five {line : List Str} {a b c d e : Str} (h0 : line[0]? = some a) (h1 : line[1]? = some b) (h2 : line[2]? = some c) (h3 : line[3]? = some d) (h4 : line[4]? = some e) (h5 : line[5]? = none) : line = [a, b, c, d, e] := by
  rcases line with _ | ⟨a', _ | ⟨b', _ | ⟨c', _ | ⟨d', _ | ⟨e', _ | ⟨f', r⟩⟩⟩⟩⟩⟩
  · simp at h0
  · simp at h1
  · simp at h2
  · simp at h3
  · simp at h4
  · simp at h0 h1 h2 h3 h4
    rw [h0, h1, h2, h3, h4]
  · simp at h5
theorem lineO_row {line : List Str} {ab : Option Str} {o : Of} (e : lineO line ab = .ok o) : line = rowO o ∧ (∀ y, ab = some y → strLt y o.o = true) ∧ (0 ≤ o.p ∧ o.p ≤ 1000000) ∧ isName o.o = true ∧ isName o.a = true ∧ isName o.b = true := by
  unfold lineO at e
  cases f0 : line[0]? with
  | none => rw [f0] at e; cases e
  | some w0 =>
  rw [f0] at e
  dsimp only at e
  by_cases c0 : w0 = ("offer" : Str)
  · rw [if_pos c0] at e
    cases f1 : line[1]? with
    | none => rw [f1] at e; cases e
    | some x =>
    rw [f1] at e
    dsimp only at e
    by_cases c1 : nmOk x ab = true
    · rw [if_pos c1] at e
      cases f2 : line[2]? with
      | none => rw [f2] at e; cases e
      | some y =>
      rw [f2] at e
      dsimp only at e
      by_cases c2 : isName y = true
      · rw [if_pos c2] at e
        cases f3 : line[3]? with
        | none => rw [f3] at e; cases e
        | some z =>
        rw [f3] at e
        dsimp only at e
        by_cases c3 : isName z = true
        · rw [if_pos c3] at e
          by_cases c4 : z = y
          · rw [if_pos c4] at e; cases e
          · rw [if_neg c4] at e
            cases f4 : line[4]? with
            | none => rw [f4] at e; cases e
            | some p =>
            rw [f4] at e
            dsimp only at e
            by_cases c5 : inOk p 0 1000000 = true
            · rw [if_pos c5] at e
              cases f5 : line[5]? with
              | some q => rw [f5] at e; cases e
              | none =>
              rw [f5] at e
              cases e
              unfold inOk at c5
              rw [Bool.and_eq_true, Bool.and_eq_true, decide_eq_true_iff, decide_eq_true_iff] at c5
              have c1n : isName x = true := by
                unfold nmOk at c1
                rw [Bool.and_eq_true] at c1
                exact c1.1
              refine ⟨?_, fun y' hy => ?_, ⟨c5.2.1, c5.2.2⟩, c1n, c2, c3⟩
              · unfold rowO
                dsimp only
                rw [wr_str c5.1 c5.2.1, ← c0]
                exact five f0 f1 f2 f3 f4 f5
              · unfold nmOk at c1
                rw [hy, Bool.and_eq_true] at c1
                exact c1.2
            · rw [if_neg c5] at e; cases e
        · rw [if_neg c3] at e; cases e
      · rw [if_neg c2] at e; cases e
    · rw [if_neg c1] at e; cases e
  · rw [if_neg c0] at e; cases e
theorem goO_row : ∀ (ws : List (List Str)) (l : Nat) (acc os : List Of), goO ws l acc = .ok os → Asc acc → acc.length ≤ 10 → ∃ new, os = acc ++ new ∧ ws = new.map rowO ∧ os.length ≤ 10 ∧ Asc os ∧ ∀ o ∈ new, (0 ≤ o.p ∧ o.p ≤ 1000000) ∧ isName o.o = true ∧ isName o.a = true ∧ isName o.b = true
  | [], l, acc, os, e, a, b => by
    unfold goO at e
    cases e
    exact ⟨[], by simp, rfl, b, a, by simp⟩
  | line :: ws, l, acc, os, e, a, b => by
    unfold goO at e
    by_cases t : acc.length = 10
    · rw [if_pos t] at e; cases e
    · rw [if_neg t] at e
      cases q : lineO line (acc.getLast?.map Of.o) with
      | error w => rw [q] at e; cases e
      | ok x =>
        rw [q] at e
        obtain ⟨r1, r2, r3⟩ := lineO_row q
        have a' : Asc (acc ++ [x]) := by
          unfold Asc
          rw [List.map_append, List.pairwise_append]
          refine ⟨a, by simp, fun y hy z hz => ?_⟩
          have hz' : z = x.o := by simpa using hz
          rw [hz']
          cases hl : (acc.map Of.o).getLast? with
          | none => rw [List.getLast?_eq_none_iff] at hl; rw [hl] at hy; cases hy
          | some u =>
            have lu := r2 u (by rw [← List.getLast?_map]; exact hl)
            exact asc_all a hl lu y hy
        obtain ⟨new, h1, h2, h3, h4, h5⟩ := goO_row ws (l + 1) (acc ++ [x]) os e a' (by simp; omega)
        refine ⟨x :: new, by rw [h1]; simp, by rw [List.map_cons, ← r1, ← h2], h3, h4, fun o ho => ?_⟩
        rcases List.mem_cons.mp ho with ho | ho
        · rw [ho]; exact r3
        · exact h5 o ho
def oT (o : Of) : Str := Str.join bl (rowO o)
def OT (os : List Of) : Str := Str.join nl (os.map oT)
theorem RO_text {x : Str} {os : List Of} (e : RO x = .ok os) : OT os = x ∧ Asc os ∧ os.length ≤ 10 ∧ ∀ o ∈ os, (0 ≤ o.p ∧ o.p ≤ 1000000) ∧ isName o.o = true ∧ isName o.a = true ∧ isName o.b = true := by
  obtain ⟨new, h1, h2, h3, h4, h5⟩ := goO_row (wds x) 0 [] os e (by unfold Asc; simp) (by simp)
  rw [List.nil_append] at h1
  subst h1
  refine ⟨?_, h4, h3, h5⟩
  obtain ⟨c1, c2, c3⟩ := cut_is x (s := 10) (by decide)
  have : (Txt.split x (sg 10)) = os.map oT := by
    have e1 : (wds x).map (Str.join bl) = Txt.split x (sg 10) := by
      unfold wds
      rw [List.map_map]
      conv => rhs; rw [← List.map_id (Txt.split x (sg 10))]
      apply List.map_congr_left
      intro y _
      exact (cut_is y (s := 32) (by decide)).2.2
    rw [← e1, h2, List.map_map]
    rfl
  rw [this] at c3
  exact c3
/-! order -/
def leO (a b : Of) : Bool := !PySem.W.dataLt (toP (OD b)) (toP (OD a))
def sortOs (os : List Of) : List Of := os.mergeSort leO
theorem toksO (a : Of) : PySem.W.keyToks (toP (OD a)) = [.inl 1, .inr a.o.cps.toList, .inl 1, .inr a.a.cps.toList, .inl 1, .inr a.b.cps.toList, .inl 1, .inl a.p, .inl 0] := by
  simp [OD, toP, toPs, PySem.W.keyToks, PySem.W.keyToksAll]
theorem leO_total (a b : Of) : (leO a b || leO b a) = true := by
  unfold leO PySem.W.dataLt
  cases h : PyProof.Rows.lexLt PyProof.Rows.itemOrd (PySem.W.keyToks (toP (OD b))) (PySem.W.keyToks (toP (OD a))) with
  | false => rfl
  | true =>
    cases h' : PyProof.Rows.lexLt PyProof.Rows.itemOrd (PySem.W.keyToks (toP (OD a))) (PySem.W.keyToks (toP (OD b))) with
    | false => rfl
    | true =>
      have := PyProof.Rows.lex_trans (O := PyProof.Rows.itemOrd) _ _ _ h h'
      rw [PyProof.Rows.lex_irrefl] at this
      cases this
theorem leO_trans (a b c : Of) (h1 : leO a b = true) (h2 : leO b c = true) : leO a c = true := by
  unfold leO PySem.W.dataLt at *
  cases h : PyProof.Rows.lexLt PyProof.Rows.itemOrd (PySem.W.keyToks (toP (OD c))) (PySem.W.keyToks (toP (OD a))) with
  | false => rfl
  | true =>
    rcases PyProof.Rows.lex_negTrans (O := PyProof.Rows.itemOrd) _ (PySem.W.keyToks (toP (OD b))) _ h with z | z
    · rw [z] at h2; cases h2
    · rw [z] at h1; cases h1
theorem leO_anti (a b : Of) (h1 : leO a b = true) (h2 : leO b a = true) : a = b := by
  unfold leO PySem.W.dataLt at *
  have z := PyProof.Rows.lex_total (O := PyProof.Rows.itemOrd) (PySem.W.keyToks (toP (OD a))) (PySem.W.keyToks (toP (OD b))) (by simpa using h2) (by simpa using h1)
  have z' : PySem.W.keyToks (toP (OD a)) = PySem.W.keyToks (toP (OD b)) := z
  rw [toksO, toksO] at z'
  simp only [List.cons.injEq, Sum.inr.injEq, Sum.inl.injEq, true_and, and_true] at z'
  obtain ⟨e1, e2, e3, e4⟩ := z'
  cases a; cases b
  dsimp only at e1 e2 e3 e4
  rw [PySem.W.str_of_cps e1, PySem.W.str_of_cps e2, PySem.W.str_of_cps e3, e4]
theorem sortOs_perm {os os' : List Of} (h : os.Perm os') : sortOs os = sortOs os' := by
  unfold sortOs
  refine List.Perm.eq_of_pairwise (le := fun a b => leO a b = true) (fun a b _ _ => leO_anti a b) (List.pairwise_mergeSort leO_trans leO_total os) (List.pairwise_mergeSort leO_trans leO_total os') ?_
  exact (List.mergeSort_perm os leO).trans (h.trans (List.mergeSort_perm os' leO).symm)
theorem sLt_asym {x y : Str} (h : strLt x y = true) : strLt y x = false := by
  cases q : strLt y x with
  | false => rfl
  | true => have := sLt_tr h q; rw [sLt_irr] at this; cases this
theorem leO_lt {a b : Of} (h : strLt a.o b.o = true) : leO a b = true := by
  have ne : b.o ≠ a.o := fun e => by rw [e, sLt_irr] at h; cases h
  unfold leO OD toP
  rw [PySem.W.dataLt_tuple]
  unfold toPs
  rw [PySem.W.dataLt_all_no (by unfold toP; rfl) (by unfold toP PyData.eqv; simp [ne])]
  have : PySem.W.dataLt (toP (.str b.o)) (toP (.str a.o)) = strLt b.o a.o := strLt_lt _ _
  rw [this, sLt_asym h]
  rfl
theorem sortOs_asc {os : List Of} (h : Asc os) : sortOs os = os := by
  unfold sortOs
  refine List.mergeSort_of_pairwise ?_
  unfold Asc at h
  rw [List.pairwise_map] at h
  exact h.imp fun h => leO_lt h
theorem toPs_map : ∀ l : List D, toPs l = l.map toP
  | [] => by unfold toPs; rfl
  | d :: l => by unfold toPs; rw [toPs_map l]; rfl
theorem zip_self {α β : Type} (f : α → β) : ∀ l : List α, l.zip (l.map f) = l.map fun a => (a, f a)
  | [] => rfl
  | a :: l => by rw [List.map_cons, List.zip_cons_cons, zip_self f l]; rfl
theorem sortD_map {α : Type} (mk : α → D) (l : List α) : sortD (l.map mk) (toPs (l.map mk)) = (l.mergeSort fun a b => !PySem.W.dataLt (toP (mk b)) (toP (mk a))).map mk := by
  unfold sortD
  rw [toPs_map, zip_self, List.map_map]
  have := List.map_mergeSort (r := fun a b => !PySem.W.dataLt (toP (mk b)) (toP (mk a))) (s := PySem.W.dataLe false fun b : D × PyData => b.2) (f := (fun a => (a, toP a)) ∘ mk) (l := l) (fun a _ b _ => rfl)
  rw [← this, List.map_map]
  rfl
theorem sorted_ok {α : Type} {mk : α → D} {l : List α} {h : MH} {n : Nat} (e : h[n]? = some (.lst (l.map mk))) (ok : okDs (l.map mk) = true) (dp : deps (l.map mk) ≤ 7)
    (al : ∀ a ∈ l, ∀ b ∈ l, PySem.W.alike (toP (mk a)) (toP (mk b)) = true) (tp : ∀ a ∈ l, ∃ x r, toP (mk a) = .tuple (x :: r)) :
    gSorted [.ref n] h = .ok (.ref h.length) (h ++ [.lst ((l.mergeSort fun a b => !PySem.W.dataLt (toP (mk b)) (toP (mk a))).map mk)]) := by
  obtain ⟨h1, h2, h3⟩ := pdL_ok (h := h) 8 (l.map mk) ok (by omega)
  unfold gSorted dpt
  dsimp only
  rw [lstAt e]
  dsimp only
  rw [h1]
  dsimp only
  rw [if_pos]
  · rw [sortD_map]
  · have mem : ∀ p ∈ toPs (l.map mk), ∃ a ∈ l, p = toP (mk a) := fun p hp => by
      rw [toPs_map, List.map_map] at hp
      obtain ⟨a, ha, e⟩ := List.mem_map.mp hp
      exact ⟨a, ha, e.symm⟩
    have dpa : ∀ (ps : List PyData) (p : PyData), p ∈ ps → p.depth ≤ PyData.depthAll ps := by
      intro ps
      induction ps with
      | nil => intro p hp; cases hp
      | cons q qs ih =>
        intro p hp
        unfold PyData.depthAll
        rcases List.mem_cons.mp hp with hp | hp
        · rw [hp]; omega
        · have := ih p hp; omega
    refine ⟨?_, ?_, ?_⟩
    · unfold allAl
      rw [List.all_eq_true]
      intro p hp
      rw [List.all_eq_true]
      intro q hq
      obtain ⟨a, ha, rfl⟩ := mem p hp
      obtain ⟨b, hb, rfl⟩ := mem q hq
      exact al a ha b hb
    · unfold sortB
      rw [Bool.or_eq_true]
      left
      rw [List.all_eq_true]
      intro p hp
      obtain ⟨a, ha, rfl⟩ := mem p hp
      obtain ⟨x, r, e⟩ := tp a ha
      rw [e]
    · rw [List.all_eq_true]
      intro p hp
      have := dpa _ p hp
      exact decide_eq_true (by omega)
theorem alikeO (a b : Of) : PySem.W.alike (toP (OD a)) (toP (OD b)) = true := by
  simp [OD, toP, toPs, PySem.W.alike, PySem.W.alikeAll]
theorem sortedO_ok {l : List Of} {h : MH} {n : Nat} (e : h[n]? = some (.lst (l.map OD))) (ok : ∀ x ∈ l, okO x) : gSorted [.ref n] h = .ok (.ref h.length) (h ++ [.lst ((sortOs l).map OD)]) := by
  obtain ⟨i1, i2⟩ := okDs_offs ok
  exact sorted_ok e i1 (by omega) (fun a _ b _ => alikeO a b) fun a _ => ⟨.str a.o, [.str a.a, .str a.b, .int a.p], by simp [OD, toP, toPs]⟩
theorem sortOs_mem {l : List Of} {x : Of} : x ∈ sortOs l ↔ x ∈ l := List.mem_mergeSort
theorem sortOs_len (l : List Of) : (sortOs l).length = l.length := List.length_mergeSort l
end W86
set_option Elab.async false
set_option linter.all false
set_option maxRecDepth 100000
set_option maxHeartbeats 4000000
namespace W86
open PySem Mp TL
open L2 (cutS atI)

/-! ### the writers -/
/-- results told by the items; the heap may grow in the turns -/
theorem comp_val {α : Type} {src : Src} {k n : Nat} {fe : EF D} {ρ : Mp.Env} {h0 : MH} {items : List α} {mk f : α → D} (hn : items.length < n) (hz : items.length ≤ 16777216)
    (hsrc : ∀ j h', Kp [] h0 h' → src j h' = some (items[j]?.map mk)) (step : ∀ d ∈ items, ∀ h', Kp [] h0 h' → ∃ h'', fe (ρ.set k (some (mk d))) h' = .ok (f d) h'' ∧ Kp [] h' h'') :
    ∃ h', compL src (.nm k) fYes fe ρ n 0 [] h0 = .ok (.ref h'.length) (h' ++ [.lst (items.map f)]) ∧ Kp [] h0 h' := by
  have go : ∀ (m i : Nat) (h : MH), i ≤ items.length → items.length - i < m → Kp [] h0 h → ∃ h', compL src (.nm k) fYes fe ρ m i ((items.take i).map f) h = .ok (.ref h'.length) (h' ++ [.lst (items.map f)]) ∧ Kp [] h0 h' := by
    intro m
    induction m with
    | zero => intro i h _ h2; omega
    | succ m ih =>
      intro i h h1 h2 kp
      unfold compL
      rw [hsrc i h kp]
      by_cases hi : i < items.length
      · rw [List.getElem?_eq_getElem hi]
        dsimp only [tgF, fYes, Option.map]
        obtain ⟨h'', e1, e2⟩ := step _ (List.getElem_mem hi) h kp
        rw [e1]
        dsimp only
        rw [if_pos (by rw [List.length_map, List.length_take]; omega)]
        have e : (items.take i).map f ++ [f items[i]] = (items.take (i + 1)).map f := by
          rw [List.take_add_one, List.map_append, List.getElem?_eq_getElem hi]; rfl
        rw [e]
        exact ih (i + 1) h'' (by omega) (by omega) (kp.trans e2 fun n _ hs => ⟨hs, hs⟩)
      · rw [List.getElem?_eq_none (by omega)]
        dsimp only [Option.map]
        rw [List.take_of_length_le (by omega)]
        exact ⟨h, rfl, kp⟩
  have := go n 0 h0 (Nat.zero_le _) (by omega) Kp.refl
  simpa using this
theorem src_tup {l : List D} {h : MH} : srcOf (.tup l) h = some (srcT l) := rfl
theorem src_ref {h : MH} {n : Nat} {l : List D} (e : h[n]? = some (.lst l)) : srcOf (.ref n) h = some (srcL n) := by
  unfold srcOf; dsimp only; rw [lstAt e]
theorem join_ok {s : Str} {d : D} {ys : List Str} {h : MH} (e : itemsOf h d = some (ys.map D.str)) (sz : (ys.map (·.length)).sum + ys.length * s.length ≤ 16777216) : gJoin s d h = .ok (.str (Str.join s ys)) h := by
  unfold gJoin
  rw [e]
  dsimp only
  rw [strsOf_map]
  dsimp only
  rw [if_pos sz, TL.join_eq]
theorem fVar_set {ρ : Mp.Env} {k : Nat} {d : D} {h : MH} (hk : k < ρ.length) : fVar k (ρ.set k (some d)) h = .ok d h := by
  unfold fVar
  rw [List.getElem?_set_self hk]
/-- what is walked: items, each a row of words -/
structure Rows {α : Type} (h : MH) (d : D) (items : List α) (mk : α → D) (ws : α → List Str) : Prop where
  src : ∃ s, srcOf d h = some s ∧ ∀ j h', Kp [] h h' → s j h' = some (items[j]?.map mk)
  it : ∀ a ∈ items, itemsOf h (mk a) = some ((ws a).map D.str)
theorem rows_join {α : Type} {h : MH} {d : D} {items : List α} {mk : α → D} {ws : α → List Str} {ρ : Mp.Env} {k : Nat} {fa : EF D} (Rw : Rows h d items mk ws) (sz : GSz (items.map ws)) (hk : k < ρ.length) (hw : wipeE ρ [k] = ρ) (ea : fa ρ h = .ok d h) :
    ∃ h', (fM1 gJoin (fC (.str (Str.ofString " / "))) (fComp (fSrc fa) (.nm k) fYes (fM1 gJoin (fC (.str (Str.ofString " "))) (fVar k)) FU)) ρ h = .ok (.str (GT (items.map ws))) h' ∧ Kp [] h h' := by
  obtain ⟨s, s1, s2⟩ := Rw.src
  have len : items.length ≤ 1000000 := by have := sz.all; rw [List.length_map] at this; omega
  have c := comp_pure (src := s) (k := k) (n := FU) (fe := fM1 gJoin (fC (.str (Str.ofString " "))) (fVar k)) (ρ := ρ) (h0 := h) (items := items) (mk := mk) (f := fun a => .str (gT (ws a))) (FU_big (by omega)) (by omega) (fun j => s2 j h Kp.refl) (fun a ha => by
    have z := sz.each (ws a) (List.mem_map.mpr ⟨a, ha, rfl⟩)
    have j := join_ok (s := bl) (Rw.it a ha) (by show _ + _ * 1 ≤ _; omega)
    rw [ev_m1, ev_c, bl_eq]
    simp only [R.bind_ok, kM1_eq, fVar_set hk]
    exact j)
  refine ⟨h ++ [.lst (items.map fun a => .str (gT (ws a)))], ?_, Kp.refl.push⟩
  rw [ev_m1, ev_c, sl3_eq]
  simp only [R.bind_ok, kM1_eq]
  rw [ev_comp, ev_src, ea]
  simp only [R.bind_ok, kSrc1_eq, s1, opt_some, kSrc2_eq, kCo_eq]
  rw [show wipeE ρ (tgV (.nm k)) = ρ from hw, c]
  simp only [R.bind_ok]
  have em : (items.map fun a => D.str (gT (ws a))) = ((items.map ws).map gT).map D.str := by simp
  refine join_ok (s := sl3) (ys := (items.map ws).map gT) ?_ ?_
  · show listOf _ _ = _
    rw [lstAt push_new, em]
  · have z := sz.all
    have e3 : sl3.length = 3 := rfl
    rw [e3, List.length_map, List.map_map]
    have : ((fun x : Str => x.length) ∘ gT) = fun g => (gT g).length := rfl
    rw [this]
    omega
theorem GD_rows {gs : List (List Str)} {h : MH} : Rows h (GD gs) gs (fun g => .tup (g.map D.str)) id :=
  ⟨⟨_, src_tup, fun j h' _ => by unfold srcT; rw [List.getElem?_map]⟩, fun g _ => rfl⟩
theorem grouping_text_any {α : Type} {h : MH} {d : D} {items : List α} {mk : α → D} {ws : α → List Str} (Rw : Rows h d items mk ws) (sz : GSz (items.map ws)) : ∃ h', F_grouping_text [d] h = .ok (.str (GT (items.map ws))) h' ∧ Kp [] h h' := by
  obtain ⟨h', e1, e2⟩ := rows_join (ρ := [some d, none]) (k := 1) (fa := fVar 0) Rw sz (by simp) rfl rfl
  refine ⟨h', ?_, e2⟩
  unfold F_grouping_text
  refine (mk_go (ρ' := [some d, none]) rfl rfl).trans ?_
  unfold s_grouping_text
  rw [es_ret, e1]
  rfl
theorem grouping_text_ok {gs : List (List Str)} {h : MH} (sz : GSz gs) : ∃ h', F_grouping_text [GD gs] h = .ok (.str (GT gs)) h' ∧ Kp [] h h' := by
  have := grouping_text_any (GD_rows (gs := gs) (h := h)) (by simpa using sz)
  simpa using this
/-! ### offers -/
structure OSz (os : List Of) : Prop where
  len : os.length ≤ 11
  nm : ∀ o ∈ os, o.o.length ≤ 100000 ∧ o.a.length ≤ 100000 ∧ o.b.length ≤ 100000
  p : ∀ o ∈ os, 0 ≤ o.p ∧ o.p ≤ 1000000
theorem nS_len {i : Int} (h : 0 ≤ i ∧ i ≤ 1000000) : (nS i).length ≤ 10 := PySem.W.KT.len_num h.1 (by omega)
theorem nS_small {i : Int} (h : 0 ≤ i ∧ i ≤ 1000000) : i.natAbs.log2 < 1920 := by
  have := log2_small (n := i.natAbs) (by omega)
  omega
theorem row_len {o : Of} (h1 : o.o.length ≤ 100000 ∧ o.a.length ≤ 100000 ∧ o.b.length ≤ 100000) (h2 : 0 ≤ o.p ∧ o.p ≤ 1000000) : ((rowO o).map (·.length)).sum + (rowO o).length * bl.length ≤ 300020 := by
  have e : bl.length = 1 := rfl
  have e2 : ("offer" : Str).length = 5 := rfl
  have := nS_len h2
  simp only [rowO, List.map_cons, List.map_nil, List.sum_cons, List.sum_nil, List.length_cons, List.length_nil, e, e2]
  omega
theorem oT_len {o : Of} (h1 : o.o.length ≤ 100000 ∧ o.a.length ≤ 100000 ∧ o.b.length ≤ 100000) (h2 : 0 ≤ o.p ∧ o.p ≤ 1000000) : (oT o).length ≤ 300020 := by
  have := StrLaws.join_length_le bl (rowO o)
  have := row_len h1 h2
  unfold oT
  omega
theorem OSz.sum {os : List Of} (z : OSz os) : ((os.map oT).map (·.length)).sum + (os.map oT).length * nl.length ≤ 16777216 := by
  have e : nl.length = 1 := rfl
  have := sum_le_mul (l := (os.map oT).map (·.length)) (m := 300020) (fun a ha => by
    obtain ⟨y, hy, rfl⟩ := List.mem_map.mp ha
    obtain ⟨o, ho, rfl⟩ := List.mem_map.mp hy
    exact oT_len (z.nm o ho) (z.p o ho))
  rw [e]
  simp only [List.length_map] at this ⊢
  have l := z.len
  have : os.length * 300020 ≤ 11 * 300020 := Nat.mul_le_mul_right _ l
  omega
def rowD (o : Of) : D := .tup [.str ("offer" : Str), .str o.o, .str o.a, .str o.b, .int o.p]
def oItems (o : Of) : List D := [.str o.o, .str o.a, .str o.b, .int o.p]
theorem OSz.sort {os : List Of} (z : OSz os) : OSz (sortOs os) := ⟨by rw [sortOs_len]; exact z.len, fun o ho => z.nm o (sortOs_mem.mp ho), fun o ho => z.p o (sortOs_mem.mp ho)⟩
theorem lines_of_ok {os : List Of} {h : MH} {n : Nat} (e : h[n]? = some (.lst (os.map rowD))) (z : OSz os) : ∃ h', F_lines_of [.ref n] h = .ok (.str (OT os)) h' ∧ Kp [] h h' := by
  have zl := z.len
  obtain ⟨h', c1, c2⟩ := comp_val (src := srcL n) (k := 2) (n := FU) (fe := fM1 gJoin (fC (.str (Str.ofString " "))) (fComp (fSrc (fVar 2)) (.nm 1) fYes (fCB gStr (fCons (fVar 1) fNil)) FU)) (ρ := [some (.ref n), none, none]) (h0 := h) (items := os) (mk := rowD) (f := fun o => .str (oT o)) (FU_big (by omega)) (by omega)
    (fun j h' k => by rw [srcL_at e k j, List.getElem?_map]) (fun o ho h' k => by
      have c := comp_pure (src := srcT [.str ("offer" : Str), .str o.o, .str o.a, .str o.b, .int o.p]) (k := 1) (n := FU) (fe := fCB gStr (fCons (fVar 1) fNil)) (ρ := [some (.ref n), none, some (rowD o)]) (h0 := h') (items := [((.str ("offer" : Str) : D), ("offer" : Str)), (.str o.o, o.o), (.str o.a, o.a), (.str o.b, o.b), (.int o.p, nS o.p)]) (mk := fun p => p.1) (f := fun p => .str p.2) (FU_big (by simp)) (by simp)
        (fun j => by unfold srcT; rw [← List.getElem?_map]; rfl) (fun p hp => by
          have l := nS_small (z.p o ho)
          simp only [List.mem_cons, List.not_mem_nil, or_false] at hp
          rcases hp with hp | hp | hp | hp | hp <;> subst hp <;> simp [gStr, l, nS])
      refine ⟨h' ++ [.lst ((rowO o).map D.str)], ?_, Kp.refl.push⟩
      rw [ev_m1, ev_c, bl_eq]
      simp only [R.bind_ok, kM1_eq]
      rw [ev_comp, ev_src]
      rw [show fVar 2 ([some (.ref n), none, none].set 2 (some (rowD o))) h' = .ok (rowD o) h' from rfl]
      simp only [R.bind_ok, kSrc1_eq]
      rw [show srcOf (rowD o) h' = some (srcT [.str ("offer" : Str), .str o.o, .str o.a, .str o.b, .int o.p]) from rfl]
      simp only [opt_some, kSrc2_eq, R.bind_ok, kCo_eq]
      rw [show wipeE ([some (D.ref n), none, none].set 2 (some (rowD o))) (tgV (.nm 1)) = [some (.ref n), none, some (rowD o)] from rfl, c]
      simp only [R.bind_ok]
      refine (join_ok (s := bl) (ys := rowO o) ?_ ?_).trans ?_
      · show listOf _ _ = _
        rw [lstAt push_new]
        rfl
      · have := row_len (z.nm o ho) (z.p o ho)
        omega
      · rfl)
  refine ⟨h' ++ [.lst ((os.map oT).map D.str)], ?_, c2.push⟩
  unfold F_lines_of
  refine (mk_go (ρ' := [some (.ref n), none, none]) rfl rfl).trans ?_
  unfold s_lines_of
  rw [es_ret, ev_m1, ev_c, nl_eq]
  simp only [R.bind_ok, kM1_eq]
  rw [ev_comp, ev_src, show fVar 0 [some (D.ref n), none, none] h = .ok (.ref n) h from rfl]
  simp only [R.bind_ok, kSrc1_eq, src_ref e, opt_some, kSrc2_eq, kCo_eq]
  rw [show wipeE [some (D.ref n), none, none] (tgV (.nm 2)) = [some (.ref n), none, none] from rfl, c1]
  simp only [R.bind_ok]
  have em : (os.map fun o => D.str (oT o)) = (os.map oT).map D.str := by simp
  rw [em, join_ok (s := nl) (ys := os.map oT) (by show listOf _ _ = _; rw [lstAt push_new]) z.sum]
  rfl
theorem offers_text_any {α : Type} {h : MH} {d : D} {items : List α} {mk : α → D} {of : α → Of} (src : ∃ s, srcOf d h = some s ∧ ∀ j h', Kp [] h h' → s j h' = some (items[j]?.map mk)) (it : ∀ a ∈ items, itemsOf h (mk a) = some (oItems (of a))) (z : OSz (items.map of)) (ok : ∀ x ∈ items.map of, okO x) :
    ∃ h', F_offers_text [d] h = .ok (.str (OT (sortOs (items.map of)))) h' ∧ Kp [] h h' := by
  obtain ⟨s, s1, s2⟩ := src
  have zl := z.len
  rw [List.length_map] at zl
  have c1 := comp_pure (src := s) (k := 1) (n := FU) (fe := fCB gTuple (fCons (fVar 1) fNil)) (ρ := [some d, none]) (h0 := h) (items := items) (mk := mk) (f := fun a => OD (of a)) (FU_big (by omega)) (by omega) (fun j => s2 j h Kp.refl) (fun a ha => by
    simp [gTuple, it a ha, oItems, OD])
  obtain ⟨h1, e1⟩ : ∃ h1, h1 = h ++ [O.lst (items.map fun a => OD (of a))] := ⟨_, rfl⟩
  rw [← e1] at c1
  have em : (items.map fun a => OD (of a)) = (items.map of).map OD := by simp
  have n1 : h1[h.length]? = some (.lst ((items.map of).map OD)) := by rw [e1, ← em]; exact push_new
  have k1 : Kp [] h h1 := by rw [e1]; exact Kp.refl.push
  have so := sortedO_ok n1 ok
  obtain ⟨h2, e2⟩ : ∃ h2, h2 = h1 ++ [O.lst ((sortOs (items.map of)).map OD)] := ⟨_, rfl⟩
  rw [← e2] at so
  have n2 : h2[h1.length]? = some (.lst ((sortOs (items.map of)).map OD)) := by rw [e2]; exact push_new
  have k2 : Kp [] h h2 := by rw [e2]; exact k1.push
  have zs := z.sort
  have zsl := zs.len
  have c3 := comp_pure (src := srcL h1.length) (k := 1) (n := FU) (fe := fTup (fCons (fC (.str (Str.ofString "offer"))) (fStar (fVar 1) fNil))) (ρ := [some d, none]) (h0 := h2) (items := sortOs (items.map of)) (mk := OD) (f := rowD) (FU_big (by omega)) (by omega) (fun j => by rw [srcL_at n2 Kp.refl j, List.getElem?_map]) (fun o _ => by
    simp [OD, rowD, itemsOf])
  obtain ⟨h3, e3⟩ : ∃ h3, h3 = h2 ++ [O.lst ((sortOs (items.map of)).map rowD)] := ⟨_, rfl⟩
  rw [← e3] at c3
  have n3 : h3[h2.length]? = some (.lst ((sortOs (items.map of)).map rowD)) := by rw [e3]; exact push_new
  have k3 : Kp [] h h3 := by rw [e3]; exact k2.push
  obtain ⟨h4, l1, l2⟩ := lines_of_ok n3 zs
  refine ⟨h4, ?_, k3.trans l2 fun n _ hs => ⟨hs, hs⟩⟩
  unfold F_offers_text
  refine (mk_go (ρ' := [some d, none]) rfl rfl).trans ?_
  unfold s_offers_text
  rw [es_ret, ev_call, ev_cons, ev_comp, ev_src, ev_cb, ev_cons, ev_comp, ev_src, show fVar 0 [some d, none] h = .ok d h from rfl]
  simp only [R.bind_ok, kSrc1_eq, s1, opt_some, kSrc2_eq, kCo_eq]
  have we : wipeE [some d, none] (tgV (.nm 1)) = [some d, none] := rfl
  rw [we, c1]
  simp only [we, R.bind_ok, kC1_eq, ev_nil, kC2_eq, so, kSrc1_eq, src_ref n2, opt_some, kSrc2_eq, kCo_eq, c3, kCall_eq, List.append_nil, l1]
  rfl
theorem offers_text_ok {os : List Of} {h : MH} (z : OSz os) (ok : ∀ x ∈ os, okO x) (a : Asc os) : ∃ h', F_offers_text [OsD os] h = .ok (.str (OT os)) h' ∧ Kp [] h h' := by
  have := offers_text_any (h := h) (d := OsD os) (items := os) (mk := OD) (of := id) ⟨_, src_tup, fun j h' _ => by unfold srcT; rw [List.getElem?_map]⟩ (fun o _ => rfl) (by simpa using z) (by simpa using ok)
  rw [List.map_id, sortOs_asc a] at this
  exact this
end W86
set_option Elab.async false
set_option linter.all false
set_option maxRecDepth 100000
set_option maxHeartbeats 4000000
namespace W86
open PySem Mp TL
open L2 (cutS atI)

/-! ### one text read by the program and by the law -/
theorem goG_bd : ∀ (rest : List Str) (w : Nat) (prev : List (List Str)) (last : List Str) (w' : Nat), goG rest w prev last = .error w' → w' ≤ w + rest.length
  | [], w, prev, last, w', e => by
    unfold goG at e
    split at e
    · cases e; simp
    · cases e
  | x :: r, w, prev, last, w', e => by
    unfold goG at e
    split at e
    · have := goG_bd r _ _ _ _ e
      rw [List.length_cons]; omega
    · split at e
      · have := goG_bd r _ _ _ _ e
        rw [List.length_cons]; omega
      · cases e; omega
theorem RG_bd {x : Str} (ok : okS x) (hx : x.length ≤ 1000000) {l w : Nat} (e : RG x = .error (l, w)) : l < 1000000000000 ∧ w < 1000000000000 := by
  obtain ⟨wk, wne, wl1, wl2⟩ := wds_ok ok hx
  unfold RG at e
  cases q : wds x with
  | nil => exact absurd q wne
  | cons line more =>
    rw [q] at e
    dsimp only at e
    have ll := wl2 line (by rw [q]; simp)
    cases q2 : goG line 0 [] [] with
    | error w' =>
      rw [q2] at e
      have := goG_bd line 0 [] [] w' q2
      cases e
      omega
    | ok gs =>
      rw [q2] at e
      dsimp only at e
      split at e
      · cases e
      · cases e; omega
theorem lineO_bd {line : List Str} {ab : Option Str} {w : Nat} (e : lineO line ab = .error w) : w ≤ 5 := by
  unfold lineO at e
  repeat' split at e
  all_goals first | (cases e; omega) | cases e
theorem goO_bd : ∀ (ws : List (List Str)) (l : Nat) (acc : List Of) (l' w' : Nat), goO ws l acc = .error (l', w') → l' ≤ l + ws.length ∧ w' ≤ 5
  | [], l, acc, l', w', e => by unfold goO at e; cases e
  | line :: r, l, acc, l', w', e => by
    unfold goO at e
    split at e
    · cases e; omega
    · split at e
      · rename_i w q
        have := lineO_bd q
        cases e
        omega
      · have := goO_bd r _ _ _ _ e
        rw [List.length_cons]; omega
theorem RO_bd {x : Str} (ok : okS x) (hx : x.length ≤ 1000000) {l w : Nat} (e : RO x = .error (l, w)) : l < 1000000000000 ∧ w < 1000000000000 := by
  have := goO_bd _ _ _ _ _ e
  have := wds_len ok
  omega
def ToldG (x : Str) (h : MH) (d : D) : Prop := match RG x with
  | .ok gs => ∃ n, d = .ref n ∧ h[n]? = some (.lst [GD gs])
  | .error (l, w) => d = badT l w
def ToldO (x : Str) (h : MH) (d : D) : Prop := match RO x with
  | .ok os => ∃ n, d = .ref n ∧ h[n]? = some (.lst [OsD os])
  | .error (l, w) => d = badT l w
theorem ToldG.kp {x : Str} {h h' : MH} {d : D} (t : ToldG x h d) (k : Kp [] h h') : ToldG x h' d := by
  unfold ToldG at *
  split
  · rename_i gs q
    rw [q] at t
    obtain ⟨n, e1, e2⟩ := t
    exact ⟨n, e1, k.get e2 (by simp)⟩
  · rename_i l w q
    rw [q] at t
    exact t
theorem ToldO.kp {x : Str} {h h' : MH} {d : D} (t : ToldO x h d) (k : Kp [] h h') : ToldO x h' d := by
  unfold ToldO at *
  split
  · rename_i gs q
    rw [q] at t
    obtain ⟨n, e1, e2⟩ := t
    exact ⟨n, e1, k.get e2 (by simp)⟩
  · rename_i l w q
    rw [q] at t
    exact t
theorem told_g {x : Str} {h : MH} (ok : okS x) (hx : x.length ≤ 1000000) : ∃ d h', F__law_answered [.obj 9, .str x] h = .ok d h' ∧ Kp [] h h' ∧ ToldG x h' d := by
  have r := read_grouping_ok (h := h) ok hx
  unfold ToldG
  cases q : RG x with
  | ok gs =>
    rw [q] at r
    obtain ⟨h', r1, r2⟩ := r
    exact ⟨_, _, answered_ok Tv9 r1, r2.push, h'.length, rfl, push_new⟩
  | error p =>
    obtain ⟨l, w⟩ := p
    rw [q] at r
    obtain ⟨h', r1, r2⟩ := r
    exact ⟨_, _, answered_exc Tv9 r1, r2, rfl⟩
theorem told_o {x : Str} {h : MH} (ok : okS x) (hx : x.length ≤ 1000000) : ∃ d h', F__law_answered [.obj 11, .str x] h = .ok d h' ∧ Kp [] h h' ∧ ToldO x h' d := by
  have r := read_offers_ok (h := h) ok hx
  unfold ToldO
  cases q : RO x with
  | ok gs =>
    rw [q] at r
    obtain ⟨h', r1, r2, _⟩ := r
    exact ⟨_, _, answered_ok Tv11 r1, r2.push, h'.length, rfl, push_new⟩
  | error p =>
    obtain ⟨l, w⟩ := p
    rw [q] at r
    obtain ⟨h', r1, r2⟩ := r
    exact ⟨_, _, answered_exc Tv11 r1, r2, rfl⟩
theorem due_g {x : Str} {h : MH} (ok : okS x) (hx : x.length ≤ 1000000) : ∃ d h', F__law_grouping_due [.str x] h = .ok d h' ∧ Kp [] h h' ∧ ToldG x h' d := by
  have r := grouping_due_ok (h := h) ok hx
  unfold ToldG
  cases q : RG x with
  | ok gs =>
    rw [q] at r
    obtain ⟨h', n, r1, r2, r3, r4⟩ := r
    exact ⟨_, _, r1, r4, n, rfl, r2⟩
  | error p =>
    obtain ⟨l, w⟩ := p
    rw [q] at r
    obtain ⟨h', r1, r2⟩ := r
    exact ⟨_, _, r1, r2, rfl⟩
theorem due_o {x : Str} {h : MH} (ok : okS x) (hx : x.length ≤ 1000000) : ∃ d h', F__law_offers_due [.str x] h = .ok d h' ∧ Kp [] h h' ∧ ToldO x h' d := by
  have r := offers_due_ok (h := h) ok hx
  unfold ToldO
  cases q : RO x with
  | ok gs =>
    rw [q] at r
    obtain ⟨h', n, r1, r2, r3, r4, _⟩ := r
    exact ⟨_, _, r1, r4, n, rfl, r2⟩
  | error p =>
    obtain ⟨l, w⟩ := p
    rw [q] at r
    obtain ⟨h', r1, r2⟩ := r
    exact ⟨_, _, r1, r2, rfl⟩
def rpG (x : Str) : Str := match RG x with
  | .ok gs => (PyData.list (toPs [GD gs])).shown
  | .error (l, w) => (toP (badT l w)).shown
def rpO (x : Str) : Str := match RO x with
  | .ok os => (PyData.list (toPs [OsD os])).shown
  | .error (l, w) => (toP (badT l w)).shown
theorem isName_len {x : Str} (h : isName x = true) : x.length ≤ 12 := by
  unfold isName at h
  simp only [Bool.and_eq_true, decide_eq_true_eq] at h
  exact h.2.1
theorem OsD_sm : ∀ {os : List Of}, (∀ o ∈ os, okO o ∧ (0 ≤ o.p ∧ o.p ≤ 1000000) ∧ isName o.o = true ∧ isName o.a = true ∧ isName o.b = true) → smDs (os.map OD) = true ∧ deps (os.map OD) ≤ 1 ∧ wtDs (os.map OD) ≤ os.length * 100
  | [], _ => ⟨rfl, by decide, by decide⟩
  | o :: os, h => by
    obtain ⟨i1, i2, i3⟩ := OsD_sm fun y hy => h y (List.mem_cons_of_mem _ hy)
    obtain ⟨⟨k1, k2, k3⟩, k4, k5, k6, k7⟩ := h o List.mem_cons_self
    have l5 := isName_len k5
    have l6 := isName_len k6
    have l7 := isName_len k7
    simp only [List.map_cons]
    refine ⟨?_, ?_, ?_⟩
    · unfold smDs
      rw [i1]
      simp [OD, smD, smDs, k1.str, k2.str, k3.str, show o.p.natAbs < 1000000000000 by omega]
    · unfold deps
      have : dep (OD o) = 1 := by simp [OD, dep, deps]
      omega
    · unfold wtDs
      have : wtD (OD o) = o.o.length + 1 + (o.a.length + 1 + (o.b.length + 1 + (41 + 1 + 0))) := by simp [OD, wtD, wtDs]
      rw [List.length_cons, this]
      omega
theorem RO_ok {x : Str} (ok : okS x) (hx : x.length ≤ 1000000) {os : List Of} (e : RO x = .ok os) : ∀ o ∈ os, okO o := by
  have r := read_offers_ok (h := []) ok hx
  rw [e] at r
  obtain ⟨h', r1, r2, r3⟩ := r
  exact r3
theorem repr_g {x : Str} {h : MH} {d : D} (ok : okS x) (hx : x.length ≤ 950000) (t : ToldG x h d) : gRepr [d] h = .ok (.str (rpG x)) h := by
  unfold ToldG at t
  unfold rpG
  cases q : RG x with
  | ok gs =>
    rw [q] at t
    obtain ⟨n, rfl, e⟩ := t
    obtain ⟨g1, g2, g3⟩ := RG_text q
    obtain ⟨r1, r2, r3⟩ := GD_repr (GT_ok (by rw [g1]; exact ok)) (GSz_of g1 hx)
    exact repr_ref e r1 r2 r3
  | error p =>
    obtain ⟨l, w⟩ := p
    rw [q] at t
    dsimp only at t
    obtain ⟨b1, b2⟩ := RG_bd ok (by omega) q
    obtain ⟨r1, r2, r3⟩ := badT_sm b1 b2
    rw [t]
    exact repr_pure r1 r2 r3
theorem repr_o {x : Str} {h : MH} {d : D} (ok : okS x) (hx : x.length ≤ 1000000) (t : ToldO x h d) : gRepr [d] h = .ok (.str (rpO x)) h := by
  unfold ToldO at t
  unfold rpO
  cases q : RO x with
  | ok os =>
    rw [q] at t
    obtain ⟨n, rfl, e⟩ := t
    obtain ⟨g1, g2, g3, g4⟩ := RO_text q
    have ro := RO_ok ok hx q
    obtain ⟨i1, i2, i3⟩ := OsD_sm (os := os) fun o ho => ⟨ro o ho, g4 o ho⟩
    refine repr_ref e ?_ ?_ ?_
    · unfold OsD smDs smD; rw [i1]; rfl
    · unfold OsD deps dep
      have : deps [] = 0 := rfl
      omega
    · unfold OsD wtDs wtD
      have : wtDs [] = 0 := rfl
      omega
  | error p =>
    obtain ⟨l, w⟩ := p
    rw [q] at t
    dsimp only at t
    obtain ⟨b1, b2⟩ := RO_bd ok hx q
    obtain ⟨r1, r2, r3⟩ := badT_sm b1 b2
    rw [t]
    exact repr_pure r1 r2 r3
theorem isl_ref {h : MH} {n : Nat} {l : List D} (e : h[n]? = some (.lst l)) : gIsi [.ref n, .ty "list"] h = .ok (.bl true) h := by
  unfold gIsi tyOf
  dsimp only
  rw [e]
  simp
theorem isl_tup {h : MH} {l : List D} : gIsi [.tup l, .ty "list"] h = .ok (.bl false) h := by
  unfold gIsi tyOf
  simp
/-! the turn's own words -/
abbrev rhoR (p g r : D) (t3 : Option D) (tx : Str) (t5 : Option D) (ls : Str) (t7 t8 t9 t10 y11 y12 : Option D) : Mp.Env := [some p, some g, some r, t3, some (.str tx), t5, some (.str ls), t7, t8, t9, t10, y11, y12]
def backG : EF Bool := (fAnd (fTru (fCB gIsi (fCons (fVar 11) (fCons (fC (.ty "list")) fNil)))) (fB (fOp gNe (fCall F_grouping_text [] (fCons (fOp gIx (fVar 11) (fC (.int 0))) fNil)) (fVar 9))))
def backO : EF Bool := (fAnd (fTru (fCB gIsi (fCons (fVar 12) (fCons (fC (.ty "list")) fNil)))) (fB (fOp gNe (fCall F_offers_text [] (fCons (fOp gIx (fVar 12) (fC (.int 0))) fNil)) (fVar 10))))
section
variable {p g r : D} {t3 : Option D} {tx : Str} {t5 : Option D} {ls : Str} {t7 t8 t9 t10 y11 y12 : Option D} {x y : Str} {h : MH} {d e : D}
theorem backG_ok (ok : okS x) (hx : x.length ≤ 950000) (t : ToldG x h d) : ∃ h', backG (rhoR p g r t3 tx t5 ls t7 t8 (some (.str x)) t10 (some d) y12) h = .ok false h' ∧ Kp [] h h' := by
  unfold ToldG at t
  cases q : RG x with
  | ok gs =>
    rw [q] at t
    obtain ⟨n, rfl, e⟩ := t
    obtain ⟨g1, g2, g3⟩ := RG_text q
    obtain ⟨h', w1, w2⟩ := grouping_text_ok (gs := gs) (h := h) (GSz_of g1 hx)
    exact ⟨h', by simp [backG, isl_ref e, lstAt e, w1, g1], w2⟩
  | error pp =>
    obtain ⟨l, w⟩ := pp
    rw [q] at t
    dsimp only at t
    exact ⟨h, by simp [backG, t, badT, isl_tup], Kp.refl⟩
theorem backO_ok (ok : okS x) (hx : x.length ≤ 1000000) (t : ToldO x h d) : ∃ h', backO (rhoR p g r t3 tx t5 ls t7 t8 t9 (some (.str x)) y11 (some d)) h = .ok false h' ∧ Kp [] h h' := by
  unfold ToldO at t
  cases q : RO x with
  | ok os =>
    rw [q] at t
    obtain ⟨n, rfl, e⟩ := t
    obtain ⟨g1, g2, g3, g4⟩ := RO_text q
    have ro := RO_ok ok hx q
    obtain ⟨h', w1, w2⟩ := offers_text_ok (os := os) (h := h) ⟨by omega, fun o ho => by
      obtain ⟨_, k1, k2, k3⟩ := g4 o ho
      have := isName_len k1
      have := isName_len k2
      have := isName_len k3
      omega, fun o ho => (g4 o ho).1⟩ ro g2
    exact ⟨h', by simp [backO, isl_ref e, lstAt e, w1, g1], w2⟩
  | error pp =>
    obtain ⟨l, w⟩ := pp
    rw [q] at t
    dsimp only at t
    exact ⟨h, by simp [backO, t, badT, isl_tup], Kp.refl⟩
def tellR : SF := (sPar2 11 12 (fCons (fCall F__law_answered [] (fCons (fC (.obj 9)) (fCons (fVar 9) fNil))) (fCons (fCall F__law_answered [] (fCons (fC (.obj 11)) (fCons (fVar 10) fNil))) fNil)))
def reprR : EF Bool := (fOr (fB (fOp gNe (fCB gRepr (fCons (fVar 11) fNil)) (fCB gRepr (fCons (fCall F__law_grouping_due [] (fCons (fVar 9) fNil)) fNil)))) (fB (fOp gNe (fCB gRepr (fCons (fVar 12) fNil)) (fCB gRepr (fCons (fCall F__law_offers_due [] (fCons (fVar 10) fNil)) fNil)))))
def falR : SF := (sRet (fC (.bl false)))
def readR : SF := (sSeq tellR (sSeq (sIf reprR falR sNil) (sIf (fOr backG backO) falR sNil)))
theorem readR_ok (ok : okS x) (hx : x.length ≤ 950000) (ok2 : okS y) (hy : y.length ≤ 950000) : ∃ d e h', readR (rhoR p g r t3 tx t5 ls t7 t8 (some (.str x)) (some (.str y)) y11 y12) h = .ok .nx (rhoR p g r t3 tx t5 ls t7 t8 (some (.str x)) (some (.str y)) (some d) (some e)) h' ∧ Kp [] h h' := by
  obtain ⟨d, h1, a1, a2, a3⟩ := told_g (h := h) ok (by omega)
  obtain ⟨e, h2, b1, b2, b3⟩ := told_o (h := h1) ok2 (by omega)
  obtain ⟨ρ2, eρ⟩ : ∃ ρ2, ρ2 = rhoR p g r t3 tx t5 ls t7 t8 (some (.str x)) (some (.str y)) (some d) (some e) := ⟨_, rfl⟩
  have tl : tellR (rhoR p g r t3 tx t5 ls t7 t8 (some (.str x)) (some (.str y)) y11 y12) h = .ok .nx ρ2 h2 := by
    rw [eρ]
    simp [tellR, a1, b1, ofR]
  have a3' := a3.kp b2
  have r1 := repr_g ok hx a3'
  obtain ⟨d', h3, c1, c2, c3⟩ := due_g (h := h2) ok (by omega)
  have r2 := repr_g ok hx c3
  have b3' := b3.kp c2
  have r3 := repr_o ok2 (by omega) b3'
  obtain ⟨e', h4, f1, f2, f3⟩ := due_o (h := h3) ok2 (by omega)
  have r4 := repr_o ok2 (by omega) f3
  have rp : reprR ρ2 h2 = .ok false h4 := by
    rw [eρ]
    simp [reprR, r1, c1, r2, r3, f1, r4]
  obtain ⟨h5, g1, g2⟩ := backG_ok (p := p) (g := g) (r := r) (t3 := t3) (tx := tx) (t5 := t5) (ls := ls) (t7 := t7) (t8 := t8) (t10 := some (.str y)) (y12 := some e) ok hx ((a3'.kp c2).kp f2)
  obtain ⟨h6, k1, k2⟩ := backO_ok (p := p) (g := g) (r := r) (t3 := t3) (tx := tx) (t5 := t5) (ls := ls) (t7 := t7) (t8 := t8) (t9 := some (.str x)) (y11 := some d) ok2 (by omega) ((b3'.kp f2).kp g2)
  have bk : (fOr backG backO) ρ2 h4 = .ok false h6 := by
    rw [ev_or, eρ, g1]
    simp only [R.bind_ok, kOr_f]
    exact k1
  refine ⟨d, e, h6, ?_, ?_⟩
  · unfold readR
    rw [es_seq, tl, thn_nx, es_seq, on_f rp, sIf_f bk, es_nil, eρ]
  · have t : ∀ {u v w : MH}, Kp [] u v → Kp [] v w → Kp [] u w := fun m n => m.trans n fun _ _ hs => ⟨hs, hs⟩
    exact t a2 (t b2 (t c2 (t f2 (t g2 k2))))
end
end W86
set_option Elab.async false
set_option linter.all false
set_option maxRecDepth 100000
set_option maxHeartbeats 4000000
namespace W86
open PySem Mp TL
open L2 (cutS atI)

/-! ### tables of words -/
def sumW (w : List Str) : Nat := (w.map fun x => x.length + 1).sum
theorem sumW_app (a b : List Str) : sumW (a ++ b) = sumW a + sumW b := by simp [sumW]
theorem sumW_mem {w : List Str} {x : Str} (h : x ∈ w) : x.length + 1 ≤ sumW w := le_sum_of_mem (List.mem_map.mpr ⟨x, h, rfl⟩)
theorem sumW_len : ∀ w : List Str, w.length ≤ sumW w
  | [] => Nat.zero_le _
  | x :: w => by
    have := sumW_len w
    simp only [sumW, List.map_cons, List.sum_cons, List.length_cons] at this ⊢
    omega
theorem sumW_eq (w : List Str) : sumW w = (w.map (·.length)).sum + w.length := by
  induction w with
  | nil => rfl
  | cons x w ih =>
    simp only [sumW, List.map_cons, List.sum_cons, List.length_cons] at ih ⊢
    omega
structure RowOk (h : MH) (b r s m : Nat) : Prop where
  nw : b ≤ r
  ex : ∃ w : List Str, h[r]? = some (.lst (w.map D.str)) ∧ (∀ x ∈ w, okS x) ∧ sumW w ≤ s ∧ m ≤ w.length
structure Tab (h : MH) (b L a s m : Nat) : Prop where
  nw : b ≤ L
  ex : ∃ rs : List Nat, h[L]? = some (.lst (rs.map D.ref)) ∧ rs.length ≤ a ∧ m ≤ rs.length ∧ ∀ r ∈ rs, RowOk h b r s m
theorem RowOk.kp {h h' : MH} {b r s m p : Nat} (a : RowOk h b r s m) (k : Kp [p] h h') (hp : p < b) : RowOk h' b r s m := by
  obtain ⟨w, e, f⟩ := a.ex
  have := a.nw
  exact ⟨a.nw, w, k.get e (by simp; omega), f⟩
theorem RowOk.up {h : MH} {b r s m s' m' : Nat} (a : RowOk h b r s m) (hs : s ≤ s') (hm : m' ≤ m) : RowOk h b r s' m' := by
  obtain ⟨w, e, f1, f2, f3⟩ := a.ex
  exact ⟨a.nw, w, e, f1, by omega, by omega⟩
theorem Tab.kp {h h' : MH} {b L a s m p : Nat} (t : Tab h b L a s m) (k : Kp [p] h h') (hp : p < b) : Tab h' b L a s m := by
  obtain ⟨rs, e, f1, f2, f3⟩ := t.ex
  have := t.nw
  exact ⟨t.nw, rs, k.get e (by simp; omega), f1, f2, fun r hr => (f3 r hr).kp k hp⟩
theorem _root_.Mp.Kp.any {S : List Nat} {h h' : MH} (k : Kp [] h h') : Kp S h h' := k.more fun n _ _ => by simp
theorem refs_of {P : Nat → Prop} : ∀ {ys : List D}, (∀ y ∈ ys, ∃ r, y = D.ref r ∧ P r) → ∃ rs : List Nat, ys = rs.map D.ref ∧ ∀ r ∈ rs, P r
  | [], _ => ⟨[], rfl, by simp⟩
  | y :: ys, q => by
    obtain ⟨r, e, hr⟩ := q y List.mem_cons_self
    obtain ⟨rs, e2, h2⟩ := refs_of (P := P) fun z hz => q z (List.mem_cons_of_mem _ hz)
    refine ⟨r :: rs, by rw [e, e2]; rfl, fun s hs => ?_⟩
    rcases List.mem_cons.mp hs with hs | hs
    · rw [hs]; exact hr
    · exact h2 s hs
theorem split_sum {y : Str} {s : Nat} (hs : s < 256) : sumW (Txt.split y (sg s)) = y.length + 1 := by
  obtain ⟨h1, h2, h3⟩ := cut_is y hs
  have := join_sizes (s := sg s) (xs := Txt.split y (sg s))
  rw [h3] at this
  have e : (sg s).length = 1 := rfl
  rw [e] at this
  rw [sumW_eq]
  have : 0 < (Txt.split y (sg s)).length := List.length_pos_iff.mpr h1
  omega
/-- the lines of a text: new rows of words -/
theorem lines_new {x : Str} {h0 : MH} {n0 k : Nat} {ρ : Mp.Env} (ok : okS x) (hx : x.length ≤ 1000000) (hk : k < ρ.length) (e : h0[n0]? = some (.lst ((Txt.split x nl).map D.str))) :
    ∃ h' L, compL (srcL n0) (.nm k) fYes (fM1 gSplit (fVar k) (fC (.str (Str.ofString " ")))) ρ FU 0 [] h0 = .ok (.ref L) h' ∧ Tab h' h0.length L (x.length + 1) (x.length + 1) 1 ∧ Kp [] h0 h' := by
  obtain ⟨c1, c2⟩ := cut_facts x (s := 10) (by decide) ok
  have c2' : (Txt.split x nl).length ≤ x.length + 1 := c2
  obtain ⟨ys, h', e1, e2, e3, e4⟩ := comp_rel (src := srcL n0) (k := k) (n := FU) (fe := fM1 gSplit (fVar k) (fC (.str (Str.ofString " ")))) (ρ := ρ) (h0 := h0) (items := (Txt.split x nl).map D.str)
    (Rl := fun hh d y => ∃ s r, d = D.str s ∧ y = D.ref r ∧ hh[r]? = some (.lst ((Txt.split s bl).map D.str)) ∧ h0.length ≤ r)
    (FU_big (by rw [List.length_map]; omega)) (by rw [List.length_map]; omega)
    (fun h' j a => srcL_at e a j) (fun a b d y kk ⟨s, r, q1, q2, q3, q4⟩ => ⟨s, r, q1, q2, kk.get q3 (by simp), q4⟩) (fun d hd hh a => by
      obtain ⟨s, hs, rfl⟩ := List.mem_map.mp hd
      have hl := (c1 s hs).2
      refine ⟨.ref hh.length, hh ++ [.lst ((Txt.split s bl).map D.str)], ?_, Kp.refl.push, s, hh.length, rfl, rfl, push_new, a.le⟩
      rw [bl_eq]
      simp only [ev_m1, fVar_set hk, R.bind_ok, kM1_eq, ev_c]
      exact split_str (by omega))
  obtain ⟨rs, er, hr⟩ := refs_of (P := fun r => RowOk h' h0.length r (x.length + 1) 1) (ys := ys) (fun z hz => by
    obtain ⟨j, hj⟩ := List.getElem?_of_mem hz
    have hlt : j < ((Txt.split x nl).map D.str).length := by rw [← e3]; exact (List.getElem?_eq_some_iff.mp hj).1
    obtain ⟨y, q1, s, r, q2, q3, q4, q5⟩ := e4 j _ (List.getElem?_eq_getElem hlt)
    rw [hj] at q1
    cases q1
    have hs : s ∈ Txt.split x nl := by
      have := List.getElem_mem hlt
      rw [q2] at this
      obtain ⟨s', hs', e⟩ := List.mem_map.mp this
      cases e
      exact hs'
    obtain ⟨k1, k2⟩ := c1 s hs
    refine ⟨r, q3, q5, Txt.split s bl, q4, fun w hw => ((cut_facts s (s := 32) (by decide) k1).1 w hw).1, ?_, ?_⟩
    · have : sumW (Txt.split s bl) = s.length + 1 := split_sum (s := 32) (by decide)
      omega
    · have : Txt.split s bl ≠ [] := (cut_is s (s := 32) (by decide)).1
      exact List.length_pos_iff.mpr this)
  subst er
  refine ⟨h' ++ [.lst (rs.map D.ref)], h'.length, e1, ⟨e2.le, rs, push_new, ?_, ?_, fun r hr' => (hr r hr').kp (p := h0.length - 1) (Kp.refl.push) ?_⟩, e2.push⟩
  · rw [List.length_map, List.length_map] at e3
    omega
  · rw [List.length_map, List.length_map] at e3
    have : Txt.split x nl ≠ [] := (cut_is x (s := 10) (by decide)).1
    have := List.length_pos_iff.mpr this
    omega
  · have := ltOf e
    omega
theorem Pen.ne {h : MH} {p c n : Nat} {d : D} {l : List D} (P : Pen h p c) (e : h[n]? = some (.lst (d :: l))) (hd : ∀ i, d ≠ .int i) (np : n ≠ p) {o : O} : Pen (h.set n o) p c := by
  obtain ⟨s, ns, k, r, h1, h2, h3⟩ := P.ex
  have ns' : n ≠ s := fun z => by
    rw [z, h2] at e
    cases ns with
    | nil => simp at e
    | cons i is =>
      simp at e
      exact hd i e.1.symm
  exact ⟨s, ns, k, r, set_old h1 np, set_old h2 ns', h3⟩
theorem okS_join {s : Str} {xs : List Str} (hs : okS s) (h : ∀ x ∈ xs, okS x) : okS (Str.join s xs) := by
  have go : ∀ (S : List Nat) (ps : List (List Nat)) (c : Nat), c ∈ joinL S ps → c ∈ S ∨ ∃ p ∈ ps, c ∈ p := by
    intro S ps
    induction ps with
    | nil => intro c hc; cases hc
    | cons p ps ih =>
      intro c hc
      cases ps with
      | nil => exact .inr ⟨p, by simp, hc⟩
      | cons q r =>
        rw [joinL_cons (by simp)] at hc
        rcases List.mem_append.mp hc with hc | hc
        · exact .inr ⟨p, by simp, hc⟩
        · rcases List.mem_append.mp hc with hc | hc
          · exact .inl hc
          · rcases ih c hc with z | ⟨u, hu, z⟩
            · exact .inl z
            · exact .inr ⟨u, List.mem_cons_of_mem _ hu, z⟩
  intro c hc
  have hc' : c ∈ tl (Str.join s xs) := hc
  rw [tl_join] at hc'
  rcases go _ _ c hc' with z | ⟨p, hp, z⟩
  · exact hs c z
  · obtain ⟨x, hx, rfl⟩ := List.mem_map.mp hp
    exact h x hx c z
theorem okS_bl : okS bl := by intro c hc; have : c ∈ tl bl := hc; rw [tl_bl] at this; simp at this; omega
theorem okS_nl : okS nl := by intro c hc; have : c ∈ tl nl := hc; rw [tl_nl] at this; simp at this; omega
def wordsAt (h : MH) (r : Nat) : List Str := match h[r]? with
  | some (.lst l) => (strsOf l).getD []
  | _ => []
theorem wordsAt_eq {h : MH} {r : Nat} {w : List Str} (e : h[r]? = some (.lst (w.map D.str))) : wordsAt h r = w := by
  unfold wordsAt
  rw [e]
  simp
theorem gT_sum (w : List Str) : (gT w).length ≤ sumW w := by
  have := StrLaws.join_length_le bl w
  have e : bl.length = 1 := rfl
  rw [e] at this
  rw [sumW_eq]
  unfold gT
  omega
/-- "\n".join([" ".join(row) for row in lines]) -/
theorem tab_text {h : MH} {b L a s : Nat} {ρ : Mp.Env} {k v : Nat} (t : Tab h b L a s 0) (hk : k < ρ.length) (hw : wipeE ρ [k] = ρ) (ev : fVar v ρ h = .ok (.ref L) h) (sz : a * (s + 1) ≤ 1000000) (sz2 : s ≤ 1000000) (sz3 : a ≤ 1000000) :
    ∃ y h', (fM1 gJoin (fC (.str (Str.ofString "\n"))) (fComp (fSrc (fVar v)) (.nm k) fYes (fM1 gJoin (fC (.str (Str.ofString " "))) (fVar k)) FU)) ρ h = .ok (.str y) h' ∧ Kp [] h h' ∧ okS y ∧ y.length ≤ a * (s + 1) := by
  obtain ⟨rs, e, f1, f2, f3⟩ := t.ex
  have c := comp_pure (src := srcL L) (k := k) (n := FU) (fe := fM1 gJoin (fC (.str (Str.ofString " "))) (fVar k)) (ρ := ρ) (h0 := h) (items := rs) (mk := D.ref) (f := fun r => .str (gT (wordsAt h r))) (FU_big (by omega)) (by omega) (fun j => by rw [srcL_at e Kp.refl j, List.getElem?_map]) (fun r hr => by
    obtain ⟨w, g1, g2, g3, g4⟩ := (f3 r hr).ex
    rw [wordsAt_eq g1]
    rw [ev_m1, ev_c, bl_eq]
    simp only [R.bind_ok, kM1_eq, fVar_set hk]
    exact join_ok (s := bl) (by show listOf _ _ = _; rw [lstAt g1]) (by rw [sumW_eq] at g3; show _ + _ * 1 ≤ _; omega))
  have all : ∀ y ∈ rs.map (fun r => gT (wordsAt h r)), okS y ∧ y.length ≤ s := fun y hy => by
    obtain ⟨r, hr, rfl⟩ := List.mem_map.mp hy
    obtain ⟨w, g1, g2, g3, g4⟩ := (f3 r hr).ex
    rw [wordsAt_eq g1]
    exact ⟨okS_join okS_bl g2, Nat.le_trans (gT_sum w) g3⟩
  have sm : ((rs.map fun r => gT (wordsAt h r)).map (·.length)).sum + (rs.map fun r => gT (wordsAt h r)).length * 1 ≤ a * (s + 1) := by
    have := sum_le_mul (l := (rs.map fun r => gT (wordsAt h r)).map (·.length)) (m := s) (fun n hn => by
      obtain ⟨y, hy, rfl⟩ := List.mem_map.mp hn
      exact (all y hy).2)
    simp only [List.length_map] at this ⊢
    have h1 : rs.length * (s + 1) ≤ a * (s + 1) := Nat.mul_le_mul_right _ f1
    rw [Nat.mul_add, Nat.mul_one] at h1
    omega
  refine ⟨Str.join nl (rs.map fun r => gT (wordsAt h r)), h ++ [.lst (rs.map fun r => .str (gT (wordsAt h r)))], ?_, Kp.refl.push, okS_join okS_nl fun y hy => (all y hy).1, ?_⟩
  · rw [ev_m1, ev_c, nl_eq]
    simp only [R.bind_ok, kM1_eq]
    rw [ev_comp, ev_src, ev]
    simp only [R.bind_ok, kSrc1_eq, src_ref e, opt_some, kSrc2_eq, kCo_eq]
    rw [show wipeE ρ (tgV (.nm k)) = ρ from hw, c]
    simp only [R.bind_ok]
    have em : (rs.map fun r => D.str (gT (wordsAt h r))) = (rs.map fun r => gT (wordsAt h r)).map D.str := by simp
    refine join_ok (s := nl) ?_ ?_
    · show listOf _ _ = _
      rw [lstAt push_new, em]
    · show _ + _ * 1 ≤ _
      omega
  · have := StrLaws.join_length_le nl (rs.map fun r => gT (wordsAt h r))
    have e1 : nl.length = 1 := rfl
    rw [e1] at this
    omega
/-! expressions that give lists -/
/-- wherever hh's objects stand, f gives a list of these -/
def LEx (hh : MH) (ρ : Mp.Env) (f : EF D) (V : List D) (b : Nat) : Prop := ∀ h, Kp [] hh h → ∃ r h', f ρ h = .ok (.ref r) h' ∧ Kp [] h h' ∧ h'[r]? = some (.lst V) ∧ b ≤ r
section
variable {hh : MH} {ρ : Mp.Env} {f g : EF D} {V W : List D} {b b' : Nat}
theorem LEx.var {i l : Nat} (e : ∀ h, fVar i ρ h = .ok (.ref l) h) (el : hh[l]? = some (.lst V)) (hb : b ≤ l) : LEx hh ρ (fVar i) V b := fun h k => ⟨l, h, e h, Kp.refl, k.get el (by simp), hb⟩
theorem LEx.one {d : D} (e : ∀ h, f ρ h = .ok d h) (hb : b ≤ hh.length) : LEx hh ρ (fLst (fCons f fNil)) [d] b := fun h k => ⟨h.length, h ++ [.lst [d]], by simp [e], Kp.refl.push, push_new, Nat.le_trans hb k.le⟩
theorem LEx.slice {i l : Nat} {fl fh : EFo} {lo hi : Option Int} (e : ∀ h, fVar i ρ h = .ok (.ref l) h) (el : hh[l]? = some (.lst V)) (e1 : ∀ h, fl ρ h = .ok lo h) (e2 : ∀ h, fh ρ h = .ok hi h) (hb : b ≤ hh.length) : LEx hh ρ (fSl (fVar i) fl fh) (cutD V lo hi) b := fun h k => by
  refine ⟨h.length, h ++ [.lst (cutD V lo hi)], ?_, Kp.refl.push, push_new, Nat.le_trans hb k.le⟩
  rw [ev_sl, e]
  simp only [R.bind_ok, kSl1_eq, e1, kSl2_eq, e2]
  unfold gSl
  dsimp only
  rw [lstAt (k.get el (by simp))]
theorem LEx.add (a : LEx hh ρ f V b) (c : LEx hh ρ g W b') (sz : V.length + W.length ≤ 16777216) {b'' : Nat} (hb : b'' ≤ hh.length) : LEx hh ρ (fOp gAdd f g) (V ++ W) b'' := fun h k => by
  obtain ⟨r1, h1, a1, a2, a3, a4⟩ := a h k
  obtain ⟨r2, h2, c1, c2, c3, c4⟩ := c h1 (k.trans a2 fun _ _ hs => ⟨hs, hs⟩)
  have a3' := c2.get a3 (by simp)
  have k2 : Kp [] h h2 := a2.trans c2 fun _ _ hs => ⟨hs, hs⟩
  refine ⟨h2.length, h2 ++ [.lst (V ++ W)], ?_, k2.push, push_new, Nat.le_trans hb (Nat.le_trans k.le k2.le)⟩
  rw [ev_op, a1]
  simp only [R.bind_ok, kOp_eq, c1]
  unfold gAdd
  dsimp only
  rw [mutAt a3', mutAt c3]
  dsimp only
  rw [if_pos sz]
theorem LEx.ite {ft : EF Bool} {c : Bool} (e : ∀ h, Kp [] hh h → ft ρ h = .ok c h) (a : LEx hh ρ f V b) (a' : LEx hh ρ g W b) : LEx hh ρ (fIf ft f g) (if c = true then V else W) b := fun h k => by
  rw [ev_if, e h k]
  simp only [R.bind_ok]
  cases c with
  | true => rw [kIf_t, if_pos rfl]; exact a h k
  | false => rw [kIf_f, if_neg (by simp)]; exact a' h k
end
theorem cut_sub {α : Type} {f : α → D} (l : List α) (lo hi : Option Int) : ∃ v : List α, cutD (l.map f) lo hi = v.map f ∧ (∀ x ∈ v, x ∈ l) ∧ v.Sublist l := by
  unfold cutD
  refine ⟨(l.drop (HT.sIx (l.map f).length 0 lo)).take (HT.sIx (l.map f).length (l.map f).length hi - HT.sIx (l.map f).length 0 lo), by rw [List.map_take, List.map_drop], fun x hx => List.mem_of_mem_drop (List.mem_of_mem_take hx), ?_⟩
  exact (List.take_sublist _ _).trans (List.drop_sublist _ _)
theorem sumW_sub {v w : List Str} (h : v.Sublist w) : sumW v ≤ sumW w := by
  unfold sumW
  induction h with
  | slnil => exact Nat.le_refl _
  | cons a _ ih => rw [List.map_cons, List.sum_cons]; omega
  | cons_cons a _ ih => rw [List.map_cons, List.map_cons, List.sum_cons, List.sum_cons]; omega
end W86
set_option Elab.async false
set_option linter.all false
set_option maxRecDepth 100000
set_option maxHeartbeats 4000000
namespace W86
open PySem Mp TL
open L2 (cutS atI ixN)

/-! ### a bent text -/
abbrev rhoB (p w L l : Nat) (x : Str) (way at_ spot : Nat) (word : Str) (oth : Option D) : Mp.Env := [some (.ref p), some (.str x), some (.ref w), some (.ref L), some (.ref l), some (.int way), some (.int at_), some (.int spot), some (.str word), oth, none]
/-- what stands ahead of the bending -/
structure BI (h0 h : MH) (p w L l at_ spot : Nat) (rs : List Nat) (wl : List Str) (s c : Nat) : Prop where
  pen : Pen h p c
  pb : p < h0.length
  kp : Kp [p] h0 h
  nw : h0.length ≤ L
  at0 : h[L]? = some (.lst (rs.map D.ref))
  la : rs.length ≤ s
  row : ∀ r ∈ rs, RowOk h h0.length r s 1
  ha : at_ < rs.length
  hl : rs[at_]? = some l
  lat : h[l]? = some (.lst (wl.map D.str))
  lok : ∀ x ∈ wl, okS x
  lsum : sumW wl ≤ s
  hs : spot < wl.length
/-- what stands behind it -/
structure BO (h0 h : MH) (p L a S c : Nat) : Prop where
  pen : Pen h p c
  kp : Kp [p] h0 h
  tab : Tab h h0.length L a S 0
section
variable {h0 h : MH} {p w L l at_ spot way : Nat} {rs : List Nat} {wl : List Str} {s c : Nat} {x word : Str} {oth : Option D}
theorem BI.more {h' : MH} (a : BI h0 h p w L l at_ spot rs wl s c) (k : Kp [] h h') : BI h0 h' p w L l at_ spot rs wl s c :=
  ⟨a.pen.kp k, a.pb, a.kp.trans k fun _ _ hs => ⟨hs, by simp⟩, a.nw, k.get a.at0 (by simp), a.la, fun r hr => (a.row r hr).kp (p := p) k.any a.pb, a.ha, a.hl, k.get a.lat (by simp), a.lok, a.lsum, a.hs⟩
theorem BI.rsne (a : BI h0 h p w L l at_ spot rs wl s c) : ∃ r0 rs0, rs = r0 :: rs0 := by
  cases rs with
  | nil => have := a.ha; simp at this
  | cons r0 rs0 => exact ⟨r0, rs0, rfl⟩
theorem BI.wlne (a : BI h0 h p w L l at_ spot rs wl s c) : ∃ w0 ws0, wl = w0 :: ws0 := by
  cases wl with
  | nil => have := a.hs; simp at this
  | cons r0 rs0 => exact ⟨r0, rs0, rfl⟩
theorem BI.lnew (a : BI h0 h p w L l at_ spot rs wl s c) : h0.length ≤ l := (a.row l (List.mem_of_getElem? a.hl)).nw
theorem BI.drawn {h' : MH} {c' : Nat} (a : BI h0 h p w L l at_ spot rs wl s c) (P : Pen h' p c') (k : Kp [p] h h') : BI h0 h' p w L l at_ spot rs wl s c' := by
  have := a.nw
  have := a.pb
  have := a.lnew
  exact ⟨P, a.pb, a.kp.trans k fun _ _ hs => ⟨hs, hs⟩, a.nw, k.get a.at0 (by simp; omega), a.la, fun r hr => (a.row r hr).kp k a.pb, a.ha, a.hl, k.get a.lat (by simp; omega), a.lok, a.lsum, a.hs⟩
theorem BI.base (a : BI h0 h p w L l at_ spot rs wl s c) : h0.length ≤ h.length := a.kp.le
/-- L's places set -/
theorem BI.setL (a : BI h0 h p w L l at_ spot rs wl s c) {rs' : List Nat} {S : Nat} (h1 : rs'.length ≤ rs.length) (hS : s ≤ S) (h2 : ∀ r ∈ rs', RowOk h h0.length r S 0 ∨ r ∈ rs) : BO h0 (h.set L (.lst (rs'.map D.ref))) p L (s + 1) S c := by
  obtain ⟨r0, rs0, e0⟩ := a.rsne
  have e := a.at0
  have nw := a.nw
  have pb := a.pb
  have la := a.la
  have np : L ≠ p := by omega
  refine ⟨a.pen.ne (d := .ref r0) (l := rs0.map D.ref) (by rw [e, e0]; rfl) (by simp) np, a.kp.set (.inr a.nw), a.nw, rs', set_new e, by omega, Nat.zero_le _, fun r hr => ?_⟩
  have rk : RowOk h h0.length r S 0 := by
    rcases h2 r hr with z | z
    · exact z
    · exact (a.row r z).up hS (by omega)
  obtain ⟨v, g1, g2⟩ := rk.ex
  by_cases z : r = L
  · subst z
    rw [e, e0] at g1
    simp at g1
    cases v with
    | nil => simp at g1
    | cons v vs => simp at g1
  · exact ⟨rk.nw, v, set_old g1 (Ne.symm z), g2⟩
theorem ixN_lt {k j : Nat} (hj : j < k) : ixN k (j : Int) = some j := ixN_nat hj
/-- lines[at] = .. -/
theorem setrow_ok (a : BI h0 h p w L l at_ spot rs wl s c) {f : EF D} {v : List Str} {S : Nat} (hS : s ≤ S) (e : LEx h (rhoB p w L l x way at_ spot word oth) f (v.map D.str) h0.length) (ok : ∀ y ∈ v, okS y) (sz : sumW v ≤ S) :
    ∃ h', sAsg f (gSb gSet (fVar 3) (fVar 6)) (rhoB p w L l x way at_ spot word oth) h = .ok .nx (rhoB p w L l x way at_ spot word oth) h' ∧ BO h0 h' p L (s + 1) S c := by
  obtain ⟨r, h1, e1, e2, e3, e4⟩ := e h Kp.refl
  have a1 := a.more e2
  refine ⟨h1.set L (.lst ((rs.set at_ r).map D.ref)), ?_, a1.setL (by simp) hS fun q hq => ?_⟩
  · have ix : ixN rs.length (at_ : Int) = some at_ := ixN_nat a.ha
    rw [es_asg, e1]
    simp [ofR, mutAt a1.at0, ix, SR.tk]
  · rcases List.mem_or_eq_of_mem_set hq with z | z
    · exact .inr z
    · rw [z]; exact .inl ⟨e4, v, e3, ok, sz, Nat.zero_le _⟩
/-- lines = .. -/
theorem newtab_ok (a : BI h0 h p w L l at_ spot rs wl s c) {f : EF D} {rs' : List Nat} {S : Nat} (hS : s ≤ S) (e : LEx h (rhoB p w L l x way at_ spot word oth) f (rs'.map D.ref) h0.length) (len : rs'.length ≤ s + 1) (ok : ∀ r ∈ rs', r ∈ rs ∨ RowOk h h0.length r S 0) :
    ∃ h' L', sAsg f (gN 3) (rhoB p w L l x way at_ spot word oth) h = .ok .nx (rhoB p w L' l x way at_ spot word oth) h' ∧ BO h0 h' p L' (s + 1) S c := by
  obtain ⟨r, h1, e1, e2, e3, e4⟩ := e h Kp.refl
  have a1 := a.more e2
  refine ⟨h1, r, ?_, a1.pen, a1.kp, e4, rs', e3, len, Nat.zero_le _, fun q hq => ?_⟩
  · rw [es_asg, e1]
    rfl
  · rcases ok q hq with z | z
    · exact (a1.row q z).up hS (by omega)
    · exact z.kp (p := p) e2.any a.pb
theorem p7 : ∀ hh, (fPart (fVar 7)) (rhoB p w L l x way at_ spot word oth) hh = .ok (some (spot : Int)) hh := fun _ => rfl
theorem p71 : ∀ hh, (fPart (fOp gAdd (fVar 7) (fC (.int 1)))) (rhoB p w L l x way at_ spot word oth) hh = .ok (some ((spot : Int) + 1)) hh := fun _ => rfl
theorem p6 : ∀ hh, (fPart (fVar 6)) (rhoB p w L l x way at_ spot word oth) hh = .ok (some (at_ : Int)) hh := fun _ => rfl
theorem p61 : ∀ hh, (fPart (fOp gAdd (fVar 6) (fC (.int 1)))) (rhoB p w L l x way at_ spot word oth) hh = .ok (some ((at_ : Int) + 1)) hh := fun _ => rfl
theorem pN : ∀ hh, fNoP (rhoB p w L l x way at_ spot word oth) hh = .ok none hh := fun _ => rfl
theorem v4 : ∀ hh, fVar 4 (rhoB p w L l x way at_ spot word oth) hh = .ok (.ref l) hh := fun _ => rfl
theorem v3 : ∀ hh, fVar 3 (rhoB p w L l x way at_ spot word oth) hh = .ok (.ref L) hh := fun _ => rfl
theorem v8 : ∀ hh, fVar 8 (rhoB p w L l x way at_ spot word oth) hh = .ok (.str word) hh := fun _ => rfl
/-- way < 3 -/
theorem w0_ok (a : BI h0 h p w L l at_ spot rs wl s c) (ow : okS word) (hw : word.length ≤ s + 20) (hs : s ≤ 100000) : ∃ h', sAsg (fOp gAdd (fOp gAdd (fSl (fVar 4) fNoP (fPart (fVar 7))) (fLst (fCons (fVar 8) fNil))) (fSl (fVar 4) (fPart (fOp gAdd (fVar 7) (fC (.int 1)))) fNoP)) (gSb gSet (fVar 3) (fVar 6)) (rhoB p w L l x way at_ spot word oth) h = .ok .nx (rhoB p w L l x way at_ spot word oth) h' ∧ BO h0 h' p L (s + 1) (3 * s + 40) c := by
  obtain ⟨v1, c1, c2, c3⟩ := cut_sub (f := D.str) wl none (some (spot : Int))
  obtain ⟨v2, d1, d2, d3⟩ := cut_sub (f := D.str) wl (some ((spot : Int) + 1)) none
  have m1 := sumW_sub c3
  have m2 := sumW_sub d3
  have n1 := c3.length_le
  have n2 := d3.length_le
  have n3 := sumW_len wl
  have ls := a.lsum
  refine setrow_ok a (v := (v1 ++ [word]) ++ v2) (by omega) ?_ ?_ ?_
  · rw [List.map_append, List.map_append, ← c1, ← d1]
    refine LEx.add (b := h0.length) (b' := h0.length) (LEx.add (b := h0.length) (b' := h0.length) (LEx.slice v4 a.lat pN p7 a.base) (LEx.one v8 a.base) ?_ a.base) (LEx.slice v4 a.lat p71 pN a.base) ?_ a.base
    · rw [c1]; simp; omega
    · rw [c1, d1]; simp; omega
  · intro y hy
    simp only [List.mem_append, List.mem_singleton] at hy
    rcases hy with (hy | hy) | hy
    · exact a.lok y (c2 y hy)
    · rw [hy]; exact ow
    · exact a.lok y (d2 y hy)
  · rw [sumW_app, sumW_app]
    have : sumW [word] = word.length + 1 := by simp [sumW]
    omega
/-- way 3 -/
theorem w3_ok (a : BI h0 h p w L l at_ spot rs wl s c) (hs : s ≤ 100000) : ∃ h', sAsg (fIf (fB (fOp gGt (fCB gLen (fCons (fVar 4) fNil)) (fC (.int 1)))) (fOp gAdd (fSl (fVar 4) fNoP (fPart (fVar 7))) (fSl (fVar 4) (fPart (fOp gAdd (fVar 7) (fC (.int 1)))) fNoP)) (fLst (fCons (fC (.str "")) fNil))) (gSb gSet (fVar 3) (fVar 6)) (rhoB p w L l x way at_ spot word oth) h = .ok .nx (rhoB p w L l x way at_ spot word oth) h' ∧ BO h0 h' p L (s + 1) (3 * s + 40) c := by
  obtain ⟨v1, c1, c2, c3⟩ := cut_sub (f := D.str) wl none (some (spot : Int))
  obtain ⟨v2, d1, d2, d3⟩ := cut_sub (f := D.str) wl (some ((spot : Int) + 1)) none
  have m1 := sumW_sub c3
  have m2 := sumW_sub d3
  have n1 := c3.length_le
  have n2 := d3.length_le
  have n3 := sumW_len wl
  have ls := a.lsum
  have le := LEx.ite (hh := h) (ρ := rhoB p w L l x way at_ spot word oth) (ft := fB (fOp gGt (fCB gLen (fCons (fVar 4) fNil)) (fC (.int 1)))) (c := decide ((1 : Int) < wl.length)) (fun h' k => by
    have e := lstAt (k.get a.lat (by simp))
    simp [e]) (LEx.add (b := h0.length) (b' := h0.length) (b'' := h0.length) (LEx.slice v4 a.lat pN p7 a.base) (LEx.slice v4 a.lat p71 pN a.base) (by rw [c1, d1]; simp; omega) a.base) (LEx.one (f := fC (.str "")) (fun h => rfl) a.base)
  rw [c1, d1, ← List.map_append] at le
  cases q : decide ((1 : Int) < wl.length) with
  | true =>
    rw [q, if_pos rfl] at le
    refine setrow_ok a (by omega) le (fun y hy => ?_) (by rw [sumW_app]; omega)
    rcases List.mem_append.mp hy with hy | hy
    · exact a.lok y (c2 y hy)
    · exact a.lok y (d2 y hy)
  | false =>
    rw [q, if_neg (by simp)] at le
    refine setrow_ok a (v := [("" : Str)]) (by omega) le (fun y hy => ?_) ?_
    · rw [List.mem_singleton.mp hy]; intro c hc; cases hc
    · have : sumW [("" : Str)] = 1 := rfl
      omega
/-- way 4 -/
theorem w4_ok (a : BI h0 h p w L l at_ spot rs wl s c) (ow : okS word) (hw : word.length ≤ s + 20) (hs : s ≤ 100000) : ∃ h', sAsg (fOp gAdd (fOp gAdd (fSl (fVar 4) fNoP (fPart (fVar 7))) (fLst (fCons (fVar 8) fNil))) (fSl (fVar 4) (fPart (fVar 7)) fNoP)) (gSb gSet (fVar 3) (fVar 6)) (rhoB p w L l x way at_ spot word oth) h = .ok .nx (rhoB p w L l x way at_ spot word oth) h' ∧ BO h0 h' p L (s + 1) (3 * s + 40) c := by
  obtain ⟨v1, c1, c2, c3⟩ := cut_sub (f := D.str) wl none (some (spot : Int))
  obtain ⟨v2, d1, d2, d3⟩ := cut_sub (f := D.str) wl (some (spot : Int)) none
  have m1 := sumW_sub c3
  have m2 := sumW_sub d3
  have n1 := c3.length_le
  have n2 := d3.length_le
  have n3 := sumW_len wl
  have ls := a.lsum
  refine setrow_ok a (v := (v1 ++ [word]) ++ v2) (by omega) ?_ ?_ ?_
  · rw [List.map_append, List.map_append, ← c1, ← d1]
    refine LEx.add (b := h0.length) (b' := h0.length) (LEx.add (b := h0.length) (b' := h0.length) (LEx.slice v4 a.lat pN p7 a.base) (LEx.one v8 a.base) ?_ a.base) (LEx.slice v4 a.lat p7 pN a.base) ?_ a.base
    · rw [c1]; simp; omega
    · rw [c1, d1]; simp; omega
  · intro y hy
    simp only [List.mem_append, List.mem_singleton] at hy
    rcases hy with (hy | hy) | hy
    · exact a.lok y (c2 y hy)
    · rw [hy]; exact ow
    · exact a.lok y (d2 y hy)
  · rw [sumW_app, sumW_app]
    have : sumW [word] = word.length + 1 := by simp [sumW]
    omega
/-- way 5 -/
theorem w5_ok (a : BI h0 h p w L l at_ spot rs wl s c) (ow : okS word) (hw : word.length ≤ s + 20) (hs : s ≤ 100000) : ∃ h', sAsg (fOp gAdd (fVar 4) (fLst (fCons (fVar 8) fNil))) (gSb gSet (fVar 3) (fVar 6)) (rhoB p w L l x way at_ spot word oth) h = .ok .nx (rhoB p w L l x way at_ spot word oth) h' ∧ BO h0 h' p L (s + 1) (3 * s + 40) c := by
  have n3 := sumW_len wl
  have ls := a.lsum
  refine setrow_ok a (v := wl ++ [word]) (by omega) ?_ ?_ ?_
  · rw [List.map_append]
    refine LEx.add (b := h0.length) (b' := h0.length) (LEx.var v4 a.lat a.lnew) (LEx.one v8 a.base) ?_ a.base
    simp; omega
  · intro y hy
    rcases List.mem_append.mp hy with hy | hy
    · exact a.lok y hy
    · rw [List.mem_singleton.mp hy]; exact ow
  · rw [sumW_app]
    have : sumW [word] = word.length + 1 := by simp [sumW]
    omega
/-- way 6 -/
theorem w6_ok (a : BI h0 h p w L l at_ spot rs wl s c) (hs : s ≤ 100000) : ∃ h' L', sAsg (fIf (fB (fOp gGt (fCB gLen (fCons (fVar 3) fNil)) (fC (.int 1)))) (fOp gAdd (fSl (fVar 3) fNoP (fPart (fVar 6))) (fSl (fVar 3) (fPart (fOp gAdd (fVar 6) (fC (.int 1)))) fNoP)) (fLst (fCons (fLst (fCons (fC (.str "")) fNil)) fNil))) (gN 3) (rhoB p w L l x way at_ spot word oth) h = .ok .nx (rhoB p w L' l x way at_ spot word oth) h' ∧ BO h0 h' p L' (2 * s + 2) (3 * s + 40) c := by
  obtain ⟨v1, c1, c2, c3⟩ := cut_sub (f := D.ref) rs none (some (at_ : Int))
  obtain ⟨v2, d1, d2, d3⟩ := cut_sub (f := D.ref) rs (some ((at_ : Int) + 1)) none
  have n1 := c3.length_le
  have n2 := d3.length_le
  have la := a.la
  have test : ∀ h', Kp [] h h' → (fB (fOp gGt (fCB gLen (fCons (fVar 3) fNil)) (fC (.int 1)))) (rhoB p w L l x way at_ spot word oth) h' = .ok (decide ((1 : Int) < rs.length)) h' := fun h' k => by
    have e := lstAt (k.get a.at0 (by simp))
    simp [e]
  cases q : decide ((1 : Int) < rs.length) with
  | true =>
    have le := LEx.add (hh := h) (ρ := rhoB p w L l x way at_ spot word oth) (b := h0.length) (b' := h0.length) (b'' := h0.length) (LEx.slice v3 a.at0 pN p6 a.base) (LEx.slice v3 a.at0 p61 pN a.base) (by rw [c1, d1]; simp; omega) a.base
    rw [c1, d1, ← List.map_append] at le
    obtain ⟨r, h1, e1, e2, e3, e4⟩ := le h Kp.refl
    have a1 := a.more e2
    refine ⟨h1, r, ?_, a1.pen, a1.kp, e4, v1 ++ v2, e3, by simp; omega, Nat.zero_le _, fun u hu => ?_⟩
    · rw [es_asg, ev_if, test h Kp.refl, q]
      simp only [R.bind_ok, kIf_t]
      rw [e1]
      rfl
    · have um : u ∈ rs := by
        rcases List.mem_append.mp hu with hu | hu
        · exact c2 u hu
        · exact d2 u hu
      exact (a1.row u um).up (by omega) (by omega)
  | false =>
    refine ⟨(h ++ [.lst [.str ""]]) ++ [.lst [.ref h.length]], h.length + 1, ?_, ?_⟩
    · rw [es_asg, ev_if, test h Kp.refl, q]
      simp [ofR, SR.tk]
    · have k2 : Kp [] h ((h ++ [O.lst [.str ""]]) ++ [O.lst [.ref h.length]]) := Kp.refl.push.push
      have a1 := a.more k2
      have b := a.base
      refine ⟨a1.pen, a1.kp, by omega, [h.length], ?_, by simp, Nat.zero_le _, fun u hu => ?_⟩
      · have : ((h ++ [O.lst [.str ""]]) ++ [O.lst [.ref h.length]])[(h ++ [O.lst [.str ""]]).length]? = some (.lst [.ref h.length]) := push_new
        simpa using this
      · rw [List.mem_singleton.mp hu]
        refine ⟨b, [("" : Str)], push_old push_new, fun y hy => ?_, ?_, Nat.zero_le _⟩
        · rw [List.mem_singleton.mp hy]; intro c hc; cases hc
        · have : sumW [("" : Str)] = 1 := rfl
          omega
/-- way 7 -/
theorem w7_ok (a : BI h0 h p w L l at_ spot rs wl s c) (hs : s ≤ 100000) : ∃ h' L', sAsg (fOp gAdd (fOp gAdd (fSl (fVar 3) fNoP (fPart (fVar 6))) (fLst (fCons (fVar 4) fNil))) (fSl (fVar 3) (fPart (fVar 6)) fNoP)) (gN 3) (rhoB p w L l x way at_ spot word oth) h = .ok .nx (rhoB p w L' l x way at_ spot word oth) h' ∧ BO h0 h' p L' (2 * s + 2) (3 * s + 40) c := by
  obtain ⟨v1, c1, c2, c3⟩ := cut_sub (f := D.ref) rs none (some (at_ : Int))
  obtain ⟨v2, d1, d2, d3⟩ := cut_sub (f := D.ref) rs (some (at_ : Int)) none
  have n1 := c3.length_le
  have n2 := d3.length_le
  have la := a.la
  have le := LEx.add (hh := h) (ρ := rhoB p w L l x way at_ spot word oth) (b := h0.length) (b' := h0.length) (b'' := h0.length) (LEx.add (b := h0.length) (b' := h0.length) (b'' := h0.length) (LEx.slice v3 a.at0 pN p6 a.base) (LEx.one v4 a.base) (by rw [c1]; simp; omega) a.base) (LEx.slice v3 a.at0 p6 pN a.base) (by rw [c1, d1]; simp; omega) a.base
  rw [c1, d1, show [D.ref l] = [l].map D.ref from rfl, ← List.map_append, ← List.map_append] at le
  obtain ⟨r, h1, e1, e2, e3, e4⟩ := le h Kp.refl
  have a1 := a.more e2
  refine ⟨h1, r, ?_, a1.pen, a1.kp, e4, (v1 ++ [l]) ++ v2, e3, by simp; omega, Nat.zero_le _, fun u hu => ?_⟩
  · rw [es_asg, e1]
    rfl
  · have um : u ∈ rs := by
      simp only [List.mem_append, List.mem_singleton] at hu
      rcases hu with (hu | hu) | hu
      · exact c2 u hu
      · rw [hu]; exact List.mem_of_getElem? a.hl
      · exact d2 u hu
    exact (a1.row u um).up (by omega) (by omega)
theorem BO.up {a a' S : Nat} (b : BO h0 h p L a S c) (ha : a ≤ a') : BO h0 h p L a' S c := by
  obtain ⟨rs, e, f1, f2, f3⟩ := b.tab.ex
  exact ⟨b.pen, b.kp, b.tab.nw, rs, e, by omega, f2, f3⟩
end
end W86
set_option Elab.async false
set_option linter.all false
set_option maxRecDepth 100000
set_option maxHeartbeats 4000000
namespace W86
open PySem Mp TL
open L2 (cutS atI ixN)

section
variable {h0 h : MH} {p w L l at_ spot way : Nat} {rs : List Nat} {wl : List Str} {s c : Nat} {x word : Str} {oth : Option D}
theorem BI.neLl (a : BI h0 h p w L l at_ spot rs wl s c) : L ≠ l := fun e => by
  obtain ⟨r0, rs0, e0⟩ := a.rsne
  obtain ⟨w0, ws0, e1⟩ := a.wlne
  have h1 := a.at0
  rw [e, a.lat, e0, e1] at h1
  simp at h1
/-- the line's own places set -/
theorem BI.setRow (a : BI h0 h p w L l at_ spot rs wl s c) {v : List Str} {S : Nat} (hS : s ≤ S) (ok : ∀ y ∈ v, okS y) (sz : sumW v ≤ S) : BO h0 (h.set l (.lst (v.map D.str))) p L (s + 1) S c := by
  obtain ⟨w0, ws0, e1⟩ := a.wlne
  have pb := a.pb
  have ln := a.lnew
  have la := a.la
  refine ⟨a.pen.ne (d := .str w0) (l := ws0.map D.str) (by rw [a.lat, e1]; rfl) (by simp) (by omega), a.kp.set (.inr ln), a.nw, rs, set_old a.at0 (Ne.symm a.neLl), by omega, Nat.zero_le _, fun r hr => ?_⟩
  by_cases z : r = l
  · rw [z]
    exact ⟨ln, v, set_new a.lat, ok, sz, Nat.zero_le _⟩
  · obtain ⟨u, g1, g2, g3, g4⟩ := (a.row r hr).ex
    exact ⟨(a.row r hr).nw, u, set_old g1 (Ne.symm z), g2, by omega, Nat.zero_le _⟩
theorem sumW_set : ∀ (v : List Str) (i : Nat) (y : Str), sumW (v.set i y) ≤ sumW v + (y.length + 1)
  | [], i, y => by simp [sumW]
  | a :: v, 0, y => by simp [sumW]; omega
  | a :: v, i + 1, y => by
    have := sumW_set v i y
    simp only [sumW, List.set_cons_succ, List.map_cons, List.sum_cons] at this ⊢
    omega
def w8B : SF := (sSeq (sAsg (fCall F__law_draw [] (fCons (fVar 0) (fCons (fCB gLen (fCons (fVar 3) fNil)) fNil))) (gN 9)) (sAsg (fTup (fCons (fOp gIx (fVar 3) (fVar 9)) (fCons (fOp gIx (fVar 3) (fVar 6)) fNil))) (gTp 2 (gsCons (gSb gSet (fVar 3) (fVar 6)) (gsCons (gSb gSet (fVar 3) (fVar 9)) gsNil)))))
theorem w8_ok (a : BI h0 h p w L l at_ spot rs wl s c) (hs : s ≤ 100000) (hc : c < 1000000) : ∃ h' o', w8B (rhoB p w L l x way at_ spot word oth) h = .ok .nx (rhoB p w L l x way at_ spot word o') h' ∧ BO h0 h' p L (s + 1) (3 * s + 40) (c + 1) := by
  have la := a.la
  have ha := a.ha
  obtain ⟨d, h1, d1, d2, d3, d4⟩ := draw_ok (u := (rs.length : Int)) a.pen hc (by omega) (by omega)
  have hd : d < rs.length := by omega
  have a1 := a.drawn d3 d4
  have q1 : atI (rs.map D.ref) (d : Int) = some (.ref rs[d]) := by rw [Mp.atI_nat, List.getElem?_map, List.getElem?_eq_getElem hd]; rfl
  have q2 : atI (rs.map D.ref) (at_ : Int) = some (.ref rs[at_]) := by rw [Mp.atI_nat, List.getElem?_map, List.getElem?_eq_getElem ha]; rfl
  have i1 : ixN rs.length (at_ : Int) = some at_ := ixN_nat ha
  have i2 : ixN rs.length (d : Int) = some d := ixN_nat hd
  have s1 : sAsg (fCall F__law_draw [] (fCons (fVar 0) (fCons (fCB gLen (fCons (fVar 3) fNil)) fNil))) (gN 9) (rhoB p w L l x way at_ spot word oth) h = .ok .nx (rhoB p w L l x way at_ spot word (some (.int d))) h1 := by
    simp [lstAt a.at0, d1, ofR, SR.tk]
  have m2 : mutOf (h1.set L (.lst ((rs.map D.ref).set at_ (.ref rs[d])))) L = some ((rs.map D.ref).set at_ (.ref rs[d])) := mutAt (set_new a1.at0)
  refine ⟨h1.set L (.lst (((rs.set at_ rs[d]).set d rs[at_]).map D.ref)), some (.int d), ?_, a1.setL (by simp) (by omega) fun r hr => ?_⟩
  · unfold w8B
    rw [es_seq, s1, thn_nx]
    simp [lstAt a1.at0, q1, q2, ofR, SR.tk, SR.thn, mutAt a1.at0, i1, m2, i2]
  · right
    rcases List.mem_or_eq_of_mem_set hr with z | z
    · rcases List.mem_or_eq_of_mem_set z with z | z
      · exact z
      · rw [z]; exact List.getElem_mem hd
    · rw [z]; exact List.getElem_mem ha
def w10B : SF := (sSeq (sAsg (fCall F__law_draw [] (fCons (fVar 0) (fCons (fCB gLen (fCons (fVar 4) fNil)) fNil))) (gN 9)) (sAsg (fTup (fCons (fOp gIx (fVar 4) (fVar 9)) (fCons (fOp gIx (fVar 4) (fVar 7)) fNil))) (gTp 2 (gsCons (gSb gSet (fVar 4) (fVar 7)) (gsCons (gSb gSet (fVar 4) (fVar 9)) gsNil)))))
theorem w10_ok (a : BI h0 h p w L l at_ spot rs wl s c) (hs : s ≤ 100000) (hc : c < 1000000) : ∃ h' o', w10B (rhoB p w L l x way at_ spot word oth) h = .ok .nx (rhoB p w L l x way at_ spot word o') h' ∧ BO h0 h' p L (s + 1) (3 * s + 40) (c + 1) := by
  have ls := a.lsum
  have n3 := sumW_len wl
  have ha := a.hs
  obtain ⟨d, h1, d1, d2, d3, d4⟩ := draw_ok (u := (wl.length : Int)) a.pen hc (by omega) (by omega)
  have hd : d < wl.length := by omega
  have a1 := a.drawn d3 d4
  have q1 : atI (wl.map D.str) (d : Int) = some (.str wl[d]) := by rw [Mp.atI_nat, List.getElem?_map, List.getElem?_eq_getElem hd]; rfl
  have q2 : atI (wl.map D.str) (spot : Int) = some (.str wl[spot]) := by rw [Mp.atI_nat, List.getElem?_map, List.getElem?_eq_getElem ha]; rfl
  have i1 : ixN wl.length (spot : Int) = some spot := ixN_nat ha
  have i2 : ixN wl.length (d : Int) = some d := ixN_nat hd
  have s1 : sAsg (fCall F__law_draw [] (fCons (fVar 0) (fCons (fCB gLen (fCons (fVar 4) fNil)) fNil))) (gN 9) (rhoB p w L l x way at_ spot word oth) h = .ok .nx (rhoB p w L l x way at_ spot word (some (.int d))) h1 := by
    simp [lstAt a.lat, d1, ofR, SR.tk]
  have m2 : mutOf (h1.set l (.lst ((wl.map D.str).set spot (.str wl[d])))) l = some ((wl.map D.str).set spot (.str wl[d])) := mutAt (set_new a1.lat)
  have e1 := sumW_mem (List.getElem_mem hd)
  have e2 := sumW_mem (List.getElem_mem ha)
  refine ⟨h1.set l (.lst (((wl.set spot wl[d]).set d wl[spot]).map D.str)), some (.int d), ?_, a1.setRow (by omega) (fun y hy => ?_) ?_⟩
  · unfold w10B
    rw [es_seq, s1, thn_nx]
    simp [lstAt a1.lat, q1, q2, ofR, SR.tk, SR.thn, mutAt a1.lat, i1, m2, i2]
  · refine a.lok y ?_
    rcases List.mem_or_eq_of_mem_set hy with z | z
    · rcases List.mem_or_eq_of_mem_set z with z | z
      · exact z
      · rw [z]; exact List.getElem_mem hd
    · rw [z]; exact List.getElem_mem ha
  · have f1 := sumW_set (wl.set spot wl[d]) d wl[spot]
    have f2 := sumW_set wl spot wl[d]
    omega
theorem add_str {a b : Str} {hh : MH} (z : a.length + b.length ≤ 16777216) : gAdd (.str a) (.str b) hh = .ok (.str (a ++ b)) hh := by
  unfold gAdd
  dsimp only
  rw [if_pos z]
theorem okS_app {a b : Str} (ha : okS a) (hb : okS b) : okS (a ++ b) := by
  intro c hc
  have : c ∈ tl (a ++ b) := hc
  rw [tl_append] at this
  rcases List.mem_append.mp this with z | z
  · exact ha c z
  · exact hb c z
theorem up_str {a : Str} (ha : okS a) : okS (Txt.upper a) ∧ (Txt.upper a).length = a.length := by
  rw [PyProof.Rows.upper_ascii ha]
  refine ⟨fun c hc => ?_, by simp [Str.length]⟩
  have hc' : c ∈ a.cps.toList.map PyProof.Rows.up1 := by simpa using hc
  obtain ⟨d, hd, rfl⟩ := List.mem_map.mp hc'
  have := ha d hd
  unfold PyProof.Rows.up1
  split <;> omega
theorem okS_lit {x : Str} (h : x.cps.toList.all (fun c => decide (c < 128)) = true) : okS x := fun c hc => of_decide_eq_true (List.all_eq_true.mp h c hc)
def w11B : SF := (sAsg (fCall F__law_pick [] (fCons (fVar 0) (fCons (fLst (fCons (fOp gAdd (fC (.str "0")) (fOp gIx (fVar 4) (fVar 7))) (fCons (fOp gAdd (fC (.str "-")) (fOp gIx (fVar 4) (fVar 7))) (fCons (fOp gAdd (fC (.str "+")) (fOp gIx (fVar 4) (fVar 7))) (fCons (fOp gAdd (fOp gIx (fVar 4) (fVar 7)) (fC (.str "0"))) (fCons (fM0 gUpper (fOp gIx (fVar 4) (fVar 7))) (fCons (fOp gAdd (fOp gIx (fVar 4) (fVar 7)) (fC (.str "."))) fNil))))))) fNil))) (gSb gSet (fVar 4) (fVar 7)))
theorem w11_ok (a : BI h0 h p w L l at_ spot rs wl s c) (hs : s ≤ 100000) (hc : c < 1000000) : ∃ h', w11B (rhoB p w L l x way at_ spot word oth) h = .ok .nx (rhoB p w L l x way at_ spot word oth) h' ∧ BO h0 h' p L (s + 1) (3 * s + 40) (c + 1) := by
  have ls := a.lsum
  have ha := a.hs
  obtain ⟨y, ey⟩ : ∃ y, y = wl[spot] := ⟨_, rfl⟩
  have ym : y ∈ wl := by rw [ey]; exact List.getElem_mem ha
  have yl := sumW_mem ym
  have yo := a.lok y ym
  have q2 : atI (wl.map D.str) (spot : Int) = some (.str y) := by rw [Mp.atI_nat, List.getElem?_map, List.getElem?_eq_getElem ha, ey]; rfl
  have i1 : ixN wl.length (spot : Int) = some spot := ixN_nat ha
  obtain ⟨u1, u2⟩ := up_str yo
  obtain ⟨Y, eY⟩ : ∃ Y : List Str, Y = [Str.ofString "0" ++ y, Str.ofString "-" ++ y, Str.ofString "+" ++ y, y ++ Str.ofString "0", Txt.upper y, y ++ Str.ofString "."] := ⟨_, rfl⟩
  have l0 : (Str.ofString "0").length = 1 := rfl
  have lm : (Str.ofString "-").length = 1 := rfl
  have lp : (Str.ofString "+").length = 1 := rfl
  have ld : (Str.ofString ".").length = 1 := rfl
  have Yok : ∀ z ∈ Y, okS z ∧ z.length ≤ y.length + 1 := by
    have o0 : okS (Str.ofString "0") := okS_lit (by decide)
    have om : okS (Str.ofString "-") := okS_lit (by decide)
    have op : okS (Str.ofString "+") := okS_lit (by decide)
    have od : okS (Str.ofString ".") := okS_lit (by decide)
    intro z hz
    rw [eY] at hz
    simp only [List.mem_cons, List.not_mem_nil, or_false] at hz
    rcases hz with z | z | z | z | z | z <;> subst z
    · exact ⟨okS_app o0 yo, by rw [Str.length_append]; omega⟩
    · exact ⟨okS_app om yo, by rw [Str.length_append]; omega⟩
    · exact ⟨okS_app op yo, by rw [Str.length_append]; omega⟩
    · exact ⟨okS_app yo o0, by rw [Str.length_append]; omega⟩
    · exact ⟨u1, by omega⟩
    · exact ⟨okS_app yo od, by rw [Str.length_append]; omega⟩
  obtain ⟨h1, e1⟩ : ∃ h1, h1 = h ++ [O.lst (Y.map D.str)] := ⟨_, rfl⟩
  have k1 : Kp [] h h1 := by rw [e1]; exact Kp.refl.push
  have n1 : h1[h.length]? = some (.lst (Y.map D.str)) := by rw [e1]; exact push_new
  have a1 := a.more k1
  have pb := a.pb
  have kb := a.base
  obtain ⟨z, hz, h2, p1, p2, p3⟩ := pick_ok (l := h.length) (L := Y.map D.str) a1.pen hc n1 (by omega) (by rw [eY]; simp) (by rw [eY]; simp)
  obtain ⟨zz, hzz, rfl⟩ := List.mem_map.mp hz
  obtain ⟨z1, z2⟩ := Yok zz hzz
  have a2 := a1.drawn p2 p3
  have Yl : fLst (fCons (fOp gAdd (fC (.str "0")) (fOp gIx (fVar 4) (fVar 7))) (fCons (fOp gAdd (fC (.str "-")) (fOp gIx (fVar 4) (fVar 7))) (fCons (fOp gAdd (fC (.str "+")) (fOp gIx (fVar 4) (fVar 7))) (fCons (fOp gAdd (fOp gIx (fVar 4) (fVar 7)) (fC (.str "0"))) (fCons (fM0 gUpper (fOp gIx (fVar 4) (fVar 7))) (fCons (fOp gAdd (fOp gIx (fVar 4) (fVar 7)) (fC (.str "."))) fNil)))))) (rhoB p w L l x way at_ spot word oth) h = .ok (.ref h.length) h1 := by
    rw [e1, eY]
    have g1 : ∀ hh, gAdd (.str (Str.ofString "0")) (.str y) hh = .ok (.str (Str.ofString "0" ++ y)) hh := fun hh => add_str (by omega)
    have g2 : ∀ hh, gAdd (.str (Str.ofString "-")) (.str y) hh = .ok (.str (Str.ofString "-" ++ y)) hh := fun hh => add_str (by omega)
    have g3 : ∀ hh, gAdd (.str (Str.ofString "+")) (.str y) hh = .ok (.str (Str.ofString "+" ++ y)) hh := fun hh => add_str (by omega)
    have g4 : ∀ hh, gAdd (.str y) (.str (Str.ofString "0")) hh = .ok (.str (y ++ Str.ofString "0")) hh := fun hh => add_str (by omega)
    have g5 : ∀ hh, gUpper y hh = .ok (.str (Txt.upper y)) hh := fun hh => by unfold gUpper; rw [if_pos (by omega)]
    have g6 : ∀ hh, gAdd (.str y) (.str (Str.ofString ".")) hh = .ok (.str (y ++ Str.ofString ".")) hh := fun hh => add_str (by omega)
    simp [lstAt a.lat, q2, g1, g2, g3, g4, g5, g6]
  refine ⟨h2.set l (.lst ((wl.set spot zz).map D.str)), ?_, a2.setRow (by omega) (fun u hu => ?_) ?_⟩
  · unfold w11B
    rw [es_asg, ev_call, ev_cons, show ∀ hh, fVar 0 (rhoB p w L l x way at_ spot word oth) hh = .ok (.ref p) hh from fun _ => rfl]
    simp only [R.bind_ok, kC1_eq]
    rw [ev_cons, Yl]
    simp only [R.bind_ok, kC1_eq, ev_nil, kC2_eq, kCall_eq, List.append_nil, p1]
    simp [ofR, SR.tk, mutAt a2.lat, i1]
  · rcases List.mem_or_eq_of_mem_set hu with q | q
    · exact a.lok u q
    · rw [q]; exact z1
  · have := sumW_set wl spot zz
    omega
def w9B : SF := (sAsg (fOp gAdd (fVar 3) (fLst (fCons (fCall F__law_pick [] (fCons (fVar 0) (fCons (fLst (fCons (fLst (fCons (fC (.str "")) fNil)) (fCons (fLst (fCons (fVar 8) fNil)) (fCons (fVar 4) fNil)))) fNil))) fNil))) (gN 3))
theorem w9_ok (a : BI h0 h p w L l at_ spot rs wl s c) (ow : okS word) (hw : word.length ≤ s + 20) (hs : s ≤ 100000) (hc : c < 1000000) : ∃ h' L', w9B (rhoB p w L l x way at_ spot word oth) h = .ok .nx (rhoB p w L' l x way at_ spot word oth) h' ∧ BO h0 h' p L' (2 * s + 2) (3 * s + 40) (c + 1) := by
  have la := a.la
  have pb := a.pb
  have kb := a.base
  obtain ⟨h1, e1⟩ : ∃ h1, h1 = h ++ [O.lst [.str (Str.ofString "")]] := ⟨_, rfl⟩
  obtain ⟨h2, e2⟩ : ∃ h2, h2 = h1 ++ [O.lst [.str word]] := ⟨_, rfl⟩
  obtain ⟨h3, e3⟩ : ∃ h3, h3 = h2 ++ [O.lst [.ref h.length, .ref h1.length, .ref l]] := ⟨_, rfl⟩
  have k1 : Kp [] h h1 := by rw [e1]; exact Kp.refl.push
  have k2 : Kp [] h h2 := by rw [e2]; exact k1.push
  have k3 : Kp [] h h3 := by rw [e3]; exact k2.push
  have l1 : h1.length = h.length + 1 := by rw [e1]; simp
  have l2 : h2.length = h.length + 2 := by rw [e2]; simp [l1]
  have n1 : h3[h.length]? = some (.lst [.str (Str.ofString "")]) := by rw [e3, e2, e1]; exact push_old (push_old push_new)
  have n2 : h3[h1.length]? = some (.lst [.str word]) := by rw [e3, e2]; exact push_old push_new
  have n3 : h3[h2.length]? = some (.lst [.ref h.length, .ref h1.length, .ref l]) := by rw [e3]; exact push_new
  have a3 := a.more k3
  obtain ⟨z, hz, h4, p1, p2, p3⟩ := pick_ok (l := h2.length) a3.pen hc n3 (by omega) (by simp) (by simp)
  have a4 := a3.drawn p2 p3
  have m1 := p3.get n1 (by simp; omega)
  have m2 := p3.get n2 (by simp; omega)
  have nws := a.lnew
  obtain ⟨q, eq, rq⟩ : ∃ q, z = .ref q ∧ RowOk h4 h0.length q (3 * s + 40) 0 := by
    simp only [List.mem_cons, List.not_mem_nil, or_false] at hz
    rcases hz with z | z | z
    · refine ⟨h.length, z, by omega, [("" : Str)], m1, fun y hy => ?_, ?_, Nat.zero_le _⟩
      · rw [List.mem_singleton.mp hy]; intro c hc; cases hc
      · have : sumW [("" : Str)] = 1 := rfl
        omega
    · refine ⟨h1.length, z, by omega, [word], m2, fun y hy => ?_, ?_, Nat.zero_le _⟩
      · rw [List.mem_singleton.mp hy]; exact ow
      · have : sumW [word] = word.length + 1 := by simp [sumW]
        omega
    · exact ⟨l, z, (a4.row l (List.mem_of_getElem? a.hl)).up (by omega) (by omega)⟩
  obtain ⟨h5, e5⟩ : ∃ h5, h5 = h4 ++ [O.lst [.ref q]] := ⟨_, rfl⟩
  have k5 : Kp [] h4 h5 := by rw [e5]; exact Kp.refl.push
  have n5 : h5[h4.length]? = some (.lst [.ref q]) := by rw [e5]; exact push_new
  have a5 := a4.more k5
  obtain ⟨h6, e6⟩ : ∃ h6, h6 = h5 ++ [O.lst (rs.map D.ref ++ [.ref q])] := ⟨_, rfl⟩
  have k6 : Kp [] h5 h6 := by rw [e6]; exact Kp.refl.push
  have n6 : h6[h5.length]? = some (.lst ((rs ++ [q]).map D.ref)) := by rw [e6]; simp
  have a6 := a5.more k6
  refine ⟨h6, h5.length, ?_, a6.pen, a6.kp, a5.kp.le, rs ++ [q], n6, by simp; omega, Nat.zero_le _, fun r hr => ?_⟩
  · unfold w9B
    have ad : gAdd (.ref L) (.ref h4.length) h5 = .ok (.ref h5.length) h6 := by
      unfold gAdd
      dsimp only
      rw [mutAt a5.at0, mutAt n5]
      dsimp only
      rw [if_pos (by simp; omega), e6]
    have ls : fLst (fCons (fLst (fCons (fC (.str "")) fNil)) (fCons (fLst (fCons (fVar 8) fNil)) (fCons (fVar 4) fNil))) (rhoB p w L l x way at_ spot word oth) h = .ok (.ref h2.length) h3 := by
      simp [← e1, ← e2, ← e3]
    have pk : (fCall F__law_pick [] (fCons (fVar 0) (fCons (fLst (fCons (fLst (fCons (fC (.str "")) fNil)) (fCons (fLst (fCons (fVar 8) fNil)) (fCons (fVar 4) fNil)))) fNil))) (rhoB p w L l x way at_ spot word oth) h = .ok (.ref q) h4 := by
      rw [ev_call, ev_cons, show ∀ hh, fVar 0 (rhoB p w L l x way at_ spot word oth) hh = .ok (.ref p) hh from fun _ => rfl]
      simp only [R.bind_ok, kC1_eq]
      rw [ev_cons, ls]
      simp only [R.bind_ok, kC1_eq, ev_nil, kC2_eq, kCall_eq, List.append_nil, p1, eq]
    have lq : (fLst (fCons (fCall F__law_pick [] (fCons (fVar 0) (fCons (fLst (fCons (fLst (fCons (fC (.str "")) fNil)) (fCons (fLst (fCons (fVar 8) fNil)) (fCons (fVar 4) fNil)))) fNil))) fNil)) (rhoB p w L l x way at_ spot word oth) h = .ok (.ref h4.length) h5 := by
      rw [ev_lst, ev_cons, pk]
      simp [e5]
    rw [es_asg, ev_op, v3]
    simp only [R.bind_ok, kOp_eq, lq, ad]
    rfl
  · rcases List.mem_append.mp hr with hr | hr
    · exact (a6.row r hr).up (by omega) (by omega)
    · rw [List.mem_singleton.mp hr]
      exact (rq.kp (p := p) k5.any pb).kp (p := p) k6.any pb
end
end W86
set_option Elab.async false
set_option linter.all false
set_option maxRecDepth 100000
set_option maxHeartbeats 4000000
namespace W86
open PySem Mp TL
open L2 (cutS atI ixN)

def w0B : SF := (sAsg (fOp gAdd (fOp gAdd (fSl (fVar 4) fNoP (fPart (fVar 7))) (fLst (fCons (fVar 8) fNil))) (fSl (fVar 4) (fPart (fOp gAdd (fVar 7) (fC (.int 1)))) fNoP)) (gSb gSet (fVar 3) (fVar 6)))
def w3B : SF := (sAsg (fIf (fB (fOp gGt (fCB gLen (fCons (fVar 4) fNil)) (fC (.int 1)))) (fOp gAdd (fSl (fVar 4) fNoP (fPart (fVar 7))) (fSl (fVar 4) (fPart (fOp gAdd (fVar 7) (fC (.int 1)))) fNoP)) (fLst (fCons (fC (.str "")) fNil))) (gSb gSet (fVar 3) (fVar 6)))
def w4B : SF := (sAsg (fOp gAdd (fOp gAdd (fSl (fVar 4) fNoP (fPart (fVar 7))) (fLst (fCons (fVar 8) fNil))) (fSl (fVar 4) (fPart (fVar 7)) fNoP)) (gSb gSet (fVar 3) (fVar 6)))
def w5B : SF := (sAsg (fOp gAdd (fVar 4) (fLst (fCons (fVar 8) fNil))) (gSb gSet (fVar 3) (fVar 6)))
def w6B : SF := (sAsg (fIf (fB (fOp gGt (fCB gLen (fCons (fVar 3) fNil)) (fC (.int 1)))) (fOp gAdd (fSl (fVar 3) fNoP (fPart (fVar 6))) (fSl (fVar 3) (fPart (fOp gAdd (fVar 6) (fC (.int 1)))) fNoP)) (fLst (fCons (fLst (fCons (fC (.str "")) fNil)) fNil))) (gN 3))
def w7B : SF := (sAsg (fOp gAdd (fOp gAdd (fSl (fVar 3) fNoP (fPart (fVar 6))) (fLst (fCons (fVar 4) fNil))) (fSl (fVar 3) (fPart (fVar 6)) fNoP)) (gN 3))
def linB : SF := (sAsg (fComp (fSrc (fM1 gSplit (fVar 1) (fC (.str "\n")))) (.nm 4) fYes (fM1 gSplit (fVar 4) (fC (.str " "))) FU) (gN 3))
def parB : SF := (sPar2 5 6 (fCons (fCall F__law_draw [] (fCons (fVar 0) (fCons (fC (.int 13)) fNil))) (fCons (fCall F__law_draw [] (fCons (fVar 0) (fCons (fCB gLen (fCons (fVar 3) fNil)) fNil))) fNil)))
def rowB : SF := (sAsg (fOp gIx (fVar 3) (fVar 6)) (gN 4))
def spotB : SF := (sAsg (fCall F__law_draw [] (fCons (fVar 0) (fCons (fCB gLen (fCons (fVar 4) fNil)) fNil))) (gN 7))
def wordB : SF := (sAsg (fCall F__law_pick [] (fCons (fVar 0) (fCons (fOp gAdd (fVar 2) (fLst (fCons (fOp gIx (fVar 4) (fVar 7)) (fCons (fCall F__law_pick [] (fCons (fVar 0) (fCons (fCall F__law_pick [] (fCons (fVar 0) (fCons (fVar 3) fNil))) fNil))) fNil)))) fNil))) (gN 8))
def bendB : SF := (sIf (fB (fOp gLt (fVar 5) (fC (.int 3)))) w0B (sIf (fB (fOp gEq (fVar 5) (fC (.int 3)))) w3B (sIf (fB (fOp gEq (fVar 5) (fC (.int 4)))) w4B (sIf (fB (fOp gEq (fVar 5) (fC (.int 5)))) w5B (sIf (fB (fOp gEq (fVar 5) (fC (.int 6)))) w6B (sIf (fB (fOp gEq (fVar 5) (fC (.int 7)))) w7B (sIf (fB (fOp gEq (fVar 5) (fC (.int 8)))) w8B (sIf (fB (fOp gEq (fVar 5) (fC (.int 9)))) w9B (sIf (fB (fOp gEq (fVar 5) (fC (.int 10)))) w10B (sIf (fB (fOp gEq (fVar 5) (fC (.int 11)))) w11B sNil))))))))))
def retB : SF := (sRet (fM1 gJoin (fC (.str "\n")) (fComp (fSrc (fVar 3)) (.nm 10) fYes (fM1 gJoin (fC (.str " ")) (fVar 10)) FU)))
theorem s_bt : s__law_bent_text = (sSeq linB (sSeq parB (sSeq rowB (sSeq spotB (sSeq wordB (sSeq bendB retB)))))) := rfl
section
variable {h0 h : MH} {p w L l at_ spot way : Nat} {rs : List Nat} {wl : List Str} {s c : Nat} {x word : Str} {oth : Option D}
theorem BO.upc {a S c c' : Nat} (b : BO h0 h p L a S c) (hc : c ≤ c') : BO h0 h p L a S c' := ⟨b.pen.up hc, b.kp, b.tab⟩
theorem eqW (k : Nat) (hh : MH) : fB (fOp gEq (fVar 5) (fC (.int k))) (rhoB p w L l x way at_ spot word oth) hh = .ok (decide (way = k)) hh := by
  have e : ((way : Int) = (k : Int)) ↔ (way = k) := by omega
  simp [e]
theorem bend_ok (a : BI h0 h p w L l at_ spot rs wl s c) (ow : okS word) (hw : word.length ≤ s + 20) (hs : s ≤ 100000) (hc : c < 1000000) : ∃ h' L' o', bendB (rhoB p w L l x way at_ spot word oth) h = .ok .nx (rhoB p w L' l x way at_ spot word o') h' ∧ BO h0 h' p L' (2 * s + 2) (3 * s + 40) (c + 1) := by
  have lt3 : fB (fOp gLt (fVar 5) (fC (.int 3))) (rhoB p w L l x way at_ spot word oth) h = .ok (decide (way < 3)) h := by
    have e : ((way : Int) < 3) ↔ (way < 3) := by omega
    simp [e]
  have E := fun k => eqW (p := p) (w := w) (L := L) (l := l) (x := x) (way := way) (at_ := at_) (spot := spot) (word := word) (oth := oth) k h
  unfold bendB
  by_cases c0 : way < 3
  · rw [decide_eq_true c0] at lt3
    rw [sIf_t lt3]
    obtain ⟨h', e1, e2⟩ := w0_ok (x := x) (way := way) (word := word) (oth := oth) a ow hw hs
    exact ⟨h', L, oth, e1, (e2.up (by omega)).upc (by omega)⟩
  rw [decide_eq_false c0] at lt3
  rw [sIf_f lt3]
  have T : ∀ {k : Nat} (i : Int) {s t : SF}, (k : Int) = i → way = k → sIf (fB (fOp gEq (fVar 5) (fC (.int i)))) s t (rhoB p w L l x way at_ spot word oth) h = s (rhoB p w L l x way at_ spot word oth) h := fun {k} _ {_ _} hi e => sIf_t (by rw [← hi, E k, decide_eq_true e])
  have F : ∀ {k : Nat} (i : Int) {s t : SF}, (k : Int) = i → ¬ way = k → sIf (fB (fOp gEq (fVar 5) (fC (.int i)))) s t (rhoB p w L l x way at_ spot word oth) h = t (rhoB p w L l x way at_ spot word oth) h := fun {k} _ {_ _} hi e => sIf_f (by rw [← hi, E k, decide_eq_false e])
  by_cases c3 : way = 3
  · rw [T (k := 3) 3 rfl c3]
    obtain ⟨h', e1, e2⟩ := w3_ok (x := x) (way := way) (word := word) (oth := oth) a hs
    exact ⟨h', L, oth, e1, (e2.up (by omega)).upc (by omega)⟩
  rw [F (k := 3) 3 rfl c3]
  by_cases c4 : way = 4
  · rw [T (k := 4) 4 rfl c4]
    obtain ⟨h', e1, e2⟩ := w4_ok (x := x) (way := way) (word := word) (oth := oth) a ow hw hs
    exact ⟨h', L, oth, e1, (e2.up (by omega)).upc (by omega)⟩
  rw [F (k := 4) 4 rfl c4]
  by_cases c5 : way = 5
  · rw [T (k := 5) 5 rfl c5]
    obtain ⟨h', e1, e2⟩ := w5_ok (x := x) (way := way) (word := word) (oth := oth) a ow hw hs
    exact ⟨h', L, oth, e1, (e2.up (by omega)).upc (by omega)⟩
  rw [F (k := 5) 5 rfl c5]
  by_cases c6 : way = 6
  · rw [T (k := 6) 6 rfl c6]
    obtain ⟨h', L', e1, e2⟩ := w6_ok (x := x) (way := way) (word := word) (oth := oth) a hs
    exact ⟨h', L', oth, e1, e2.upc (by omega)⟩
  rw [F (k := 6) 6 rfl c6]
  by_cases c7 : way = 7
  · rw [T (k := 7) 7 rfl c7]
    obtain ⟨h', L', e1, e2⟩ := w7_ok (x := x) (way := way) (word := word) (oth := oth) a hs
    exact ⟨h', L', oth, e1, e2.upc (by omega)⟩
  rw [F (k := 7) 7 rfl c7]
  by_cases c8 : way = 8
  · rw [T (k := 8) 8 rfl c8]
    obtain ⟨h', o', e1, e2⟩ := w8_ok (x := x) (way := way) (word := word) (oth := oth) a hs hc
    exact ⟨h', L, o', e1, e2.up (by omega)⟩
  rw [F (k := 8) 8 rfl c8]
  by_cases c9 : way = 9
  · rw [T (k := 9) 9 rfl c9]
    obtain ⟨h', L', e1, e2⟩ := w9_ok (x := x) (way := way) (word := word) (oth := oth) a ow hw hs hc
    exact ⟨h', L', oth, e1, e2⟩
  rw [F (k := 9) 9 rfl c9]
  by_cases c10 : way = 10
  · rw [T (k := 10) 10 rfl c10]
    obtain ⟨h', o', e1, e2⟩ := w10_ok (x := x) (way := way) (word := word) (oth := oth) a hs hc
    exact ⟨h', L, o', e1, e2.up (by omega)⟩
  rw [F (k := 10) 10 rfl c10]
  by_cases c11 : way = 11
  · rw [T (k := 11) 11 rfl c11]
    obtain ⟨h', e1, e2⟩ := w11_ok (x := x) (way := way) (word := word) (oth := oth) a hs hc
    exact ⟨h', L, oth, e1, e2.up (by omega)⟩
  rw [F (k := 11) 11 rfl c11, es_nil]
  refine ⟨h, L, oth, rfl, a.pen.up (by omega), a.kp, a.nw, rs, a.at0, by have := a.la; omega, Nat.zero_le _, fun r hr => (a.row r hr).up (by omega) (by omega)⟩
end
theorem bent_ok {h0 : MH} {p c w : Nat} {x : Str} {W : List Str} (P : Pen h0 p c) (hc : c < 900000) (ew : h0[w]? = some (.lst (W.map D.str))) (okW : ∀ y ∈ W, okS y ∧ y.length ≤ 14) (Wl : W.length ≤ 20) (ok : okS x) (hx : x.length ≤ 380) :
    ∃ y h', F__law_bent_text [.ref p, .str x, .ref w] h0 = .ok (.str y) h' ∧ Pen h' p (c + 10) ∧ Kp [p] h0 h' ∧ okS y ∧ y.length ≤ 950000 := by
  have pb := P.lt
  have wp : w ≠ p := fun e => by
    obtain ⟨s, ns, k, r, h1, h2, h3⟩ := P.ex
    rw [← e, ew] at h1
    cases W with
    | nil => simp at h1
    | cons a b => simp at h1
  -- the lines
  obtain ⟨h1, e1⟩ : ∃ h1, h1 = h0 ++ [O.lst ((Txt.split x nl).map D.str)] := ⟨_, rfl⟩
  have n1 : h1[h0.length]? = some (.lst ((Txt.split x nl).map D.str)) := by rw [e1]; exact push_new
  have k1 : Kp [] h0 h1 := by rw [e1]; exact Kp.refl.push
  obtain ⟨ρ0, eρ⟩ : ∃ ρ0 : Mp.Env, ρ0 = [some (.ref p), some (.str x), some (.ref w), none, none, none, none, none, none, none, none] := ⟨_, rfl⟩
  obtain ⟨h2, L, l1, l2, l3⟩ := lines_new (ρ := ρ0) (k := 4) ok (by omega) (by rw [eρ]; simp) n1
  have k2 : Kp [] h0 h2 := k1.trans l3 fun _ _ hs => ⟨hs, hs⟩
  have P2 := P.kp k2
  obtain ⟨rs, t1, t2, t3, t4⟩ := l2.ex
  have Lb := l2.nw
  have b1 := k1.le
  have s1 : linB ρ0 h0 = .ok .nx [some (.ref p), some (.str x), some (.ref w), some (.ref L), none, none, none, none, none, none, none] h2 := by
    have c : fComp (fSrc (fM1 gSplit (fVar 1) (fC (.str "\n")))) (.nm 4) fYes (fM1 gSplit (fVar 4) (fC (.str " "))) FU ρ0 h0 = .ok (.ref L) h2 := by
      rw [ev_comp, ev_src, ev_m1]
      have v0 : fVar 1 ρ0 h0 = .ok (.str x) h0 := by rw [eρ]; rfl
      rw [v0]
      simp only [R.bind_ok, kM1_eq, ev_c, nl_eq]
      rw [show gSplit x (.str nl) h0 = .ok (.ref h0.length) (h0 ++ [.lst ((Txt.split x nl).map D.str)]) from split_str (by omega), ← e1]
      simp only [R.bind_ok, kSrc1_eq]
      rw [src_ref n1]
      simp only [opt_some, kSrc2_eq, R.bind_ok, kCo_eq]
      rw [show wipeE ρ0 (tgV (.nm 4)) = ρ0 from by rw [eρ]; rfl]
      exact l1
    unfold linB
    rw [es_asg, c, eρ]
    simp [ofR, SR.tk]
  -- way, at
  obtain ⟨way, h3, d1, d2, d3, d4⟩ := draw_ok (u := 13) P2 (by omega) (by decide) (by decide)
  have t1' := d4.get t1 (by simp; omega)
  obtain ⟨at_, h4, f1, f2, f3, f4⟩ := draw_ok (u := (rs.length : Int)) d3 (by omega) (by omega) (by omega)
  have hat : at_ < rs.length := by omega
  have k34 : Kp [p] h2 h4 := d4.trans f4 fun _ _ hs => ⟨hs, hs⟩
  have s2 : parB [some (.ref p), some (.str x), some (.ref w), some (.ref L), none, none, none, none, none, none, none] h2 = .ok .nx [some (.ref p), some (.str x), some (.ref w), some (.ref L), none, some (.int way), some (.int at_), none, none, none, none] h4 := by
    simp [parB, d1, lstAt t1', f1, ofR]
  -- the line
  have t4' := k34.get t1 (by simp; omega)
  have q1 : atI (rs.map D.ref) (at_ : Int) = some (.ref rs[at_]) := by rw [Mp.atI_nat, List.getElem?_map, List.getElem?_eq_getElem hat]; rfl
  obtain ⟨l, el⟩ : ∃ l, l = rs[at_] := ⟨_, rfl⟩
  rw [← el] at q1
  have s3 : rowB [some (.ref p), some (.str x), some (.ref w), some (.ref L), none, some (.int way), some (.int at_), none, none, none, none] h4 = .ok .nx [some (.ref p), some (.str x), some (.ref w), some (.ref L), some (.ref l), some (.int way), some (.int at_), none, none, none, none] h4 := by
    simp [rowB, lstAt t4', q1, ofR, SR.tk]
  have lm : l ∈ rs := by rw [el]; exact List.getElem_mem hat
  have R4 : ∀ r ∈ rs, RowOk h4 h0.length r (x.length + 1) 1 := fun r hr => (by
    obtain ⟨u, g1, g2, g3, g4⟩ := (t4 r hr).ex
    have nb := (t4 r hr).nw
    exact ⟨by omega, u, k34.get g1 (by simp; omega), g2, g3, g4⟩)
  obtain ⟨wl, g1, g2, g3, g4⟩ := (R4 l lm).ex
  have lb := (R4 l lm).nw
  have n3 := sumW_len wl
  -- the spot
  obtain ⟨spot, h5, m1, m2, m3, m4⟩ := draw_ok (u := (wl.length : Int)) f3 (by omega) (by omega) (by omega)
  have hsp : spot < wl.length := by omega
  have s4 : spotB [some (.ref p), some (.str x), some (.ref w), some (.ref L), some (.ref l), some (.int way), some (.int at_), none, none, none, none] h4 = .ok .nx [some (.ref p), some (.str x), some (.ref w), some (.ref L), some (.ref l), some (.int way), some (.int at_), some (.int spot), none, none, none] h5 := by
    simp [spotB, lstAt g1, m1, ofR, SR.tk]
  have kp5 : Kp [p] h0 h5 := (k2.any (S := [p])).trans (k34.trans m4 fun _ _ hs => ⟨hs, hs⟩) fun _ _ hs => ⟨hs, hs⟩
  have a5 : BI h0 h5 p w L l at_ spot rs wl (x.length + 1) (c + 1 + 1 + 1) :=
    ⟨m3, pb, kp5, by omega, m4.get t4' (by simp; omega), t2, fun r hr => (R4 r hr).kp m4 pb, hat, by rw [List.getElem?_eq_getElem hat, el], m4.get g1 (by simp; omega), g2, g3, hsp⟩
  -- the word
  have rne : rs ≠ [] := fun z => by rw [z] at hat; simp at hat
  obtain ⟨z1, hz1, h6, o1, o2, o3⟩ := pick_ok (l := L) (L := rs.map D.ref) a5.pen (by omega) a5.at0 (by omega) (by simpa using rne) (by rw [List.length_map]; omega)
  obtain ⟨r1, hr1, rfl⟩ := List.mem_map.mp hz1
  have a6 := a5.drawn o2 o3
  obtain ⟨v, j1, j2, j3, j4⟩ := (a6.row r1 hr1).ex
  have r1b := (a6.row r1 hr1).nw
  have nv := sumW_len v
  obtain ⟨z2, hz2, h7, u1, u2, u3⟩ := pick_ok (l := r1) (L := v.map D.str) a6.pen (by omega) j1 (by omega) (fun z => by have := congrArg List.length z; simp at this; rw [this] at j4; simp at j4) (by rw [List.length_map]; omega)
  obtain ⟨y2, hy2, rfl⟩ := List.mem_map.mp hz2
  have a7 := a6.drawn u2 u3
  have qs : atI (wl.map D.str) (spot : Int) = some (.str wl[spot]) := by rw [Mp.atI_nat, List.getElem?_map, List.getElem?_eq_getElem hsp]; rfl
  obtain ⟨h8, e8⟩ : ∃ h8, h8 = h7 ++ [O.lst [.str wl[spot], .str y2]] := ⟨_, rfl⟩
  have k8 : Kp [] h7 h8 := by rw [e8]; exact Kp.refl.push
  have n8 : h8[h7.length]? = some (.lst [.str wl[spot], .str y2]) := by rw [e8]; exact push_new
  have a8 := a7.more k8
  have ew8 : h8[w]? = some (.lst (W.map D.str)) := a8.kp.get ew (by simpa using wp)
  obtain ⟨h9, e9⟩ : ∃ h9, h9 = h8 ++ [O.lst ((W ++ [wl[spot], y2]).map D.str)] := ⟨_, rfl⟩
  have k9 : Kp [] h8 h9 := by rw [e9]; exact Kp.refl.push
  have n9 : h9[h8.length]? = some (.lst ((W ++ [wl[spot], y2]).map D.str)) := by rw [e9]; exact push_new
  have a9 := a8.more k9
  have b8 := a8.base
  obtain ⟨z3, hz3, h10, x1, x2, x3⟩ := pick_ok (l := h8.length) (L := (W ++ [wl[spot], y2]).map D.str) a9.pen (by omega) n9 (by omega) (by simp) (by simp; omega)
  obtain ⟨word, hword, rfl⟩ := List.mem_map.mp hz3
  have a10 := a9.drawn x2 x3
  have wok : okS word ∧ word.length ≤ (x.length + 1) + 20 := by
    rcases List.mem_append.mp hword with q | q
    · have := okW word q
      exact ⟨this.1, by omega⟩
    · simp only [List.mem_cons, List.not_mem_nil, or_false] at q
      rcases q with q | q
      · have m := List.getElem_mem hsp
        have := sumW_mem m
        rw [q]
        exact ⟨g2 _ m, by omega⟩
      · have := sumW_mem hy2
        rw [q]
        exact ⟨j2 _ hy2, by omega⟩
  have s5 : wordB [some (.ref p), some (.str x), some (.ref w), some (.ref L), some (.ref l), some (.int way), some (.int at_), some (.int spot), none, none, none] h5 = .ok .nx (rhoB p w L l x way at_ spot word none) h10 := by
    have ad : gAdd (.ref w) (.ref h7.length) h8 = .ok (.ref h8.length) h9 := by
      unfold gAdd
      dsimp only
      rw [mutAt ew8, mutAt n8]
      dsimp only
      rw [if_pos (by simp; omega), e9]
      simp
    have e8' : h7 ++ [O.lst [.str wl[spot], .str y2]] = h8 := e8.symm
    simp [wordB, lstAt a5.lat, qs, o1, u1, e8', ad, x1, ofR, SR.tk]
  obtain ⟨h11, L', o', b1', b2'⟩ := bend_ok (x := x) (way := way) (word := word) (oth := none) a10 wok.1 wok.2 (by omega) (by omega)
  obtain ⟨y, h12, y1, y2', y3, y4⟩ := tab_text (ρ := rhoB p w L' l x way at_ spot word o') (k := 10) (v := 3) b2'.tab (by simp) rfl rfl (by
    have : (2 * (x.length + 1) + 2) * (3 * (x.length + 1) + 40 + 1) ≤ (2 * 381 + 2) * (3 * 381 + 40 + 1) := Nat.mul_le_mul (by omega) (by omega)
    omega) (by omega) (by omega)
  refine ⟨y, h12, ?_, (b2'.pen.kp y2').up (by omega), b2'.kp.trans y2' fun _ _ hs => ⟨hs, by simp⟩, y3, ?_⟩
  · unfold F__law_bent_text
    rw [s_bt]
    refine (mk_go (ρ' := ρ0) rfl (by rw [eρ]; rfl)).trans ?_
    rw [es_seq, s1, thn_nx, es_seq, s2, thn_nx, es_seq, s3, thn_nx, es_seq, s4, thn_nx, es_seq, s5, thn_nx, es_seq, b1', thn_nx]
    unfold retB
    rw [es_ret, y1]
    rfl
  · have : (2 * (x.length + 1) + 2) * (3 * (x.length + 1) + 40 + 1) ≤ (2 * 381 + 2) * (3 * 381 + 40 + 1) := Nat.mul_le_mul (by omega) (by omega)
    omega
end W86
set_option Elab.async false
set_option linter.all false
set_option maxRecDepth 100000
set_option maxHeartbeats 4000000
namespace W86
open PySem Mp TL
open L2 (cutS atI ixN)

theorem Pen.ge {h : MH} {p c n : Nat} {o : O} (P : Pen h p c) (hn : p < n) : Pen (h.set n o) p c := by
  obtain ⟨s, ns, k, r, h1, h2, h3, h4⟩ := P.ex
  exact ⟨s, ns, k, r, set_old h1 (by omega), set_old h2 (by omega), h3, h4⟩
/-! ### a drawn grouping -/
def names8 : List Str := ["a", "b1", "c", "dock", "e", "f7", "gate", "hull"]
theorem names8_ok : ∀ x ∈ names8, okS x ∧ x.length ≤ 4 := by
  intro x hx
  simp only [names8, List.mem_cons, List.not_mem_nil, or_false] at hx
  rcases hx with z | z | z | z | z | z | z | z <;> subst z <;> exact ⟨okS_lit (by decide), by decide⟩
structure GRow (h : MH) (b r j : Nat) : Prop where
  nw : b ≤ r
  ex : ∃ w : List Str, h[r]? = some (.lst (w.map D.str)) ∧ (∀ x ∈ w, x ∈ names8) ∧ w.length ≤ j
theorem GRow.kp {h h' : MH} {b r j p : Nat} (a : GRow h b r j) (k : Kp [p] h h') (hp : p < b) : GRow h' b r j := by
  obtain ⟨w, e, f⟩ := a.ex
  have := a.nw
  exact ⟨a.nw, w, k.get e (by simp; omega), f⟩
theorem GRow.up {h : MH} {b r j j' : Nat} (a : GRow h b r j) (hj : j ≤ j') : GRow h b r j' := by
  obtain ⟨w, e, f1, f2⟩ := a.ex
  exact ⟨a.nw, w, e, f1, by omega⟩
structure GrI (h0 h : MH) (p g n0 : Nat) (N : List D) (rs : List Nat) (j c : Nat) : Prop where
  pen : Pen h p c
  pb : p < h0.length
  kp : Kp [p] h0 h
  gb : h0.length ≤ g
  at_ : h[g]? = some (.lst (rs.map D.ref))
  src : h[n0]? = some (.lst N)
  nn : n0 ≠ g ∧ n0 ∉ rs ∧ n0 ≠ p
  len : rs.length ≤ max 1 j
  row : ∀ r ∈ rs, GRow h h0.length r j
  full : (rs ≠ [] ∧ ∀ r ∈ rs, h[r]? ≠ some (.lst [])) ∨ (j = 0 ∧ ∃ r0, rs = [r0])
section
variable {h0 h : MH} {p g n0 : Nat} {N : List D} {rs : List Nat} {j c : Nat} {x : Str}
theorem GrI.ne (a : GrI h0 h p g n0 N rs j c) : rs ≠ [] := by
  rcases a.full with ⟨z, _⟩ | ⟨_, r0, z⟩
  · exact z
  · rw [z]; simp
theorem GrI.drawn {h' : MH} {c' : Nat} (a : GrI h0 h p g n0 N rs j c) (P : Pen h' p c') (k : Kp [p] h h') : GrI h0 h' p g n0 N rs j c' := by
  have pb := a.pb
  have gb := a.gb
  refine ⟨P, a.pb, a.kp.trans k fun _ _ hs => ⟨hs, hs⟩, a.gb, k.get a.at_ (by simp; omega), k.get a.src (by simpa using a.nn.2.2), a.nn, a.len, fun r hr => (a.row r hr).kp k a.pb, ?_⟩
  rcases a.full with ⟨z, y⟩ | z
  · refine .inl ⟨z, fun r hr => ?_⟩
    obtain ⟨w, e, f⟩ := (a.row r hr).ex
    have nb := (a.row r hr).nw
    rw [k.get e (by simp; omega), ← e]
    exact y r hr
  · exact .inr z
theorem GrI.more {h' : MH} (a : GrI h0 h p g n0 N rs j c) (k : Kp [] h h') : GrI h0 h' p g n0 N rs j c := a.drawn (a.pen.kp k) k.any
theorem GrI.rg (a : GrI h0 h p g n0 N rs j c) {r : Nat} (hr : r ∈ rs) : r ≠ g := fun e => by
  obtain ⟨w, e1, f⟩ := (a.row r hr).ex
  rw [e, a.at_] at e1
  cases q : rs with
  | nil => rw [q] at hr; cases hr
  | cons r0 rs0 =>
    rw [q] at e1
    cases w with
    | nil => simp at e1
    | cons w ws => simp at e1
theorem GrI.addRow (a : GrI h0 h p g n0 N rs j c) {r : Nat} {w : List Str} (hr : r ∈ rs) (e : h[r]? = some (.lst (w.map D.str))) (ok : ∀ y ∈ w, y ∈ names8) (wl : w.length ≤ j) (hx : x ∈ names8) (al : (∀ q ∈ rs, q ≠ r → h[q]? ≠ some (.lst []))) :
    GrI h0 (h.set r (.lst ((w ++ [x]).map D.str))) p g n0 N rs (j + 1) c := by
  have nb := (a.row r hr).nw
  have pb := a.pb
  refine ⟨a.pen.ge (by omega), a.pb, a.kp.set (.inr nb), a.gb, set_old a.at_ (a.rg hr), set_old a.src (fun z => a.nn.2.1 (by rw [← z]; exact hr)), a.nn, by have := a.len; omega, fun q hq => ?_, .inl ⟨a.ne, fun q hq => ?_⟩⟩
  · by_cases z : q = r
    · rw [z]
      refine ⟨nb, w ++ [x], set_new e, fun y hy => ?_, by simp; omega⟩
      rcases List.mem_append.mp hy with hy | hy
      · exact ok y hy
      · rw [List.mem_singleton.mp hy]; exact hx
    · obtain ⟨u, e1, f1, f2⟩ := (a.row q hq).ex
      exact ⟨(a.row q hq).nw, u, set_old e1 (Ne.symm z), f1, by omega⟩
  · by_cases z : q = r
    · rw [z, set_new e]; simp
    · rw [List.getElem?_set_ne (Ne.symm z)]
      exact al q hq z
theorem GrI.addGroup (a : GrI h0 h p g n0 N rs j c) (hx : x ∈ names8) (al : ∀ q ∈ rs, h[q]? ≠ some (.lst [])) (hj : rs.length ≤ j) :
    GrI h0 ((h ++ [O.lst [.str x]]).set g (.lst ((rs ++ [h.length]).map D.ref))) p g n0 N (rs ++ [h.length]) (j + 1) c := by
  have gl := ltOf a.at_
  have a1 := a.more (h' := h ++ [O.lst [.str x]]) Kp.refl.push
  have pb := a.pb
  have gb := a.gb
  have hl := a.kp.le
  refine ⟨a1.pen.ge (by omega), a.pb, a1.kp.set (.inr gb), a.gb, set_new a1.at_, set_old a1.src (Ne.symm a.nn.1), ⟨a.nn.1, fun z => ?_, a.nn.2.2⟩, by simp; omega, fun q hq => ?_, .inl ⟨by simp, fun q hq => ?_⟩⟩
  · rcases List.mem_append.mp z with z | z
    · exact a.nn.2.1 z
    · have := ltOf a.src
      have := List.mem_singleton.mp z
      omega
  · rcases List.mem_append.mp hq with hq | hq
    · obtain ⟨u, e1, f1, f2⟩ := (a1.row q hq).ex
      exact ⟨(a1.row q hq).nw, u, set_old e1 (Ne.symm (a.rg hq)), f1, by omega⟩
    · rw [List.mem_singleton.mp hq]
      refine ⟨hl, [x], set_old push_new (by omega), fun y hy => ?_, by simp⟩
      rw [List.mem_singleton.mp hy]; exact hx
  · rcases List.mem_append.mp hq with hq | hq
    · obtain ⟨u, e1, _⟩ := (a.row q hq).ex
      rw [List.getElem?_set_ne (Ne.symm (a.rg hq)), List.getElem?_append_left (ltOf e1)]
      exact al q hq
    · rw [List.mem_singleton.mp hq, List.getElem?_set_ne (by omega), push_new]
      simp
def drawL : SF := (sAsg (fCall F__law_draw [] (fCons (fVar 0) (fCons (fOp gAdd (fCB gLen (fCons (fVar 1) fNil)) (fC (.int 1))) fNil))) (gN 3))
def testL : EF Bool := (fOr (fB (fOp gEq (fOp gIx (fVar 1) (fC (.int 0))) (fLst fNil))) (fB (fOp gLt (fVar 3) (fCB gLen (fCons (fVar 1) fNil)))))
def app1L : SF := (sExpr (fAppend (fOp gIx (fVar 1) (fCB gMin2 (fCons (fVar 3) (fCons (fOp gSub (fCB gLen (fCons (fVar 1) fNil)) (fC (.int 1))) fNil)))) (fCons (fVar 2) fNil)))
def app2L : SF := (sExpr (fAppend (fVar 1) (fCons (fLst (fCons (fVar 2) fNil)) fNil)))
def bodyL : SF := (sSeq drawL (sIf testL app1L app2L))
abbrev rhoL (p g : Nat) (y2 y3 : Option D) : Mp.Env := [some (.ref p), some (.ref g), y2, y3, none]
theorem names_okS {w : List Str} (h : ∀ x ∈ w, x ∈ names8) : ∀ x ∈ w, okS x := fun x hx => (names8_ok x (h x hx)).1
theorem bodyL_ok (a : GrI h0 h p g n0 N rs j c) {y3 : Option D} (hx : x ∈ names8) (hj : j < 8) (hc : c < 1000000) : ∃ y3' rs' h', bodyL (rhoL p g (some (.str x)) y3) h = .ok .nx (rhoL p g (some (.str x)) y3') h' ∧ GrI h0 h' p g n0 N rs' (j + 1) (c + 1) := by
  have len := a.len
  have hne := a.ne
  have hpos := List.length_pos_iff.mpr hne
  obtain ⟨d, h1, d1, d2, d3, d4⟩ := draw_ok (u := (rs.length : Int) + 1) a.pen hc (by omega) (by omega)
  have a1 := a.drawn d3 d4
  have s1 : drawL (rhoL p g (some (.str x)) y3) h = .ok .nx (rhoL p g (some (.str x)) (some (.int d))) h1 := by
    simp [drawL, lstAt a.at_, d1, ofR, SR.tk]
  obtain ⟨r0, rs0, er⟩ := List.exists_cons_of_ne_nil hne
  have r0m : r0 ∈ rs := by rw [er]; simp
  obtain ⟨w0, e0, f1, f2⟩ := (a1.row r0 r0m).ex
  obtain ⟨h2, e2⟩ : ∃ h2, h2 = h1 ++ [O.lst []] := ⟨_, rfl⟩
  have k2 : Kp [] h1 h2 := by rw [e2]; exact Kp.refl.push
  have a2 := a1.more k2
  have q := nil_eq e0 (names_okS f1)
  rw [← e2] at q
  have e0' := k2.get e0 (by simp)
  have i0 : atI (rs.map D.ref) 0 = some (.ref r0) := by rw [atI_0, er]; rfl
  have bd : bodyL (rhoL p g (some (.str x)) y3) h = sIf testL app1L app2L (rhoL p g (some (.str x)) (some (.int d))) h1 := by
    unfold bodyL
    rw [es_seq, s1, thn_nx]
  rw [bd]
  have la2 := lstAt a2.at_
  -- an append to the row at place i
  have app : ∀ (i r : Nat) (w : List Str), rs[i]? = some r → (if (rs.length : Int) - 1 < d then (rs.length : Int) - 1 else (d : Int)) = (i : Int) → h2[r]? = some (.lst (w.map D.str)) → w.length ≤ 8 → app1L (rhoL p g (some (.str x)) (some (.int d))) h2 = .ok .nx (rhoL p g (some (.str x)) (some (.int d))) (h2.set r (.lst ((w ++ [x]).map D.str))) := fun i r w g1 g2 g3 g4 => by
    have ii : atI (rs.map D.ref) (i : Int) = some (.ref r) := by rw [Mp.atI_nat, List.getElem?_map, g1]; rfl
    simp [app1L, la2, g2, ii, mutAt g3, show w.length < 16777216 by omega, ofR]
  cases c0 : w0.isEmpty with
  | true =>
    rw [c0] at q
    have t : testL (rhoL p g (some (.str x)) (some (.int d))) h1 = .ok true h2 := by
      simp [testL, lstAt a1.at_, i0, ← e2, q]
    have w0e : w0 = [] := List.isEmpty_iff.mp c0
    have j0 : j = 0 ∧ rs = [r0] := by
      rcases a1.full with ⟨_, y⟩ | ⟨y, r', z⟩
      · exact absurd (by rw [e0, w0e]; rfl) (y r0 r0m)
      · refine ⟨y, ?_⟩
        rw [z] at er
        injection er with u1 u2
        rw [z, u1]
    rw [sIf_t t]
    have l1 : rs.length = 1 := by rw [j0.2]; rfl
    refine ⟨_, rs, _, app 0 r0 w0 (by rw [er]; rfl) (by rw [l1]; split <;> omega) e0' (by omega), a2.addRow r0m e0' f1 f2 hx fun q' hq' hne' => ?_⟩
    rw [j0.2] at hq'
    exact absurd (List.mem_singleton.mp hq') hne'
  | false =>
    rw [c0] at q
    have al : ∀ q' ∈ rs, h2[q']? ≠ some (.lst []) := by
      rcases a2.full with ⟨_, y⟩ | ⟨y, r', z⟩
      · exact y
      · rw [y] at f2
        have : w0 = [] := List.eq_nil_of_length_eq_zero (by omega)
        rw [this] at c0
        cases c0
    have hlj : rs.length ≤ j ∨ j = 0 := by omega
    have hj1 : rs.length ≤ j := by
      rcases hlj with z | z
      · exact z
      · rw [z] at f2
        have : w0 = [] := List.eq_nil_of_length_eq_zero (by omega)
        rw [this] at c0
        cases c0
    by_cases cd : d < rs.length
    · have t : testL (rhoL p g (some (.str x)) (some (.int d))) h1 = .ok true h2 := by
        simp [testL, lstAt a1.at_, i0, ← e2, q, la2, cd]
      rw [sIf_t t]
      have rm := List.getElem_mem cd
      obtain ⟨w, u1, u2, u3⟩ := (a2.row _ rm).ex
      exact ⟨_, rs, _, app d rs[d] w (List.getElem?_eq_getElem cd) (by split <;> omega) u1 (by omega), a2.addRow rm u1 u2 u3 hx fun q' hq' _ => al q' hq'⟩
    · have t : testL (rhoL p g (some (.str x)) (some (.int d))) h1 = .ok false h2 := by
        simp [testL, lstAt a1.at_, i0, ← e2, q, la2, cd]
      rw [sIf_f t]
      refine ⟨some (.int d), _, _, ?_, a2.addGroup hx al hj1⟩
      have m3 : mutOf (h2 ++ [O.lst [D.str x]]) g = some (rs.map D.ref) := mutAt (push_old a2.at_)
      simp [app2L, mutAt a2.at_, m3, show rs.length < 16777216 by omega, ofR]
end
theorem list_of {P : Nat → List Str → Prop} : ∀ {rs : List Nat}, (∀ r ∈ rs, ∃ w, P r w) → ∃ ws : List (List Str), ws.length = rs.length ∧ ∀ (j r : Nat) (w : List Str), rs[j]? = some r → ws[j]? = some w → P r w
  | [], _ => ⟨[], rfl, fun j r w h => by simp at h⟩
  | r :: rs, q => by
    obtain ⟨w, hw⟩ := q r List.mem_cons_self
    obtain ⟨ws, h1, h2⟩ := list_of (P := P) (rs := rs) fun s hs => q s (List.mem_cons_of_mem _ hs)
    refine ⟨w :: ws, by simp [h1], fun j r' w' e1 e2 => ?_⟩
    cases j with
    | zero => simp at e1 e2; rw [← e1, ← e2]; exact hw
    | succ j => simp at e1 e2; exact h2 j r' w' e1 e2
theorem s_gr : s__law_grouping = (sSeq (sAsg (fLst (fCons (fLst fNil) fNil)) (gN 1))
  (sSeq (sFor (fSrc (fSl (fLst (fCons (fC (.str "a")) (fCons (fC (.str "b1")) (fCons (fC (.str "c")) (fCons (fC (.str "dock")) (fCons (fC (.str "e")) (fCons (fC (.str "f7")) (fCons (fC (.str "gate")) (fCons (fC (.str "hull")) fNil))))))))) fNoP (fPart (fOp gAdd (fC (.int 1)) (fCall F__law_draw [] (fCons (fVar 0) (fCons (fC (.int 8)) fNil))))))) (gN 2) bodyL FU)
  (sRet (fCB gTuple (fCons (fCB gSorted (fCons (fComp (fSrc (fVar 1)) (.nm 4) fYes (fCB gTuple (fCons (fVar 4) fNil)) FU) fNil)) fNil))))) := rfl
structure GrOk (gs : List (List Str)) : Prop where
  len : gs.length ≤ 8
  each : ∀ g ∈ gs, g.length ≤ 8 ∧ ∀ x ∈ g, x ∈ names8
theorem toP_tup (l : List D) : toP (.tup l) = .tuple (toPs l) := by unfold toP; rfl
theorem grouping_ok {h0 : MH} {p c : Nat} (P : Pen h0 p c) (hc : c < 900000) : ∃ gs h', F__law_grouping [.ref p] h0 = .ok (GD gs) h' ∧ Pen h' p (c + 9) ∧ Kp [p] h0 h' ∧ GrOk gs := by
  have pb := P.lt
  obtain ⟨h2, e2⟩ : ∃ h2, h2 = (h0 ++ [O.lst []]) ++ [O.lst [D.ref h0.length]] := ⟨_, rfl⟩
  have k2 : Kp [] h0 h2 := by rw [e2]; exact Kp.refl.push.push
  have r0 : h2[h0.length]? = some (.lst []) := by rw [e2]; exact push_old push_new
  have g0 : h2[h0.length + 1]? = some (.lst [D.ref h0.length]) := by
    have : h2[(h0 ++ [O.lst []]).length]? = some (.lst [D.ref h0.length]) := by rw [e2]; exact push_new
    simpa using this
  have l2 : h2.length = h0.length + 2 := by rw [e2]; simp
  obtain ⟨h3, e3⟩ : ∃ h3, h3 = h2 ++ [O.lst (names8.map D.str)] := ⟨_, rfl⟩
  have k3 : Kp [] h2 h3 := by rw [e3]; exact Kp.refl.push
  have n3 : h3[h2.length]? = some (.lst (names8.map D.str)) := by rw [e3]; exact push_new
  have P3 := (P.kp k2).kp k3
  obtain ⟨d, h4, d1, d2, d3, d4⟩ := draw_ok (u := 8) P3 (by omega) (by decide) (by decide)
  have n4 := d4.get n3 (by simp; omega)
  obtain ⟨v, c1, c2, c3⟩ := cut_sub (f := D.str) names8 none (some (1 + (d : Int)))
  have vlen : v.length = 1 + d := by
    have := congrArg List.length c1
    rw [List.length_map] at this
    rw [← this]
    unfold cutD
    rw [List.length_take, List.length_drop, List.length_map]
    simp only [HT.sIx]
    show min (min (1 + (d : Int)).toNat 8 - min (0 : Int).toNat 8) (8 - min (0 : Int).toNat 8) = 1 + d
    simp
    omega
  obtain ⟨h5, e5⟩ : ∃ h5, h5 = h4 ++ [O.lst (v.map D.str)] := ⟨_, rfl⟩
  have k5 : Kp [] h4 h5 := by rw [e5]; exact Kp.refl.push
  have n5 : h5[h4.length]? = some (.lst (v.map D.str)) := by rw [e5]; exact push_new
  have k05 : Kp [p] h0 h5 := ((k2.trans k3 fun _ _ hs => ⟨hs, hs⟩).any (S := [p])).trans (d4.trans k5 fun _ _ hs => ⟨hs, by simp⟩ : Kp [p] h3 h5) fun _ _ hs => ⟨hs, hs⟩
  have k25 : Kp [p] h2 h5 := (k3.any (S := [p])).trans (d4.trans k5 fun _ _ hs => ⟨hs, by simp⟩ : Kp [p] h3 h5) fun _ _ hs => ⟨hs, hs⟩
  have l4 := d4.le
  have l3 := k3.le
  have a0 : GrI h0 h5 p (h0.length + 1) h4.length (v.map D.str) [h0.length] 0 (c + 1) :=
    ⟨d3.kp k5, pb, k05, by omega, k25.get g0 (by simp; omega), n5, ⟨by omega, by simp; omega, by omega⟩, by simp, fun r hr => by
      rw [List.mem_singleton.mp hr]
      exact ⟨Nat.le_refl _, [], k25.get r0 (by simp; omega), by simp, by simp⟩, .inr ⟨rfl, h0.length, rfl⟩⟩
  obtain ⟨ρ6, h6, f1, y2, y3, rs, f2, f3⟩ := for_inv (src := srcL h4.length) (k := 2) (n := FU) (N := v.length) (s := bodyL) (ρ := rhoL p (h0.length + 1) none none) (h := h5) (item := fun j => .str (v.getD j ""))
    (fun j ρ h => ∃ y2 y3 rs, ρ = rhoL p (h0.length + 1) y2 y3 ∧ GrI h0 h p (h0.length + 1) h4.length (v.map D.str) rs j (c + 1 + j)) (FU_big (by omega))
    (fun j ρ h ⟨y2, y3, rs, q1, q2⟩ hj => by
      unfold srcL
      rw [lstAt q2.src]
      dsimp only
      rw [List.getElem?_map]
      by_cases z : j < v.length
      · rw [if_pos z, List.getElem?_eq_getElem z, List.getD_eq_getElem?_getD, List.getElem?_eq_getElem z]; rfl
      · rw [if_neg z, List.getElem?_eq_none (by omega)]; rfl)
    (fun j ρ h ⟨y2, y3, rs, q1, q2⟩ hj => by
      have xm : v.getD j "" ∈ names8 := c2 _ (by rw [List.getD_eq_getElem?_getD, List.getElem?_eq_getElem hj]; exact List.getElem_mem hj)
      obtain ⟨y3', rs', h', b1, b2⟩ := bodyL_ok (x := v.getD j "") (y3 := y3) q2 xm (by omega) (by omega)
      refine ⟨rhoL p (h0.length + 1) (some (.str (v.getD j ""))) y3', h', ?_, some (.str (v.getD j "")), y3', rs', rfl, b2⟩
      rw [q1]
      exact b1) ⟨none, none, [h0.length], rfl, a0⟩
  have hv : 0 < v.length := by omega
  have fl : rs ≠ [] ∧ ∀ r ∈ rs, h6[r]? ≠ some (.lst []) := by
    rcases f3.full with z | ⟨z, _⟩
    · exact z
    · omega
  have rlen := f3.len
  obtain ⟨gs, m1, m2⟩ := list_of (P := fun r w => h6[r]? = some (.lst (w.map D.str)) ∧ (∀ x ∈ w, x ∈ names8) ∧ w.length ≤ v.length) (rs := rs) fun r hr => (f3.row r hr).ex
  have tp := tups_ok (k := 4) (ρ := rhoL p (h0.length + 1) y2 y3) (gs := gs) (by simp) f3.at_ m1.symm (by omega) fun j r w e1 e2 => (m2 j r w e1 e2).1
  have gse : ∀ g ∈ gs, g ≠ [] ∧ g.length ≤ 8 ∧ ∀ x ∈ g, x ∈ names8 := fun g hg => by
    obtain ⟨j, hj⟩ := List.getElem?_of_mem hg
    have hjl : j < rs.length := by have := (List.getElem?_eq_some_iff.mp hj).1; omega
    obtain ⟨u1, u2, u3⟩ := m2 j rs[j] g (List.getElem?_eq_getElem hjl) hj
    refine ⟨fun z => ?_, by omega, u2⟩
    rw [z] at u1
    exact fl.2 _ (List.getElem_mem hjl) u1
  obtain ⟨h7, e7⟩ : ∃ h7, h7 = h6 ++ [O.lst (gs.map fun w => D.tup (w.map D.str))] := ⟨_, rfl⟩
  have n7 : h7[h6.length]? = some (.lst (gs.map fun w => D.tup (w.map D.str))) := by rw [e7]; exact push_new
  have k7 : Kp [] h6 h7 := by rw [e7]; exact Kp.refl.push
  rw [← e7] at tp
  obtain ⟨sm1, sm2⟩ := GD_sm (gs := gs) fun g hg => names_okS (gse g hg).2.2
  have so := sorted_ok (mk := fun w : List Str => D.tup (w.map D.str)) n7 (sms_ok _ sm1).1 (by omega) (fun a _ b _ => by unfold toP PySem.W.alike; exact alike_strs a b) (fun a ha => by
    obtain ⟨w0, ws, ew⟩ := List.exists_cons_of_ne_nil (gse a ha).1
    exact ⟨toP (.str w0), (ws.map D.str).map toP, by rw [ew, toP_tup, toPs_map]; rfl⟩)
  obtain ⟨gs', eg⟩ : ∃ gs', gs' = gs.mergeSort fun a b => !PySem.W.dataLt (toP (D.tup (b.map D.str))) (toP (D.tup (a.map D.str))) := ⟨_, rfl⟩
  rw [← eg] at so
  obtain ⟨h8, e8⟩ : ∃ h8, h8 = h7 ++ [O.lst (gs'.map fun w => D.tup (w.map D.str))] := ⟨_, rfl⟩
  rw [← e8] at so
  have n8 : h8[h7.length]? = some (.lst (gs'.map fun w => D.tup (w.map D.str))) := by rw [e8]; exact push_new
  have k8 : Kp [] h6 h8 := by rw [e8]; exact k7.push
  refine ⟨gs', h8, ?_, (f3.pen.kp k8).up (by omega), f3.kp.trans k8 fun _ _ hs => ⟨hs, by simp⟩, ?_, fun g hg => ?_⟩
  · unfold F__law_grouping
    rw [s_gr]
    refine (mk_go (ρ' := [some (.ref p), none, none, none, none]) rfl rfl).trans ?_
    have s1 : sAsg (fLst (fCons (fLst fNil) fNil)) (gN 1) [some (.ref p), none, none, none, none] h0 = .ok .nx (rhoL p (h0.length + 1) none none) h2 := by
      simp [ofR, SR.tk, e2]
    rw [es_seq, s1, thn_nx, es_seq]
    have s2 : fSrc (fSl (fLst (fCons (fC (.str "a")) (fCons (fC (.str "b1")) (fCons (fC (.str "c")) (fCons (fC (.str "dock")) (fCons (fC (.str "e")) (fCons (fC (.str "f7")) (fCons (fC (.str "gate")) (fCons (fC (.str "hull")) fNil))))))))) fNoP (fPart (fOp gAdd (fC (.int 1)) (fCall F__law_draw [] (fCons (fVar 0) (fCons (fC (.int 8)) fNil)))))) (rhoL p (h0.length + 1) none none) h2 = .ok (srcL h4.length) h5 := by
      have ls : fLst (fCons (fC (.str "a")) (fCons (fC (.str "b1")) (fCons (fC (.str "c")) (fCons (fC (.str "dock")) (fCons (fC (.str "e")) (fCons (fC (.str "f7")) (fCons (fC (.str "gate")) (fCons (fC (.str "hull")) fNil)))))))) (rhoL p (h0.length + 1) none none) h2 = .ok (.ref h2.length) h3 := by
        rw [e3]
        simp [names8]
      have sl : gSl (.ref h2.length) none (some (1 + (d : Int))) h4 = .ok (.ref h4.length) h5 := by
        unfold gSl
        dsimp only
        rw [lstAt n4]
        dsimp only
        rw [c1, e5]
      rw [ev_src, ev_sl, ls]
      simp [d1, sl, src_ref n5]
    have s3 : sFor (fSrc (fSl (fLst (fCons (fC (.str "a")) (fCons (fC (.str "b1")) (fCons (fC (.str "c")) (fCons (fC (.str "dock")) (fCons (fC (.str "e")) (fCons (fC (.str "f7")) (fCons (fC (.str "gate")) (fCons (fC (.str "hull")) fNil))))))))) fNoP (fPart (fOp gAdd (fC (.int 1)) (fCall F__law_draw [] (fCons (fVar 0) (fCons (fC (.int 8)) fNil))))))) (gN 2) bodyL FU (rhoL p (h0.length + 1) none none) h2 = .ok .nx ρ6 h6 := by
      rw [es_for, s2]
      simp only [ofR, kFor_eq]
      exact f1
    rw [s3, thn_nx, f2]
    have cc : fComp (fSrc (fVar 1)) (.nm 4) fYes (fCB gTuple (fCons (fVar 4) fNil)) FU (rhoL p (h0.length + 1) y2 y3) h6 = .ok (.ref h6.length) h7 := by
      rw [ev_comp, ev_src, show fVar 1 (rhoL p (h0.length + 1) y2 y3) h6 = .ok (.ref (h0.length + 1)) h6 from rfl]
      simp only [R.bind_ok, kSrc1_eq, src_ref f3.at_, opt_some, kSrc2_eq, kCo_eq]
      rw [show wipeE (rhoL p (h0.length + 1) y2 y3) (tgV (.nm 4)) = rhoL p (h0.length + 1) y2 y3 from rfl, tp]
    rw [es_ret, ev_cb, ev_cons, ev_cb, ev_cons, cc]
    simp [so, gTuple, itemsOf, lstAt n8, ofR, GD]
  · rw [eg, List.length_mergeSort]; omega
  · rw [eg] at hg
    have := gse g (List.mem_mergeSort.mp hg)
    exact this.2
end W86
set_option Elab.async false
set_option linter.all false
set_option maxRecDepth 100000
set_option maxHeartbeats 4000000
namespace W86
open PySem Mp TL
open L2 (cutS atI ixN)

/-! ### drawn offers -/
/-- a pick from a display -/
theorem pickL {ρ : Mp.Env} {i : Nat} {fs : EF (List D)} {ds : List D} {h h1 : MH} {p c : Nat} (hp : ∀ hh, fVar i ρ hh = .ok (.ref p) hh) (e : fs ρ h = .ok ds h1) (P : Pen h1 p c) (hc : c < 1000000) (ne : ds ≠ []) (le : ds.length ≤ 100) :
    ∃ y ∈ ds, ∃ h', fCall F__law_pick [] (fCons (fVar i) (fCons (fLst fs) fNil)) ρ h = .ok y h' ∧ Pen h' p (c + 1) ∧ Kp [p] h1 h' := by
  obtain ⟨h2, e2⟩ : ∃ h2, h2 = h1 ++ [O.lst ds] := ⟨_, rfl⟩
  have k2 : Kp [] h1 h2 := by rw [e2]; exact Kp.refl.push
  have n2 : h2[h1.length]? = some (.lst ds) := by rw [e2]; exact push_new
  have pl := P.lt
  obtain ⟨y, hy, h3, p1, p2, p3⟩ := pick_ok (l := h1.length) (P.kp k2) hc n2 (by omega) ne (by omega)
  refine ⟨y, hy, h3, ?_, p2, k2.trans p3 fun n hn hs => ⟨by simp, hs⟩⟩
  have l : fLst fs ρ h = .ok (.ref h1.length) h2 := by
    rw [ev_lst, e]
    simp [show ds.length ≤ 16777216 by omega, e2]
  rw [ev_call, ev_cons, hp]
  simp only [R.bind_ok, kC1_eq]
  rw [ev_cons, l]
  simp only [R.bind_ok, kC1_eq, ev_nil, kC2_eq, kCall_eq, List.append_nil, p1]
/-- what is drawn -/
structure OfOk (o : Of) : Prop where
  ok : okO o
  lo : o.o.length ≤ 7
  la : o.a.length ≤ 1
  lb : o.b.length ≤ 5
  p : 0 ≤ o.p ∧ o.p ≤ 1000000
def rowX : SF := (sExpr (fAppend (fVar 2) (fCons (fTup (fCons (fOp gAdd (fCall F__law_pick [] (fCons (fVar 0) (fCons (fLst (fCons (fC (.str "o")) (fCons (fC (.str "p")) (fCons (fC (.str "offer")) fNil)))) fNil))) (fCB gStr (fCons (fOp gAdd (fC (.int 10)) (fVar 3)) fNil))) (fCons (fCall F__law_pick [] (fCons (fVar 0) (fCons (fLst (fCons (fC (.str "a")) (fCons (fC (.str "b")) fNil))) fNil))) (fCons (fCall F__law_pick [] (fCons (fVar 0) (fCons (fLst (fCons (fC (.str "c")) (fCons (fC (.str "offer")) fNil))) fNil))) (fCons (fCall F__law_pick [] (fCons (fVar 0) (fCons (fLst (fCons (fC (.int 0)) (fCons (fC (.int 7)) (fCons (fOp gPow (fC (.int 10)) (fC (.int 6))) (fCons (fCall F__law_draw [] (fCons (fVar 0) (fCons (fOp gPow (fC (.int 10)) (fC (.int 6))) fNil))) (fCons (fC (.int 12)) fNil)))))) fNil))) fNil))))) fNil)))
abbrev rhoX (p r2 : Nat) (g : D) (t3 : Option D) : Mp.Env := [some (.ref p), some g, some (.ref r2), t3, none, none, none, none, none, none, none, none, none]
theorem nS2 {j : Nat} (hj : j < 20) : okS (nS (10 + (j : Int))) ∧ (nS (10 + (j : Int))).length ≤ 2 := ⟨PySem.W.KSb.asc_num _, PyProof.Rows.toString_length_le (by omega) (by decide) (by omega)⟩
theorem nS_okS (i : Int) : okS (nS i) := PySem.W.KSb.asc_num i
theorem rowX_ok {h : MH} {p c r2 j : Nat} {g : D} {os : List Of} (P : Pen h p c) (hc : c < 900000) (hp : p < r2) (e : h[r2]? = some (.lst (os.map OD))) (hj : j < 20) (hl : os.length ≤ 20) : ∃ o h', rowX (rhoX p r2 g (some (.int j))) h = .ok .nx (rhoX p r2 g (some (.int j))) h' ∧ Pen h' p (c + 5) ∧ h'[r2]? = some (.lst ((os ++ [o]).map OD)) ∧ OfOk o := by
  have hv : ∀ hh, fVar 0 (rhoX p r2 g (some (.int j))) hh = .ok (.ref p) hh := fun _ => rfl
  obtain ⟨y1, m1, h1, a1, a2, a3⟩ := pickL (ρ := rhoX p r2 g (some (.int j))) (i := 0) (fs := (fCons (fC (.str "o")) (fCons (fC (.str "p")) (fCons (fC (.str "offer")) fNil)))) (ds := [.str "o", .str "p", .str "offer"]) (h := h) (h1 := h) hv (by simp) P (by omega) (by simp) (by simp)
  obtain ⟨y2, m2, h2, b1, b2, b3⟩ := pickL (ρ := rhoX p r2 g (some (.int j))) (i := 0) (fs := (fCons (fC (.str "a")) (fCons (fC (.str "b")) fNil))) (ds := [.str "a", .str "b"]) (h := h1) (h1 := h1) hv (by simp) a2 (by omega) (by simp) (by simp)
  obtain ⟨y3, m3, h3, c1, c2, c3⟩ := pickL (ρ := rhoX p r2 g (some (.int j))) (i := 0) (fs := (fCons (fC (.str "c")) (fCons (fC (.str "offer")) fNil))) (ds := [.str "c", .str "offer"]) (h := h2) (h1 := h2) hv (by simp) b2 (by omega) (by simp) (by simp)
  obtain ⟨d, h4, d1, d2, d3, d4⟩ := draw_ok (u := 1000000) c2 (by omega) (by decide) (by decide)
  obtain ⟨y5, m5, h5, f1, f2, f3⟩ := pickL (ρ := rhoX p r2 g (some (.int j))) (i := 0) (fs := (fCons (fC (.int 0)) (fCons (fC (.int 7)) (fCons (fOp gPow (fC (.int 10)) (fC (.int 6))) (fCons (fCall F__law_draw [] (fCons (fVar 0) (fCons (fOp gPow (fC (.int 10)) (fC (.int 6))) fNil))) (fCons (fC (.int 12)) fNil)))))) (ds := [.int 0, .int 7, .int 1000000, .int d, .int 12]) (h := h3) (h1 := h4) hv (by simp [d1]) d3 (by omega) (by simp) (by simp)
  obtain ⟨n1, e1, o1, l1⟩ : ∃ s, y1 = .str s ∧ okS s ∧ s.length ≤ 5 := by
    simp only [List.mem_cons, List.not_mem_nil, or_false] at m1
    rcases m1 with z | z | z <;> exact ⟨_, z, okS_lit (by decide), by decide⟩
  obtain ⟨n2, e2, o2, l2⟩ : ∃ s, y2 = .str s ∧ okS s ∧ s.length ≤ 1 := by
    simp only [List.mem_cons, List.not_mem_nil, or_false] at m2
    rcases m2 with z | z <;> exact ⟨_, z, okS_lit (by decide), by decide⟩
  obtain ⟨n3, e3, o3, l3⟩ : ∃ s, y3 = .str s ∧ okS s ∧ s.length ≤ 5 := by
    simp only [List.mem_cons, List.not_mem_nil, or_false] at m3
    rcases m3 with z | z <;> exact ⟨_, z, okS_lit (by decide), by decide⟩
  obtain ⟨n5, e5, l5⟩ : ∃ i, y5 = .int i ∧ 0 ≤ i ∧ i ≤ 1000000 := by
    simp only [List.mem_cons, List.not_mem_nil, or_false] at m5
    rcases m5 with z | z | z | z | z
    · exact ⟨_, z, by decide, by decide⟩
    · exact ⟨_, z, by decide, by decide⟩
    · exact ⟨_, z, by decide, by decide⟩
    · exact ⟨_, z, by omega, by omega⟩
    · exact ⟨_, z, by decide, by decide⟩
  subst e1 e2 e3 e5
  obtain ⟨t1, t2⟩ := nS2 hj
  have kk : Kp [p] h h5 := a3.trans (b3.trans (c3.trans (d4.trans f3 fun _ _ hs => ⟨hs, hs⟩) fun _ _ hs => ⟨hs, hs⟩) fun _ _ hs => ⟨hs, hs⟩) fun _ _ hs => ⟨hs, hs⟩
  have e5 := kk.get e (by simp; omega)
  have st : ∀ hh, gStr [.int (10 + (j : Int))] hh = .ok (.str (nS (10 + (j : Int)))) hh := fun hh => by
    unfold gStr
    dsimp only
    rw [if_pos (by have := log2_small (n := (10 + (j : Int)).natAbs) (by omega); omega)]
    rfl
  have ad : ∀ hh, gAdd (.str n1) (.str (nS (10 + (j : Int)))) hh = .ok (.str (n1 ++ nS (10 + (j : Int)))) hh := fun hh => add_str (by omega)
  refine ⟨⟨n1 ++ nS (10 + (j : Int)), n2, n3, n5⟩, h5.set r2 (.lst ((os ++ [Of.mk (n1 ++ nS (10 + (j : Int))) n2 n3 n5]).map OD)), ?_, (f2.ge hp).up (by omega), set_new e5, ⟨⟨okS_app o1 t1, o2, o3⟩, by show (n1 ++ nS (10 + (j : Int))).length ≤ 7; rw [Str.length_append]; omega, l2, l3, l5⟩⟩
  unfold rowX
  rw [es_expr, ev_append]
  rw [show fVar 2 (rhoX p r2 g (some (.int j))) h = .ok (.ref r2) h from rfl]
  simp only [R.bind_ok, kAp1_eq, mutAt e, opt_some, kAp2_eq]
  rw [ev_cons, ev_tup, ev_cons, ev_op, a1]
  simp only [R.bind_ok, kOp_eq, ev_cb, ev_cons, ev_op, ev_c, kC1_eq, ev_nil, kC2_eq]
  rw [show fVar 3 (rhoX p r2 g (some (.int j))) h1 = .ok (.int j) h1 from rfl]
  simp only [R.bind_ok, add_int, kC1_eq, ev_nil, kC2_eq, st, ad]
  rw [ev_cons, b1]
  simp only [R.bind_ok, kC1_eq]
  rw [ev_cons, c1]
  simp only [R.bind_ok, kC1_eq]
  rw [ev_cons, f1]
  simp [mutAt e5, show os.length < 16777216 by omega, ofR, OD]
end W86
set_option Elab.async false
set_option linter.all false
set_option maxRecDepth 100000
set_option maxHeartbeats 4000000
namespace W86
open PySem Mp TL
open L2 (cutS atI ixN)

abbrev rhoY (p r2 : Nat) (g : D) (t3 y4 y6 : Option D) : Mp.Env := [some (.ref p), some g, some (.ref r2), t3, y4, none, y6, none, none, none, none, none, none]
section
variable {h : MH} {p r2 : Nat} {gs : List (List Str)} {os : List Of} {t3 y4 y6 : Option D}
def textX : EF D := (fM1 gJoin (fC (.str " / ")) (fComp (fSrc (fVar 1)) (.nm 5) fYes (fM1 gJoin (fC (.str " ")) (fVar 5)) FU))
theorem textX_ok (sz : GSz gs) : ∃ h', textX (rhoY p r2 (GD gs) t3 y4 y6) h = .ok (.str (GT gs)) h' ∧ Kp [] h h' := by
  have := rows_join (ρ := rhoY p r2 (GD gs) t3 y4 y6) (k := 5) (fa := fVar 1) (GD_rows (gs := gs) (h := h)) (by simpa using sz) (by simp) rfl rfl
  rw [List.map_id] at this
  exact this
def lineX : EF D := (fM1 gJoin (fC (.str " ")) (fLst (fCons (fC (.str "offer")) (fCons (fOp gIx (fVar 7) (fC (.int 0))) (fCons (fOp gIx (fVar 7) (fC (.int 1))) (fCons (fOp gIx (fVar 7) (fC (.int 2))) (fCons (fCB gStr (fCons (fOp gIx (fVar 7) (fC (.int 3))) fNil)) fNil)))))))
def linesX : EF D := (fM1 gJoin (fC (.str "\n")) (fComp (fSrc (fCB gSorted (fCons (fVar 2) fNil))) (.nm 7) fYes lineX FU))
theorem linesX_ok (e : h[r2]? = some (.lst (os.map OD))) (ok : ∀ o ∈ os, okO o) (z : OSz os) : ∃ h', linesX (rhoY p r2 (GD gs) t3 y4 y6) h = .ok (.str (OT (sortOs os))) h' ∧ Kp [] h h' := by
  have so := sortedO_ok e ok
  obtain ⟨h1, e1⟩ : ∃ h1, h1 = h ++ [O.lst ((sortOs os).map OD)] := ⟨_, rfl⟩
  rw [← e1] at so
  have n1 : h1[h.length]? = some (.lst ((sortOs os).map OD)) := by rw [e1]; exact push_new
  have k1 : Kp [] h h1 := by rw [e1]; exact Kp.refl.push
  have zs := z.sort
  have zl := zs.len
  obtain ⟨h2, c1, c2⟩ := comp_val (src := srcL h.length) (k := 7) (n := FU) (fe := lineX) (ρ := rhoY p r2 (GD gs) t3 y4 y6) (h0 := h1) (items := sortOs os) (mk := OD) (f := fun o => .str (oT o)) (FU_big (by omega)) (by omega)
    (fun j h' k => by rw [srcL_at n1 k j, List.getElem?_map]) (fun o ho h' k => by
      have l := nS_small (zs.p o ho)
      have st : ∀ hh, gStr [.int o.p] hh = .ok (.str (nS o.p)) hh := fun hh => by
        unfold gStr
        dsimp only
        rw [if_pos l]
        rfl
      refine ⟨h' ++ [.lst ((rowO o).map D.str)], ?_, Kp.refl.push⟩
      have v7 : ∀ hh, fVar 7 ((rhoY p r2 (GD gs) t3 y4 y6).set 7 (some (OD o))) hh = .ok (OD o) hh := fun _ => rfl
      have fl : fLst (fCons (fC (.str "offer")) (fCons (fOp gIx (fVar 7) (fC (.int 0))) (fCons (fOp gIx (fVar 7) (fC (.int 1))) (fCons (fOp gIx (fVar 7) (fC (.int 2))) (fCons (fCB gStr (fCons (fOp gIx (fVar 7) (fC (.int 3))) fNil)) fNil))))) ((rhoY p r2 (GD gs) t3 y4 y6).set 7 (some (OD o))) h' = .ok (.ref h'.length) (h' ++ [.lst ((rowO o).map D.str)]) := by
        simp [OD, st, rowO]
      unfold lineX
      rw [ev_m1, ev_c, bl_eq]
      simp only [R.bind_ok, kM1_eq]
      rw [fl]
      simp only [R.bind_ok]
      refine (join_ok (s := bl) (ys := rowO o) ?_ ?_).trans rfl
      · show listOf _ _ = _
        rw [lstAt push_new]
      · have := row_len (zs.nm o ho) (zs.p o ho)
        omega)
  refine ⟨h2 ++ [.lst ((sortOs os).map fun o => .str (oT o))], ?_, (k1.trans c2 fun _ _ hs => ⟨hs, hs⟩).push⟩
  unfold linesX
  rw [ev_m1, ev_c, nl_eq]
  simp only [R.bind_ok, kM1_eq]
  rw [ev_comp, ev_src, ev_cb, ev_cons, show fVar 2 (rhoY p r2 (GD gs) t3 y4 y6) h = .ok (.ref r2) h from rfl]
  simp only [R.bind_ok, kC1_eq, ev_nil, kC2_eq, so, kSrc1_eq, src_ref n1, opt_some, kSrc2_eq, kCo_eq]
  rw [show wipeE (rhoY p r2 (GD gs) t3 y4 y6) (tgV (.nm 7)) = rhoY p r2 (GD gs) t3 y4 y6 from rfl, c1]
  simp only [R.bind_ok]
  have em : ((sortOs os).map fun o => D.str (oT o)) = ((sortOs os).map oT).map D.str := by simp
  exact join_ok (s := nl) (ys := (sortOs os).map oT) (by show listOf _ _ = _; rw [lstAt push_new, em]) zs.sum
/-- [list(x) for x in ..]: refs to lists -/
theorem lists_of {ρ : Mp.Env} {k : Nat} {items : List D} {src : Src} (hk : k < ρ.length) (hn : items.length ≤ 1000) (hsrc : ∀ j h', Kp [] h h' → src j h' = some items[j]?) (it : ∀ d ∈ items, ∃ l, d = .tup l) :
    ∃ ys h', compL src (.nm k) fYes (fCB gList (fCons (fVar k) fNil)) ρ FU 0 [] h = .ok (.ref h'.length) (h' ++ [.lst ys]) ∧ Kp [] h h' ∧ ys.length = items.length ∧ ∀ (j : Nat) l, items[j]? = some (.tup l) → ∃ r, ys[j]? = some (.ref r) ∧ h'[r]? = some (.lst l) := by
  obtain ⟨ys, h', e1, e2, e3, e4⟩ := comp_rel (src := src) (k := k) (n := FU) (fe := fCB gList (fCons (fVar k) fNil)) (ρ := ρ) (h0 := h) (items := items)
    (Rl := fun hh d y => ∃ l r, d = D.tup l ∧ y = D.ref r ∧ hh[r]? = some (.lst l)) (FU_big (by omega)) (by omega) (fun h' j k => hsrc j h' k)
    (fun a b d y kk ⟨l, r, q1, q2, q3⟩ => ⟨l, r, q1, q2, kk.get q3 (by simp)⟩) (fun d hd hh a => by
      obtain ⟨l, rfl⟩ := it d hd
      refine ⟨.ref hh.length, hh ++ [.lst l], ?_, Kp.refl.push, l, hh.length, rfl, rfl, push_new⟩
      rw [ev_cb, ev_cons, fVar_set hk]
      simp [gList, itemsOf])
  refine ⟨ys, h', e1, e2, e3, fun j l hj => ?_⟩
  obtain ⟨y, q1, l', r, q2, q3, q4⟩ := e4 j _ hj
  cases q2
  exact ⟨r, by rw [q1, q3], q4⟩
def chkGX : EF Bool := (fOr (fB (fOp gNe (fCall F_grouping_text [] (fCons (fVar 1) fNil)) (fVar 4))) (fB (fOp gNe (fCall F_grouping_text [] (fCons (fComp (fSrc (fVar 1)) (.nm 5) fYes (fCB gList (fCons (fVar 5) fNil)) FU) fNil)) (fVar 4))))
theorem chkGX_ok (sz : GSz gs) (hn : gs.length ≤ 1000) : ∃ h', chkGX (rhoY p r2 (GD gs) t3 (some (.str (GT gs))) y6) h = .ok false h' ∧ Kp [] h h' := by
  obtain ⟨h1, a1, a2⟩ := grouping_text_ok (h := h) sz
  obtain ⟨ys, h2, b1, b2, b3, b4⟩ := lists_of (h := h1) (ρ := rhoY p r2 (GD gs) t3 (some (.str (GT gs))) y6) (k := 5) (items := gs.map fun w => D.tup (w.map D.str)) (src := srcT (gs.map fun w => D.tup (w.map D.str))) (by simp) (by simpa using hn) (fun j h' _ => rfl) (fun d hd => by obtain ⟨g, _, rfl⟩ := List.mem_map.mp hd; exact ⟨_, rfl⟩)
  obtain ⟨h3, e3⟩ : ∃ h3, h3 = h2 ++ [O.lst ys] := ⟨_, rfl⟩
  have n3 : h3[h2.length]? = some (.lst ys) := by rw [e3]; exact push_new
  have k3 : Kp [] h2 h3 := by rw [e3]; exact Kp.refl.push
  rw [← e3] at b1
  rw [List.length_map] at b3
  have zf : (ys.zip gs).map (fun q => q.1) = ys := List.map_fst_zip (by omega)
  have zs : (ys.zip gs).map (fun q => q.2) = gs := List.map_snd_zip (by omega)
  have Rw : Rows h3 (.ref h2.length) (ys.zip gs) (fun q => q.1) (fun q => q.2) := ⟨⟨_, src_ref n3, fun j h' k => by rw [srcL_at n3 k j, ← List.getElem?_map, zf]⟩, fun q hq => by
    obtain ⟨j, hj⟩ := List.getElem?_of_mem hq
    rw [List.getElem?_zip_eq_some] at hj
    obtain ⟨r, u1, u2⟩ := b4 j (q.2.map D.str) (by rw [List.getElem?_map, hj.2]; rfl)
    rw [hj.1] at u1
    injection u1 with u1
    rw [u1]
    show listOf _ _ = _
    rw [lstAt (k3.get u2 (by simp))]⟩
  obtain ⟨h4, c1, c2⟩ := grouping_text_any Rw (by rw [zs]; exact sz)
  rw [zs] at c1
  refine ⟨h4, ?_, ((a2.trans b2 fun _ _ hs => ⟨hs, hs⟩).trans k3 fun _ _ hs => ⟨hs, hs⟩).trans c2 fun _ _ hs => ⟨hs, hs⟩⟩
  have cc : fComp (fSrc (fVar 1)) (.nm 5) fYes (fCB gList (fCons (fVar 5) fNil)) FU (rhoY p r2 (GD gs) t3 (some (.str (GT gs))) y6) h1 = .ok (.ref h2.length) h3 := by
    rw [ev_comp, ev_src, show fVar 1 (rhoY p r2 (GD gs) t3 (some (.str (GT gs))) y6) h1 = .ok (GD gs) h1 from rfl]
    simp only [R.bind_ok, kSrc1_eq]
    rw [show srcOf (GD gs) h1 = some (srcT (gs.map fun w => D.tup (w.map D.str))) from rfl]
    simp only [opt_some, kSrc2_eq, R.bind_ok, kCo_eq]
    rw [show wipeE (rhoY p r2 (GD gs) t3 (some (.str (GT gs))) y6) (tgV (.nm 5)) = rhoY p r2 (GD gs) t3 (some (.str (GT gs))) y6 from rfl, b1]
  unfold chkGX
  rw [ev_or, ev_b, ev_op, ev_call, ev_cons, show fVar 1 (rhoY p r2 (GD gs) t3 (some (.str (GT gs))) y6) h = .ok (GD gs) h from rfl]
  simp only [R.bind_ok, kC1_eq, ev_nil, kC2_eq, kCall_eq, List.append_nil, a1, kOp_eq]
  rw [show fVar 4 (rhoY p r2 (GD gs) t3 (some (.str (GT gs))) y6) h1 = .ok (.str (GT gs)) h1 from rfl]
  simp only [R.bind_ok, ne_str, decide_true, Bool.not_true, asB_bl, kOr_f]
  rw [ev_b, ev_op, ev_call, ev_cons, cc]
  simp only [R.bind_ok, kC1_eq, ev_nil, kC2_eq, kCall_eq, List.append_nil, c1, kOp_eq]
  rw [show fVar 4 (rhoY p r2 (GD gs) t3 (some (.str (GT gs))) y6) h4 = .ok (.str (GT gs)) h4 from rfl]
  simp
def offB : EF D := (fCall F_offers_text [] (fCons (fCB gTuple (fCons (fComp (fSrc (fRev (fVar 2))) (.nm 7) fYes (fCB gList (fCons (fVar 7) fNil)) FU) fNil)) fNil))
def chkOX : EF Bool := (fAnd (fB (fOp gLt (fCB gLen (fCons (fVar 2) fNil)) (fC (.int 11)))) (fOr (fB (fOp gNe (fCall F_offers_text [] (fCons (fVar 2) fNil)) (fVar 6))) (fB (fOp gNe offB (fVar 6)))))
theorem chkOX_ok (e : h[r2]? = some (.lst (os.map OD))) (ok : ∀ o ∈ os, okO o) (z : OSz os) : ∃ h', chkOX (rhoY p r2 (GD gs) t3 y4 (some (.str (OT (sortOs os))))) h = .ok false h' ∧ Kp [] h h' := by
  by_cases c : os.length < 11
  rotate_left
  · exact ⟨h, by simp [chkOX, lstAt e, show ¬ (os.length : Int) < 11 by omega], Kp.refl⟩
  obtain ⟨h1, a1, a2⟩ := offers_text_any (h := h) (d := .ref r2) (items := os) (mk := OD) (of := id) ⟨_, src_ref e, fun j h' k => by rw [srcL_at e k j, List.getElem?_map]⟩ (fun o _ => rfl) (by simpa using z) (by simpa using ok)
  rw [List.map_id] at a1
  have e1 := a2.get e (by simp)
  obtain ⟨h2, e2⟩ : ∃ h2, h2 = h1 ++ [O.lst (os.map OD).reverse] := ⟨_, rfl⟩
  have n2 : h2[h1.length]? = some (.lst (os.map OD).reverse) := by rw [e2]; exact push_new
  have k2 : Kp [] h1 h2 := by rw [e2]; exact Kp.refl.push
  obtain ⟨ys, h3, b1, b2, b3, b4⟩ := lists_of (h := h2) (ρ := rhoY p r2 (GD gs) t3 y4 (some (.str (OT (sortOs os))))) (k := 7) (items := (os.map OD).reverse) (src := srcL h1.length) (by simp) (by simp; omega) (fun j h' k => srcL_at n2 k j) (fun d hd => by
    rw [List.mem_reverse] at hd
    obtain ⟨g, _, rfl⟩ := List.mem_map.mp hd; exact ⟨_, rfl⟩)
  obtain ⟨h4, e4⟩ : ∃ h4, h4 = h3 ++ [O.lst ys] := ⟨_, rfl⟩
  have n4 : h4[h3.length]? = some (.lst ys) := by rw [e4]; exact push_new
  have k4 : Kp [] h3 h4 := by rw [e4]; exact Kp.refl.push
  rw [← e4] at b1
  have rl : (os.map OD).reverse = os.reverse.map OD := by rw [List.map_reverse]
  have yl : ys.length = os.reverse.length := by rw [b3]; simp
  have zf : (ys.zip os.reverse).map (fun q => q.1) = ys := List.map_fst_zip (by omega)
  have zs : (ys.zip os.reverse).map (fun q => q.2) = os.reverse := List.map_snd_zip (by omega)
  have zr : OSz os.reverse := ⟨by rw [List.length_reverse]; exact z.len, fun o ho => z.nm o (List.mem_reverse.mp ho), fun o ho => z.p o (List.mem_reverse.mp ho)⟩
  obtain ⟨h5, c1, c2⟩ := offers_text_any (h := h4) (d := .tup ys) (items := ys.zip os.reverse) (mk := fun q => q.1) (of := fun q => q.2) ⟨_, src_tup, fun j h' _ => by
      unfold srcT
      rw [← List.getElem?_map, zf]⟩ (fun q hq => by
    obtain ⟨j, hj⟩ := List.getElem?_of_mem hq
    rw [List.getElem?_zip_eq_some] at hj
    obtain ⟨r, u1, u2⟩ := b4 j (oItems q.2) (by rw [rl, List.getElem?_map, hj.2]; rfl)
    rw [hj.1] at u1
    injection u1 with u1
    rw [u1]
    show listOf _ _ = _
    rw [lstAt (k4.get u2 (by simp))]) (by rw [zs]; exact zr) (by rw [zs]; exact fun o ho => ok o (List.mem_reverse.mp ho))
  rw [zs, sortOs_perm (List.reverse_perm os)] at c1
  obtain ⟨ρ, eρ⟩ : ∃ ρ, ρ = rhoY p r2 (GD gs) t3 y4 (some (.str (OT (sortOs os)))) := ⟨_, rfl⟩
  have v2 : ∀ hh, fVar 2 ρ hh = .ok (.ref r2) hh := fun hh => by rw [eρ]; rfl
  have v6 : ∀ hh, fVar 6 ρ hh = .ok (.str (OT (sortOs os))) hh := fun hh => by rw [eρ]; rfl
  have ob : offB ρ h1 = .ok (.str (OT (sortOs os))) h5 := by
    unfold offB
    rw [ev_call, ev_cons, ev_cb, ev_cons, ev_comp, ev_src, ev_rev, v2]
    simp only [R.bind_ok, kRev1_eq, lstAt e1, opt_some, kRev2_eq, ← e2, kSrc1_eq, src_ref n2, kSrc2_eq, kCo_eq]
    rw [show wipeE ρ (tgV (.nm 7)) = ρ from by rw [eρ]; rfl, eρ, b1]
    simp [gTuple, itemsOf, lstAt n4, c1]
  refine ⟨h5, ?_, (((a2.trans k2 fun _ _ hs => ⟨hs, hs⟩).trans b2 fun _ _ hs => ⟨hs, hs⟩).trans k4 fun _ _ hs => ⟨hs, hs⟩).trans c2 fun _ _ hs => ⟨hs, hs⟩⟩
  rw [← eρ]
  unfold chkOX
  have l11 : fB (fOp gLt (fCB gLen (fCons (fVar 2) fNil)) (fC (.int 11))) ρ h = .ok true h := by
    simp [v2, lstAt e, show (os.length : Int) < 11 by omega]
  rw [ev_and, l11]
  simp only [R.bind_ok, kAnd_t]
  rw [ev_or, ev_b, ev_op, ev_call, ev_cons, v2]
  simp only [R.bind_ok, kC1_eq, ev_nil, kC2_eq, kCall_eq, List.append_nil, a1, kOp_eq, v6, ne_str, decide_true, Bool.not_true, asB_bl, kOr_f]
  rw [ev_b, ev_op, ob]
  simp [v6]
end
end W86
set_option Elab.async false
set_option linter.all false
set_option maxRecDepth 100000
set_option maxHeartbeats 4000000
namespace W86
open PySem Mp TL
open L2 (cutS atI ixN)

/-! ### sizes of what is drawn -/
theorem okS_sl3 : okS sl3 := okS_lit (by decide)
theorem GrOk.names {gs : List (List Str)} (k : GrOk gs) : ∀ g ∈ gs, ∀ x ∈ g, okS x ∧ x.length ≤ 4 := fun g hg x hx => names8_ok x ((k.each g hg).2 x hx)
theorem GrOk.row {gs : List (List Str)} (k : GrOk gs) {g : List Str} (hg : g ∈ gs) : sumW g ≤ 40 := by
  have := sum_le_mul (l := g.map fun x => x.length + 1) (m := 5) (fun a ha => by
    obtain ⟨x, hx, rfl⟩ := List.mem_map.mp ha
    have := (k.names g hg x hx).2
    omega)
  rw [List.length_map] at this
  have l := (k.each g hg).1
  unfold sumW
  omega
theorem GrOk.sum {gs : List (List Str)} (k : GrOk gs) : (gs.map fun g => (gT g).length).sum ≤ 320 := by
  have := sum_le_mul (l := gs.map fun g => (gT g).length) (m := 40) (fun a ha => by
    obtain ⟨g, hg, rfl⟩ := List.mem_map.mp ha
    exact Nat.le_trans (gT_sum g) (k.row hg))
  rw [List.length_map] at this
  have l := k.len
  omega
theorem GrOk.sz {gs : List (List Str)} (k : GrOk gs) : GSz gs := ⟨fun g hg => by have := k.row hg; rw [sumW_eq] at this; omega, by have := k.sum; have := k.len; omega⟩
theorem GrOk.txt {gs : List (List Str)} (k : GrOk gs) : okS (GT gs) ∧ (GT gs).length ≤ 380 := by
  refine ⟨okS_join okS_sl3 fun x hx => ?_, ?_⟩
  · obtain ⟨g, hg, rfl⟩ := List.mem_map.mp hx
    exact okS_join okS_bl fun y hy => (k.names g hg y hy).1
  · have := StrLaws.join_length_le sl3 (gs.map gT)
    have e : sl3.length = 3 := rfl
    rw [List.map_map, List.length_map, e] at this
    have e2 : ((fun x : Str => x.length) ∘ gT) = fun g => (gT g).length := rfl
    rw [e2] at this
    have := k.sum
    have := k.len
    unfold GT
    omega
theorem oT_33 {o : Of} (k : OfOk o) : (oT o).length ≤ 33 := by
  have := StrLaws.join_length_le bl (rowO o)
  have e : bl.length = 1 := rfl
  have e2 : ("offer" : Str).length = 5 := rfl
  have n := nS_len k.p
  have := k.lo
  have := k.la
  have := k.lb
  have s : ((rowO o).map (·.length)).sum + (rowO o).length * bl.length ≤ 33 := by
    simp only [rowO, List.map_cons, List.map_nil, List.sum_cons, List.sum_nil, List.length_cons, List.length_nil, e, e2]
    omega
  unfold oT
  omega
theorem OT_ok {os : List Of} (k : ∀ o ∈ os, OfOk o) (hl : os.length ≤ 11) : okS (OT (sortOs os)) ∧ (OT (sortOs os)).length ≤ 380 ∧ OSz os ∧ ∀ o ∈ os, okO o := by
  have km : ∀ o ∈ sortOs os, OfOk o := fun o ho => k o (sortOs_mem.mp ho)
  refine ⟨okS_join okS_nl fun x hx => ?_, ?_, ⟨hl, fun o ho => ?_, fun o ho => (k o ho).p⟩, fun o ho => (k o ho).ok⟩
  · obtain ⟨o, ho, rfl⟩ := List.mem_map.mp hx
    refine okS_join okS_bl fun y hy => ?_
    obtain ⟨q1, q2, q3⟩ := (km o ho).ok
    simp only [rowO, List.mem_cons, List.not_mem_nil, or_false] at hy
    rcases hy with z | z | z | z | z <;> rw [z]
    · exact okS_lit (by decide)
    · exact q1
    · exact q2
    · exact q3
    · exact nS_okS _
  · have := StrLaws.join_length_le nl ((sortOs os).map oT)
    have e : nl.length = 1 := rfl
    rw [e, List.length_map, sortOs_len] at this
    have s := sum_le_mul (l := ((sortOs os).map oT).map (·.length)) (m := 33) (fun a ha => by
      obtain ⟨y, hy, rfl⟩ := List.mem_map.mp ha
      obtain ⟨o, ho, rfl⟩ := List.mem_map.mp hy
      exact oT_33 (km o ho))
    rw [List.length_map, List.length_map, sortOs_len] at s
    unfold OT
    omega
  · have := (k o ho).lo
    have := (k o ho).la
    have := (k o ho).lb
    omega
/-! ### one turn -/
def words12 : List Str := ["/", "a", "b", "zz", "offer", "0", "1000001", "", "A", "-3", "12", "toolongtoolong"]
theorem words12_ok : ∀ y ∈ words12, okS y ∧ y.length ≤ 14 := by
  intro y hy
  simp only [words12, List.mem_cons, List.not_mem_nil, or_false] at hy
  rcases hy with z | z | z | z | z | z | z | z | z | z | z | z <;> subst z <;> exact ⟨okS_lit (by decide), by decide⟩
def setX : SF := (sAsg (fLst (fCons (fC (.str "/")) (fCons (fC (.str "a")) (fCons (fC (.str "b")) (fCons (fC (.str "zz")) (fCons (fC (.str "offer")) (fCons (fC (.str "0")) (fCons (fC (.str "1000001")) (fCons (fC (.str "")) (fCons (fC (.str "A")) (fCons (fC (.str "-3")) (fCons (fC (.str "12")) (fCons (fC (.str "toolongtoolong")) fNil))))))))))))) (gN 8))
def b9X : EF D := (fIf (fB (fOp gGt (fVar 3) (fC (.int 0)))) (fCall F__law_bent_text [] (fCons (fVar 0) (fCons (fVar 4) (fCons (fVar 8) fNil)))) (fVar 4))
def b10X : EF D := (fIf (fB (fOp gGt (fVar 3) (fC (.int 0)))) (fCall F__law_bent_text [] (fCons (fVar 0) (fCons (fVar 6) (fCons (fVar 8) fNil)))) (fVar 6))
def bentX : SF := (sPar2 9 10 (fCons b9X (fCons b10X fNil)))
def turnX : SF := (sSeq setX (sSeq bentX readR))
section
variable {h : MH} {p c : Nat} {g r : D} {tx ls : Str} {t8 t9 t10 y11 y12 : Option D} {j w : Nat}
theorem b9X_ok (P : Pen h p c) (hc : c < 900000) (ok : okS tx) (hx : tx.length ≤ 380) (ew : h[w]? = some (.lst (words12.map D.str))) : ∃ y h', b9X (rhoR (.ref p) g r (some (.int j)) tx none ls none (some (.ref w)) t9 t10 y11 y12) h = .ok (.str y) h' ∧ Pen h' p (c + 10) ∧ Kp [p] h h' ∧ okS y ∧ y.length ≤ 950000 := by
  by_cases hj : 0 < j
  · obtain ⟨y, h', e1, e2, e3, e4, e5⟩ := bent_ok P hc ew words12_ok (by decide) ok hx
    exact ⟨y, h', by simp [b9X, hj, e1], e2, e3, e4, e5⟩
  · exact ⟨tx, h, by simp [b9X, hj], P.up (by omega), Kp.refl, ok, by omega⟩
theorem b10X_ok (P : Pen h p c) (hc : c < 900000) (ok : okS ls) (hx : ls.length ≤ 380) (ew : h[w]? = some (.lst (words12.map D.str))) : ∃ y h', b10X (rhoR (.ref p) g r (some (.int j)) tx none ls none (some (.ref w)) t9 t10 y11 y12) h = .ok (.str y) h' ∧ Pen h' p (c + 10) ∧ Kp [p] h h' ∧ okS y ∧ y.length ≤ 950000 := by
  by_cases hj : 0 < j
  · obtain ⟨y, h', e1, e2, e3, e4, e5⟩ := bent_ok P hc ew words12_ok (by decide) ok hx
    exact ⟨y, h', by simp [b10X, hj, e1], e2, e3, e4, e5⟩
  · exact ⟨ls, h, by simp [b10X, hj], P.up (by omega), Kp.refl, ok, by omega⟩
theorem turnX_ok (P : Pen h p c) (hc : c < 800000) (ok : okS tx) (hx : tx.length ≤ 380) (ok2 : okS ls) (hx2 : ls.length ≤ 380) :
    ∃ u8 u9 u10 v11 v12 h', turnX (rhoR (.ref p) g r (some (.int j)) tx none ls none t8 t9 t10 y11 y12) h = .ok .nx (rhoR (.ref p) g r (some (.int j)) tx none ls none u8 u9 u10 v11 v12) h' ∧ Pen h' p (c + 20) := by
  obtain ⟨h1, e1⟩ : ∃ h1, h1 = h ++ [O.lst (words12.map D.str)] := ⟨_, rfl⟩
  have n1 : h1[h.length]? = some (.lst (words12.map D.str)) := by rw [e1]; exact push_new
  have k1 : Kp [] h h1 := by rw [e1]; exact Kp.refl.push
  have P1 := P.kp k1
  have pl := P.lt
  have s1 : setX (rhoR (.ref p) g r (some (.int j)) tx none ls none t8 t9 t10 y11 y12) h = .ok .nx (rhoR (.ref p) g r (some (.int j)) tx none ls none (some (.ref h.length)) t9 t10 y11 y12) h1 := by
    rw [e1]
    simp [setX, ofR, SR.tk, words12]
  obtain ⟨x, h2, a1, a2, a3, a4, a5⟩ := b9X_ok (g := g) (r := r) (ls := ls) (t9 := t9) (t10 := t10) (y11 := y11) (y12 := y12) (j := j) P1 (by omega) ok hx n1
  have n2 := a3.get n1 (by simp; omega)
  obtain ⟨y, h3, b1, b2, b3, b4, b5⟩ := b10X_ok (g := g) (r := r) (tx := tx) (t9 := t9) (t10 := t10) (y11 := y11) (y12 := y12) (j := j) a2 (by omega) ok2 hx2 n2
  have s2 : bentX (rhoR (.ref p) g r (some (.int j)) tx none ls none (some (.ref h.length)) t9 t10 y11 y12) h1 = .ok .nx (rhoR (.ref p) g r (some (.int j)) tx none ls none (some (.ref h.length)) (some (.str x)) (some (.str y)) y11 y12) h3 := by
    unfold bentX
    rw [es_par2, ev_cons, a1]
    simp only [R.bind_ok, kC1_eq]
    rw [ev_cons, b1]
    simp [ofR]
  obtain ⟨d, e, h4, c1, c2⟩ := readR_ok (p := .ref p) (g := g) (r := r) (t3 := some (.int j)) (tx := tx) (t5 := none) (ls := ls) (t7 := none) (t8 := some (.ref h.length)) (y11 := y11) (y12 := y12) (h := h3) a4 a5 b4 b5
  refine ⟨some (.ref h.length), some (.str x), some (.str y), some d, some e, h4, ?_, (b2.kp c2).up (by omega)⟩
  unfold turnX
  rw [es_seq, s1, thn_nx, es_seq, s2, thn_nx, c1]
end
def pickN : EF D := (fCall F__law_pick [] (fCons (fVar 0) (fCons (fLst (fCons (fC (.int 1)) (fCons (fC (.int 2)) (fCons (fC (.int 3)) (fCons (fC (.int 10)) (fCons (fC (.int 11)) fNil)))))) fNil)))
def grX : SF := (sPar2 1 2 (fCons (fCall F__law_grouping [] (fCons (fVar 0) fNil)) (fCons (fLst fNil) fNil)))
theorem s_lr : s__law_right = (sSeq grX (sSeq (sFor (fRng1 (fCons pickN fNil)) (gN 3) rowX FU) (sSeq (sAsg textX (gN 4)) (sSeq (sAsg linesX (gN 6)) (sSeq (sIf chkGX falR sNil) (sSeq (sIf chkOX falR sNil) (sSeq (sFor (fRng1 (fCons (fC (.int 4)) fNil)) (gN 3) turnX FU) (sRet (fC (.bl true)))))))))) := rfl
theorem srcR0 {N j : Nat} {h : MH} : srcR 0 N j h = some (if j < N then some (.int (j : Int)) else none) := by
  unfold srcR
  rw [Int.zero_add]
theorem rngA {j : Int} {h : MH} (h1 : -(2 ^ 62) ≤ j) (h2 : j < 2 ^ 62) : kR1 [.int j] h = .ok (srcR 0 j.toNat) h := by
  rw [kR1_eq]
  exact if_pos ⟨h1, h2⟩
theorem rngB {N : Nat} (hN : N ≤ 1000) : -(2 ^ 62 : Int) ≤ (N : Int) := Int.le_trans (by decide) (Int.natCast_nonneg N)
theorem rngC {N : Nat} (hN : N ≤ 1000) : (N : Int) < 2 ^ 62 := by
  have : (N : Int) ≤ 1000 := by omega
  exact Int.lt_of_le_of_lt this (by decide)
theorem rng_nat {fs : EF (List D)} {ρ : Mp.Env} {h h' : MH} {N : Nat} (hN : N ≤ 1000) (e : fs ρ h = .ok [.int (N : Int)] h') : fRng1 fs ρ h = .ok (srcR 0 N) h' := by
  have := rngA (h := h') (rngB hN) (rngC hN)
  rw [Int.toNat_natCast] at this
  rw [ev_rng1, e, R.bind_ok, this]
theorem for_src {fi : EF Src} {g : D → SF} {s : SF} {ρ : Mp.Env} {h h' : MH} {src : Src} {n : Nat} (e : fi ρ h = .ok src h') : sFor fi g s n ρ h = sForL src g s n 0 ρ h' := by
  rw [es_for, e]
  rfl
theorem right_ok {h : MH} {p c : Nat} (P : Pen h p c) (hc : c < 500000) : ∃ h', F__law_right [.ref p] h = .ok (.bl true) h' ∧ Pen h' p (c + 300) := by
  obtain ⟨gs, h1, a1, a2, a3, a4⟩ := grouping_ok P (by omega)
  have pl := P.lt
  have l1 := a3.le
  obtain ⟨h2, e2⟩ : ∃ h2, h2 = h1 ++ [O.lst []] := ⟨_, rfl⟩
  have k2 : Kp [] h1 h2 := by rw [e2]; exact Kp.refl.push
  have n2 : h2[h1.length]? = some (.lst (([] : List Of).map OD)) := by rw [e2]; exact push_new
  obtain ⟨ρ0, eρ⟩ : ∃ ρ0 : Mp.Env, ρ0 = [some (.ref p), none, none, none, none, none, none, none, none, none, none, none, none] := ⟨_, rfl⟩
  have s1 : grX ρ0 h = .ok .nx (rhoX p h1.length (GD gs) none) h2 := by
    rw [eρ, e2]
    simp [grX, a1, ofR]
  -- how many offers
  have hv : ∀ hh, fVar 0 (rhoX p h1.length (GD gs) none) hh = .ok (.ref p) hh := fun _ => rfl
  obtain ⟨y, m, h3, b1, b2, b3⟩ := pickL (ρ := rhoX p h1.length (GD gs) none) (i := 0) (fs := (fCons (fC (.int 1)) (fCons (fC (.int 2)) (fCons (fC (.int 3)) (fCons (fC (.int 10)) (fCons (fC (.int 11)) fNil)))))) (ds := [.int 1, .int 2, .int 3, .int 10, .int 11]) (h := h2) (h1 := h2) hv (by simp) (a2.kp k2) (by omega) (by simp) (by simp)
  obtain ⟨N, eN, hN⟩ : ∃ N : Nat, y = .int (N : Int) ∧ N ≤ 11 := by
    simp only [List.mem_cons, List.not_mem_nil, or_false] at m
    rcases m with z | z | z | z | z
    · exact ⟨1, z, by decide⟩
    · exact ⟨2, z, by decide⟩
    · exact ⟨3, z, by decide⟩
    · exact ⟨10, z, by decide⟩
    · exact ⟨11, z, by decide⟩
  subst eN
  have n3 := b3.get n2 (by simp; omega)
  have rg : fRng1 (fCons pickN fNil) (rhoX p h1.length (GD gs) none) h2 = .ok (srcR 0 N) h3 := by
    refine rng_nat (by omega) ?_
    rw [ev_cons]
    unfold pickN
    rw [b1]
    rfl
  obtain ⟨ρ4, h4, f1, t3, os, f2, f3, f4, f5, f6⟩ := for_inv (src := srcR 0 N) (k := 3) (n := FU) (N := N) (s := rowX) (ρ := rhoX p h1.length (GD gs) none) (h := h3) (item := fun j => .int (j : Int))
    (fun j ρ h => ∃ t3 os, ρ = rhoX p h1.length (GD gs) t3 ∧ Pen h p (c + 10 + 5 * j) ∧ h[h1.length]? = some (.lst (os.map OD)) ∧ os.length = j ∧ ∀ o ∈ os, OfOk o) (FU_big (by omega))
    (fun j ρ h _ _ => srcR0)
    (fun j ρ h ⟨t3, os, q1, q2, q3, q4, q5⟩ hj => by
      obtain ⟨o, h', r1, r2, r3, r4⟩ := rowX_ok (g := GD gs) (j := j) q2 (by omega) (show p < h1.length by omega) q3 (by omega) (by omega)
      refine ⟨rhoX p h1.length (GD gs) (some (.int j)), h', ?_, some (.int j), os ++ [o], rfl, r2.up (by omega), r3, by simp [q4], fun u hu => ?_⟩
      · rw [q1]; exact r1
      · rcases List.mem_append.mp hu with hu | hu
        · exact q5 u hu
        · rw [List.mem_singleton.mp hu]; exact r4) ⟨none, [], rfl, b2.up (by omega), n3, rfl, by simp⟩
  obtain ⟨o1, o2, o3, o4⟩ := OT_ok f6 (by omega)
  obtain ⟨g1, g2⟩ := a4.txt
  -- the texts, looked at
  obtain ⟨h5, u1, u2⟩ := textX_ok (h := h4) (p := p) (r2 := h1.length) (t3 := t3) (y4 := none) (y6 := none) a4.sz
  have n5 := u2.get f4 (by simp)
  obtain ⟨h6, v1, v2⟩ := linesX_ok (p := p) (gs := gs) (t3 := t3) (y4 := some (.str (GT gs))) (y6 := none) n5 o4 o3
  have n6 := v2.get n5 (by simp)
  obtain ⟨h7, w1, w2⟩ := chkGX_ok (h := h6) (p := p) (r2 := h1.length) (t3 := t3) (y6 := some (.str (OT (sortOs os)))) a4.sz (by have := a4.len; omega)
  have n7 := w2.get n6 (by simp)
  obtain ⟨h8, x1, x2⟩ := chkOX_ok (p := p) (gs := gs) (t3 := t3) (y4 := some (.str (GT gs))) n7 o4 o3
  have P8 := (((f3.kp u2).kp v2).kp w2).kp x2
  -- the turns
  obtain ⟨ρ9, h9, z1, t3', u8, u9, u10, v11, v12, z2, z3⟩ := for_inv (src := srcR 0 4) (k := 3) (n := FU) (N := 4) (s := turnX) (ρ := rhoR (.ref p) (GD gs) (.ref h1.length) t3 (GT gs) none (OT (sortOs os)) none none none none none none) (h := h8) (item := fun j => .int (j : Int))
    (fun j ρ h => ∃ t3 u8 u9 u10 v11 v12, ρ = rhoR (.ref p) (GD gs) (.ref h1.length) t3 (GT gs) none (OT (sortOs os)) none u8 u9 u10 v11 v12 ∧ Pen h p (c + 10 + 5 * N + 20 * j)) (FU_big (by omega))
    (fun j ρ h _ _ => srcR0)
    (fun j ρ h ⟨t3, u8, u9, u10, v11, v12, q1, q2⟩ hj => by
      obtain ⟨a8, a9, a10, b11, b12, h', r1, r2⟩ := turnX_ok (g := GD gs) (r := .ref h1.length) (t8 := u8) (t9 := u9) (t10 := u10) (y11 := v11) (y12 := v12) (j := j) q2 (by omega) g1 g2 o1 o2
      refine ⟨rhoR (.ref p) (GD gs) (.ref h1.length) (some (.int j)) (GT gs) none (OT (sortOs os)) none a8 a9 a10 b11 b12, h', ?_, some (.int j), a8, a9, a10, b11, b12, rfl, r2.up (by omega)⟩
      rw [q1]; exact r1) ⟨t3, none, none, none, none, none, rfl, P8.up (by omega)⟩
  refine ⟨h9, ?_, z3.up (by omega)⟩
  unfold F__law_right
  rw [s_lr]
  refine (mk_go (ρ' := ρ0) rfl (by rw [eρ]; rfl)).trans ?_
  have s2 : sFor (fRng1 (fCons pickN fNil)) (gN 3) rowX FU (rhoX p h1.length (GD gs) none) h2 = .ok .nx (rhoX p h1.length (GD gs) t3) h4 := by
    rw [for_src rg, f1, f2]
  have s3 : sAsg textX (gN 4) (rhoX p h1.length (GD gs) t3) h4 = .ok .nx (rhoY p h1.length (GD gs) t3 (some (.str (GT gs))) none) h5 := by
    rw [es_asg, u1]
    rfl
  have s4 : sAsg linesX (gN 6) (rhoY p h1.length (GD gs) t3 (some (.str (GT gs))) none) h5 = .ok .nx (rhoY p h1.length (GD gs) t3 (some (.str (GT gs))) (some (.str (OT (sortOs os))))) h6 := by
    rw [es_asg, v1]
    rfl
  have s5 : sFor (fRng1 (fCons (fC (.int 4)) fNil)) (gN 3) turnX FU (rhoR (.ref p) (GD gs) (.ref h1.length) t3 (GT gs) none (OT (sortOs os)) none none none none none none) h8 = .ok .nx ρ9 h9 := by
    rw [for_src (rng_nat (N := 4) (h' := h8) (by decide) rfl)]
    exact z1
  rw [es_seq, s1, thn_nx, es_seq, s2, thn_nx, es_seq, s3, thn_nx, es_seq, s4, thn_nx, es_seq, on_f w1, es_seq, on_f x1, es_seq, s5, thn_nx]
  simp [ofR]
end W86
set_option Elab.async false
set_option linter.all false
set_option maxRecDepth 100000
set_option maxHeartbeats 4000000
namespace W86
open PySem Mp TL
open L2 (cutS atI ixN)

/-! ### the law -/
theorem pen_ok (ns : List Int) (hn : ns.length ≤ 63) : ∃ p h', F__law_pen [.ref 0] [.rl (ns.map D.int)] = .ok (.ref p) h' ∧ Pen h' p 0 := by
  obtain ⟨h, eh⟩ : ∃ h : MH, h = [.rl (ns.map D.int)] := ⟨_, rfl⟩
  have l0 : Mp.listOf h 0 = some (ns.map D.int) := by rw [eh]; rfl
  obtain ⟨v, c1, c2, c3⟩ := cut_sub (f := D.int) ns none (some (63 : Int))
  have vl := c3.length_le
  obtain ⟨h1, e1⟩ : ∃ h1, h1 = h ++ [O.lst (v.map D.int)] := ⟨_, rfl⟩
  have n1 : h1[h.length]? = some (.lst (v.map D.int)) := by rw [e1]; exact push_new
  have c := comp_pure (src := srcL h.length) (k := 1) (n := FU) (fe := fCB gInt (fCons (fVar 1) fNil)) (ρ := [some (.ref 0), none]) (h0 := h1) (items := v) (mk := D.int) (f := D.int) (FU_big (by omega)) (by omega) (fun j => by rw [srcL_at n1 Kp.refl j, List.getElem?_map]) (fun i _ => by simp)
  obtain ⟨h2, e2⟩ : ∃ h2, h2 = h1 ++ [O.lst (v.map D.int)] := ⟨_, rfl⟩
  rw [← e2] at c
  have n2 : h2[h1.length]? = some (.lst (v.map D.int)) := by rw [e2]; exact push_new
  refine ⟨h2.length, h2 ++ [.lst [.ref h1.length, .int 0, .int 0]], ?_, h1.length, v, 0, 0, push_new, push_old n2, ltOf n2, by omega, ⟨by omega, by omega⟩, by omega⟩
  rw [← eh]
  unfold F__law_pen
  refine (mk_go (ρ' := [some (.ref 0), none]) rfl rfl).trans ?_
  unfold s__law_pen
  have cc : fComp (fSrc (fSl (fVar 0) fNoP (fPart (fC (.int 63))))) (.nm 1) fYes (fCB gInt (fCons (fVar 1) fNil)) FU [some (.ref 0), none] h = .ok (.ref h1.length) h2 := by
    have sl : gSl (.ref 0) none (some 63) h = .ok (.ref h.length) h1 := by
      unfold gSl
      dsimp only
      rw [l0]
      dsimp only
      rw [c1, e1]
    rw [ev_comp, ev_src, ev_sl, show fVar 0 [some (D.ref 0), none] h = .ok (.ref 0) h from rfl]
    simp only [R.bind_ok, kSl1_eq, ev_noP, kSl2_eq, ev_part, ev_c, kPart_eq, sl, kSrc1_eq, src_ref n1, opt_some, kSrc2_eq, kCo_eq]
    rw [show wipeE [some (D.ref 0), none] (tgV (.nm 1)) = [some (.ref 0), none] from rfl, c]
  rw [es_ret, ev_lst, ev_cons, cc]
  simp [ofR]
theorem bad_ans {d : D} {h : MH} {t : String} (ht : ∀ hh, Kp [] h hh → tyOf hh d = some t) (hs : t ≠ "str") :
    (∃ h', F__law_answered [.obj 9, d] h = .ok (.tup [.str "bad", .int 0, .int 0]) h' ∧ Kp [] h h') ∧ (∃ h', F__law_answered [.obj 11, d] h = .ok (.tup [.str "bad", .int 0, .int 0]) h' ∧ Kp [] h h') := by
  obtain ⟨h1, a1, a2⟩ := read_grouping_bad (ht _ Kp.refl.push) hs
  obtain ⟨h2, b1, b2⟩ := read_offers_bad (ht _ Kp.refl.push) hs
  exact ⟨⟨h1, answered_exc Tv9 a1, a2⟩, ⟨h2, answered_exc Tv11 b1, b2⟩⟩
theorem eq_pure {d : D} {h : MH} {l : List D} (ed : d = .tup l) (k : okD d = true) (q : dep d ≤ 7) (e : PyData.eqv (toP d) (toP d) = true) : gEq d d h = .ok (.bl true) h ∧ gNe d d h = .ok (.bl false) h := by
  have r : eqRes d d h = some true := by
    unfold eqRes
    rw [pdS_pure k q]
    rw [ed]
    show some (PyData.eqv _ _) = _
    rw [← ed, e]
  unfold gEq gNe
  rw [r]
  exact ⟨rfl, rfl⟩
theorem bad00 {h : MH} : gNe (.tup [.str "bad", .int 0, .int 0]) (.tup [.str "bad", .int 0, .int 0]) h = .ok (.bl false) h := by
  refine (eq_pure rfl ?_ (by simp [dep, deps]) ?_).2
  · have : PyData.strOk (Str.ofString "bad") = true := okS.str (okS_lit (by decide))
    simp [okD, okDs, this]
  · simp [toP, toPs, PyData.eqv, PyData.eqvAll]
/-! the last texts -/
theorem wds_1 (x : Str) (ws : List Str) (hne : ws ≠ []) (hx : x = Str.join bl ws) (hb : ∀ w ∈ ws, 32 ∉ tl w) (hn : 10 ∉ tl x) : wds x = [ws] := by
  have e1 : Txt.split x nl = [x] := by
    have := TL.split_join (y := nl) (s := 10) (S := []) tl_nl (by simp [nl, sg]) (parts := [x]) (by simp) (fun p hp => by rw [List.mem_singleton.mp hp]; exact hn)
    rw [TL.join_eq] at this
    exact this
  have e2 : Txt.split x bl = ws := by
    have := TL.split_join (y := bl) (s := 32) (S := []) tl_bl (by simp [bl, sg]) (parts := ws) hne hb
    rw [TL.join_eq, ← hx] at this
    exact this
  unfold wds
  rw [e1, List.map_singleton, e2]
def gx : Str := "a / b"
def ox : Str := "offer o a b 3"
def gw : List Str := ["a", "/", "b"]
def ow5 : List Str := ["offer", "o", "a", "b", "3"]
theorem wds_gx : wds gx = [gw] := wds_1 gx gw (by decide) (by decide) (by decide) (by decide)
theorem wds_ox : wds ox = [ow5] := wds_1 ox ow5 (by decide) (by decide) (by decide) (by decide)
theorem RG_gx : RG gx = .ok [["a"], ["b"]] := by
  unfold RG
  rw [wds_gx]
  dsimp only
  rw [← goD_eq _ 0 [] [] ⟨by simp, by simp, fun p y z h1 => by cases h1⟩]
  have b1 : badD "a" [] [] = false := by decide +kernel
  have b2 : badD "b" [["a"]] [] = false := by decide +kernel
  have this : goD gw 0 [] [] = .ok [["a"], ["b"]] := by
    simp [goD, gw, b1, b2]
  rw [this]
  rfl
theorem wr3 : wrV "3" = 3 := by
  unfold wrV
  rw [PySem.intText_digits (x := "3") (by unfold NumText.AllDigits; decide) (by decide) (by decide)]
  decide
theorem RO_ox : RO ox = .ok [⟨"o", "a", "b", 3⟩] := by
  unfold RO
  rw [wds_ox]
  have l : lineO ow5 none = .ok ⟨"o", "a", "b", 3⟩ := by
    have c1 : nmOk "o" none = true := by decide +kernel
    have c2 : isName "a" = true := by decide +kernel
    have c3 : isName "b" = true := by decide +kernel
    have c4 : ¬ (Str.ofString "b" = Str.ofString "a") := by decide
    have c5 : inOk "3" 0 1000000 = true := by
      unfold inOk
      rw [wr3]
      decide +kernel
    unfold lineO ow5
    simp only [List.getElem?_cons_zero, List.getElem?_cons_succ, List.getElem?_nil, if_true, c1, c2, c3, c5, wr3]
    rw [if_neg c4]
  unfold goO
  rw [if_neg (by decide)]
  rw [show (([] : List Of).getLast?.map Of.o) = none from rfl, l]
  rfl
end W86
set_option Elab.async false
set_option linter.all false
set_option maxRecDepth 100000
set_option maxHeartbeats 4000000
namespace W86
open PySem Mp TL
open L2 (cutS atI ixN)

def rightX : SF := (sIf (fNot (fTru (fCall F__law_right [] (fCons (fVar 1) fNil)))) (sRet (fC (.bl false))) sNil)
def oddF : EF (List D) := (fCons (fC .non) (fCons (fC (.int 5)) (fCons (fLst (fCons (fC (.str "a")) fNil)) (fCons (fTup (fCons (fC (.str "a")) fNil)) (fCons (fC (.bl true)) (fCons fDk fNil))))))
def badF : EF D := (fTup (fCons (fC (.str "bad")) (fCons (fC (.int 0)) (fCons (fC (.int 0)) fNil))))
def chk9 : EF Bool := (fB (fOp gNe (fCall F__law_answered [] (fCons (fC (.obj 9)) (fCons (fVar 3) fNil))) badF))
def chk11 : EF Bool := (fB (fOp gNe (fCall F__law_answered [] (fCons (fC (.obj 11)) (fCons (fVar 3) fNil))) badF))
def lastG : EF D := (fOp gEq (fCall F_read_grouping [] (fCons (fC (.str "a / b")) fNil)) (fTup (fCons (fTup (fCons (fC (.str "a")) fNil)) (fCons (fTup (fCons (fC (.str "b")) fNil)) fNil))))
def lastO : EF D := (fOp gEq (fCall F_read_offers [] (fCons (fC (.str "offer o a b 3")) fNil)) (fTup (fCons (fTup (fCons (fC (.str "o")) (fCons (fC (.str "a")) (fCons (fC (.str "b")) (fCons (fC (.int 3)) fNil))))) fNil)))
theorem s_lw : s_law = (sSeq (sAsg (fCall F__law_pen [] (fCons (fVar 0) fNil)) (gN 1)) (sSeq (sFor (fRng1 (fCons (fC (.int 5)) fNil)) (gN 2) rightX FU)
  (sSeq (sAsg (fCall F__law_pick [] (fCons (fVar 1) (fCons (fLst oddF) fNil))) (gN 3)) (sSeq (sIf (fOr chk9 chk11) (sRet (fC (.bl false))) sNil) (sRet (fAndV lastG lastO)))))) := rfl
theorem _root_.Mp.Kp.tr {a b c : MH} (x : Kp [] a b) (y : Kp [] b c) : Kp [] a c := x.trans y fun _ _ hs => ⟨hs, hs⟩
theorem pureLaw86 (ns : List Int) (hn : ns.length ≤ 63) : ∃ h', F_law [.ref 0] [.rl (ns.map Mp.D.int)] = .ok (.bl true) h' := by
  obtain ⟨p, h1, a1, a2⟩ := pen_ok ns hn
  obtain ⟨h0, e0⟩ : ∃ h0 : MH, h0 = [.rl (ns.map Mp.D.int)] := ⟨_, rfl⟩
  rw [← e0] at a1 ⊢
  have s1 : sAsg (fCall F__law_pen [] (fCons (fVar 0) fNil)) (gN 1) [some (.ref 0), none, none, none] h0 = .ok .nx [some (.ref 0), some (.ref p), none, none] h1 := by
    simp [a1, ofR, SR.tk]
  obtain ⟨ρ2, h2, b1, t2, b2, b3⟩ := for_inv (src := srcR 0 5) (k := 2) (n := FU) (N := 5) (s := rightX) (ρ := [some (.ref 0), some (.ref p), none, none]) (h := h1) (item := fun j => .int (j : Int))
    (fun j ρ h => ∃ t2, ρ = [some (.ref 0), some (.ref p), t2, none] ∧ Pen h p (300 * j)) (FU_big (by omega))
    (fun j ρ h _ _ => srcR0)
    (fun j ρ h ⟨t2, q1, q2⟩ hj => by
      obtain ⟨h', r1, r2⟩ := right_ok q2 (by omega)
      refine ⟨[some (.ref 0), some (.ref p), some (.int j), none], h', ?_, some (.int j), rfl, r2.up (by omega)⟩
      rw [q1]
      have t : fNot (fTru (fCall F__law_right [] (fCons (fVar 1) fNil))) [some (.ref 0), some (.ref p), some (.int j), none] h = .ok false h' := by
        simp [r1]
      show rightX [some (.ref 0), some (.ref p), some (.int j), none] h = _
      unfold rightX
      rw [sIf_f t, es_nil]) ⟨none, rfl, a2⟩
  have s2 : sFor (fRng1 (fCons (fC (.int 5)) fNil)) (gN 2) rightX FU [some (.ref 0), some (.ref p), none, none] h1 = .ok .nx [some (.ref 0), some (.ref p), t2, none] h2 := by
    rw [for_src (rng_nat (N := 5) (h' := h1) (by decide) rfl), b1, b2]
  -- an odd value
  obtain ⟨h3, e3⟩ : ∃ h3, h3 = (h2 ++ [O.lst [.str (Str.ofString "a")]]) ++ [O.dk []] := ⟨_, rfl⟩
  have k3 : Kp [] h2 h3 := by rw [e3]; exact Kp.refl.push.push
  have na : h3[h2.length]? = some (.lst [.str (Str.ofString "a")]) := by rw [e3]; exact push_old push_new
  have nd : h3[h2.length + 1]? = some (.dk []) := by
    have : h3[(h2 ++ [O.lst [.str (Str.ofString "a")]]).length]? = some (.dk []) := by rw [e3]; exact push_new
    simpa using this
  have of : oddF [some (.ref 0), some (.ref p), t2, none] h2 = .ok [.non, .int 5, .ref h2.length, .tup [.str (Str.ofString "a")], .bl true, .ref (h2.length + 1)] h3 := by
    simp [oddF, e3]
  have pl := b3.lt
  obtain ⟨y, m, h4, c1, c2, c3⟩ := pickL (ρ := [some (.ref 0), some (.ref p), t2, none]) (i := 1) (fun _ => rfl) of (b3.kp k3) (by decide) (by simp) (by simp)
  obtain ⟨t, ty, tne⟩ : ∃ t, (∀ hh, Kp [] h4 hh → tyOf hh y = some t) ∧ t ≠ "str" := by
    simp only [List.mem_cons, List.not_mem_nil, or_false] at m
    rcases m with z | z | z | z | z | z <;> subst z
    · exact ⟨"NoneType", fun _ _ => rfl, by decide⟩
    · exact ⟨"int", fun _ _ => rfl, by decide⟩
    · refine ⟨"list", fun hh k => ?_, by decide⟩
      have := k.get (c3.get na (by simp; omega)) (by simp)
      unfold tyOf
      dsimp only
      rw [this]
    · exact ⟨"tuple", fun _ _ => rfl, by decide⟩
    · exact ⟨"bool", fun _ _ => rfl, by decide⟩
    · refine ⟨"dict", fun hh k => ?_, by decide⟩
      have := k.get (c3.get nd (by simp; omega)) (by simp)
      unfold tyOf
      dsimp only
      rw [this]
  have s3 : sAsg (fCall F__law_pick [] (fCons (fVar 1) (fCons (fLst oddF) fNil))) (gN 3) [some (.ref 0), some (.ref p), t2, none] h2 = .ok .nx [some (.ref 0), some (.ref p), t2, some y] h4 := by
    rw [es_asg, c1]
    rfl
  obtain ⟨⟨h5, d1, d2⟩, _⟩ := bad_ans ty tne
  obtain ⟨_, ⟨h6, f1, f2⟩⟩ := bad_ans (h := h5) (fun hh k => ty hh (d2.tr k)) tne
  have s4 : (fOr chk9 chk11) [some (.ref 0), some (.ref p), t2, some y] h4 = .ok false h6 := by
    have q9 : chk9 [some (.ref 0), some (.ref p), t2, some y] h4 = .ok false h5 := by
      simp [chk9, badF, d1, bad00]
    have q11 : chk11 [some (.ref 0), some (.ref p), t2, some y] h5 = .ok false h6 := by
      simp [chk11, badF, f1, bad00]
    rw [ev_or, q9]
    simp only [R.bind_ok, kOr_f]
    exact q11
  -- the last texts
  have rg := read_grouping_ok (x := gx) (h := h6) (okS_lit (by decide)) (by decide)
  rw [RG_gx] at rg
  obtain ⟨h7, g1, g2⟩ := rg
  have ro := read_offers_ok (x := ox) (h := h7) (okS_lit (by decide)) (by decide)
  rw [RO_ox] at ro
  obtain ⟨h8, o1, o2, _⟩ := ro
  have sa : PyData.strOk (Str.ofString "a") = true := okS.str (okS_lit (by decide))
  have sb : PyData.strOk (Str.ofString "b") = true := okS.str (okS_lit (by decide))
  have so : PyData.strOk (Str.ofString "o") = true := okS.str (okS_lit (by decide))
  have eg : gEq (GD [["a"], ["b"]]) (GD [["a"], ["b"]]) h7 = .ok (.bl true) h7 := by
    refine (eq_pure (d := GD [["a"], ["b"]]) rfl ?_ (by simp [GD, dep, deps]) ?_).1
    · simp [GD, okD, okDs, sa, sb]
    · simp [GD, toP, toPs, PyData.eqv, PyData.eqvAll]
  have eo : gEq (OsD [⟨"o", "a", "b", 3⟩]) (OsD [⟨"o", "a", "b", 3⟩]) h8 = .ok (.bl true) h8 := by
    refine (eq_pure (d := OsD [⟨"o", "a", "b", 3⟩]) rfl ?_ (by simp [OsD, OD, dep, deps]) ?_).1
    · simp [OsD, OD, okD, okDs, sa, sb, so]
    · simp [OsD, OD, toP, toPs, PyData.eqv, PyData.eqvAll]
  have l1 : lastG [some (.ref 0), some (.ref p), t2, some y] h6 = .ok (.bl true) h7 := by
    have g1' : F_read_grouping [.str (Str.ofString "a / b")] h6 = .ok (GD [["a"], ["b"]]) h7 := g1
    have eg' : gEq (GD [["a"], ["b"]]) (.tup [.tup [.str (Str.ofString "a")], .tup [.str (Str.ofString "b")]]) h7 = .ok (.bl true) h7 := eg
    simp [lastG, g1', eg']
  have l2 : lastO [some (.ref 0), some (.ref p), t2, some y] h7 = .ok (.bl true) h8 := by
    have o1' : F_read_offers [.str (Str.ofString "offer o a b 3")] h7 = .ok (OsD [⟨"o", "a", "b", 3⟩]) h8 := o1
    have eo' : gEq (OsD [⟨"o", "a", "b", 3⟩]) (.tup [.tup [.str (Str.ofString "o"), .str (Str.ofString "a"), .str (Str.ofString "b"), .int 3]]) h8 = .ok (.bl true) h8 := eo
    simp [lastO, o1', eo']
  refine ⟨h8, ?_⟩
  unfold F_law
  rw [s_lw]
  refine (mk_go (ρ' := [some (.ref 0), none, none, none]) rfl rfl).trans ?_
  rw [es_seq, s1, thn_nx, es_seq, s2, thn_nx, es_seq, s3, thn_nx, es_seq, on_f s4, es_ret, ev_andV, l1]
  simp [l2, ofR]
end W86
set_option Elab.async false
set_option linter.all false
set_option maxRecDepth 100000
set_option maxHeartbeats 0
namespace H86
open PySem PySem.Spec PyProof.Rows L2 Mp
abbrev R : PySem.W.OpenRow := PySem.W.OpenLaw.row PySem.Challenge.rw_hangsfast_k86_texts_of_groupings_and_off
abbrev hk : PySem.W.Hook := hookM 4 W86.fa W86.fn
def ob (s : PySem.W.SharedT) : He.AlD := obsMG 4 W86.fa W86.fn (HandSHeadRun.getT s)
theorem ob_eq (s : PySem.W.SharedT) : ob s = hk.obs s.abs := obsMG_eq (HandSHeadRun.getT_eq s)
def names : List PySem.Str := (["_wall", "HangError", "BadText", "MOST_SIGNS", "SIGNS", "is_name", "Scan", "is_written", "MOST_OFFERS", "MOST_PRICE", "lines_of", "grouping_text", "offers_text", "read_grouping", "need_over", "read_offers", "_law_pen", "_law_draw", "_law_pick", "_law_is_name", "_law_is_number", "_law_bent_text", "_law_answered", "_law_names_bad", "_law_grouping_due", "_law_offers_due", "_law_grouping", "_law_right"] : List PySem.Str)
theorem run (w : World) : HandSHeadRun.RunEq R (PySem.W.view R.prog [33]) hk ob 20000 names w := by
  intro os
  kernel_rfl
end H86
set_option Elab.async false
set_option linter.all false
set_option maxRecDepth 100000
set_option maxHeartbeats 0
open PySem PySem.W PySem.Calls PyProof.Rows
theorem PySem.Challenge.cw_hangsfast_k86_texts_of_groupings_and_off_holds : PySem.Challenge.rw_hangsfast_k86_texts_of_groupings_and_off.Holds := by
  w_on; o_law
  refine HandSHeadRun.head_any (r := OpenLaw.row PySem.Challenge.rw_hangsfast_k86_texts_of_groupings_and_off) (q := view (OpenLaw.row PySem.Challenge.rw_hangsfast_k86_texts_of_groupings_and_off).prog [33]) (H := H86.hk) (ob := H86.ob) (M := 20000) (loose := H86.names) (d := HandSHeadRun.topDef (OpenLaw.row PySem.Challenge.rw_hangsfast_k86_texts_of_groupings_and_off).prog 33) (kwd := []) H86.ob_eq
    (by kernel_rfl) (fun s => by kernel_rfl) H86.run (by kernel_rfl) (by kernel_rfl) (by kernel_rfl) (by rfl) (by first | assumption | decide +kernel) (by decide +kernel) ⟨rfl, rfl, rfl, rfl, rfl, by decide +kernel⟩ ?hw ?hc
  case hw => w_witness2
  case hc =>
    refine Mp.walk_mp (l := PySem.Challenge.rw_hangsfast_k86_texts_of_groupings_and_off) (n := 63) (k := 9) (x := "script") rfl (by decide) (by kernel_rfl) ⟨rfl, by decide, by decide⟩ ?F
    intro w mg fa h Y G hmg0
    obtain ⟨K, KX, c⟩ := Y
    have hmg : mg ("law" : PySem.Str) = some (.ref fa) := by
      have e : (HandSHeadRun.topDef (OpenLaw.row PySem.Challenge.rw_hangsfast_k86_texts_of_groupings_and_off).prog 33).name = ("law" : PySem.Str) := by kernel_rfl
      rw [← e]
      exact hmg0
    have fc := W86.fc_of KX G c
    obtain ⟨fd, F⟩ := fc.d_law
    have e := hmg.symm.trans (He.glo_ok (x := "law") KX G (Mp.SaysM.fact c 66 rfl))
    cases e
    have b := L2.FunD.bindsA (ps := ["script"]) F fun _ _ _ _ _ _ us hl => match us, hl with | [_], _ => rfl
    exact ⟨K, fd, W86.gm K, W86.F_law, KX, W86.nl_of c, fun s v => b s [v] rfl, W86.pureLaw86, fun base _ _ => W86.ok_law fc F⟩
